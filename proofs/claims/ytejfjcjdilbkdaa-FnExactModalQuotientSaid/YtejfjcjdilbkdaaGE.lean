/- GE: models and contracts, printed by wip/gen/gen.py -/
import Derived.Test.YtejfjcjdilbkdaaGD
set_option linter.unusedVariables false
set_option linter.unusedSimpArgs false
namespace Go.Proofs.Ytejfjcjdilbkdaa
open Go.RowKit

def F_ModalAlgebra_full (ap0 : Int) (ap1 : List Int) : Int :=
  wI ((shlI 1 ap0) - 1)
theorem cf_ModalAlgebra_full (args : Array Value) (w : World) : (callFunc 85 args).run Try.prog w = .ok (.enter 85 args) w := by kernel_rfl
set_option maxRecDepth 100000 in
theorem c_ModalAlgebra_full (ap0 : Int) (ap1A : Option Addr) (ap1N ap1C : Nat) (ap1 : List Int) (w : World) (ap1R : RdS w 1 ap1A ap1N ap1C ap1) (h0 : 0 ≤ ap0) (h1 : ap0 ≤ 30) :
    Calls Try.prog 85 #[.agg #[.int .i64 ap0, .slice ap1A ap1N ap1C]] w (Ret fun v w' => v = .int .i64 (F_ModalAlgebra_full ap0 ap1) ∧ Ext w w') := by
  obtain rfl : ap1N = ap1.length := ap1R.len1.symm
  have ap1Le := ap1R.le
  have hS := St.nil w
  have hS1 := St.rd0 hS rfl ap1R; clear hS
  refine enter (args := [.agg #[.int .i64 ap0, .slice ap1A ap1.length ap1C]]) Try.func85 rfl rfl ?_
  rw [Try.ntmps85]; intro a hE
  have hE := hE.sub (L' := [(0, .agg #[.int .i64 ap0, .slice ap1A ap1.length ap1C])]) ⟨rfl, trivial⟩
  refine c_seq ?_
  refine c_reg ?_
  refine l_step hE rfl (l_box (v := .agg #[.int .i64 ap0, .slice ap1A ap1.length ap1C]) (cs := #[.int .i64 ap0, .slice ap1A ap1.length ap1C]) hS1 hE rfl rfl rfl ?_)
  intro b2 w3 hS6 he7 a4 hE5; clear hS1 hE
  refine q_step (v := .int .i64 0) hE5 (y_assign rfl) rfl rfl rfl ?_; intro a8 hE9; clear hE5
  refine c_nil ?_
  have hE10 := hE9.sub (L' := [(1, .pointer (some ⟨b2, 0, none⟩))]) ⟨rfl, trivial⟩; clear hE9
  refine p_tn ?_
  refine c_seq ?_
  refine c_reg ?_
  refine q_step (v := .pointer (some ⟨b2, 0, none⟩)) hE10 (y_field rfl (fun _ => by kernel_rfl)) rfl rfl rfl ?_; intro a11 hE12; clear hE10
  refine q_step (v := .int .i64 ap0) hE12 (y_load (fun _ => by kernel_rfl) rfl (St.cell (i := 0) hS6 rfl rfl)) rfl rfl rfl ?_; intro a13 hE14; clear hE12
  refine q_step (v := .int .i64 (shlI 1 ap0)) hE14 (y_shl rfl rfl (by omega)) rfl rfl rfl ?_; intro a15 hE16; clear hE14
  refine q_step (v := .int .i64 (wI ((shlI 1 ap0) - 1))) hE16 (y_subw rfl rfl) rfl rfl rfl ?_; intro a17 hE18; clear hE16
  refine q_step (v := .int .i64 (wI ((shlI 1 ap0) - 1))) hE18 (y_assign rfl) rfl rfl rfl ?_; intro a19 hE20; clear hE18
  refine c_nil ?_
  have hE21 := hE20.sub (L' := [(2, .int .i64 (wI ((shlI 1 ap0) - 1)))]) ⟨rfl, trivial⟩; clear hE20
  refine p_tn ?_
  refine wp_ret ?_
  have hF : F_ModalAlgebra_full ap0 ap1 = wI ((shlI 1 ap0) - 1) := by unfold F_ModalAlgebra_full; rfl
  refine c_ret1 hE21 rfl rfl ?_
  exact ⟨(by rw [hF]; first | done | rfl), hS6.ext⟩

theorem d_ModalAlgebra_full (ap0 : Int) (ap1A : Option Addr) (ap1N ap1C : Nat) (ap1 : List Int) (w : World) (ap1R : RdS w 1 ap1A ap1N ap1C ap1) (h0 : 0 ≤ ap0) (h1 : ap0 ≤ 30) :
    Calls Try.prog 85 #[.agg #[.int .i64 ap0, .slice ap1A ap1N ap1C]] w (Ret fun v w' => v = .int .i64 (fullI ap0) ∧ Ext w w') := by
  have := c_ModalAlgebra_full ap0 ap1A ap1N ap1C ap1 w ap1R h0 h1
  rwa [show F_ModalAlgebra_full ap0 ap1 = fullI ap0 from full_wI h0 (by omega)] at this

theorem in5_t {x : Int} (h : F_l01In x 0 5 = true) : (0 ≤ x ∧ x ≤ 5) ∧ 0 ≤ fullI x ∧ fullI x ≤ 31 := ⟨F_l01In_t h, fullI5 (F_l01In_t h).1 (F_l01In_t h).2⟩
theorem inR5_t {x : Int} (h : F_inRange x 0 5 = true) : (0 ≤ x ∧ x ≤ 5) ∧ 0 ≤ fullI x ∧ fullI x ≤ 31 := ⟨F_inRange_t h, fullI5 (F_inRange_t h).1 (F_inRange_t h).2⟩
theorem len_pow {x n : Int} (h : x = powI n) : x = fullI n + 1 := by rw [fullI_pow]; omega

def F_ModalAlgebra_isElement (ap0 : Int) (ap1 : List Int) (xp : Int) : Bool :=
  F_inRange xp 0 (fullI ap0)
theorem cf_ModalAlgebra_isElement (args : Array Value) (w : World) : (callFunc 82 args).run Try.prog w = .ok (.enter 82 args) w := by kernel_rfl
set_option maxRecDepth 100000 in
theorem c_ModalAlgebra_isElement (ap0 : Int) (ap1A : Option Addr) (ap1N ap1C : Nat) (ap1 : List Int) (xp : Int) (w : World) (ap1R : RdS w 1 ap1A ap1N ap1C ap1) (h0 : 0 ≤ ap0) (h1 : ap0 ≤ 30) :
    Calls Try.prog 82 #[.agg #[.int .i64 ap0, .slice ap1A ap1N ap1C], .int .i64 xp] w (Ret fun v w' => v = .bool (F_ModalAlgebra_isElement ap0 ap1 xp) ∧ Ext w w') := by
  obtain rfl : ap1N = ap1.length := ap1R.len1.symm
  have ap1Le := ap1R.le
  have hS := St.nil w
  have hS1 := St.rd0 hS rfl ap1R; clear hS
  refine enter (args := [.agg #[.int .i64 ap0, .slice ap1A ap1.length ap1C], .int .i64 xp]) Try.func82 rfl rfl ?_
  rw [Try.ntmps82]; intro a hE
  have hE := hE.sub (L' := [(0, .agg #[.int .i64 ap0, .slice ap1A ap1.length ap1C]), (1, .int .i64 xp)]) ⟨rfl, rfl, trivial⟩
  refine c_seq ?_
  refine c_reg ?_
  refine l_step hE rfl (l_box (v := .agg #[.int .i64 ap0, .slice ap1A ap1.length ap1C]) (cs := #[.int .i64 ap0, .slice ap1A ap1.length ap1C]) hS1 hE rfl rfl rfl ?_)
  intro b2 w3 hS6 he7 a4 hE5; clear hS1 hE
  refine q_step (v := .bool false) hE5 (y_assign rfl) rfl rfl rfl ?_; intro a8 hE9; clear hE5
  refine c_nil ?_
  have hE10 := hE9.sub (L' := [(1, .int .i64 xp), (2, .pointer (some ⟨b2, 0, none⟩))]) ⟨rfl, rfl, trivial⟩; clear hE9
  refine p_tn ?_
  refine c_seq ?_
  refine c_reg ?_
  refine q_step (v := .int .i64 xp) hE10 (y_move rfl) rfl rfl rfl ?_; intro a11 hE12; clear hE10
  refine q_step (v := .agg #[.int .i64 ap0, .slice ap1A ap1.length ap1C]) hE12 (y_loadS Try.underlying54 rfl (by kernel_rfl) rfl (St.row (i := 0) hS6 rfl)) rfl rfl rfl ?_; intro a13 hE14; clear hE12
  refine l_step hE14 rfl (l_call (f := 85) (argv := [.agg #[.int .i64 ap0, .slice ap1A ap1.length ap1C]]) hE14 (fun _ => cf_ModalAlgebra_full _ _) rfl rfl (d_ModalAlgebra_full ap0 ap1A ap1.length ap1C ap1 w3 (St.rdR (i := 1) hS6 rfl) (by omega) (by omega)) ?_)
  rintro _ w16 ⟨rfl, he20⟩ a17 hE18; clear hE14
  have hf21 := fullI_bd (n := ap0) (by omega) (by omega)
  have hS19 := St.go hS6 he20; clear hS6
  refine l_step hE18 rfl (l_call (f := 101) (argv := [.int .i64 xp, .int .i64 0, .int .i64 (fullI ap0)]) hE18 (fun _ => cf_inRange _ _) rfl rfl (c_inRange xp 0 (fullI ap0) w16) ?_)
  rintro _ _ ⟨rfl, rfl⟩ a24 hE25; clear hE18
  refine q_step (v := .bool (F_inRange xp 0 (fullI ap0))) hE25 (y_assign rfl) rfl rfl rfl ?_; intro a28 hE29; clear hE25
  refine c_nil ?_
  have hE30 := hE29.sub (L' := [(4, .bool (F_inRange xp 0 (fullI ap0)))]) ⟨rfl, trivial⟩; clear hE29
  refine p_tn ?_
  refine wp_ret ?_
  have hF : F_ModalAlgebra_isElement ap0 ap1 xp = F_inRange xp 0 (fullI ap0) := by unfold F_ModalAlgebra_isElement; rfl
  refine c_ret1 hE30 rfl rfl ?_
  exact ⟨(by rw [hF]; first | done | rfl), hS19.ext⟩

def F_isModalAlgebra_k1 (xp : Int) (cap00 : Int) (cap01 : List Int) : Bool :=
  (!(F_ModalAlgebra_isElement cap00 cap01 xp))
theorem cf_isModalAlgebra_k1 (args : Array Value) (w : World) : (callFunc 133 args).run Try.prog w = .ok (.enter 133 args) w := by kernel_rfl
set_option maxRecDepth 100000 in
theorem c_isModalAlgebra_k1 (xp : Int) (cap0B : Nat) (cap00 : Int) (cap01A : Option Addr) (cap01N cap01C : Nat) (cap01 : List Int) (w : World) (cap01R : RdS w 1 cap01A cap01N cap01C cap01) (cap0H : w.heap[cap0B]? = some (.cells #[.int .i64 cap00, .slice cap01A cap01N cap01C] 54 (0, 0))) (h0 : 0 ≤ cap00) (h1 : cap00 ≤ 30) :
    Calls Try.prog 133 #[.int .i64 xp, .pointer (some ⟨cap0B, 0, none⟩)] w (Ret fun v w' => v = .bool (F_isModalAlgebra_k1 xp cap00 cap01) ∧ Ext w w') := by
  obtain rfl : cap01N = cap01.length := cap01R.len1.symm
  have cap01Le := cap01R.le
  have hS := St.nil w
  have hS1 := St.rd0 hS rfl cap01R; clear hS
  have hS2 := St.rb0 hS1 rfl cap0H; clear hS1
  refine enter (args := [.int .i64 xp, .pointer (some ⟨cap0B, 0, none⟩)]) Try.func133 rfl rfl ?_
  rw [Try.ntmps133]; intro a hE
  have hE := hE.sub (L' := [(0, .int .i64 xp), (1, .pointer (some ⟨cap0B, 0, none⟩))]) ⟨rfl, rfl, trivial⟩
  refine c_seq ?_
  refine c_reg ?_
  refine q_step (v := .bool false) hE (y_assign rfl) rfl rfl rfl ?_; intro a3 hE4; clear hE
  refine c_nil ?_
  have hE5 := hE4.sub (L' := [(0, .int .i64 xp), (1, .pointer (some ⟨cap0B, 0, none⟩))]) ⟨rfl, rfl, trivial⟩; clear hE4
  refine p_tn ?_
  refine c_seq ?_
  refine c_reg ?_
  refine q_step (v := .agg #[.int .i64 cap00, .slice cap01A cap01.length cap01C]) hE5 (y_loadS Try.underlying54 rfl (by kernel_rfl) rfl (St.rowR (i := 0) hS2 rfl)) rfl rfl rfl ?_; intro a6 hE7; clear hE5
  refine q_step (v := .int .i64 xp) hE7 (y_move rfl) rfl rfl rfl ?_; intro a8 hE9; clear hE7
  refine l_step hE9 rfl (l_call (f := 82) (argv := [.agg #[.int .i64 cap00, .slice cap01A cap01.length cap01C], .int .i64 xp]) hE9 (fun _ => cf_ModalAlgebra_isElement _ _) rfl rfl (c_ModalAlgebra_isElement cap00 cap01A cap01.length cap01C cap01 xp w (St.rdR (i := 1) hS2 rfl) (by omega) (by omega)) ?_)
  rintro _ w11 ⟨rfl, he15⟩ a12 hE13; clear hE9
  have hS14 := St.go hS2 he15; clear hS2
  refine q_step (v := .bool (!(F_ModalAlgebra_isElement cap00 cap01 xp))) hE13 (y_not rfl) rfl rfl rfl ?_; intro a16 hE17; clear hE13
  refine q_step (v := .bool (!(F_ModalAlgebra_isElement cap00 cap01 xp))) hE17 (y_assign rfl) rfl rfl rfl ?_; intro a18 hE19; clear hE17
  refine c_nil ?_
  have hE20 := hE19.sub (L' := [(3, .bool (!(F_ModalAlgebra_isElement cap00 cap01 xp)))]) ⟨rfl, trivial⟩; clear hE19
  refine p_tn ?_
  refine wp_ret ?_
  have hF : F_isModalAlgebra_k1 xp cap00 cap01 = (!(F_ModalAlgebra_isElement cap00 cap01 xp)) := by unfold F_isModalAlgebra_k1; rfl
  refine c_ret1 hE20 rfl rfl ?_
  exact ⟨(by rw [hF]; first | done | rfl), hS14.ext⟩

def F_l15Is_L2b (ap1 : List Int) (x4 : Int) (rec : Int → Except (Bool) (Int)) (y5L2 : Int) : Except (Bool) (Int) :=
  bif (decide (y5L2 < x4)) then (bif (!decide ((gI ap1 (andI x4 y5L2)) = (andI (gI ap1 x4) (gI ap1 y5L2)))) then (.error false) else (rec (y5L2 + 1))) else (.ok y5L2)
def F_l15Is_L2 (ap1 : List Int) (x4 : Int) : Nat → Int → Except (Bool) (Int)
  | 0, y5L2 => .ok y5L2
  | r + 1, y5L2 => F_l15Is_L2b ap1 x4 (F_l15Is_L2 ap1 x4 r) y5L2
def F_l15Is_L1b (ap0 : Int) (ap1 : List Int) (rec : Int → Except (Bool) (Int)) (x4 : Int) : Except (Bool) (Int) :=
  bif (decide (x4 ≤ (fullI ap0))) then (bif (isOk (F_l15Is_L2 ap1 x4 (Int.toNat (x4 - 0) + 1) 0)) then (rec (x4 + 1)) else (.error (errD (F_l15Is_L2 ap1 x4 (Int.toNat (x4 - 0) + 1) 0)))) else (.ok x4)
def F_l15Is_L1 (ap0 : Int) (ap1 : List Int) : Nat → Int → Except (Bool) (Int)
  | 0, x4 => .ok x4
  | r + 1, x4 => F_l15Is_L1b ap0 ap1 (F_l15Is_L1 ap0 ap1 r) x4
def F_l15Is (ap0 : Int) (ap1 : List Int) : Bool :=
  bif ((!(F_l01In ap0 0 5)) || ((!decide ((ap1.length : Int) = (powI ap0))) || (!(F_l01Masks ap0 ap1)))) then false else (bif (!decide ((gI ap1 (fullI ap0)) = (fullI ap0))) then false else (bif (isOk (F_l15Is_L1 ap0 ap1 (Int.toNat ((fullI ap0) + 1 - 0) + 1) 0)) then true else (errD (F_l15Is_L1 ap0 ap1 (Int.toNat ((fullI ap0) + 1 - 0) + 1) 0))))
theorem cf_l15Is (args : Array Value) (w : World) : (callFunc 76 args).run Try.prog w = .ok (.enter 76 args) w := by kernel_rfl
set_option maxRecDepth 100000 in
theorem c_l15Is (ap0 : Int) (ap1A : Option Addr) (ap1N ap1C : Nat) (ap1 : List Int) (w : World) (ap1R : RdS w 1 ap1A ap1N ap1C ap1) :
    Calls Try.prog 76 #[.agg #[.int .i64 ap0, .slice ap1A ap1N ap1C]] w (Ret fun v w' => v = .bool (F_l15Is ap0 ap1) ∧ Ext w w') := by
  obtain rfl : ap1N = ap1.length := ap1R.len1.symm
  have ap1Le := ap1R.le
  have hS := St.nil w
  have hS1 := St.rd0 hS rfl ap1R; clear hS
  refine enter (args := [.agg #[.int .i64 ap0, .slice ap1A ap1.length ap1C]]) Try.func76 rfl rfl ?_
  rw [Try.ntmps76]; intro a hE
  have hE := hE.sub (L' := [(0, .agg #[.int .i64 ap0, .slice ap1A ap1.length ap1C])]) ⟨rfl, trivial⟩
  refine c_seq ?_
  refine c_reg ?_
  refine l_step hE rfl (l_box (v := .agg #[.int .i64 ap0, .slice ap1A ap1.length ap1C]) (cs := #[.int .i64 ap0, .slice ap1A ap1.length ap1C]) hS1 hE rfl rfl rfl ?_)
  intro b2 w3 hS6 he7 a4 hE5; clear hS1 hE
  refine q_step (v := .bool false) hE5 (y_assign rfl) rfl rfl rfl ?_; intro a8 hE9; clear hE5
  refine c_nil ?_
  have hE10 := hE9.sub (L' := [(1, .pointer (some ⟨b2, 0, none⟩))]) ⟨rfl, trivial⟩; clear hE9
  refine p_tn ?_
  refine c_seq ?_
  refine c_cut (fun a' w' => E a' 66 [(1, .pointer (some ⟨b2, 0, none⟩)), (26, .bool ((!(F_l01In ap0 0 5)) || ((!decide ((ap1.length : Int) = (powI ap0))) || (!(F_l01Masks ap0 ap1)))))] ∧ St w w' [.rd 1 ap1A ap1.length ap1C ap1, .blk b2 #[.int .i64 ap0, .slice ap1A ap1.length ap1C] 54]) ?_ ?_
  ·
    refine d_start (fun w' => w'.cell? ⟨b2, 0, none⟩ = some (.int .i64 ap0) ∧ w'.cell? ⟨b2, 1, none⟩ = some (.slice ap1A ap1.length ap1C) ∧ w'.cell? ⟨b2, 0, none⟩ = some (.int .i64 ap0) ∧ w'.cell? ⟨b2, 0, none⟩ = some (.int .i64 ap0) ∧ w'.cell? ⟨b2, 1, none⟩ = some (.slice ap1A ap1.length ap1C) ∧ True) [1, 6, 9, 15, 17] 21 (by kernel_rfl) rfl ?_
    intro w11 he12; have hS13 := St.go hS6 he12; clear hS6
    refine d_pure (v := .pointer (some ⟨b2, 0, none⟩)) 0 rfl hE10 (y_field rfl (fun _ => by kernel_rfl)) rfl (by kernel_rfl) (by kernel_rfl) (by kernel_rfl) rfl rfl (fun _ _ _ h => h) ?_; intro a14 hE15; clear hE10
    refine d_take (v := .int .i64 ap0) 1 rfl hE15 ⟨(St.cell (i := 0) hS13 rfl rfl _ (Ext.refl _)), (St.cell (i := 0) hS13 rfl rfl _ (Ext.refl _)), (St.cell (i := 0) hS13 rfl rfl _ (Ext.refl _)), (St.cell (i := 0) hS13 rfl rfl _ (Ext.refl _)), (St.cell (i := 0) hS13 rfl rfl _ (Ext.refl _)), trivial⟩ (y_load (fun _ => by kernel_rfl) rfl (fun _ h => h.1)) rfl rfl (by kernel_rfl) (by kernel_rfl) (by kernel_rfl) rfl rfl (fun _ _ _ h => h) ?_; intro a16 hE17; clear hE15
    refine d_only 2 (by kernel_rfl) rfl hE17 rfl (l_call (f := 77) (argv := [.int .i64 ap0, .int .i64 0, .int .i64 5]) hE17 (fun _ => cf_l01In _ _) rfl rfl (c_l01In ap0 0 5 w11) ?_)
    rintro _ _ ⟨rfl, rfl⟩ a20 hE21; clear hE17
    refine ⟨fun _ _ => ⟨(St.cell (i := 0) hS13 rfl rfl _ (Ext.refl _)), (St.cell (i := 0) hS13 rfl rfl _ (Ext.refl _)), (St.cell (i := 0) hS13 rfl rfl _ (Ext.refl _)), (St.cell (i := 0) hS13 rfl rfl _ (Ext.refl _)), (St.cell (i := 0) hS13 rfl rfl _ (Ext.refl _)), trivial⟩, ?_⟩
    refine d_pure (v := .bool (!(F_l01In ap0 0 5))) 3 rfl hE21 (y_not rfl) rfl (by kernel_rfl) (by kernel_rfl) (by kernel_rfl) rfl rfl (fun _ _ _ h => h) ?_; intro a24 hE25; clear hE21
    refine d_pure (v := .bool (!(F_l01In ap0 0 5))) 4 rfl hE25 (y_move rfl) rfl (by kernel_rfl) (by kernel_rfl) (by kernel_rfl) rfl rfl (fun _ _ _ h => h) ?_; intro a26 hE27; clear hE25
    rcases Bool.eq_false_or_eq_true (!(F_l01In ap0 0 5)) with hb28 | hb28
    ·
      have hE29 := hE27; rw [hb28] at hE29; clear hE27
      have ht30 := bn_t hb28
      refine d_skip 5 rfl hE29 rfl (by kernel_rfl) (by kernel_rfl) (by kernel_rfl) rfl rfl (fun _ _ _ h => h) ?_; intro a31 hE32; clear hE29
      refine d_skip 6 rfl hE32 rfl (by kernel_rfl) (by kernel_rfl) (by kernel_rfl) rfl rfl (fun _ _ _ h => h) ?_; intro a33 hE34; clear hE32
      refine d_skip 7 rfl hE34 rfl (by kernel_rfl) (by kernel_rfl) (by kernel_rfl) rfl rfl (fun _ _ _ h => h) ?_; intro a35 hE36; clear hE34
      refine d_skip 8 rfl hE36 rfl (by kernel_rfl) (by kernel_rfl) (by kernel_rfl) rfl rfl (fun _ _ _ h => h) ?_; intro a37 hE38; clear hE36
      refine d_skip 9 rfl hE38 rfl (by kernel_rfl) (by kernel_rfl) (by kernel_rfl) rfl rfl (fun _ _ _ h => h) ?_; intro a39 hE40; clear hE38
      refine d_skip 10 rfl hE40 rfl (by kernel_rfl) (by kernel_rfl) (by kernel_rfl) rfl rfl (fun _ _ _ h => h) ?_; intro a41 hE42; clear hE40
      refine d_skip 11 rfl hE42 rfl (by kernel_rfl) (by kernel_rfl) (by kernel_rfl) rfl rfl (fun _ _ _ h => h) ?_; intro a43 hE44; clear hE42
      refine d_pure (v := .bool true) 12 rfl hE44 (y_pick (b := true) rfl rfl) rfl (by kernel_rfl) (by kernel_rfl) (by kernel_rfl) rfl rfl (fun _ _ _ h => h) ?_; intro a45 hE46; clear hE44
      refine d_pure (v := .bool true) 13 rfl hE46 (y_move rfl) rfl (by kernel_rfl) (by kernel_rfl) (by kernel_rfl) rfl rfl (fun _ _ _ h => h) ?_; intro a47 hE48; clear hE46
      refine d_skip 14 rfl hE48 rfl (by kernel_rfl) (by kernel_rfl) (by kernel_rfl) rfl rfl (fun _ _ _ h => h) ?_; intro a49 hE50; clear hE48
      refine d_skip 15 rfl hE50 rfl (by kernel_rfl) (by kernel_rfl) (by kernel_rfl) rfl rfl (fun _ _ _ h => h) ?_; intro a51 hE52; clear hE50
      refine d_skip 16 rfl hE52 rfl (by kernel_rfl) (by kernel_rfl) (by kernel_rfl) rfl rfl (fun _ _ _ h => h) ?_; intro a53 hE54; clear hE52
      refine d_skip 17 rfl hE54 rfl (by kernel_rfl) (by kernel_rfl) (by kernel_rfl) rfl rfl (fun _ _ _ h => h) ?_; intro a55 hE56; clear hE54
      refine d_skip 18 rfl hE56 rfl (by kernel_rfl) (by kernel_rfl) (by kernel_rfl) rfl rfl (fun _ _ _ h => h) ?_; intro a57 hE58; clear hE56
      refine d_skip 19 rfl hE58 rfl (by kernel_rfl) (by kernel_rfl) (by kernel_rfl) rfl rfl (fun _ _ _ h => h) ?_; intro a59 hE60; clear hE58
      refine d_pure (v := .bool true) 20 rfl hE60 (y_pick (b := true) rfl rfl) rfl (by kernel_rfl) (by kernel_rfl) (by kernel_rfl) rfl rfl (fun _ _ _ h => h) ?_; intro a61 hE62; clear hE60
      refine d_done (by kernel_rfl) ?_
      have hE63 := hE62.sub (L' := [(1, .pointer (some ⟨b2, 0, none⟩)), (26, .bool true)]) ⟨rfl, rfl, trivial⟩; clear hE62
      refine p_tn ?_
      have hE64 := hE63.sub (L' := [(1, .pointer (some ⟨b2, 0, none⟩)), (26, .bool true)]) ⟨rfl, rfl, trivial⟩
      have hS65 := (St.pick (Γ' := [.rd 1 ap1A ap1.length ap1C ap1, .blk b2 #[.int .i64 ap0, .slice ap1A ap1.length ap1C] 54]) hS13 [1, 0] (by decide) rfl)
      exact ⟨(by rw [hb28]; exact hE64), hS65⟩
    ·
      have hE66 := hE27; rw [hb28] at hE66; clear hE27
      have ht67 := bn_f hb28
      have hp68 := in5_t ht67
      refine d_pure (v := .pointer (some ⟨b2, 1, none⟩)) 5 rfl hE66 (y_field rfl (fun _ => by kernel_rfl)) rfl (by kernel_rfl) (by kernel_rfl) (by kernel_rfl) rfl rfl (fun _ _ _ h => h) ?_; intro a69 hE70; clear hE66
      refine d_take (v := .slice ap1A ap1.length ap1C) 6 rfl hE70 ⟨(St.cell (i := 0) hS13 rfl rfl _ (Ext.refl _)), (St.cell (i := 0) hS13 rfl rfl _ (Ext.refl _)), (St.cell (i := 0) hS13 rfl rfl _ (Ext.refl _)), (St.cell (i := 0) hS13 rfl rfl _ (Ext.refl _)), (St.cell (i := 0) hS13 rfl rfl _ (Ext.refl _)), trivial⟩ (y_load (fun _ => by kernel_rfl) rfl (fun _ h => h.2.1)) rfl rfl (by kernel_rfl) (by kernel_rfl) (by kernel_rfl) rfl rfl (fun _ _ _ h => h) ?_; intro a71 hE72; clear hE70
      refine d_pure (v := .int .i64 (ap1.length : Int)) 7 rfl hE72 (y_len (e := 2) (by kernel_rfl) rfl) rfl (by kernel_rfl) (by kernel_rfl) (by kernel_rfl) rfl rfl (fun _ _ _ h => h) ?_; intro a73 hE74; clear hE72
      refine d_pure (v := .pointer (some ⟨b2, 0, none⟩)) 8 rfl hE74 (y_field rfl (fun _ => by kernel_rfl)) rfl (by kernel_rfl) (by kernel_rfl) (by kernel_rfl) rfl rfl (fun _ _ _ h => h) ?_; intro a75 hE76; clear hE74
      refine d_take (v := .int .i64 ap0) 9 rfl hE76 ⟨(St.cell (i := 0) hS13 rfl rfl _ (Ext.refl _)), (St.cell (i := 0) hS13 rfl rfl _ (Ext.refl _)), (St.cell (i := 0) hS13 rfl rfl _ (Ext.refl _)), (St.cell (i := 0) hS13 rfl rfl _ (Ext.refl _)), (St.cell (i := 0) hS13 rfl rfl _ (Ext.refl _)), trivial⟩ (y_load (fun _ => by kernel_rfl) rfl (fun _ h => h.2.2.1)) rfl rfl (by kernel_rfl) (by kernel_rfl) (by kernel_rfl) rfl rfl (fun _ _ _ h => h) ?_; intro a77 hE78; clear hE76
      refine d_only 10 (by kernel_rfl) rfl hE78 rfl (l_call (f := 80) (argv := [.int .i64 ap0]) hE78 (fun _ => cf_l01One _ _) rfl rfl (d_l01One ap0 w11 (by omega) (by omega)) ?_)
      rintro _ _ ⟨rfl, rfl⟩ a81 hE82; clear hE78
      refine ⟨fun _ _ => ⟨(St.cell (i := 0) hS13 rfl rfl _ (Ext.refl _)), (St.cell (i := 0) hS13 rfl rfl _ (Ext.refl _)), (St.cell (i := 0) hS13 rfl rfl _ (Ext.refl _)), (St.cell (i := 0) hS13 rfl rfl _ (Ext.refl _)), (St.cell (i := 0) hS13 rfl rfl _ (Ext.refl _)), trivial⟩, ?_⟩
      refine d_pure (v := .bool (!decide ((ap1.length : Int) = (powI ap0)))) 11 rfl hE82 (y_neq rfl rfl) rfl (by kernel_rfl) (by kernel_rfl) (by kernel_rfl) rfl rfl (fun _ _ _ h => h) ?_; intro a85 hE86; clear hE82
      refine d_pure (v := .bool (!decide ((ap1.length : Int) = (powI ap0)))) 12 rfl hE86 (y_pick (b := false) rfl rfl) rfl (by kernel_rfl) (by kernel_rfl) (by kernel_rfl) rfl rfl (fun _ _ _ h => h) ?_; intro a87 hE88; clear hE86
      refine d_pure (v := .bool (!decide ((ap1.length : Int) = (powI ap0)))) 13 rfl hE88 (y_move rfl) rfl (by kernel_rfl) (by kernel_rfl) (by kernel_rfl) rfl rfl (fun _ _ _ h => h) ?_; intro a89 hE90; clear hE88
      rcases Bool.eq_false_or_eq_true (!decide ((ap1.length : Int) = (powI ap0))) with hb91 | hb91
      ·
        have hE92 := hE90; rw [hb91] at hE92; clear hE90
        have ht93 := bn_t hb91
        have hp94 := of_decide_eq_false ht93
        refine d_skip 14 rfl hE92 rfl (by kernel_rfl) (by kernel_rfl) (by kernel_rfl) rfl rfl (fun _ _ _ h => h) ?_; intro a95 hE96; clear hE92
        refine d_skip 15 rfl hE96 rfl (by kernel_rfl) (by kernel_rfl) (by kernel_rfl) rfl rfl (fun _ _ _ h => h) ?_; intro a97 hE98; clear hE96
        refine d_skip 16 rfl hE98 rfl (by kernel_rfl) (by kernel_rfl) (by kernel_rfl) rfl rfl (fun _ _ _ h => h) ?_; intro a99 hE100; clear hE98
        refine d_skip 17 rfl hE100 rfl (by kernel_rfl) (by kernel_rfl) (by kernel_rfl) rfl rfl (fun _ _ _ h => h) ?_; intro a101 hE102; clear hE100
        refine d_skip 18 rfl hE102 rfl (by kernel_rfl) (by kernel_rfl) (by kernel_rfl) rfl rfl (fun _ _ _ h => h) ?_; intro a103 hE104; clear hE102
        refine d_skip 19 rfl hE104 rfl (by kernel_rfl) (by kernel_rfl) (by kernel_rfl) rfl rfl (fun _ _ _ h => h) ?_; intro a105 hE106; clear hE104
        refine d_pure (v := .bool true) 20 rfl hE106 (y_pick (b := true) rfl rfl) rfl (by kernel_rfl) (by kernel_rfl) (by kernel_rfl) rfl rfl (fun _ _ _ h => h) ?_; intro a107 hE108; clear hE106
        refine d_done (by kernel_rfl) ?_
        have hE109 := hE108.sub (L' := [(1, .pointer (some ⟨b2, 0, none⟩)), (26, .bool true)]) ⟨rfl, rfl, trivial⟩; clear hE108
        refine p_tn ?_
        have hE110 := hE109.sub (L' := [(1, .pointer (some ⟨b2, 0, none⟩)), (26, .bool true)]) ⟨rfl, rfl, trivial⟩
        have hS111 := (St.pick (Γ' := [.rd 1 ap1A ap1.length ap1C ap1, .blk b2 #[.int .i64 ap0, .slice ap1A ap1.length ap1C] 54]) hS13 [1, 0] (by decide) rfl)
        exact ⟨(by rw [hb91, hb28]; exact hE110), hS111⟩
      ·
        have hE112 := hE90; rw [hb91] at hE112; clear hE90
        have ht113 := bn_f hb91
        have hp114 := of_decide_eq_true ht113
        have hq115 := len_pow hp114
        refine d_pure (v := .pointer (some ⟨b2, 0, none⟩)) 14 rfl hE112 (y_field rfl (fun _ => by kernel_rfl)) rfl (by kernel_rfl) (by kernel_rfl) (by kernel_rfl) rfl rfl (fun _ _ _ h => h) ?_; intro a116 hE117; clear hE112
        refine d_take (v := .int .i64 ap0) 15 rfl hE117 ⟨(St.cell (i := 0) hS13 rfl rfl _ (Ext.refl _)), (St.cell (i := 0) hS13 rfl rfl _ (Ext.refl _)), (St.cell (i := 0) hS13 rfl rfl _ (Ext.refl _)), (St.cell (i := 0) hS13 rfl rfl _ (Ext.refl _)), (St.cell (i := 0) hS13 rfl rfl _ (Ext.refl _)), trivial⟩ (y_load (fun _ => by kernel_rfl) rfl (fun _ h => h.2.2.2.1)) rfl rfl (by kernel_rfl) (by kernel_rfl) (by kernel_rfl) rfl rfl (fun _ _ _ h => h) ?_; intro a118 hE119; clear hE117
        refine d_pure (v := .pointer (some ⟨b2, 1, none⟩)) 16 rfl hE119 (y_field rfl (fun _ => by kernel_rfl)) rfl (by kernel_rfl) (by kernel_rfl) (by kernel_rfl) rfl rfl (fun _ _ _ h => h) ?_; intro a120 hE121; clear hE119
        refine d_take (v := .slice ap1A ap1.length ap1C) 17 rfl hE121 ⟨(St.cell (i := 0) hS13 rfl rfl _ (Ext.refl _)), (St.cell (i := 0) hS13 rfl rfl _ (Ext.refl _)), (St.cell (i := 0) hS13 rfl rfl _ (Ext.refl _)), (St.cell (i := 0) hS13 rfl rfl _ (Ext.refl _)), (St.cell (i := 0) hS13 rfl rfl _ (Ext.refl _)), trivial⟩ (y_load (fun _ => by kernel_rfl) rfl (fun _ h => h.2.2.2.2.1)) rfl rfl (by kernel_rfl) (by kernel_rfl) (by kernel_rfl) rfl rfl (fun _ _ _ h => h) ?_; intro a122 hE123; clear hE121
        refine d_only 18 (by kernel_rfl) rfl hE123 rfl (l_call (f := 120) (argv := [.int .i64 ap0, .slice ap1A ap1.length ap1C]) hE123 (fun _ => cf_l01Masks _ _) rfl rfl (c_l01Masks ap0 ap1A ap1.length ap1C ap1 w11 (St.rdR (i := 1) hS13 rfl) (by omega) (by omega)) ?_)
        rintro _ w125 ⟨rfl, he129⟩ a126 hE127; clear hE123
        have hS128 := St.go hS13 he129; clear hS13
        refine ⟨fun _ _ => ⟨(St.cell (i := 0) hS128 rfl rfl _ (Ext.refl _)), (St.cell (i := 0) hS128 rfl rfl _ (Ext.refl _)), (St.cell (i := 0) hS128 rfl rfl _ (Ext.refl _)), (St.cell (i := 0) hS128 rfl rfl _ (Ext.refl _)), (St.cell (i := 0) hS128 rfl rfl _ (Ext.refl _)), trivial⟩, ?_⟩
        refine d_pure (v := .bool (!(F_l01Masks ap0 ap1))) 19 rfl hE127 (y_not rfl) rfl (by kernel_rfl) (by kernel_rfl) (by kernel_rfl) rfl rfl (fun _ _ _ h => h) ?_; intro a130 hE131; clear hE127
        refine d_pure (v := .bool (!(F_l01Masks ap0 ap1))) 20 rfl hE131 (y_pick (b := false) rfl rfl) rfl (by kernel_rfl) (by kernel_rfl) (by kernel_rfl) rfl rfl (fun _ _ _ h => h) ?_; intro a132 hE133; clear hE131
        refine d_done (by kernel_rfl) ?_
        have hE134 := hE133.sub (L' := [(1, .pointer (some ⟨b2, 0, none⟩)), (26, .bool (!(F_l01Masks ap0 ap1)))]) ⟨rfl, rfl, trivial⟩; clear hE133
        refine p_tn ?_
        have hE135 := hE134.sub (L' := [(1, .pointer (some ⟨b2, 0, none⟩)), (26, .bool (!(F_l01Masks ap0 ap1)))]) ⟨rfl, rfl, trivial⟩
        have hS136 := (St.pick (Γ' := [.rd 1 ap1A ap1.length ap1C ap1, .blk b2 #[.int .i64 ap0, .slice ap1A ap1.length ap1C] 54]) hS128 [1, 0] (by decide) rfl)
        exact ⟨(by rw [hb91, hb28]; exact hE135), hS136⟩
  ·
    rintro a137 w138 ⟨hE139, hS140⟩; clear hE10 hS6
    refine c_cond hE139 rfl (fun ht141 => ?_) (fun ht141 => ?_)
    ·
      have hE142 := hE139; rw [ht141] at hE142; clear hE139
      refine c_seq ?_
      refine c_reg ?_
      refine q_step (v := .bool false) hE142 (y_assign rfl) rfl rfl rfl ?_; intro a143 hE144; clear hE142
      refine c_nil ?_
      have hE145 := hE144.sub (L' := [(2, .bool false)]) ⟨rfl, trivial⟩; clear hE144
      refine p_tn ?_
      refine wp_ret ?_
      refine p_tr ?_
      have hF : F_l15Is ap0 ap1 = false := by unfold F_l15Is; rw [ht141]; first | done | rfl
      refine c_ret1 hE145 rfl rfl ?_
      exact ⟨(by rw [hF]; first | done | rfl), hS140.ext⟩
    ·
      obtain ⟨ht146, ht147⟩ := bor_f ht141
      have ht148 := bn_f ht146
      have hp149 := in5_t ht148
      obtain ⟨ht150, ht151⟩ := bor_f ht147
      have ht152 := bn_f ht150
      have hp153 := of_decide_eq_true ht152
      have hq154 := len_pow hp153
      have ht155 := bn_f ht151
      have hp156 := masks_mem ht155
      have hE157 := hE139; rw [ht141] at hE157; clear hE139
      refine wp_skip ?_
      refine p_tn ?_
      refine c_seq ?_
      refine c_reg ?_
      refine q_step (v := .pointer (some ⟨b2, 0, none⟩)) hE157 (y_field rfl (fun _ => by kernel_rfl)) rfl rfl rfl ?_; intro a158 hE159; clear hE157
      refine q_step (v := .int .i64 ap0) hE159 (y_load (fun _ => by kernel_rfl) rfl (St.cell (i := 1) hS140 rfl rfl)) rfl rfl rfl ?_; intro a160 hE161; clear hE159
      refine l_step hE161 rfl (l_call (f := 78) (argv := [.int .i64 ap0]) hE161 (fun _ => cf_l01Full _ _) rfl rfl (d_l01Full ap0 w138 (by omega) (by omega)) ?_)
      rintro _ _ ⟨rfl, rfl⟩ a164 hE165; clear hE161
      refine q_step (v := .int .i64 (fullI ap0)) hE165 (y_assign rfl) rfl rfl rfl ?_; intro a168 hE169; clear hE165
      refine c_nil ?_
      have hE170 := hE169.sub (L' := [(1, .pointer (some ⟨b2, 0, none⟩)), (3, .int .i64 (fullI ap0))]) ⟨rfl, rfl, trivial⟩; clear hE169
      refine p_tn ?_
      refine c_seq ?_
      refine c_seq ?_
      refine c_reg ?_
      refine q_step (v := .pointer (some ⟨b2, 1, none⟩)) hE170 (y_field rfl (fun _ => by kernel_rfl)) rfl rfl rfl ?_; intro a171 hE172; clear hE170
      refine q_step (v := .slice ap1A ap1.length ap1C) hE172 (y_load (fun _ => by kernel_rfl) rfl (St.cell (i := 1) hS140 rfl rfl)) rfl rfl rfl ?_; intro a173 hE174; clear hE172
      refine q_step (v := .int .i64 (fullI ap0)) hE174 (y_move rfl) rfl rfl rfl ?_; intro a175 hE176; clear hE174
      refine q_step (v := .pointer (some (adr ap1A (Int.toNat (fullI ap0))))) hE176 (y_idx (by kernel_rfl) (fun _ => by kernel_rfl) rfl rfl (RdS.isS (m := fullI ap0) (St.rdR (i := 0) hS140 rfl) (by omega) (by omega)) (by omega) (by omega) (Nat.mul_one _).symm) rfl rfl rfl ?_; intro a177 hE178; clear hE176
      refine q_step (v := .int .i64 (gI ap1 (fullI ap0))) hE178 (y_load (fun _ => by kernel_rfl) rfl (RdS.elt (St.rdR (i := 0) hS140 rfl) (by omega) (by omega))) rfl rfl rfl ?_; intro a179 hE180; clear hE178
      refine q_step (v := .int .i64 (fullI ap0)) hE180 (y_move rfl) rfl rfl rfl ?_; intro a181 hE182; clear hE180
      refine q_step (v := .bool (!decide ((gI ap1 (fullI ap0)) = (fullI ap0)))) hE182 (y_neq rfl rfl) rfl rfl rfl ?_; intro a183 hE184; clear hE182
      refine c_nil ?_
      have hE185 := hE184.sub (L' := [(1, .pointer (some ⟨b2, 0, none⟩)), (3, .int .i64 (fullI ap0)), (36, .bool (!decide ((gI ap1 (fullI ap0)) = (fullI ap0))))]) ⟨rfl, rfl, rfl, trivial⟩; clear hE184
      refine p_tn ?_
      refine c_cond hE185 rfl (fun ht186 => ?_) (fun ht186 => ?_)
      ·
        have ht187 := bn_t ht186
        have hp188 := of_decide_eq_false ht187
        have hE189 := hE185; rw [ht186] at hE189; clear hE185
        refine c_seq ?_
        refine c_reg ?_
        refine q_step (v := .bool false) hE189 (y_assign rfl) rfl rfl rfl ?_; intro a190 hE191; clear hE189
        refine c_nil ?_
        have hE192 := hE191.sub (L' := [(2, .bool false)]) ⟨rfl, trivial⟩; clear hE191
        refine p_tn ?_
        refine wp_ret ?_
        refine p_tr ?_
        have hF : F_l15Is ap0 ap1 = false := by unfold F_l15Is; rw [ht186, ht141]; first | done | rfl
        refine c_ret1 hE192 rfl rfl ?_
        exact ⟨(by rw [hF]; first | done | rfl), hS140.ext⟩
      ·
        have ht193 := bn_f ht186
        have hp194 := of_decide_eq_true ht193
        have hE195 := hE185; rw [ht186] at hE195; clear hE185
        refine wp_skip ?_
        refine p_tn ?_
        refine c_seq ?_
        refine c_seq ?_
        refine c_reg ?_
        refine q_step (v := .int .i64 0) hE195 (y_assign rfl) rfl rfl rfl ?_; intro a196 hE197; clear hE195
        refine c_nil ?_
        have hE198 := hE197.sub (L' := [(1, .pointer (some ⟨b2, 0, none⟩)), (3, .int .i64 (fullI ap0)), (4, .int .i64 0)]) ⟨rfl, rfl, rfl, trivial⟩; clear hE197
        refine p_tn ?_
        refine c_cut1 (fun a' w' => isOk (F_l15Is_L1 ap0 ap1 (Int.toNat ((fullI ap0) + 1 - 0) + 1) 0) = true ∧ (0 ≤ (okD (F_l15Is_L1 ap0 ap1 (Int.toNat ((fullI ap0) + 1 - 0) + 1) 0))) ∧ ((okD (F_l15Is_L1 ap0 ap1 (Int.toNat ((fullI ap0) + 1 - 0) + 1) 0)) ≤ fullI ap0 + 1) ∧ E a' 66 [(1, .pointer (some ⟨b2, 0, none⟩)), (3, .int .i64 (fullI ap0)), (4, .int .i64 (okD (F_l15Is_L1 ap0 ap1 (Int.toNat ((fullI ap0) + 1 - 0) + 1) 0)))] ∧ St w w' [.rd 1 ap1A ap1.length ap1C ap1, .blk b2 #[.int .i64 ap0, .slice ap1A ap1.length ap1C] 54]) ?_ ?_
        ·
          refine wp_block ?_
          refine c_loop (fun r a' w' => ∃ x4 : Int, F_l15Is_L1 ap0 ap1 r x4 = F_l15Is_L1 ap0 ap1 (Int.toNat ((fullI ap0) + 1 - 0) + 1) 0 ∧ Int.toNat ((fullI ap0) + 1 - x4) < r ∧ (0 ≤ x4) ∧ (x4 ≤ fullI ap0 + 1) ∧ E a' 66 [(1, .pointer (some ⟨b2, 0, none⟩)), (3, .int .i64 (fullI ap0)), (4, .int .i64 x4)] ∧ St w w' [.rd 1 ap1A ap1.length ap1C ap1, .blk b2 #[.int .i64 ap0, .slice ap1A ap1.length ap1C] 54]) (r := (Int.toNat ((fullI ap0) + 1 - 0) + 1)) ?_ ?_
          · exact ⟨0, rfl, Nat.lt_succ_self _, (by first | omega | (simp only [List.length_replicate, sI_len]; omega) | (simp only [List.length_append, List.length_cons, List.length_nil, sI_len, cond_true, cond_false]; omega) | (simp only [List.length_append, List.length_cons, List.length_nil, sI_len, cond_eq_ite, apply_ite List.length]; split <;> simp only [List.length_append, List.length_cons, List.length_nil, sI_len] <;> omega) | grind), (by first | omega | (simp only [List.length_replicate, sI_len]; omega) | (simp only [List.length_append, List.length_cons, List.length_nil, sI_len, cond_true, cond_false]; omega) | (simp only [List.length_append, List.length_cons, List.length_nil, sI_len, cond_eq_ite, apply_ite List.length]; split <;> simp only [List.length_append, List.length_cons, List.length_nil, sI_len] <;> omega) | grind), (hE198.sub (L' := [(1, .pointer (some ⟨b2, 0, none⟩)), (3, .int .i64 (fullI ap0)), (4, .int .i64 0)]) ⟨rfl, rfl, rfl, trivial⟩), (St.pick (Γ' := [.rd 1 ap1A ap1.length ap1C ap1, .blk b2 #[.int .i64 ap0, .slice ap1A ap1.length ap1C] 54]) hS140 [0, 1] (by decide) rfl)⟩
          ·
            clear hE198 hS140
            rintro r208 a200 w201 ⟨x4, hT204, hr205, hi206, hi207, hE202, hS203⟩
            obtain ⟨r208, rfl⟩ : ∃ r', r208 = r' + 1 := ⟨r208 - 1, by omega⟩
            refine c_seq ?_
            refine c_seq ?_
            refine c_reg ?_
            refine q_step (v := .int .i64 x4) hE202 (y_move rfl) rfl rfl rfl ?_; intro a209 hE210; clear hE202
            refine q_step (v := .int .i64 (fullI ap0)) hE210 (y_move rfl) rfl rfl rfl ?_; intro a211 hE212; clear hE210
            refine q_step (v := .bool (decide (x4 ≤ (fullI ap0)))) hE212 (y_leq rfl rfl) rfl rfl rfl ?_; intro a213 hE214; clear hE212
            refine c_nil ?_
            have hE215 := hE214.sub (L' := [(1, .pointer (some ⟨b2, 0, none⟩)), (3, .int .i64 (fullI ap0)), (4, .int .i64 x4), (39, .bool (decide (x4 ≤ (fullI ap0))))]) ⟨rfl, rfl, rfl, rfl, trivial⟩; clear hE214
            refine p_tn ?_
            refine c_cond hE215 rfl (fun ht216 => ?_) (fun ht216 => ?_)
            ·
              have hp217 := of_decide_eq_true ht216
              have hE218 := hE215; rw [ht216] at hE218; clear hE215
              refine wp_skip ?_
              refine p_tn ?_
              refine c_seq ?_
              refine wp_block ?_
              refine c_seq ?_
              refine c_reg ?_
              refine q_step (v := .int .i64 0) hE218 (y_assign rfl) rfl rfl rfl ?_; intro a219 hE220; clear hE218
              refine c_nil ?_
              have hE221 := hE220.sub (L' := [(1, .pointer (some ⟨b2, 0, none⟩)), (3, .int .i64 (fullI ap0)), (4, .int .i64 x4), (5, .int .i64 0)]) ⟨rfl, rfl, rfl, rfl, trivial⟩; clear hE220
              refine p_tn ?_
              refine c_cut1 (fun a' w' => isOk (F_l15Is_L2 ap1 x4 (Int.toNat (x4 - 0) + 1) 0) = true ∧ (0 ≤ (okD (F_l15Is_L2 ap1 x4 (Int.toNat (x4 - 0) + 1) 0))) ∧ ((okD (F_l15Is_L2 ap1 x4 (Int.toNat (x4 - 0) + 1) 0)) ≤ x4) ∧ E a' 66 [(1, .pointer (some ⟨b2, 0, none⟩)), (3, .int .i64 (fullI ap0)), (4, .int .i64 x4), (5, .int .i64 (okD (F_l15Is_L2 ap1 x4 (Int.toNat (x4 - 0) + 1) 0)))] ∧ St w w' [.rd 1 ap1A ap1.length ap1C ap1, .blk b2 #[.int .i64 ap0, .slice ap1A ap1.length ap1C] 54]) ?_ ?_
              ·
                refine wp_block ?_
                refine c_loop (fun r a' w' => ∃ y5L2 : Int, F_l15Is_L2 ap1 x4 r y5L2 = F_l15Is_L2 ap1 x4 (Int.toNat (x4 - 0) + 1) 0 ∧ Int.toNat (x4 - y5L2) < r ∧ (0 ≤ y5L2) ∧ (y5L2 ≤ x4) ∧ E a' 66 [(1, .pointer (some ⟨b2, 0, none⟩)), (3, .int .i64 (fullI ap0)), (4, .int .i64 x4), (5, .int .i64 y5L2)] ∧ St w w' [.rd 1 ap1A ap1.length ap1C ap1, .blk b2 #[.int .i64 ap0, .slice ap1A ap1.length ap1C] 54]) (r := (Int.toNat (x4 - 0) + 1)) ?_ ?_
                · exact ⟨0, rfl, Nat.lt_succ_self _, (by first | omega | (simp only [List.length_replicate, sI_len]; omega) | (simp only [List.length_append, List.length_cons, List.length_nil, sI_len, cond_true, cond_false]; omega) | (simp only [List.length_append, List.length_cons, List.length_nil, sI_len, cond_eq_ite, apply_ite List.length]; split <;> simp only [List.length_append, List.length_cons, List.length_nil, sI_len] <;> omega) | grind), (by first | omega | (simp only [List.length_replicate, sI_len]; omega) | (simp only [List.length_append, List.length_cons, List.length_nil, sI_len, cond_true, cond_false]; omega) | (simp only [List.length_append, List.length_cons, List.length_nil, sI_len, cond_eq_ite, apply_ite List.length]; split <;> simp only [List.length_append, List.length_cons, List.length_nil, sI_len] <;> omega) | grind), (hE221.sub (L' := [(1, .pointer (some ⟨b2, 0, none⟩)), (3, .int .i64 (fullI ap0)), (4, .int .i64 x4), (5, .int .i64 0)]) ⟨rfl, rfl, rfl, rfl, trivial⟩), (St.pick (Γ' := [.rd 1 ap1A ap1.length ap1C ap1, .blk b2 #[.int .i64 ap0, .slice ap1A ap1.length ap1C] 54]) hS203 [0, 1] (by decide) rfl)⟩
                ·
                  clear hE221 hS203
                  rintro r231 a223 w224 ⟨y5L2, hT227, hr228, hi229, hi230, hE225, hS226⟩
                  obtain ⟨r231, rfl⟩ : ∃ r', r231 = r' + 1 := ⟨r231 - 1, by omega⟩
                  have hand := andI_le (m := x4) (k := y5L2) (by omega) (by omega) (by omega) (by omega)
                  refine c_seq ?_
                  refine c_seq ?_
                  refine c_reg ?_
                  refine q_step (v := .int .i64 y5L2) hE225 (y_move rfl) rfl rfl rfl ?_; intro a232 hE233; clear hE225
                  refine q_step (v := .int .i64 x4) hE233 (y_move rfl) rfl rfl rfl ?_; intro a234 hE235; clear hE233
                  refine q_step (v := .bool (decide (y5L2 < x4))) hE235 (y_lss rfl rfl) rfl rfl rfl ?_; intro a236 hE237; clear hE235
                  refine c_nil ?_
                  have hE238 := hE237.sub (L' := [(1, .pointer (some ⟨b2, 0, none⟩)), (3, .int .i64 (fullI ap0)), (4, .int .i64 x4), (5, .int .i64 y5L2), (44, .bool (decide (y5L2 < x4)))]) ⟨rfl, rfl, rfl, rfl, rfl, trivial⟩; clear hE237
                  refine p_tn ?_
                  refine c_cond hE238 rfl (fun ht239 => ?_) (fun ht239 => ?_)
                  ·
                    have hp240 := of_decide_eq_true ht239
                    have hE241 := hE238; rw [ht239] at hE241; clear hE238
                    refine wp_skip ?_
                    refine p_tn ?_
                    refine c_seq ?_
                    refine wp_block ?_
                    refine c_seq ?_
                    refine d_start (fun w' => w'.cell? ⟨b2, 1, none⟩ = some (.slice ap1A ap1.length ap1C) ∧ w'.cell? (adr ap1A (Int.toNat (andI x4 y5L2))) = some (.int .i64 (gI ap1 (andI x4 y5L2))) ∧ w'.cell? ⟨b2, 1, none⟩ = some (.slice ap1A ap1.length ap1C) ∧ w'.cell? (adr ap1A (Int.toNat x4)) = some (.int .i64 (gI ap1 x4)) ∧ w'.cell? ⟨b2, 1, none⟩ = some (.slice ap1A ap1.length ap1C) ∧ w'.cell? (adr ap1A (Int.toNat y5L2)) = some (.int .i64 (gI ap1 y5L2)) ∧ True) [1, 6, 8, 11, 13, 16] 19 (by kernel_rfl) rfl ?_
                    intro w242 he243; have hS244 := St.go hS226 he243; clear hS226
                    refine d_pure (v := .pointer (some ⟨b2, 1, none⟩)) 0 rfl hE241 (y_field rfl (fun _ => by kernel_rfl)) rfl (by kernel_rfl) (by kernel_rfl) (by kernel_rfl) rfl rfl (fun _ _ _ h => h) ?_; intro a245 hE246; clear hE241
                    refine d_take (v := .slice ap1A ap1.length ap1C) 1 rfl hE246 ⟨(St.cell (i := 1) hS244 rfl rfl _ (Ext.refl _)), (RdS.elt (St.rdR (i := 0) hS244 rfl) (by omega) (by omega) _ (Ext.refl _)), (St.cell (i := 1) hS244 rfl rfl _ (Ext.refl _)), (RdS.elt (St.rdR (i := 0) hS244 rfl) (by omega) (by omega) _ (Ext.refl _)), (St.cell (i := 1) hS244 rfl rfl _ (Ext.refl _)), (RdS.elt (St.rdR (i := 0) hS244 rfl) (by omega) (by omega) _ (Ext.refl _)), trivial⟩ (y_load (fun _ => by kernel_rfl) rfl (fun _ h => h.1)) rfl rfl (by kernel_rfl) (by kernel_rfl) (by kernel_rfl) rfl rfl (fun _ _ _ h => h) ?_; intro a247 hE248; clear hE246
                    refine d_pure (v := .int .i64 x4) 2 rfl hE248 (y_move rfl) rfl (by kernel_rfl) (by kernel_rfl) (by kernel_rfl) rfl rfl (fun _ _ _ h => h) ?_; intro a249 hE250; clear hE248
                    refine d_pure (v := .int .i64 y5L2) 3 rfl hE250 (y_move rfl) rfl (by kernel_rfl) (by kernel_rfl) (by kernel_rfl) rfl rfl (fun _ _ _ h => h) ?_; intro a251 hE252; clear hE250
                    refine d_pure (v := .int .i64 (andI x4 y5L2)) 4 rfl hE252 (y_and rfl rfl) rfl (by kernel_rfl) (by kernel_rfl) (by kernel_rfl) rfl rfl (fun _ _ _ h => h) ?_; intro a253 hE254; clear hE252
                    refine d_pure (v := .pointer (some (adr ap1A (Int.toNat (andI x4 y5L2))))) 5 rfl hE254 (y_idx (by kernel_rfl) (fun _ => by kernel_rfl) rfl rfl (RdS.isS (m := andI x4 y5L2) (St.rdR (i := 0) hS244 rfl) (by omega) (by omega)) (by omega) (by omega) (Nat.mul_one _).symm) rfl (by kernel_rfl) (by kernel_rfl) (by kernel_rfl) rfl rfl (fun _ _ _ h => h) ?_; intro a255 hE256; clear hE254
                    refine d_take (v := .int .i64 (gI ap1 (andI x4 y5L2))) 6 rfl hE256 ⟨(St.cell (i := 1) hS244 rfl rfl _ (Ext.refl _)), (RdS.elt (St.rdR (i := 0) hS244 rfl) (by omega) (by omega) _ (Ext.refl _)), (St.cell (i := 1) hS244 rfl rfl _ (Ext.refl _)), (RdS.elt (St.rdR (i := 0) hS244 rfl) (by omega) (by omega) _ (Ext.refl _)), (St.cell (i := 1) hS244 rfl rfl _ (Ext.refl _)), (RdS.elt (St.rdR (i := 0) hS244 rfl) (by omega) (by omega) _ (Ext.refl _)), trivial⟩ (y_load (fun _ => by kernel_rfl) rfl (fun _ h => h.2.1)) rfl rfl (by kernel_rfl) (by kernel_rfl) (by kernel_rfl) rfl rfl (fun _ _ _ h => h) ?_; intro a257 hE258; clear hE256
                    refine d_pure (v := .pointer (some ⟨b2, 1, none⟩)) 7 rfl hE258 (y_field rfl (fun _ => by kernel_rfl)) rfl (by kernel_rfl) (by kernel_rfl) (by kernel_rfl) rfl rfl (fun _ _ _ h => h) ?_; intro a259 hE260; clear hE258
                    refine d_take (v := .slice ap1A ap1.length ap1C) 8 rfl hE260 ⟨(St.cell (i := 1) hS244 rfl rfl _ (Ext.refl _)), (RdS.elt (St.rdR (i := 0) hS244 rfl) (by omega) (by omega) _ (Ext.refl _)), (St.cell (i := 1) hS244 rfl rfl _ (Ext.refl _)), (RdS.elt (St.rdR (i := 0) hS244 rfl) (by omega) (by omega) _ (Ext.refl _)), (St.cell (i := 1) hS244 rfl rfl _ (Ext.refl _)), (RdS.elt (St.rdR (i := 0) hS244 rfl) (by omega) (by omega) _ (Ext.refl _)), trivial⟩ (y_load (fun _ => by kernel_rfl) rfl (fun _ h => h.2.2.1)) rfl rfl (by kernel_rfl) (by kernel_rfl) (by kernel_rfl) rfl rfl (fun _ _ _ h => h) ?_; intro a261 hE262; clear hE260
                    refine d_pure (v := .int .i64 x4) 9 rfl hE262 (y_move rfl) rfl (by kernel_rfl) (by kernel_rfl) (by kernel_rfl) rfl rfl (fun _ _ _ h => h) ?_; intro a263 hE264; clear hE262
                    refine d_pure (v := .pointer (some (adr ap1A (Int.toNat x4)))) 10 rfl hE264 (y_idx (by kernel_rfl) (fun _ => by kernel_rfl) rfl rfl (RdS.isS (m := x4) (St.rdR (i := 0) hS244 rfl) (by omega) (by omega)) (by omega) (by omega) (Nat.mul_one _).symm) rfl (by kernel_rfl) (by kernel_rfl) (by kernel_rfl) rfl rfl (fun _ _ _ h => h) ?_; intro a265 hE266; clear hE264
                    refine d_take (v := .int .i64 (gI ap1 x4)) 11 rfl hE266 ⟨(St.cell (i := 1) hS244 rfl rfl _ (Ext.refl _)), (RdS.elt (St.rdR (i := 0) hS244 rfl) (by omega) (by omega) _ (Ext.refl _)), (St.cell (i := 1) hS244 rfl rfl _ (Ext.refl _)), (RdS.elt (St.rdR (i := 0) hS244 rfl) (by omega) (by omega) _ (Ext.refl _)), (St.cell (i := 1) hS244 rfl rfl _ (Ext.refl _)), (RdS.elt (St.rdR (i := 0) hS244 rfl) (by omega) (by omega) _ (Ext.refl _)), trivial⟩ (y_load (fun _ => by kernel_rfl) rfl (fun _ h => h.2.2.2.1)) rfl rfl (by kernel_rfl) (by kernel_rfl) (by kernel_rfl) rfl rfl (fun _ _ _ h => h) ?_; intro a267 hE268; clear hE266
                    refine d_pure (v := .pointer (some ⟨b2, 1, none⟩)) 12 rfl hE268 (y_field rfl (fun _ => by kernel_rfl)) rfl (by kernel_rfl) (by kernel_rfl) (by kernel_rfl) rfl rfl (fun _ _ _ h => h) ?_; intro a269 hE270; clear hE268
                    refine d_take (v := .slice ap1A ap1.length ap1C) 13 rfl hE270 ⟨(St.cell (i := 1) hS244 rfl rfl _ (Ext.refl _)), (RdS.elt (St.rdR (i := 0) hS244 rfl) (by omega) (by omega) _ (Ext.refl _)), (St.cell (i := 1) hS244 rfl rfl _ (Ext.refl _)), (RdS.elt (St.rdR (i := 0) hS244 rfl) (by omega) (by omega) _ (Ext.refl _)), (St.cell (i := 1) hS244 rfl rfl _ (Ext.refl _)), (RdS.elt (St.rdR (i := 0) hS244 rfl) (by omega) (by omega) _ (Ext.refl _)), trivial⟩ (y_load (fun _ => by kernel_rfl) rfl (fun _ h => h.2.2.2.2.1)) rfl rfl (by kernel_rfl) (by kernel_rfl) (by kernel_rfl) rfl rfl (fun _ _ _ h => h) ?_; intro a271 hE272; clear hE270
                    refine d_pure (v := .int .i64 y5L2) 14 rfl hE272 (y_move rfl) rfl (by kernel_rfl) (by kernel_rfl) (by kernel_rfl) rfl rfl (fun _ _ _ h => h) ?_; intro a273 hE274; clear hE272
                    refine d_pure (v := .pointer (some (adr ap1A (Int.toNat y5L2)))) 15 rfl hE274 (y_idx (by kernel_rfl) (fun _ => by kernel_rfl) rfl rfl (RdS.isS (m := y5L2) (St.rdR (i := 0) hS244 rfl) (by omega) (by omega)) (by omega) (by omega) (Nat.mul_one _).symm) rfl (by kernel_rfl) (by kernel_rfl) (by kernel_rfl) rfl rfl (fun _ _ _ h => h) ?_; intro a275 hE276; clear hE274
                    refine d_take (v := .int .i64 (gI ap1 y5L2)) 16 rfl hE276 ⟨(St.cell (i := 1) hS244 rfl rfl _ (Ext.refl _)), (RdS.elt (St.rdR (i := 0) hS244 rfl) (by omega) (by omega) _ (Ext.refl _)), (St.cell (i := 1) hS244 rfl rfl _ (Ext.refl _)), (RdS.elt (St.rdR (i := 0) hS244 rfl) (by omega) (by omega) _ (Ext.refl _)), (St.cell (i := 1) hS244 rfl rfl _ (Ext.refl _)), (RdS.elt (St.rdR (i := 0) hS244 rfl) (by omega) (by omega) _ (Ext.refl _)), trivial⟩ (y_load (fun _ => by kernel_rfl) rfl (fun _ h => h.2.2.2.2.2.1)) rfl rfl (by kernel_rfl) (by kernel_rfl) (by kernel_rfl) rfl rfl (fun _ _ _ h => h) ?_; intro a277 hE278; clear hE276
                    refine d_pure (v := .int .i64 (andI (gI ap1 x4) (gI ap1 y5L2))) 17 rfl hE278 (y_and rfl rfl) rfl (by kernel_rfl) (by kernel_rfl) (by kernel_rfl) rfl rfl (fun _ _ _ h => h) ?_; intro a279 hE280; clear hE278
                    refine d_pure (v := .bool (!decide ((gI ap1 (andI x4 y5L2)) = (andI (gI ap1 x4) (gI ap1 y5L2))))) 18 rfl hE280 (y_neq rfl rfl) rfl (by kernel_rfl) (by kernel_rfl) (by kernel_rfl) rfl rfl (fun _ _ _ h => h) ?_; intro a281 hE282; clear hE280
                    refine d_done (by kernel_rfl) ?_
                    have hE283 := hE282.sub (L' := [(1, .pointer (some ⟨b2, 0, none⟩)), (3, .int .i64 (fullI ap0)), (4, .int .i64 x4), (5, .int .i64 y5L2), (65, .bool (!decide ((gI ap1 (andI x4 y5L2)) = (andI (gI ap1 x4) (gI ap1 y5L2)))))]) ⟨rfl, rfl, rfl, rfl, rfl, trivial⟩; clear hE282
                    refine p_tn ?_
                    refine c_cond hE283 rfl (fun ht284 => ?_) (fun ht284 => ?_)
                    ·
                      have ht285 := bn_t ht284
                      have hp286 := of_decide_eq_false ht285
                      have hE287 := hE283; rw [ht284] at hE287; clear hE283
                      refine c_seq ?_
                      refine c_reg ?_
                      refine q_step (v := .bool false) hE287 (y_assign rfl) rfl rfl rfl ?_; intro a288 hE289; clear hE287
                      refine c_nil ?_
                      have hE290 := hE289.sub (L' := [(2, .bool false)]) ⟨rfl, trivial⟩; clear hE289
                      refine p_tn ?_
                      refine wp_ret ?_
                      refine p_br ?_
                      refine p_tr ?_
                      have hX291 : F_l15Is_L2 ap1 x4 (Int.toNat (x4 - 0) + 1) 0 = .error false := hT227.symm.trans (show F_l15Is_L2b ap1 x4 (F_l15Is_L2 ap1 x4 r231) y5L2 = .error false by unfold F_l15Is_L2b; rw [ht284, ht239]; first | done | rfl)
                      refine p_tr (p_br (p_tr ?_))
                      refine p_br ?_
                      refine p_tr ?_
                      have hX292 : F_l15Is_L1 ap0 ap1 (Int.toNat ((fullI ap0) + 1 - 0) + 1) 0 = .error false := hT204.symm.trans (show F_l15Is_L1b ap0 ap1 (F_l15Is_L1 ap0 ap1 r208) x4 = .error false by unfold F_l15Is_L1b; rw [hX291, ht216]; first | done | rfl)
                      refine p_tr (p_br (p_tr ?_))
                      refine p_tr ?_
                      have hF : F_l15Is ap0 ap1 = false := by unfold F_l15Is; rw [hX292, ht186, ht141]; first | done | rfl
                      refine c_ret1 hE290 rfl rfl ?_
                      exact ⟨(by rw [hF]; first | done | rfl), hS244.ext⟩
                    ·
                      have ht293 := bn_f ht284
                      have hp294 := of_decide_eq_true ht293
                      have hE295 := hE283; rw [ht284] at hE295; clear hE283
                      refine wp_skip ?_
                      refine p_bn ?_
                      refine p_tn ?_
                      refine c_reg ?_
                      refine q_step (v := .int .i64 y5L2) hE295 (y_move rfl) rfl rfl rfl ?_; intro a296 hE297; clear hE295
                      refine q_step (v := .int .i64 (y5L2 + 1)) hE297 (y_add rfl rfl ⟨(by omega), (by omega)⟩) rfl rfl rfl ?_; intro a298 hE299; clear hE297
                      refine q_step (v := .int .i64 (y5L2 + 1)) hE299 (y_assign rfl) rfl rfl rfl ?_; intro a300 hE301; clear hE299
                      refine c_nil ?_
                      have hE302 := hE301.sub (L' := [(1, .pointer (some ⟨b2, 0, none⟩)), (3, .int .i64 (fullI ap0)), (4, .int .i64 x4), (5, .int .i64 (y5L2 + 1))]) ⟨rfl, rfl, rfl, rfl, trivial⟩; clear hE301
                      refine p_tn ⟨r231, Nat.lt_succ_self _, y5L2 + 1, (hT227.symm.trans (show F_l15Is_L2b ap1 x4 (F_l15Is_L2 ap1 x4 r231) y5L2 = F_l15Is_L2 ap1 x4 r231 (y5L2 + 1) by unfold F_l15Is_L2b; rw [ht284, ht239]; first | done | rfl)).symm, (by omega), (by first | omega | (simp only [List.length_replicate, sI_len]; omega) | (simp only [List.length_append, List.length_cons, List.length_nil, sI_len, cond_true, cond_false]; omega) | (simp only [List.length_append, List.length_cons, List.length_nil, sI_len, cond_eq_ite, apply_ite List.length]; split <;> simp only [List.length_append, List.length_cons, List.length_nil, sI_len] <;> omega) | grind), (by first | omega | (simp only [List.length_replicate, sI_len]; omega) | (simp only [List.length_append, List.length_cons, List.length_nil, sI_len, cond_true, cond_false]; omega) | (simp only [List.length_append, List.length_cons, List.length_nil, sI_len, cond_eq_ite, apply_ite List.length]; split <;> simp only [List.length_append, List.length_cons, List.length_nil, sI_len] <;> omega) | grind), (hE302.sub (L' := [(1, .pointer (some ⟨b2, 0, none⟩)), (3, .int .i64 (fullI ap0)), (4, .int .i64 x4), (5, .int .i64 (y5L2 + 1))]) ⟨rfl, rfl, rfl, rfl, trivial⟩), (St.pick (Γ' := [.rd 1 ap1A ap1.length ap1C ap1, .blk b2 #[.int .i64 ap0, .slice ap1A ap1.length ap1C] 54]) hS244 [0, 1] (by decide) rfl)⟩
                  ·
                    have hp303 := of_decide_eq_false ht239
                    have hE304 := hE238; rw [ht239] at hE304; clear hE238
                    refine wp_exit ?_
                    refine p_te ?_
                    have hX305 : F_l15Is_L2 ap1 x4 (Int.toNat (x4 - 0) + 1) 0 = .ok y5L2 := hT227.symm.trans (show F_l15Is_L2b ap1 x4 (F_l15Is_L2 ap1 x4 r231) y5L2 = .ok y5L2 by unfold F_l15Is_L2b; rw [ht239]; first | done | rfl)
                    refine p_te (p_be (p_tn ?_))
                    exact ⟨(by rw [hX305]; rfl), (by rw [hX305]; exact (show 0 ≤ y5L2 from (by first | omega | (simp only [List.length_replicate, sI_len]; omega) | (simp only [List.length_append, List.length_cons, List.length_nil, sI_len, cond_true, cond_false]; omega) | (simp only [List.length_append, List.length_cons, List.length_nil, sI_len, cond_eq_ite, apply_ite List.length]; split <;> simp only [List.length_append, List.length_cons, List.length_nil, sI_len] <;> omega) | grind))), (by rw [hX305]; exact (show y5L2 ≤ x4 from (by first | omega | (simp only [List.length_replicate, sI_len]; omega) | (simp only [List.length_append, List.length_cons, List.length_nil, sI_len, cond_true, cond_false]; omega) | (simp only [List.length_append, List.length_cons, List.length_nil, sI_len, cond_eq_ite, apply_ite List.length]; split <;> simp only [List.length_append, List.length_cons, List.length_nil, sI_len] <;> omega) | grind))), (by rw [hX305]; exact (hE304.sub (L' := [(1, .pointer (some ⟨b2, 0, none⟩)), (3, .int .i64 (fullI ap0)), (4, .int .i64 x4), (5, .int .i64 y5L2)]) ⟨rfl, rfl, rfl, rfl, trivial⟩)), (St.pick (Γ' := [.rd 1 ap1A ap1.length ap1C ap1, .blk b2 #[.int .i64 ap0, .slice ap1A ap1.length ap1C] 54]) hS226 [0, 1] (by decide) rfl)⟩
              ·
                rintro a306 w307 ⟨hO310, hi311, hi312, hE308, hS309⟩; clear hE221 hS203
                refine p_bn ?_
                refine p_tn ?_
                refine c_reg ?_
                refine q_step (v := .int .i64 x4) hE308 (y_move rfl) rfl rfl rfl ?_; intro a313 hE314; clear hE308
                refine q_step (v := .int .i64 (x4 + 1)) hE314 (y_add rfl rfl ⟨(by omega), (by omega)⟩) rfl rfl rfl ?_; intro a315 hE316; clear hE314
                refine q_step (v := .int .i64 (x4 + 1)) hE316 (y_assign rfl) rfl rfl rfl ?_; intro a317 hE318; clear hE316
                refine c_nil ?_
                have hE319 := hE318.sub (L' := [(1, .pointer (some ⟨b2, 0, none⟩)), (3, .int .i64 (fullI ap0)), (4, .int .i64 (x4 + 1))]) ⟨rfl, rfl, rfl, trivial⟩; clear hE318
                refine p_tn ⟨r208, Nat.lt_succ_self _, x4 + 1, (hT204.symm.trans (show F_l15Is_L1b ap0 ap1 (F_l15Is_L1 ap0 ap1 r208) x4 = F_l15Is_L1 ap0 ap1 r208 (x4 + 1) by unfold F_l15Is_L1b; rw [hO310, ht216]; first | done | rfl)).symm, (by omega), (by first | omega | (simp only [List.length_replicate, sI_len]; omega) | (simp only [List.length_append, List.length_cons, List.length_nil, sI_len, cond_true, cond_false]; omega) | (simp only [List.length_append, List.length_cons, List.length_nil, sI_len, cond_eq_ite, apply_ite List.length]; split <;> simp only [List.length_append, List.length_cons, List.length_nil, sI_len] <;> omega) | grind), (by first | omega | (simp only [List.length_replicate, sI_len]; omega) | (simp only [List.length_append, List.length_cons, List.length_nil, sI_len, cond_true, cond_false]; omega) | (simp only [List.length_append, List.length_cons, List.length_nil, sI_len, cond_eq_ite, apply_ite List.length]; split <;> simp only [List.length_append, List.length_cons, List.length_nil, sI_len] <;> omega) | grind), (hE319.sub (L' := [(1, .pointer (some ⟨b2, 0, none⟩)), (3, .int .i64 (fullI ap0)), (4, .int .i64 (x4 + 1))]) ⟨rfl, rfl, rfl, trivial⟩), (St.pick (Γ' := [.rd 1 ap1A ap1.length ap1C ap1, .blk b2 #[.int .i64 ap0, .slice ap1A ap1.length ap1C] 54]) hS309 [0, 1] (by decide) rfl)⟩
            ·
              have hp320 := of_decide_eq_false ht216
              have hE321 := hE215; rw [ht216] at hE321; clear hE215
              refine wp_exit ?_
              refine p_te ?_
              have hX322 : F_l15Is_L1 ap0 ap1 (Int.toNat ((fullI ap0) + 1 - 0) + 1) 0 = .ok x4 := hT204.symm.trans (show F_l15Is_L1b ap0 ap1 (F_l15Is_L1 ap0 ap1 r208) x4 = .ok x4 by unfold F_l15Is_L1b; rw [ht216]; first | done | rfl)
              refine p_te (p_be (p_tn ?_))
              exact ⟨(by rw [hX322]; rfl), (by rw [hX322]; exact (show 0 ≤ x4 from (by first | omega | (simp only [List.length_replicate, sI_len]; omega) | (simp only [List.length_append, List.length_cons, List.length_nil, sI_len, cond_true, cond_false]; omega) | (simp only [List.length_append, List.length_cons, List.length_nil, sI_len, cond_eq_ite, apply_ite List.length]; split <;> simp only [List.length_append, List.length_cons, List.length_nil, sI_len] <;> omega) | grind))), (by rw [hX322]; exact (show x4 ≤ fullI ap0 + 1 from (by first | omega | (simp only [List.length_replicate, sI_len]; omega) | (simp only [List.length_append, List.length_cons, List.length_nil, sI_len, cond_true, cond_false]; omega) | (simp only [List.length_append, List.length_cons, List.length_nil, sI_len, cond_eq_ite, apply_ite List.length]; split <;> simp only [List.length_append, List.length_cons, List.length_nil, sI_len] <;> omega) | grind))), (by rw [hX322]; exact (hE321.sub (L' := [(1, .pointer (some ⟨b2, 0, none⟩)), (3, .int .i64 (fullI ap0)), (4, .int .i64 x4)]) ⟨rfl, rfl, rfl, trivial⟩)), (St.pick (Γ' := [.rd 1 ap1A ap1.length ap1C ap1, .blk b2 #[.int .i64 ap0, .slice ap1A ap1.length ap1C] 54]) hS203 [0, 1] (by decide) rfl)⟩
        ·
          rintro a323 w324 ⟨hO327, hi328, hi329, hE325, hS326⟩; clear hE198 hS140
          refine p_tn ?_
          refine c_seq ?_
          refine c_reg ?_
          refine q_step (v := .bool true) hE325 (y_assign rfl) rfl rfl rfl ?_; intro a330 hE331; clear hE325
          refine c_nil ?_
          have hE332 := hE331.sub (L' := [(2, .bool true)]) ⟨rfl, trivial⟩; clear hE331
          refine p_tn ?_
          refine wp_ret ?_
          have hF : F_l15Is ap0 ap1 = true := by unfold F_l15Is; rw [hO327, ht186, ht141]; first | done | rfl
          refine c_ret1 hE332 rfl rfl ?_
          exact ⟨(by rw [hF]; first | done | rfl), hS326.ext⟩

theorem l15Is_t {ap0 : Int} {ap1 : List Int} (h : F_l15Is ap0 ap1 = true) : ((0 ≤ ap0 ∧ ap0 ≤ 5) ∧ 0 ≤ fullI ap0 ∧ fullI ap0 ≤ 31) ∧ (ap1.length : Int) = fullI ap0 + 1 ∧ ∀ m : Int, 0 ≤ m → m < (ap1.length : Int) → 0 ≤ gI ap1 m ∧ gI ap1 m ≤ fullI ap0 := by
  unfold F_l15Is at h
  cases h1 : ((!(F_l01In ap0 0 5)) || ((!decide ((ap1.length : Int) = (powI ap0))) || (!(F_l01Masks ap0 ap1))))
  · obtain ⟨h2, h3⟩ := bor_f h1
    obtain ⟨h3, h4⟩ := bor_f h3
    refine ⟨in5_t (bn_f h2), ?_, masks_mem (bn_f h4)⟩
    have := of_decide_eq_true (bn_f h3)
    rw [fullI_pow]; omega
  · rw [h1] at h; cases h
theorem fullI_lt5 {ap0 : Int} (h : 0 ≤ ap0 ∧ ap0 ≤ 5) : 0 ≤ fullI ap0 ∧ fullI ap0 ≤ 31 := fullI5 h.1 h.2

def F_isModalAlgebra_L2b (ap1 : List Int) (t27 : Int) (rec : Int → Except (Bool) (Int)) (t31L2 : Int) : Except (Bool) (Int) :=
  bif (decide (t31L2 < t27)) then (bif (!decide ((gI ap1 (andI t27 t31L2)) = (andI (gI ap1 t27) (gI ap1 t31L2)))) then (.error false) else (rec (t31L2 + 1))) else (.ok t31L2)
def F_isModalAlgebra_L2 (ap1 : List Int) (t27 : Int) : Nat → Int → Except (Bool) (Int)
  | 0, t31L2 => .ok t31L2
  | r + 1, t31L2 => F_isModalAlgebra_L2b ap1 t27 (F_isModalAlgebra_L2 ap1 t27 r) t31L2
def F_isModalAlgebra_L1b (ap1 : List Int) (rec : Int → Except (Bool) (Int)) (t27 : Int) : Except (Bool) (Int) :=
  bif (decide (t27 < (ap1.length : Int))) then (bif (isOk (F_isModalAlgebra_L2 ap1 t27 (Int.toNat (t27 - 0) + 1) 0)) then (rec (t27 + 1)) else (.error (errD (F_isModalAlgebra_L2 ap1 t27 (Int.toNat (t27 - 0) + 1) 0)))) else (.ok t27)
def F_isModalAlgebra_L1 (ap1 : List Int) : Nat → Int → Except (Bool) (Int)
  | 0, t27 => .ok t27
  | r + 1, t27 => F_isModalAlgebra_L1b ap1 (F_isModalAlgebra_L1 ap1 r) t27
def F_isModalAlgebra (ap0 : Int) (ap1 : List Int) : Bool :=
  bif ((!(F_inRange ap0 0 5)) || ((!decide ((ap1.length : Int) = ((fullI ap0) + 1))) || (F_z_ContainsFunc ap1 (fun x0 => F_isModalAlgebra_k1 x0 ap0 ap1)))) then false else (bif (isOk (F_isModalAlgebra_L1 ap1 (Int.toNat ((ap1.length : Int) - 0) + 1) 0)) then (decide ((gI ap1 (fullI ap0)) = (fullI ap0))) else (errD (F_isModalAlgebra_L1 ap1 (Int.toNat ((ap1.length : Int) - 0) + 1) 0)))
theorem cf_isModalAlgebra (args : Array Value) (w : World) : (callFunc 81 args).run Try.prog w = .ok (.enter 81 args) w := by kernel_rfl
set_option maxRecDepth 100000 in
theorem c_isModalAlgebra (ap0 : Int) (ap1A : Option Addr) (ap1N ap1C : Nat) (ap1 : List Int) (w : World) (ap1R : RdS w 1 ap1A ap1N ap1C ap1) :
    Calls Try.prog 81 #[.agg #[.int .i64 ap0, .slice ap1A ap1N ap1C]] w (Ret fun v w' => v = .bool (F_isModalAlgebra ap0 ap1) ∧ Ext w w') := by
  obtain rfl : ap1N = ap1.length := ap1R.len1.symm
  have ap1Le := ap1R.le
  have hS := St.nil w
  have hS1 := St.rd0 hS rfl ap1R; clear hS
  refine enter (args := [.agg #[.int .i64 ap0, .slice ap1A ap1.length ap1C]]) Try.func81 rfl rfl ?_
  rw [Try.ntmps81]; intro a hE
  have hE := hE.sub (L' := [(0, .agg #[.int .i64 ap0, .slice ap1A ap1.length ap1C])]) ⟨rfl, trivial⟩
  refine c_seq ?_
  refine c_reg ?_
  refine l_step hE rfl (l_box (v := .agg #[.int .i64 ap0, .slice ap1A ap1.length ap1C]) (cs := #[.int .i64 ap0, .slice ap1A ap1.length ap1C]) hS1 hE rfl rfl rfl ?_)
  intro b2 w3 hS6 he7 a4 hE5; clear hS1 hE
  refine q_step (v := .bool false) hE5 (y_assign rfl) rfl rfl rfl ?_; intro a8 hE9; clear hE5
  refine c_nil ?_
  have hE10 := hE9.sub (L' := [(1, .pointer (some ⟨b2, 0, none⟩))]) ⟨rfl, trivial⟩; clear hE9
  refine p_tn ?_
  refine c_seq ?_
  refine c_cut (fun a' w' => E a' 64 [(1, .pointer (some ⟨b2, 0, none⟩)), (23, .bool ((!(F_inRange ap0 0 5)) || ((!decide ((ap1.length : Int) = ((fullI ap0) + 1))) || (F_z_ContainsFunc ap1 (fun x0 => F_isModalAlgebra_k1 x0 ap0 ap1)))))] ∧ St w w' [.rd 1 ap1A ap1.length ap1C ap1, .blk b2 #[.int .i64 ap0, .slice ap1A ap1.length ap1C] 54]) ?_ ?_
  ·
    refine d_start (fun w' => w'.cell? ⟨b2, 0, none⟩ = some (.int .i64 ap0) ∧ w'.cell? ⟨b2, 1, none⟩ = some (.slice ap1A ap1.length ap1C) ∧ w'.heap[b2]? = some (.cells #[.int .i64 ap0, .slice ap1A ap1.length ap1C] 54 (0, 0)) ∧ w'.cell? ⟨b2, 1, none⟩ = some (.slice ap1A ap1.length ap1C) ∧ True) [1, 6, 8, 15] 19 (by kernel_rfl) rfl ?_
    intro w11 he12; have hS13 := St.go hS6 he12; clear hS6
    refine d_pure (v := .pointer (some ⟨b2, 0, none⟩)) 0 rfl hE10 (y_field rfl (fun _ => by kernel_rfl)) rfl (by kernel_rfl) (by kernel_rfl) (by kernel_rfl) rfl rfl (fun _ _ _ h => h) ?_; intro a14 hE15; clear hE10
    refine d_take (v := .int .i64 ap0) 1 rfl hE15 ⟨(St.cell (i := 0) hS13 rfl rfl _ (Ext.refl _)), (St.cell (i := 0) hS13 rfl rfl _ (Ext.refl _)), (St.row (i := 0) hS13 rfl _ (Ext.refl _)), (St.cell (i := 0) hS13 rfl rfl _ (Ext.refl _)), trivial⟩ (y_load (fun _ => by kernel_rfl) rfl (fun _ h => h.1)) rfl rfl (by kernel_rfl) (by kernel_rfl) (by kernel_rfl) rfl rfl (fun _ _ _ h => h) ?_; intro a16 hE17; clear hE15
    refine d_only 2 (by kernel_rfl) rfl hE17 rfl (l_call (f := 101) (argv := [.int .i64 ap0, .int .i64 0, .int .i64 5]) hE17 (fun _ => cf_inRange _ _) rfl rfl (c_inRange ap0 0 5 w11) ?_)
    rintro _ _ ⟨rfl, rfl⟩ a20 hE21; clear hE17
    refine ⟨fun _ _ => ⟨(St.cell (i := 0) hS13 rfl rfl _ (Ext.refl _)), (St.cell (i := 0) hS13 rfl rfl _ (Ext.refl _)), (St.row (i := 0) hS13 rfl _ (Ext.refl _)), (St.cell (i := 0) hS13 rfl rfl _ (Ext.refl _)), trivial⟩, ?_⟩
    refine d_pure (v := .bool (!(F_inRange ap0 0 5))) 3 rfl hE21 (y_not rfl) rfl (by kernel_rfl) (by kernel_rfl) (by kernel_rfl) rfl rfl (fun _ _ _ h => h) ?_; intro a24 hE25; clear hE21
    refine d_pure (v := .bool (!(F_inRange ap0 0 5))) 4 rfl hE25 (y_move rfl) rfl (by kernel_rfl) (by kernel_rfl) (by kernel_rfl) rfl rfl (fun _ _ _ h => h) ?_; intro a26 hE27; clear hE25
    rcases Bool.eq_false_or_eq_true (!(F_inRange ap0 0 5)) with hb28 | hb28
    ·
      have hE29 := hE27; rw [hb28] at hE29; clear hE27
      have ht30 := bn_t hb28
      refine d_skip 5 rfl hE29 rfl (by kernel_rfl) (by kernel_rfl) (by kernel_rfl) rfl rfl (fun _ _ _ h => h) ?_; intro a31 hE32; clear hE29
      refine d_skip 6 rfl hE32 rfl (by kernel_rfl) (by kernel_rfl) (by kernel_rfl) rfl rfl (fun _ _ _ h => h) ?_; intro a33 hE34; clear hE32
      refine d_skip 7 rfl hE34 rfl (by kernel_rfl) (by kernel_rfl) (by kernel_rfl) rfl rfl (fun _ _ _ h => h) ?_; intro a35 hE36; clear hE34
      refine d_skip 8 rfl hE36 rfl (by kernel_rfl) (by kernel_rfl) (by kernel_rfl) rfl rfl (fun _ _ _ h => h) ?_; intro a37 hE38; clear hE36
      refine d_skip 9 rfl hE38 rfl (by kernel_rfl) (by kernel_rfl) (by kernel_rfl) rfl rfl (fun _ _ _ h => h) ?_; intro a39 hE40; clear hE38
      refine d_skip 10 rfl hE40 rfl (by kernel_rfl) (by kernel_rfl) (by kernel_rfl) rfl rfl (fun _ _ _ h => h) ?_; intro a41 hE42; clear hE40
      refine d_skip 11 rfl hE42 rfl (by kernel_rfl) (by kernel_rfl) (by kernel_rfl) rfl rfl (fun _ _ _ h => h) ?_; intro a43 hE44; clear hE42
      refine d_pure (v := .bool true) 12 rfl hE44 (y_pick (b := true) rfl rfl) rfl (by kernel_rfl) (by kernel_rfl) (by kernel_rfl) rfl rfl (fun _ _ _ h => h) ?_; intro a45 hE46; clear hE44
      refine d_pure (v := .bool true) 13 rfl hE46 (y_move rfl) rfl (by kernel_rfl) (by kernel_rfl) (by kernel_rfl) rfl rfl (fun _ _ _ h => h) ?_; intro a47 hE48; clear hE46
      refine d_skip 14 rfl hE48 rfl (by kernel_rfl) (by kernel_rfl) (by kernel_rfl) rfl rfl (fun _ _ _ h => h) ?_; intro a49 hE50; clear hE48
      refine d_skip 15 rfl hE50 rfl (by kernel_rfl) (by kernel_rfl) (by kernel_rfl) rfl rfl (fun _ _ _ h => h) ?_; intro a51 hE52; clear hE50
      refine d_skip 16 rfl hE52 rfl (by kernel_rfl) (by kernel_rfl) (by kernel_rfl) rfl rfl (fun _ _ _ h => h) ?_; intro a53 hE54; clear hE52
      refine d_skip 17 rfl hE54 rfl (by kernel_rfl) (by kernel_rfl) (by kernel_rfl) rfl rfl (fun _ _ _ h => h) ?_; intro a55 hE56; clear hE54
      refine d_pure (v := .bool true) 18 rfl hE56 (y_pick (b := true) rfl rfl) rfl (by kernel_rfl) (by kernel_rfl) (by kernel_rfl) rfl rfl (fun _ _ _ h => h) ?_; intro a57 hE58; clear hE56
      refine d_done (by kernel_rfl) ?_
      have hE59 := hE58.sub (L' := [(1, .pointer (some ⟨b2, 0, none⟩)), (23, .bool true)]) ⟨rfl, rfl, trivial⟩; clear hE58
      refine p_tn ?_
      have hE60 := hE59.sub (L' := [(1, .pointer (some ⟨b2, 0, none⟩)), (23, .bool true)]) ⟨rfl, rfl, trivial⟩
      have hS61 := (St.pick (Γ' := [.rd 1 ap1A ap1.length ap1C ap1, .blk b2 #[.int .i64 ap0, .slice ap1A ap1.length ap1C] 54]) hS13 [1, 0] (by decide) rfl)
      exact ⟨(by rw [hb28]; exact hE60), hS61⟩
    ·
      have hE62 := hE27; rw [hb28] at hE62; clear hE27
      have ht63 := bn_f hb28
      have hp64 := inR5_t ht63
      refine d_pure (v := .pointer (some ⟨b2, 1, none⟩)) 5 rfl hE62 (y_field rfl (fun _ => by kernel_rfl)) rfl (by kernel_rfl) (by kernel_rfl) (by kernel_rfl) rfl rfl (fun _ _ _ h => h) ?_; intro a65 hE66; clear hE62
      refine d_take (v := .slice ap1A ap1.length ap1C) 6 rfl hE66 ⟨(St.cell (i := 0) hS13 rfl rfl _ (Ext.refl _)), (St.cell (i := 0) hS13 rfl rfl _ (Ext.refl _)), (St.row (i := 0) hS13 rfl _ (Ext.refl _)), (St.cell (i := 0) hS13 rfl rfl _ (Ext.refl _)), trivial⟩ (y_load (fun _ => by kernel_rfl) rfl (fun _ h => h.2.1)) rfl rfl (by kernel_rfl) (by kernel_rfl) (by kernel_rfl) rfl rfl (fun _ _ _ h => h) ?_; intro a67 hE68; clear hE66
      refine d_take (v := .agg #[.int .i64 ap0, .slice ap1A ap1.length ap1C]) 8 rfl hE68 ⟨(St.cell (i := 0) hS13 rfl rfl _ (Ext.refl _)), (St.cell (i := 0) hS13 rfl rfl _ (Ext.refl _)), (St.row (i := 0) hS13 rfl _ (Ext.refl _)), (St.cell (i := 0) hS13 rfl rfl _ (Ext.refl _)), trivial⟩ (y_loadS Try.underlying54 rfl (by kernel_rfl) rfl (fun _ h => h.2.2.1)) rfl rfl (by kernel_rfl) (by kernel_rfl) (by kernel_rfl) rfl rfl (fun _ _ _ h => h) ?_; intro a69 hE70; clear hE68
      refine d_only 7 (by kernel_rfl) rfl hE70 rfl (l_call (f := 123) (argv := [.slice ap1A ap1.length ap1C]) hE70 (fun _ => cf_size _ _) rfl rfl (d_size ap1A ap1.length ap1C ap1 w11 (St.rdR (i := 1) hS13 rfl)) ?_)
      rintro _ _ ⟨rfl, rfl⟩ a73 hE74; clear hE70
      refine ⟨fun _ _ => ⟨(St.cell (i := 0) hS13 rfl rfl _ (Ext.refl _)), (St.cell (i := 0) hS13 rfl rfl _ (Ext.refl _)), (St.row (i := 0) hS13 rfl _ (Ext.refl _)), (St.cell (i := 0) hS13 rfl rfl _ (Ext.refl _)), trivial⟩, ?_⟩
      refine d_only 9 (by kernel_rfl) rfl hE74 rfl (l_call (f := 85) (argv := [.agg #[.int .i64 ap0, .slice ap1A ap1.length ap1C]]) hE74 (fun _ => cf_ModalAlgebra_full _ _) rfl rfl (d_ModalAlgebra_full ap0 ap1A ap1.length ap1C ap1 w11 (St.rdR (i := 1) hS13 rfl) (by omega) (by omega)) ?_)
      rintro _ w78 ⟨rfl, he82⟩ a79 hE80; clear hE74
      have hf83 := fullI_bd (n := ap0) (by omega) (by omega)
      have hS81 := St.go hS13 he82; clear hS13
      refine ⟨fun _ _ => ⟨(St.cell (i := 0) hS81 rfl rfl _ (Ext.refl _)), (St.cell (i := 0) hS81 rfl rfl _ (Ext.refl _)), (St.row (i := 0) hS81 rfl _ (Ext.refl _)), (St.cell (i := 0) hS81 rfl rfl _ (Ext.refl _)), trivial⟩, ?_⟩
      refine d_pure (v := .int .i64 ((fullI ap0) + 1)) 10 rfl hE80 (y_add rfl rfl ⟨(by omega), (by omega)⟩) rfl (by kernel_rfl) (by kernel_rfl) (by kernel_rfl) rfl rfl (fun _ _ _ h => h) ?_; intro a84 hE85; clear hE80
      refine d_pure (v := .bool (!decide ((ap1.length : Int) = ((fullI ap0) + 1)))) 11 rfl hE85 (y_neq rfl rfl) rfl (by kernel_rfl) (by kernel_rfl) (by kernel_rfl) rfl rfl (fun _ _ _ h => h) ?_; intro a86 hE87; clear hE85
      refine d_pure (v := .bool (!decide ((ap1.length : Int) = ((fullI ap0) + 1)))) 12 rfl hE87 (y_pick (b := false) rfl rfl) rfl (by kernel_rfl) (by kernel_rfl) (by kernel_rfl) rfl rfl (fun _ _ _ h => h) ?_; intro a88 hE89; clear hE87
      refine d_pure (v := .bool (!decide ((ap1.length : Int) = ((fullI ap0) + 1)))) 13 rfl hE89 (y_move rfl) rfl (by kernel_rfl) (by kernel_rfl) (by kernel_rfl) rfl rfl (fun _ _ _ h => h) ?_; intro a90 hE91; clear hE89
      rcases Bool.eq_false_or_eq_true (!decide ((ap1.length : Int) = ((fullI ap0) + 1))) with hb92 | hb92
      ·
        have hE93 := hE91; rw [hb92] at hE93; clear hE91
        have ht94 := bn_t hb92
        have hp95 := of_decide_eq_false ht94
        refine d_skip 14 rfl hE93 rfl (by kernel_rfl) (by kernel_rfl) (by kernel_rfl) rfl rfl (fun _ _ _ h => h) ?_; intro a96 hE97; clear hE93
        refine d_skip 15 rfl hE97 rfl (by kernel_rfl) (by kernel_rfl) (by kernel_rfl) rfl rfl (fun _ _ _ h => h) ?_; intro a98 hE99; clear hE97
        refine d_skip 16 rfl hE99 rfl (by kernel_rfl) (by kernel_rfl) (by kernel_rfl) rfl rfl (fun _ _ _ h => h) ?_; intro a100 hE101; clear hE99
        refine d_skip 17 rfl hE101 rfl (by kernel_rfl) (by kernel_rfl) (by kernel_rfl) rfl rfl (fun _ _ _ h => h) ?_; intro a102 hE103; clear hE101
        refine d_pure (v := .bool true) 18 rfl hE103 (y_pick (b := true) rfl rfl) rfl (by kernel_rfl) (by kernel_rfl) (by kernel_rfl) rfl rfl (fun _ _ _ h => h) ?_; intro a104 hE105; clear hE103
        refine d_done (by kernel_rfl) ?_
        have hE106 := hE105.sub (L' := [(1, .pointer (some ⟨b2, 0, none⟩)), (23, .bool true)]) ⟨rfl, rfl, trivial⟩; clear hE105
        refine p_tn ?_
        have hE107 := hE106.sub (L' := [(1, .pointer (some ⟨b2, 0, none⟩)), (23, .bool true)]) ⟨rfl, rfl, trivial⟩
        have hS108 := (St.pick (Γ' := [.rd 1 ap1A ap1.length ap1C ap1, .blk b2 #[.int .i64 ap0, .slice ap1A ap1.length ap1C] 54]) hS81 [1, 0] (by decide) rfl)
        exact ⟨(by rw [hb92, hb28]; exact hE107), hS108⟩
      ·
        have hE109 := hE91; rw [hb92] at hE109; clear hE91
        have ht110 := bn_f hb92
        have hp111 := of_decide_eq_true ht110
        refine d_pure (v := .pointer (some ⟨b2, 1, none⟩)) 14 rfl hE109 (y_field rfl (fun _ => by kernel_rfl)) rfl (by kernel_rfl) (by kernel_rfl) (by kernel_rfl) rfl rfl (fun _ _ _ h => h) ?_; intro a112 hE113; clear hE109
        refine d_take (v := .slice ap1A ap1.length ap1C) 15 rfl hE113 ⟨(St.cell (i := 0) hS81 rfl rfl _ (Ext.refl _)), (St.cell (i := 0) hS81 rfl rfl _ (Ext.refl _)), (St.row (i := 0) hS81 rfl _ (Ext.refl _)), (St.cell (i := 0) hS81 rfl rfl _ (Ext.refl _)), trivial⟩ (y_load (fun _ => by kernel_rfl) rfl (fun _ h => h.2.2.2.1)) rfl rfl (by kernel_rfl) (by kernel_rfl) (by kernel_rfl) rfl rfl (fun _ _ _ h => h) ?_; intro a114 hE115; clear hE113
        refine d_pure (v := .func (.func 133) #[] #[.pointer (some ⟨b2, 0, none⟩)]) 16 rfl hE115 (y_makeFunc (vs := [.pointer (some ⟨b2, 0, none⟩)]) rfl) rfl (by kernel_rfl) (by kernel_rfl) (by kernel_rfl) rfl rfl (fun _ _ _ h => h) ?_; intro a116 hE117; clear hE115
        refine d_only 17 (by kernel_rfl) rfl hE117 rfl (l_call (f := 127) (argv := [.slice ap1A ap1.length ap1C, .func (.func 133) #[] #[.pointer (some ⟨b2, 0, none⟩)]]) hE117 (fun _ => cf_z_ContainsFunc _ _) rfl rfl (c_z_ContainsFunc ap1A ap1.length ap1C ap1 133 [.pointer (some ⟨b2, 0, none⟩)] (fun x0 => F_isModalAlgebra_k1 x0 ap0 ap1) (fun _ => True) w78 (St.rdR (i := 1) hS81 rfl) (fun _ _ => cf_isModalAlgebra_k1 _ _) (fun x0 w' hx he => c_isModalAlgebra_k1 x0 b2 ap0 ap1A ap1.length ap1C ap1 w' (RdS.ext (St.rdR (i := 1) hS81 rfl) he) (St.row (i := 0) hS81 rfl w' he) (by omega) (by omega)) (fun _ _ _ => trivial)) ?_)
        rintro _ w119 ⟨rfl, he123⟩ a120 hE121; clear hE117
        have hS122 := St.go hS81 he123; clear hS81
        refine ⟨fun _ _ => ⟨(St.cell (i := 0) hS122 rfl rfl _ (Ext.refl _)), (St.cell (i := 0) hS122 rfl rfl _ (Ext.refl _)), (St.row (i := 0) hS122 rfl _ (Ext.refl _)), (St.cell (i := 0) hS122 rfl rfl _ (Ext.refl _)), trivial⟩, ?_⟩
        refine d_pure (v := .bool (F_z_ContainsFunc ap1 (fun x0 => F_isModalAlgebra_k1 x0 ap0 ap1))) 18 rfl hE121 (y_pick (b := false) rfl rfl) rfl (by kernel_rfl) (by kernel_rfl) (by kernel_rfl) rfl rfl (fun _ _ _ h => h) ?_; intro a124 hE125; clear hE121
        refine d_done (by kernel_rfl) ?_
        have hE126 := hE125.sub (L' := [(1, .pointer (some ⟨b2, 0, none⟩)), (23, .bool (F_z_ContainsFunc ap1 (fun x0 => F_isModalAlgebra_k1 x0 ap0 ap1)))]) ⟨rfl, rfl, trivial⟩; clear hE125
        refine p_tn ?_
        have hE127 := hE126.sub (L' := [(1, .pointer (some ⟨b2, 0, none⟩)), (23, .bool (F_z_ContainsFunc ap1 (fun x0 => F_isModalAlgebra_k1 x0 ap0 ap1)))]) ⟨rfl, rfl, trivial⟩
        have hS128 := (St.pick (Γ' := [.rd 1 ap1A ap1.length ap1C ap1, .blk b2 #[.int .i64 ap0, .slice ap1A ap1.length ap1C] 54]) hS122 [1, 0] (by decide) rfl)
        exact ⟨(by rw [hb92, hb28]; exact hE127), hS128⟩
  ·
    rintro a129 w130 ⟨hE131, hS132⟩; clear hE10 hS6
    refine c_cond hE131 rfl (fun ht133 => ?_) (fun ht133 => ?_)
    ·
      have hE134 := hE131; rw [ht133] at hE134; clear hE131
      refine c_seq ?_
      refine c_reg ?_
      refine q_step (v := .bool false) hE134 (y_assign rfl) rfl rfl rfl ?_; intro a135 hE136; clear hE134
      refine c_nil ?_
      have hE137 := hE136.sub (L' := [(2, .bool false)]) ⟨rfl, trivial⟩; clear hE136
      refine p_tn ?_
      refine wp_ret ?_
      refine p_tr ?_
      have hF : F_isModalAlgebra ap0 ap1 = false := by unfold F_isModalAlgebra; rw [ht133]; first | done | rfl
      refine c_ret1 hE137 rfl rfl ?_
      exact ⟨(by rw [hF]; first | done | rfl), hS132.ext⟩
    ·
      obtain ⟨ht138, ht139⟩ := bor_f ht133
      have ht140 := bn_f ht138
      have hp141 := inR5_t ht140
      obtain ⟨ht142, ht143⟩ := bor_f ht139
      have ht144 := bn_f ht142
      have hp145 := of_decide_eq_true ht144
      have hE146 := hE131; rw [ht133] at hE146; clear hE131
      refine wp_skip ?_
      refine p_tn ?_
      refine c_seq ?_
      refine c_seq ?_
      refine c_reg ?_
      refine q_step (v := .pointer (some ⟨b2, 1, none⟩)) hE146 (y_field rfl (fun _ => by kernel_rfl)) rfl rfl rfl ?_; intro a147 hE148; clear hE146
      refine q_step (v := .slice ap1A ap1.length ap1C) hE148 (y_load (fun _ => by kernel_rfl) rfl (St.cell (i := 1) hS132 rfl rfl)) rfl rfl rfl ?_; intro a149 hE150; clear hE148
      refine q_step (v := .int .i64 (ap1.length : Int)) hE150 (y_len (e := 2) (by kernel_rfl) rfl) rfl rfl rfl ?_; intro a151 hE152; clear hE150
      refine q_step (v := .int .i64 0) hE152 (y_move rfl) rfl rfl rfl ?_; intro a153 hE154; clear hE152
      refine c_nil ?_
      have hE155 := hE154.sub (L' := [(1, .pointer (some ⟨b2, 0, none⟩)), (26, .int .i64 (ap1.length : Int)), (27, .int .i64 0)]) ⟨rfl, rfl, rfl, trivial⟩; clear hE154
      refine p_tn ?_
      refine c_cut1 (fun a' w' => isOk (F_isModalAlgebra_L1 ap1 (Int.toNat ((ap1.length : Int) - 0) + 1) 0) = true ∧ (0 ≤ (okD (F_isModalAlgebra_L1 ap1 (Int.toNat ((ap1.length : Int) - 0) + 1) 0))) ∧ ((okD (F_isModalAlgebra_L1 ap1 (Int.toNat ((ap1.length : Int) - 0) + 1) 0)) ≤ (ap1.length : Int)) ∧ E a' 64 [(1, .pointer (some ⟨b2, 0, none⟩)), (26, .int .i64 (ap1.length : Int)), (27, .int .i64 (okD (F_isModalAlgebra_L1 ap1 (Int.toNat ((ap1.length : Int) - 0) + 1) 0)))] ∧ St w w' [.rd 1 ap1A ap1.length ap1C ap1, .blk b2 #[.int .i64 ap0, .slice ap1A ap1.length ap1C] 54]) ?_ ?_
      ·
        refine wp_block ?_
        refine c_loop (fun r a' w' => ∃ t27 : Int, F_isModalAlgebra_L1 ap1 r t27 = F_isModalAlgebra_L1 ap1 (Int.toNat ((ap1.length : Int) - 0) + 1) 0 ∧ Int.toNat ((ap1.length : Int) - t27) < r ∧ (0 ≤ t27) ∧ (t27 ≤ (ap1.length : Int)) ∧ E a' 64 [(1, .pointer (some ⟨b2, 0, none⟩)), (26, .int .i64 (ap1.length : Int)), (27, .int .i64 t27)] ∧ St w w' [.rd 1 ap1A ap1.length ap1C ap1, .blk b2 #[.int .i64 ap0, .slice ap1A ap1.length ap1C] 54]) (r := (Int.toNat ((ap1.length : Int) - 0) + 1)) ?_ ?_
        · exact ⟨0, rfl, Nat.lt_succ_self _, (by first | omega | (simp only [List.length_replicate, sI_len]; omega) | (simp only [List.length_append, List.length_cons, List.length_nil, sI_len, cond_true, cond_false]; omega) | (simp only [List.length_append, List.length_cons, List.length_nil, sI_len, cond_eq_ite, apply_ite List.length]; split <;> simp only [List.length_append, List.length_cons, List.length_nil, sI_len] <;> omega) | grind), (by first | omega | (simp only [List.length_replicate, sI_len]; omega) | (simp only [List.length_append, List.length_cons, List.length_nil, sI_len, cond_true, cond_false]; omega) | (simp only [List.length_append, List.length_cons, List.length_nil, sI_len, cond_eq_ite, apply_ite List.length]; split <;> simp only [List.length_append, List.length_cons, List.length_nil, sI_len] <;> omega) | grind), (hE155.sub (L' := [(1, .pointer (some ⟨b2, 0, none⟩)), (26, .int .i64 (ap1.length : Int)), (27, .int .i64 0)]) ⟨rfl, rfl, rfl, trivial⟩), (St.pick (Γ' := [.rd 1 ap1A ap1.length ap1C ap1, .blk b2 #[.int .i64 ap0, .slice ap1A ap1.length ap1C] 54]) hS132 [0, 1] (by decide) rfl)⟩
        ·
          clear hE155 hS132
          rintro r165 a157 w158 ⟨t27, hT161, hr162, hi163, hi164, hE159, hS160⟩
          obtain ⟨r165, rfl⟩ : ∃ r', r165 = r' + 1 := ⟨r165 - 1, by omega⟩
          refine c_seq ?_
          refine c_reg ?_
          refine q_step (v := .bool (decide (t27 < (ap1.length : Int)))) hE159 (y_lss rfl rfl) rfl rfl rfl ?_; intro a166 hE167; clear hE159
          refine c_nil ?_
          have hE168 := hE167.sub (L' := [(1, .pointer (some ⟨b2, 0, none⟩)), (26, .int .i64 (ap1.length : Int)), (27, .int .i64 t27), (28, .bool (decide (t27 < (ap1.length : Int))))]) ⟨rfl, rfl, rfl, rfl, trivial⟩; clear hE167
          refine p_tn ?_
          refine c_seq ?_
          refine c_cond hE168 rfl (fun ht169 => ?_) (fun ht169 => ?_)
          ·
            have hp170 := of_decide_eq_true ht169
            have hE171 := hE168; rw [ht169] at hE171; clear hE168
            refine wp_skip ?_
            refine p_tn ?_
            refine c_seq ?_
            refine wp_block ?_
            refine c_seq ?_
            refine c_reg ?_
            refine q_step (v := .int .i64 t27) hE171 (y_move rfl) rfl rfl rfl ?_; intro a172 hE173; clear hE171
            refine q_step (v := .int .i64 t27) hE173 (y_assign rfl) rfl rfl rfl ?_; intro a174 hE175; clear hE173
            refine c_nil ?_
            have hE176 := hE175.sub (L' := [(1, .pointer (some ⟨b2, 0, none⟩)), (3, .int .i64 t27), (26, .int .i64 (ap1.length : Int)), (27, .int .i64 t27)]) ⟨rfl, rfl, rfl, rfl, trivial⟩; clear hE175
            refine p_tn ?_
            refine c_seq ?_
            refine c_reg ?_
            refine q_step (v := .int .i64 t27) hE176 (y_move rfl) rfl rfl rfl ?_; intro a177 hE178; clear hE176
            refine q_step (v := .int .i64 0) hE178 (y_move rfl) rfl rfl rfl ?_; intro a179 hE180; clear hE178
            refine c_nil ?_
            have hE181 := hE180.sub (L' := [(1, .pointer (some ⟨b2, 0, none⟩)), (3, .int .i64 t27), (26, .int .i64 (ap1.length : Int)), (27, .int .i64 t27), (30, .int .i64 t27), (31, .int .i64 0)]) ⟨rfl, rfl, rfl, rfl, rfl, rfl, trivial⟩; clear hE180
            refine p_tn ?_
            refine c_cut1 (fun a' w' => isOk (F_isModalAlgebra_L2 ap1 t27 (Int.toNat (t27 - 0) + 1) 0) = true ∧ (0 ≤ (okD (F_isModalAlgebra_L2 ap1 t27 (Int.toNat (t27 - 0) + 1) 0))) ∧ ((okD (F_isModalAlgebra_L2 ap1 t27 (Int.toNat (t27 - 0) + 1) 0)) ≤ t27) ∧ E a' 64 [(1, .pointer (some ⟨b2, 0, none⟩)), (3, .int .i64 t27), (26, .int .i64 (ap1.length : Int)), (27, .int .i64 t27), (30, .int .i64 t27), (31, .int .i64 (okD (F_isModalAlgebra_L2 ap1 t27 (Int.toNat (t27 - 0) + 1) 0)))] ∧ St w w' [.rd 1 ap1A ap1.length ap1C ap1, .blk b2 #[.int .i64 ap0, .slice ap1A ap1.length ap1C] 54]) ?_ ?_
            ·
              refine wp_block ?_
              refine c_loop (fun r a' w' => ∃ t31L2 : Int, F_isModalAlgebra_L2 ap1 t27 r t31L2 = F_isModalAlgebra_L2 ap1 t27 (Int.toNat (t27 - 0) + 1) 0 ∧ Int.toNat (t27 - t31L2) < r ∧ (0 ≤ t31L2) ∧ (t31L2 ≤ t27) ∧ E a' 64 [(1, .pointer (some ⟨b2, 0, none⟩)), (3, .int .i64 t27), (26, .int .i64 (ap1.length : Int)), (27, .int .i64 t27), (30, .int .i64 t27), (31, .int .i64 t31L2)] ∧ St w w' [.rd 1 ap1A ap1.length ap1C ap1, .blk b2 #[.int .i64 ap0, .slice ap1A ap1.length ap1C] 54]) (r := (Int.toNat (t27 - 0) + 1)) ?_ ?_
              · exact ⟨0, rfl, Nat.lt_succ_self _, (by first | omega | (simp only [List.length_replicate, sI_len]; omega) | (simp only [List.length_append, List.length_cons, List.length_nil, sI_len, cond_true, cond_false]; omega) | (simp only [List.length_append, List.length_cons, List.length_nil, sI_len, cond_eq_ite, apply_ite List.length]; split <;> simp only [List.length_append, List.length_cons, List.length_nil, sI_len] <;> omega) | grind), (by first | omega | (simp only [List.length_replicate, sI_len]; omega) | (simp only [List.length_append, List.length_cons, List.length_nil, sI_len, cond_true, cond_false]; omega) | (simp only [List.length_append, List.length_cons, List.length_nil, sI_len, cond_eq_ite, apply_ite List.length]; split <;> simp only [List.length_append, List.length_cons, List.length_nil, sI_len] <;> omega) | grind), (hE181.sub (L' := [(1, .pointer (some ⟨b2, 0, none⟩)), (3, .int .i64 t27), (26, .int .i64 (ap1.length : Int)), (27, .int .i64 t27), (30, .int .i64 t27), (31, .int .i64 0)]) ⟨rfl, rfl, rfl, rfl, rfl, rfl, trivial⟩), (St.pick (Γ' := [.rd 1 ap1A ap1.length ap1C ap1, .blk b2 #[.int .i64 ap0, .slice ap1A ap1.length ap1C] 54]) hS160 [0, 1] (by decide) rfl)⟩
              ·
                clear hE181 hS160
                rintro r191 a183 w184 ⟨t31L2, hT187, hr188, hi189, hi190, hE185, hS186⟩
                obtain ⟨r191, rfl⟩ : ∃ r', r191 = r' + 1 := ⟨r191 - 1, by omega⟩
                have hand := andI_le (m := t27) (k := t31L2) (by omega) (by omega) (by omega) (by omega)
                refine c_seq ?_
                refine c_reg ?_
                refine q_step (v := .bool (decide (t31L2 < t27))) hE185 (y_lss rfl rfl) rfl rfl rfl ?_; intro a192 hE193; clear hE185
                refine c_nil ?_
                have hE194 := hE193.sub (L' := [(1, .pointer (some ⟨b2, 0, none⟩)), (3, .int .i64 t27), (26, .int .i64 (ap1.length : Int)), (27, .int .i64 t27), (30, .int .i64 t27), (31, .int .i64 t31L2), (32, .bool (decide (t31L2 < t27)))]) ⟨rfl, rfl, rfl, rfl, rfl, rfl, rfl, trivial⟩; clear hE193
                refine p_tn ?_
                refine c_seq ?_
                refine c_cond hE194 rfl (fun ht195 => ?_) (fun ht195 => ?_)
                ·
                  have hp196 := of_decide_eq_true ht195
                  have hE197 := hE194; rw [ht195] at hE197; clear hE194
                  refine wp_skip ?_
                  refine p_tn ?_
                  refine c_seq ?_
                  refine wp_block ?_
                  refine c_seq ?_
                  refine c_reg ?_
                  refine q_step (v := .int .i64 t31L2) hE197 (y_move rfl) rfl rfl rfl ?_; intro a198 hE199; clear hE197
                  refine q_step (v := .int .i64 t31L2) hE199 (y_assign rfl) rfl rfl rfl ?_; intro a200 hE201; clear hE199
                  refine c_nil ?_
                  have hE202 := hE201.sub (L' := [(1, .pointer (some ⟨b2, 0, none⟩)), (3, .int .i64 t27), (4, .int .i64 t31L2), (26, .int .i64 (ap1.length : Int)), (27, .int .i64 t27), (30, .int .i64 t27), (31, .int .i64 t31L2)]) ⟨rfl, rfl, rfl, rfl, rfl, rfl, rfl, trivial⟩; clear hE201
                  refine p_tn ?_
                  refine c_seq ?_
                  refine d_start (fun w' => w'.cell? ⟨b2, 1, none⟩ = some (.slice ap1A ap1.length ap1C) ∧ w'.cell? (adr ap1A (Int.toNat (andI t27 t31L2))) = some (.int .i64 (gI ap1 (andI t27 t31L2))) ∧ w'.cell? ⟨b2, 1, none⟩ = some (.slice ap1A ap1.length ap1C) ∧ w'.cell? (adr ap1A (Int.toNat t27)) = some (.int .i64 (gI ap1 t27)) ∧ w'.cell? ⟨b2, 1, none⟩ = some (.slice ap1A ap1.length ap1C) ∧ w'.cell? (adr ap1A (Int.toNat t31L2)) = some (.int .i64 (gI ap1 t31L2)) ∧ True) [1, 6, 8, 11, 13, 16] 19 (by kernel_rfl) rfl ?_
                  intro w203 he204; have hS205 := St.go hS186 he204; clear hS186
                  refine d_pure (v := .pointer (some ⟨b2, 1, none⟩)) 0 rfl hE202 (y_field rfl (fun _ => by kernel_rfl)) rfl (by kernel_rfl) (by kernel_rfl) (by kernel_rfl) rfl rfl (fun _ _ _ h => h) ?_; intro a206 hE207; clear hE202
                  refine d_take (v := .slice ap1A ap1.length ap1C) 1 rfl hE207 ⟨(St.cell (i := 1) hS205 rfl rfl _ (Ext.refl _)), (RdS.elt (St.rdR (i := 0) hS205 rfl) (by omega) (by omega) _ (Ext.refl _)), (St.cell (i := 1) hS205 rfl rfl _ (Ext.refl _)), (RdS.elt (St.rdR (i := 0) hS205 rfl) (by omega) (by omega) _ (Ext.refl _)), (St.cell (i := 1) hS205 rfl rfl _ (Ext.refl _)), (RdS.elt (St.rdR (i := 0) hS205 rfl) (by omega) (by omega) _ (Ext.refl _)), trivial⟩ (y_load (fun _ => by kernel_rfl) rfl (fun _ h => h.1)) rfl rfl (by kernel_rfl) (by kernel_rfl) (by kernel_rfl) rfl rfl (fun _ _ _ h => h) ?_; intro a208 hE209; clear hE207
                  refine d_pure (v := .int .i64 t27) 2 rfl hE209 (y_move rfl) rfl (by kernel_rfl) (by kernel_rfl) (by kernel_rfl) rfl rfl (fun _ _ _ h => h) ?_; intro a210 hE211; clear hE209
                  refine d_pure (v := .int .i64 t31L2) 3 rfl hE211 (y_move rfl) rfl (by kernel_rfl) (by kernel_rfl) (by kernel_rfl) rfl rfl (fun _ _ _ h => h) ?_; intro a212 hE213; clear hE211
                  refine d_pure (v := .int .i64 (andI t27 t31L2)) 4 rfl hE213 (y_and rfl rfl) rfl (by kernel_rfl) (by kernel_rfl) (by kernel_rfl) rfl rfl (fun _ _ _ h => h) ?_; intro a214 hE215; clear hE213
                  refine d_pure (v := .pointer (some (adr ap1A (Int.toNat (andI t27 t31L2))))) 5 rfl hE215 (y_idx (by kernel_rfl) (fun _ => by kernel_rfl) rfl rfl (RdS.isS (m := andI t27 t31L2) (St.rdR (i := 0) hS205 rfl) (by omega) (by omega)) (by omega) (by omega) (Nat.mul_one _).symm) rfl (by kernel_rfl) (by kernel_rfl) (by kernel_rfl) rfl rfl (fun _ _ _ h => h) ?_; intro a216 hE217; clear hE215
                  refine d_take (v := .int .i64 (gI ap1 (andI t27 t31L2))) 6 rfl hE217 ⟨(St.cell (i := 1) hS205 rfl rfl _ (Ext.refl _)), (RdS.elt (St.rdR (i := 0) hS205 rfl) (by omega) (by omega) _ (Ext.refl _)), (St.cell (i := 1) hS205 rfl rfl _ (Ext.refl _)), (RdS.elt (St.rdR (i := 0) hS205 rfl) (by omega) (by omega) _ (Ext.refl _)), (St.cell (i := 1) hS205 rfl rfl _ (Ext.refl _)), (RdS.elt (St.rdR (i := 0) hS205 rfl) (by omega) (by omega) _ (Ext.refl _)), trivial⟩ (y_load (fun _ => by kernel_rfl) rfl (fun _ h => h.2.1)) rfl rfl (by kernel_rfl) (by kernel_rfl) (by kernel_rfl) rfl rfl (fun _ _ _ h => h) ?_; intro a218 hE219; clear hE217
                  refine d_pure (v := .pointer (some ⟨b2, 1, none⟩)) 7 rfl hE219 (y_field rfl (fun _ => by kernel_rfl)) rfl (by kernel_rfl) (by kernel_rfl) (by kernel_rfl) rfl rfl (fun _ _ _ h => h) ?_; intro a220 hE221; clear hE219
                  refine d_take (v := .slice ap1A ap1.length ap1C) 8 rfl hE221 ⟨(St.cell (i := 1) hS205 rfl rfl _ (Ext.refl _)), (RdS.elt (St.rdR (i := 0) hS205 rfl) (by omega) (by omega) _ (Ext.refl _)), (St.cell (i := 1) hS205 rfl rfl _ (Ext.refl _)), (RdS.elt (St.rdR (i := 0) hS205 rfl) (by omega) (by omega) _ (Ext.refl _)), (St.cell (i := 1) hS205 rfl rfl _ (Ext.refl _)), (RdS.elt (St.rdR (i := 0) hS205 rfl) (by omega) (by omega) _ (Ext.refl _)), trivial⟩ (y_load (fun _ => by kernel_rfl) rfl (fun _ h => h.2.2.1)) rfl rfl (by kernel_rfl) (by kernel_rfl) (by kernel_rfl) rfl rfl (fun _ _ _ h => h) ?_; intro a222 hE223; clear hE221
                  refine d_pure (v := .int .i64 t27) 9 rfl hE223 (y_move rfl) rfl (by kernel_rfl) (by kernel_rfl) (by kernel_rfl) rfl rfl (fun _ _ _ h => h) ?_; intro a224 hE225; clear hE223
                  refine d_pure (v := .pointer (some (adr ap1A (Int.toNat t27)))) 10 rfl hE225 (y_idx (by kernel_rfl) (fun _ => by kernel_rfl) rfl rfl (RdS.isS (m := t27) (St.rdR (i := 0) hS205 rfl) (by omega) (by omega)) (by omega) (by omega) (Nat.mul_one _).symm) rfl (by kernel_rfl) (by kernel_rfl) (by kernel_rfl) rfl rfl (fun _ _ _ h => h) ?_; intro a226 hE227; clear hE225
                  refine d_take (v := .int .i64 (gI ap1 t27)) 11 rfl hE227 ⟨(St.cell (i := 1) hS205 rfl rfl _ (Ext.refl _)), (RdS.elt (St.rdR (i := 0) hS205 rfl) (by omega) (by omega) _ (Ext.refl _)), (St.cell (i := 1) hS205 rfl rfl _ (Ext.refl _)), (RdS.elt (St.rdR (i := 0) hS205 rfl) (by omega) (by omega) _ (Ext.refl _)), (St.cell (i := 1) hS205 rfl rfl _ (Ext.refl _)), (RdS.elt (St.rdR (i := 0) hS205 rfl) (by omega) (by omega) _ (Ext.refl _)), trivial⟩ (y_load (fun _ => by kernel_rfl) rfl (fun _ h => h.2.2.2.1)) rfl rfl (by kernel_rfl) (by kernel_rfl) (by kernel_rfl) rfl rfl (fun _ _ _ h => h) ?_; intro a228 hE229; clear hE227
                  refine d_pure (v := .pointer (some ⟨b2, 1, none⟩)) 12 rfl hE229 (y_field rfl (fun _ => by kernel_rfl)) rfl (by kernel_rfl) (by kernel_rfl) (by kernel_rfl) rfl rfl (fun _ _ _ h => h) ?_; intro a230 hE231; clear hE229
                  refine d_take (v := .slice ap1A ap1.length ap1C) 13 rfl hE231 ⟨(St.cell (i := 1) hS205 rfl rfl _ (Ext.refl _)), (RdS.elt (St.rdR (i := 0) hS205 rfl) (by omega) (by omega) _ (Ext.refl _)), (St.cell (i := 1) hS205 rfl rfl _ (Ext.refl _)), (RdS.elt (St.rdR (i := 0) hS205 rfl) (by omega) (by omega) _ (Ext.refl _)), (St.cell (i := 1) hS205 rfl rfl _ (Ext.refl _)), (RdS.elt (St.rdR (i := 0) hS205 rfl) (by omega) (by omega) _ (Ext.refl _)), trivial⟩ (y_load (fun _ => by kernel_rfl) rfl (fun _ h => h.2.2.2.2.1)) rfl rfl (by kernel_rfl) (by kernel_rfl) (by kernel_rfl) rfl rfl (fun _ _ _ h => h) ?_; intro a232 hE233; clear hE231
                  refine d_pure (v := .int .i64 t31L2) 14 rfl hE233 (y_move rfl) rfl (by kernel_rfl) (by kernel_rfl) (by kernel_rfl) rfl rfl (fun _ _ _ h => h) ?_; intro a234 hE235; clear hE233
                  refine d_pure (v := .pointer (some (adr ap1A (Int.toNat t31L2)))) 15 rfl hE235 (y_idx (by kernel_rfl) (fun _ => by kernel_rfl) rfl rfl (RdS.isS (m := t31L2) (St.rdR (i := 0) hS205 rfl) (by omega) (by omega)) (by omega) (by omega) (Nat.mul_one _).symm) rfl (by kernel_rfl) (by kernel_rfl) (by kernel_rfl) rfl rfl (fun _ _ _ h => h) ?_; intro a236 hE237; clear hE235
                  refine d_take (v := .int .i64 (gI ap1 t31L2)) 16 rfl hE237 ⟨(St.cell (i := 1) hS205 rfl rfl _ (Ext.refl _)), (RdS.elt (St.rdR (i := 0) hS205 rfl) (by omega) (by omega) _ (Ext.refl _)), (St.cell (i := 1) hS205 rfl rfl _ (Ext.refl _)), (RdS.elt (St.rdR (i := 0) hS205 rfl) (by omega) (by omega) _ (Ext.refl _)), (St.cell (i := 1) hS205 rfl rfl _ (Ext.refl _)), (RdS.elt (St.rdR (i := 0) hS205 rfl) (by omega) (by omega) _ (Ext.refl _)), trivial⟩ (y_load (fun _ => by kernel_rfl) rfl (fun _ h => h.2.2.2.2.2.1)) rfl rfl (by kernel_rfl) (by kernel_rfl) (by kernel_rfl) rfl rfl (fun _ _ _ h => h) ?_; intro a238 hE239; clear hE237
                  refine d_pure (v := .int .i64 (andI (gI ap1 t27) (gI ap1 t31L2))) 17 rfl hE239 (y_and rfl rfl) rfl (by kernel_rfl) (by kernel_rfl) (by kernel_rfl) rfl rfl (fun _ _ _ h => h) ?_; intro a240 hE241; clear hE239
                  refine d_pure (v := .bool (!decide ((gI ap1 (andI t27 t31L2)) = (andI (gI ap1 t27) (gI ap1 t31L2))))) 18 rfl hE241 (y_neq rfl rfl) rfl (by kernel_rfl) (by kernel_rfl) (by kernel_rfl) rfl rfl (fun _ _ _ h => h) ?_; intro a242 hE243; clear hE241
                  refine d_done (by kernel_rfl) ?_
                  have hE244 := hE243.sub (L' := [(1, .pointer (some ⟨b2, 0, none⟩)), (3, .int .i64 t27), (26, .int .i64 (ap1.length : Int)), (27, .int .i64 t27), (30, .int .i64 t27), (31, .int .i64 t31L2), (52, .bool (!decide ((gI ap1 (andI t27 t31L2)) = (andI (gI ap1 t27) (gI ap1 t31L2)))))]) ⟨rfl, rfl, rfl, rfl, rfl, rfl, rfl, trivial⟩; clear hE243
                  refine p_tn ?_
                  refine c_cond hE244 rfl (fun ht245 => ?_) (fun ht245 => ?_)
                  ·
                    have ht246 := bn_t ht245
                    have hp247 := of_decide_eq_false ht246
                    have hE248 := hE244; rw [ht245] at hE248; clear hE244
                    refine c_seq ?_
                    refine c_reg ?_
                    refine q_step (v := .bool false) hE248 (y_assign rfl) rfl rfl rfl ?_; intro a249 hE250; clear hE248
                    refine c_nil ?_
                    have hE251 := hE250.sub (L' := [(2, .bool false)]) ⟨rfl, trivial⟩; clear hE250
                    refine p_tn ?_
                    refine wp_ret ?_
                    refine p_br ?_
                    refine p_tr ?_
                    have hX252 : F_isModalAlgebra_L2 ap1 t27 (Int.toNat (t27 - 0) + 1) 0 = .error false := hT187.symm.trans (show F_isModalAlgebra_L2b ap1 t27 (F_isModalAlgebra_L2 ap1 t27 r191) t31L2 = .error false by unfold F_isModalAlgebra_L2b; rw [ht245, ht195]; first | done | rfl)
                    refine p_tr (p_br (p_tr ?_))
                    refine p_br ?_
                    refine p_tr ?_
                    have hX253 : F_isModalAlgebra_L1 ap1 (Int.toNat ((ap1.length : Int) - 0) + 1) 0 = .error false := hT161.symm.trans (show F_isModalAlgebra_L1b ap1 (F_isModalAlgebra_L1 ap1 r165) t27 = .error false by unfold F_isModalAlgebra_L1b; rw [hX252, ht169]; first | done | rfl)
                    refine p_tr (p_br (p_tr ?_))
                    refine p_tr ?_
                    have hF : F_isModalAlgebra ap0 ap1 = false := by unfold F_isModalAlgebra; rw [hX253, ht133]; first | done | rfl
                    refine c_ret1 hE251 rfl rfl ?_
                    exact ⟨(by rw [hF]; first | done | rfl), hS205.ext⟩
                  ·
                    have ht254 := bn_f ht245
                    have hp255 := of_decide_eq_true ht254
                    have hE256 := hE244; rw [ht245] at hE256; clear hE244
                    refine wp_skip ?_
                    refine p_bn ?_
                    refine p_tn ?_
                    refine c_reg ?_
                    refine q_step (v := .int .i64 (t31L2 + 1)) hE256 (y_add rfl rfl ⟨(by omega), (by omega)⟩) rfl rfl rfl ?_; intro a257 hE258; clear hE256
                    refine q_step (v := .int .i64 (t31L2 + 1)) hE258 (y_move rfl) rfl rfl rfl ?_; intro a259 hE260; clear hE258
                    refine c_nil ?_
                    have hE261 := hE260.sub (L' := [(1, .pointer (some ⟨b2, 0, none⟩)), (3, .int .i64 t27), (26, .int .i64 (ap1.length : Int)), (27, .int .i64 t27), (30, .int .i64 t27), (31, .int .i64 (t31L2 + 1))]) ⟨rfl, rfl, rfl, rfl, rfl, rfl, trivial⟩; clear hE260
                    refine p_tn ⟨r191, Nat.lt_succ_self _, t31L2 + 1, (hT187.symm.trans (show F_isModalAlgebra_L2b ap1 t27 (F_isModalAlgebra_L2 ap1 t27 r191) t31L2 = F_isModalAlgebra_L2 ap1 t27 r191 (t31L2 + 1) by unfold F_isModalAlgebra_L2b; rw [ht245, ht195]; first | done | rfl)).symm, (by omega), (by first | omega | (simp only [List.length_replicate, sI_len]; omega) | (simp only [List.length_append, List.length_cons, List.length_nil, sI_len, cond_true, cond_false]; omega) | (simp only [List.length_append, List.length_cons, List.length_nil, sI_len, cond_eq_ite, apply_ite List.length]; split <;> simp only [List.length_append, List.length_cons, List.length_nil, sI_len] <;> omega) | grind), (by first | omega | (simp only [List.length_replicate, sI_len]; omega) | (simp only [List.length_append, List.length_cons, List.length_nil, sI_len, cond_true, cond_false]; omega) | (simp only [List.length_append, List.length_cons, List.length_nil, sI_len, cond_eq_ite, apply_ite List.length]; split <;> simp only [List.length_append, List.length_cons, List.length_nil, sI_len] <;> omega) | grind), (hE261.sub (L' := [(1, .pointer (some ⟨b2, 0, none⟩)), (3, .int .i64 t27), (26, .int .i64 (ap1.length : Int)), (27, .int .i64 t27), (30, .int .i64 t27), (31, .int .i64 (t31L2 + 1))]) ⟨rfl, rfl, rfl, rfl, rfl, rfl, trivial⟩), (St.pick (Γ' := [.rd 1 ap1A ap1.length ap1C ap1, .blk b2 #[.int .i64 ap0, .slice ap1A ap1.length ap1C] 54]) hS205 [0, 1] (by decide) rfl)⟩
                ·
                  have hp262 := of_decide_eq_false ht195
                  have hE263 := hE194; rw [ht195] at hE263; clear hE194
                  refine wp_exit ?_
                  refine p_te ?_
                  have hX264 : F_isModalAlgebra_L2 ap1 t27 (Int.toNat (t27 - 0) + 1) 0 = .ok t31L2 := hT187.symm.trans (show F_isModalAlgebra_L2b ap1 t27 (F_isModalAlgebra_L2 ap1 t27 r191) t31L2 = .ok t31L2 by unfold F_isModalAlgebra_L2b; rw [ht195]; first | done | rfl)
                  refine p_te (p_be (p_tn ?_))
                  exact ⟨(by rw [hX264]; rfl), (by rw [hX264]; exact (show 0 ≤ t31L2 from (by first | omega | (simp only [List.length_replicate, sI_len]; omega) | (simp only [List.length_append, List.length_cons, List.length_nil, sI_len, cond_true, cond_false]; omega) | (simp only [List.length_append, List.length_cons, List.length_nil, sI_len, cond_eq_ite, apply_ite List.length]; split <;> simp only [List.length_append, List.length_cons, List.length_nil, sI_len] <;> omega) | grind))), (by rw [hX264]; exact (show t31L2 ≤ t27 from (by first | omega | (simp only [List.length_replicate, sI_len]; omega) | (simp only [List.length_append, List.length_cons, List.length_nil, sI_len, cond_true, cond_false]; omega) | (simp only [List.length_append, List.length_cons, List.length_nil, sI_len, cond_eq_ite, apply_ite List.length]; split <;> simp only [List.length_append, List.length_cons, List.length_nil, sI_len] <;> omega) | grind))), (by rw [hX264]; exact (hE263.sub (L' := [(1, .pointer (some ⟨b2, 0, none⟩)), (3, .int .i64 t27), (26, .int .i64 (ap1.length : Int)), (27, .int .i64 t27), (30, .int .i64 t27), (31, .int .i64 t31L2)]) ⟨rfl, rfl, rfl, rfl, rfl, rfl, trivial⟩)), (St.pick (Γ' := [.rd 1 ap1A ap1.length ap1C ap1, .blk b2 #[.int .i64 ap0, .slice ap1A ap1.length ap1C] 54]) hS186 [0, 1] (by decide) rfl)⟩
            ·
              rintro a265 w266 ⟨hO269, hi270, hi271, hE267, hS268⟩; clear hE181 hS160
              refine p_bn ?_
              refine p_tn ?_
              refine c_reg ?_
              refine q_step (v := .int .i64 (t27 + 1)) hE267 (y_add rfl rfl ⟨(by omega), (by omega)⟩) rfl rfl rfl ?_; intro a272 hE273; clear hE267
              refine q_step (v := .int .i64 (t27 + 1)) hE273 (y_move rfl) rfl rfl rfl ?_; intro a274 hE275; clear hE273
              refine c_nil ?_
              have hE276 := hE275.sub (L' := [(1, .pointer (some ⟨b2, 0, none⟩)), (26, .int .i64 (ap1.length : Int)), (27, .int .i64 (t27 + 1))]) ⟨rfl, rfl, rfl, trivial⟩; clear hE275
              refine p_tn ⟨r165, Nat.lt_succ_self _, t27 + 1, (hT161.symm.trans (show F_isModalAlgebra_L1b ap1 (F_isModalAlgebra_L1 ap1 r165) t27 = F_isModalAlgebra_L1 ap1 r165 (t27 + 1) by unfold F_isModalAlgebra_L1b; rw [hO269, ht169]; first | done | rfl)).symm, (by omega), (by first | omega | (simp only [List.length_replicate, sI_len]; omega) | (simp only [List.length_append, List.length_cons, List.length_nil, sI_len, cond_true, cond_false]; omega) | (simp only [List.length_append, List.length_cons, List.length_nil, sI_len, cond_eq_ite, apply_ite List.length]; split <;> simp only [List.length_append, List.length_cons, List.length_nil, sI_len] <;> omega) | grind), (by first | omega | (simp only [List.length_replicate, sI_len]; omega) | (simp only [List.length_append, List.length_cons, List.length_nil, sI_len, cond_true, cond_false]; omega) | (simp only [List.length_append, List.length_cons, List.length_nil, sI_len, cond_eq_ite, apply_ite List.length]; split <;> simp only [List.length_append, List.length_cons, List.length_nil, sI_len] <;> omega) | grind), (hE276.sub (L' := [(1, .pointer (some ⟨b2, 0, none⟩)), (26, .int .i64 (ap1.length : Int)), (27, .int .i64 (t27 + 1))]) ⟨rfl, rfl, rfl, trivial⟩), (St.pick (Γ' := [.rd 1 ap1A ap1.length ap1C ap1, .blk b2 #[.int .i64 ap0, .slice ap1A ap1.length ap1C] 54]) hS268 [0, 1] (by decide) rfl)⟩
          ·
            have hp277 := of_decide_eq_false ht169
            have hE278 := hE168; rw [ht169] at hE278; clear hE168
            refine wp_exit ?_
            refine p_te ?_
            have hX279 : F_isModalAlgebra_L1 ap1 (Int.toNat ((ap1.length : Int) - 0) + 1) 0 = .ok t27 := hT161.symm.trans (show F_isModalAlgebra_L1b ap1 (F_isModalAlgebra_L1 ap1 r165) t27 = .ok t27 by unfold F_isModalAlgebra_L1b; rw [ht169]; first | done | rfl)
            refine p_te (p_be (p_tn ?_))
            exact ⟨(by rw [hX279]; rfl), (by rw [hX279]; exact (show 0 ≤ t27 from (by first | omega | (simp only [List.length_replicate, sI_len]; omega) | (simp only [List.length_append, List.length_cons, List.length_nil, sI_len, cond_true, cond_false]; omega) | (simp only [List.length_append, List.length_cons, List.length_nil, sI_len, cond_eq_ite, apply_ite List.length]; split <;> simp only [List.length_append, List.length_cons, List.length_nil, sI_len] <;> omega) | grind))), (by rw [hX279]; exact (show t27 ≤ (ap1.length : Int) from (by first | omega | (simp only [List.length_replicate, sI_len]; omega) | (simp only [List.length_append, List.length_cons, List.length_nil, sI_len, cond_true, cond_false]; omega) | (simp only [List.length_append, List.length_cons, List.length_nil, sI_len, cond_eq_ite, apply_ite List.length]; split <;> simp only [List.length_append, List.length_cons, List.length_nil, sI_len] <;> omega) | grind))), (by rw [hX279]; exact (hE278.sub (L' := [(1, .pointer (some ⟨b2, 0, none⟩)), (26, .int .i64 (ap1.length : Int)), (27, .int .i64 t27)]) ⟨rfl, rfl, rfl, trivial⟩)), (St.pick (Γ' := [.rd 1 ap1A ap1.length ap1C ap1, .blk b2 #[.int .i64 ap0, .slice ap1A ap1.length ap1C] 54]) hS160 [0, 1] (by decide) rfl)⟩
      ·
        rintro a280 w281 ⟨hO284, hi285, hi286, hE282, hS283⟩; clear hE155 hS132
        refine p_tn ?_
        refine c_seq ?_
        refine d_start (fun w' => w'.cell? ⟨b2, 1, none⟩ = some (.slice ap1A ap1.length ap1C) ∧ w'.heap[b2]? = some (.cells #[.int .i64 ap0, .slice ap1A ap1.length ap1C] 54 (0, 0)) ∧ w'.cell? (adr ap1A (Int.toNat (fullI ap0))) = some (.int .i64 (gI ap1 (fullI ap0))) ∧ w'.heap[b2]? = some (.cells #[.int .i64 ap0, .slice ap1A ap1.length ap1C] 54 (0, 0)) ∧ True) [1, 2, 5, 6] 10 (by kernel_rfl) rfl ?_
        intro w287 he288; have hS289 := St.go hS283 he288; clear hS283
        refine d_pure (v := .pointer (some ⟨b2, 1, none⟩)) 0 rfl hE282 (y_field rfl (fun _ => by kernel_rfl)) rfl (by kernel_rfl) (by kernel_rfl) (by kernel_rfl) rfl rfl (fun _ _ _ h => h) ?_; intro a290 hE291; clear hE282
        refine d_take (v := .slice ap1A ap1.length ap1C) 1 rfl hE291 ⟨(St.cell (i := 1) hS289 rfl rfl _ (Ext.refl _)), (St.row (i := 1) hS289 rfl _ (Ext.refl _)), (RdS.elt (St.rdR (i := 0) hS289 rfl) (by omega) (by omega) _ (Ext.refl _)), (St.row (i := 1) hS289 rfl _ (Ext.refl _)), trivial⟩ (y_load (fun _ => by kernel_rfl) rfl (fun _ h => h.1)) rfl rfl (by kernel_rfl) (by kernel_rfl) (by kernel_rfl) rfl rfl (fun _ _ _ h => h) ?_; intro a292 hE293; clear hE291
        refine d_take (v := .agg #[.int .i64 ap0, .slice ap1A ap1.length ap1C]) 2 rfl hE293 ⟨(St.cell (i := 1) hS289 rfl rfl _ (Ext.refl _)), (St.row (i := 1) hS289 rfl _ (Ext.refl _)), (RdS.elt (St.rdR (i := 0) hS289 rfl) (by omega) (by omega) _ (Ext.refl _)), (St.row (i := 1) hS289 rfl _ (Ext.refl _)), trivial⟩ (y_loadS Try.underlying54 rfl (by kernel_rfl) rfl (fun _ h => h.2.1)) rfl rfl (by kernel_rfl) (by kernel_rfl) (by kernel_rfl) rfl rfl (fun _ _ _ h => h) ?_; intro a294 hE295; clear hE293
        refine d_take (v := .agg #[.int .i64 ap0, .slice ap1A ap1.length ap1C]) 6 rfl hE295 ⟨(St.cell (i := 1) hS289 rfl rfl _ (Ext.refl _)), (St.row (i := 1) hS289 rfl _ (Ext.refl _)), (RdS.elt (St.rdR (i := 0) hS289 rfl) (by omega) (by omega) _ (Ext.refl _)), (St.row (i := 1) hS289 rfl _ (Ext.refl _)), trivial⟩ (y_loadS Try.underlying54 rfl (by kernel_rfl) rfl (fun _ h => h.2.2.2.1)) rfl rfl (by kernel_rfl) (by kernel_rfl) (by kernel_rfl) rfl rfl (fun _ _ _ h => h) ?_; intro a296 hE297; clear hE295
        refine d_only 3 (by kernel_rfl) rfl hE297 rfl (l_call (f := 85) (argv := [.agg #[.int .i64 ap0, .slice ap1A ap1.length ap1C]]) hE297 (fun _ => cf_ModalAlgebra_full _ _) rfl rfl (d_ModalAlgebra_full ap0 ap1A ap1.length ap1C ap1 w287 (St.rdR (i := 0) hS289 rfl) (by omega) (by omega)) ?_)
        rintro _ w299 ⟨rfl, he303⟩ a300 hE301; clear hE297
        have hf304 := fullI_bd (n := ap0) (by omega) (by omega)
        have hS302 := St.go hS289 he303; clear hS289
        refine ⟨fun _ _ => ⟨(St.cell (i := 1) hS302 rfl rfl _ (Ext.refl _)), (St.row (i := 1) hS302 rfl _ (Ext.refl _)), (RdS.elt (St.rdR (i := 0) hS302 rfl) (by omega) (by omega) _ (Ext.refl _)), (St.row (i := 1) hS302 rfl _ (Ext.refl _)), trivial⟩, ?_⟩
        refine d_pure (v := .pointer (some (adr ap1A (Int.toNat (fullI ap0))))) 4 rfl hE301 (y_idx (by kernel_rfl) (fun _ => by kernel_rfl) rfl rfl (RdS.isS (m := fullI ap0) (St.rdR (i := 0) hS302 rfl) (by omega) (by omega)) (by omega) (by omega) (Nat.mul_one _).symm) rfl (by kernel_rfl) (by kernel_rfl) (by kernel_rfl) rfl rfl (fun _ _ _ h => h) ?_; intro a305 hE306; clear hE301
        refine d_take (v := .int .i64 (gI ap1 (fullI ap0))) 5 rfl hE306 ⟨(St.cell (i := 1) hS302 rfl rfl _ (Ext.refl _)), (St.row (i := 1) hS302 rfl _ (Ext.refl _)), (RdS.elt (St.rdR (i := 0) hS302 rfl) (by omega) (by omega) _ (Ext.refl _)), (St.row (i := 1) hS302 rfl _ (Ext.refl _)), trivial⟩ (y_load (fun _ => by kernel_rfl) rfl (fun _ h => h.2.2.1)) rfl rfl (by kernel_rfl) (by kernel_rfl) (by kernel_rfl) rfl rfl (fun _ _ _ h => h) ?_; intro a307 hE308; clear hE306
        refine d_only 7 (by kernel_rfl) rfl hE308 rfl (l_call (f := 85) (argv := [.agg #[.int .i64 ap0, .slice ap1A ap1.length ap1C]]) hE308 (fun _ => cf_ModalAlgebra_full _ _) rfl rfl (d_ModalAlgebra_full ap0 ap1A ap1.length ap1C ap1 w299 (St.rdR (i := 0) hS302 rfl) (by omega) (by omega)) ?_)
        rintro _ w310 ⟨rfl, he314⟩ a311 hE312; clear hE308
        have hf315 := fullI_bd (n := ap0) (by omega) (by omega)
        have hS313 := St.go hS302 he314; clear hS302
        refine ⟨fun _ _ => ⟨(St.cell (i := 1) hS313 rfl rfl _ (Ext.refl _)), (St.row (i := 1) hS313 rfl _ (Ext.refl _)), (RdS.elt (St.rdR (i := 0) hS313 rfl) (by omega) (by omega) _ (Ext.refl _)), (St.row (i := 1) hS313 rfl _ (Ext.refl _)), trivial⟩, ?_⟩
        refine d_pure (v := .bool (decide ((gI ap1 (fullI ap0)) = (fullI ap0)))) 8 rfl hE312 (y_eql rfl rfl) rfl (by kernel_rfl) (by kernel_rfl) (by kernel_rfl) rfl rfl (fun _ _ _ h => h) ?_; intro a316 hE317; clear hE312
        refine d_pure (v := .bool (decide ((gI ap1 (fullI ap0)) = (fullI ap0)))) 9 rfl hE317 (y_assign rfl) rfl (by kernel_rfl) (by kernel_rfl) (by kernel_rfl) rfl rfl (fun _ _ _ h => h) ?_; intro a318 hE319; clear hE317
        refine d_done (by kernel_rfl) ?_
        have hE320 := hE319.sub (L' := [(2, .bool (decide ((gI ap1 (fullI ap0)) = (fullI ap0))))]) ⟨rfl, trivial⟩; clear hE319
        refine p_tn ?_
        refine wp_ret ?_
        have hF : F_isModalAlgebra ap0 ap1 = decide ((gI ap1 (fullI ap0)) = (fullI ap0)) := by unfold F_isModalAlgebra; rw [hO284, ht133]; first | done | rfl
        refine c_ret1 hE320 rfl rfl ?_
        exact ⟨(by rw [hF]; first | done | rfl), hS313.ext⟩

theorem l15L2_false (ap1 : List Int) (x : Int) : ∀ (r : Nat) (y : Int), isOk (F_l15Is_L2 ap1 x r y) = false → errD (F_l15Is_L2 ap1 x r y) = false := by
  intro r
  induction r with
  | zero => intro y h; cases h
  | succ r ih =>
    intro y
    show isOk (F_l15Is_L2b ap1 x _ y) = false → errD (F_l15Is_L2b ap1 x _ y) = false
    unfold F_l15Is_L2b
    cases decide (y < x)
    · intro h; cases h
    · cases (!decide ((gI ap1 (andI x y)) = (andI (gI ap1 x) (gI ap1 y))))
      · exact ih _
      · intro _; rfl
theorem l15L1_false (ap0 : Int) (ap1 : List Int) : ∀ (r : Nat) (x : Int), isOk (F_l15Is_L1 ap0 ap1 r x) = false → errD (F_l15Is_L1 ap0 ap1 r x) = false := by
  intro r
  induction r with
  | zero => intro y h; cases h
  | succ r ih =>
    intro x
    show isOk (F_l15Is_L1b ap0 ap1 _ x) = false → errD (F_l15Is_L1b ap0 ap1 _ x) = false
    unfold F_l15Is_L1b
    cases decide (x ≤ fullI ap0)
    · intro h; cases h
    · cases h2 : isOk (F_l15Is_L2 ap1 x (Int.toNat (x - 0) + 1) 0)
      · intro _; exact l15L2_false ap1 x _ _ h2
      · exact ih _
theorem isMod_loop2 (ap1 : List Int) (x : Int) (r : Nat) (y : Int) : F_isModalAlgebra_L2 ap1 x r y = F_l15Is_L2 ap1 x r y := by
  induction r generalizing y with
  | zero => rfl
  | succ r ih =>
    show F_isModalAlgebra_L2b ap1 x _ y = F_l15Is_L2b ap1 x _ y
    unfold F_isModalAlgebra_L2b F_l15Is_L2b
    rw [ih]
theorem isMod_loop1 (ap0 : Int) (ap1 : List Int) (hl : (ap1.length : Int) = fullI ap0 + 1) (r : Nat) (x : Int) : F_isModalAlgebra_L1 ap1 r x = F_l15Is_L1 ap0 ap1 r x := by
  induction r generalizing x with
  | zero => rfl
  | succ r ih =>
    show F_isModalAlgebra_L1b ap1 _ x = F_l15Is_L1b ap0 ap1 _ x
    unfold F_isModalAlgebra_L1b F_l15Is_L1b
    rw [ih, isMod_loop2, show decide (x < (ap1.length : Int)) = decide (x ≤ fullI ap0) from decide_eq_decide.2 (by omega)]
theorem isModal_eq (ap0 : Int) (ap1 : List Int) : F_isModalAlgebra ap0 ap1 = F_l15Is ap0 ap1 := by
  unfold F_isModalAlgebra F_l15Is
  rw [show F_inRange ap0 0 5 = F_l01In ap0 0 5 from rfl]
  by_cases h : 0 ≤ ap0 ∧ ap0 ≤ 5
  · have e1 : F_l01In ap0 0 5 = true := by unfold F_l01In; simp [h.1, h.2]
    have e2 : F_z_ContainsFunc ap1 (fun x0 => F_isModalAlgebra_k1 x0 ap0 ap1) = !F_l01Masks ap0 ap1 := by
      rw [contains_eq, masks_eq, List.all_eq_not_any_not, Bool.not_not]; rfl
    have e3 : decide ((ap1.length : Int) = (fullI ap0 + 1)) = decide ((ap1.length : Int) = powI ap0) := decide_eq_decide.2 (by rw [fullI_pow]; omega)
    rw [e1, e2, e3]
    by_cases hl : (ap1.length : Int) = powI ap0
    · have hl' : (ap1.length : Int) = fullI ap0 + 1 := by rw [fullI_pow]; omega
      rw [isMod_loop1 ap0 ap1 hl', show Int.toNat ((ap1.length : Int) - 0) = Int.toNat (fullI ap0 + 1 - 0) by rw [hl']]
      cases F_l01Masks ap0 ap1
      · simp
      · simp only [decide_eq_true hl, Bool.not_true, Bool.or_false, Bool.false_or, cond_false]
        have hs := l15L1_false ap0 ap1 (Int.toNat (fullI ap0 + 1 - 0) + 1) 0
        cases hd : decide (gI ap1 (fullI ap0) = fullI ap0)
        · simp only [Bool.not_false, cond_true]
          cases ho : isOk (F_l15Is_L1 ap0 ap1 (Int.toNat (fullI ap0 + 1 - 0) + 1) 0)
          · simp only [cond_false]; exact hs ho
          · rfl
        · rfl
    · rw [decide_eq_false hl]; rfl
  · have e1 : F_l01In ap0 0 5 = false := by
      cases e : F_l01In ap0 0 5
      · rfl
      · exact absurd (F_l01In_t e) h
    rw [e1]; rfl

theorem isModal_t {ap0 : Int} {ap1 : List Int} (h : F_isModalAlgebra ap0 ap1 = true) : ((0 ≤ ap0 ∧ ap0 ≤ 5) ∧ 0 ≤ fullI ap0 ∧ fullI ap0 ≤ 31) ∧ (ap1.length : Int) = fullI ap0 + 1 ∧ ∀ m : Int, 0 ≤ m → m < (ap1.length : Int) → 0 ≤ gI ap1 m ∧ gI ap1 m ≤ fullI ap0 := by
  rw [isModal_eq] at h; exact l15Is_t h

end Go.Proofs.Ytejfjcjdilbkdaa
