/- GE: models and contracts, printed by wip/gen/gen.py -/
import Derived.Test.YtlbonhloeefnmaaKMDGD
set_option linter.unusedVariables false
set_option linter.unusedSimpArgs false
namespace Go.Proofs.Ytlbonhloeefnmaa
open Go.RowKit
def F_ModalAlgebra_full (ap0 : Int) (ap1 : List Int) : Int :=
  wI ((shlI 1 ap0) - 1)
theorem cf_ModalAlgebra_full (args : Array Value) (w : World) : (callFunc 206 args).run Try.prog w = .ok (.enter 206 args) w := by kernel_rfl
set_option maxRecDepth 100000 in
theorem c_ModalAlgebra_full (ap0 : Int) (ap1A : Option Addr) (ap1N ap1C : Nat) (ap1 : List Int) (w : World) (ap1R : RdS w 1 ap1A ap1N ap1C ap1) (h0 : 0 ≤ ap0) (h1 : ap0 ≤ 30) :
    Calls Try.prog 206 #[.agg #[.int .i64 ap0, .slice ap1A ap1N ap1C]] w (Ret fun v w' => v = .int .i64 (F_ModalAlgebra_full ap0 ap1) ∧ Ext w w') := by
  obtain rfl : ap1N = ap1.length := ap1R.len1.symm
  have ap1Le := ap1R.le
  have hS := St.nil w
  have hS1 := St.rd0 hS rfl ap1R; clear hS
  refine enter (args := [.agg #[.int .i64 ap0, .slice ap1A ap1.length ap1C]]) Try.func206 rfl rfl ?_
  rw [Try.ntmps206]; intro a hE
  have hE := hE.sub (L' := [(0, .agg #[.int .i64 ap0, .slice ap1A ap1.length ap1C])]) ⟨rfl, trivial⟩
  refine c_seq ?_
  refine c_reg ?_
  refine l_step hE rfl (l_box (v := .agg #[.int .i64 ap0, .slice ap1A ap1.length ap1C]) (cs := #[.int .i64 ap0, .slice ap1A ap1.length ap1C]) hS1 hE rfl rfl rfl ?_)
  intro b2 w3 hS6 he7 a4 hE5; clear hS1 hE
  refine q_step (v := .int .i64 0) hE5 (y_assign rfl) rfl rfl rfl ?_; intro a8 hE9; clear hE5
  refine c_nil ?_
  have hE10 := hE9.sub (L' := [(1, .pointer (some ⟨b2, 0, none⟩))]) ⟨rfl, trivial⟩; clear hE9
  refine p_tn ?_
  refine c_seq ?_
  refine c_reg ?_
  refine q_step (v := .pointer (some ⟨b2, 0, none⟩)) hE10 (y_field rfl (fun _ => by kernel_rfl)) rfl rfl rfl ?_; intro a11 hE12; clear hE10
  refine q_step (v := .int .i64 ap0) hE12 (y_load (fun _ => by kernel_rfl) rfl (St.cell (i := 0) hS6 rfl rfl)) rfl rfl rfl ?_; intro a13 hE14; clear hE12
  refine q_step (v := .int .i64 (shlI 1 ap0)) hE14 (y_shl rfl rfl (by omega)) rfl rfl rfl ?_; intro a15 hE16; clear hE14
  refine q_step (v := .int .i64 (wI ((shlI 1 ap0) - 1))) hE16 (y_subw rfl rfl) rfl rfl rfl ?_; intro a17 hE18; clear hE16
  refine q_step (v := .int .i64 (wI ((shlI 1 ap0) - 1))) hE18 (y_assign rfl) rfl rfl rfl ?_; intro a19 hE20; clear hE18
  refine c_nil ?_
  have hE21 := hE20.sub (L' := [(2, .int .i64 (wI ((shlI 1 ap0) - 1)))]) ⟨rfl, trivial⟩; clear hE20
  refine p_tn ?_
  refine wp_ret ?_
  have hF : F_ModalAlgebra_full ap0 ap1 = wI ((shlI 1 ap0) - 1) := by unfold F_ModalAlgebra_full; rfl
  refine c_ret1 hE21 rfl rfl ?_
  exact ⟨(by rw [hF]; first | done | (dsimp only; done) | rfl), hS6.ext⟩
theorem d_ModalAlgebra_full (ap0 : Int) (ap1A : Option Addr) (ap1N ap1C : Nat) (ap1 : List Int) (w : World) (ap1R : RdS w 1 ap1A ap1N ap1C ap1) (h0 : 0 ≤ ap0) (h1 : ap0 ≤ 30) :
    Calls Try.prog 206 #[.agg #[.int .i64 ap0, .slice ap1A ap1N ap1C]] w (Ret fun v w' => v = .int .i64 (fullI ap0) ∧ Ext w w') := by
  have := c_ModalAlgebra_full ap0 ap1A ap1N ap1C ap1 w ap1R h0 h1
  rwa [show F_ModalAlgebra_full ap0 ap1 = fullI ap0 from full_wI h0 (by omega)] at this
theorem in5_t {x : Int} (h : F_l01In x 0 5 = true) : (0 ≤ x ∧ x ≤ 5) ∧ 0 ≤ fullI x ∧ fullI x ≤ 31 := ⟨F_l01In_t h, fullI5 (F_l01In_t h).1 (F_l01In_t h).2⟩
theorem inR5_t {x : Int} (h : F_inRange x 0 5 = true) : (0 ≤ x ∧ x ≤ 5) ∧ 0 ≤ fullI x ∧ fullI x ≤ 31 := ⟨F_inRange_t h, fullI5 (F_inRange_t h).1 (F_inRange_t h).2⟩
theorem len_pow {x n : Int} (h : x = powI n) : x = fullI n + 1 := by rw [fullI_pow]; omega
def F_ModalAlgebra_isElement (ap0 : Int) (ap1 : List Int) (xp : Int) : Bool :=
  F_inRange xp 0 (fullI ap0)
theorem cf_ModalAlgebra_isElement (args : Array Value) (w : World) : (callFunc 208 args).run Try.prog w = .ok (.enter 208 args) w := by kernel_rfl
set_option maxRecDepth 100000 in
theorem c_ModalAlgebra_isElement (ap0 : Int) (ap1A : Option Addr) (ap1N ap1C : Nat) (ap1 : List Int) (xp : Int) (w : World) (ap1R : RdS w 1 ap1A ap1N ap1C ap1) (h0 : 0 ≤ ap0) (h1 : ap0 ≤ 30) :
    Calls Try.prog 208 #[.agg #[.int .i64 ap0, .slice ap1A ap1N ap1C], .int .i64 xp] w (Ret fun v w' => v = .bool (F_ModalAlgebra_isElement ap0 ap1 xp) ∧ Ext w w') := by
  obtain rfl : ap1N = ap1.length := ap1R.len1.symm
  have ap1Le := ap1R.le
  have hS := St.nil w
  have hS1 := St.rd0 hS rfl ap1R; clear hS
  refine enter (args := [.agg #[.int .i64 ap0, .slice ap1A ap1.length ap1C], .int .i64 xp]) Try.func208 rfl rfl ?_
  rw [Try.ntmps208]; intro a hE
  have hE := hE.sub (L' := [(0, .agg #[.int .i64 ap0, .slice ap1A ap1.length ap1C]), (1, .int .i64 xp)]) ⟨rfl, rfl, trivial⟩
  refine c_seq ?_
  refine c_reg ?_
  refine l_step hE rfl (l_box (v := .agg #[.int .i64 ap0, .slice ap1A ap1.length ap1C]) (cs := #[.int .i64 ap0, .slice ap1A ap1.length ap1C]) hS1 hE rfl rfl rfl ?_)
  intro b2 w3 hS6 he7 a4 hE5; clear hS1 hE
  refine q_step (v := .bool false) hE5 (y_assign rfl) rfl rfl rfl ?_; intro a8 hE9; clear hE5
  refine c_nil ?_
  have hE10 := hE9.sub (L' := [(1, .int .i64 xp), (2, .pointer (some ⟨b2, 0, none⟩))]) ⟨rfl, rfl, trivial⟩; clear hE9
  refine p_tn ?_
  refine c_seq ?_
  refine c_reg ?_
  refine q_step (v := .int .i64 xp) hE10 (y_move rfl) rfl rfl rfl ?_; intro a11 hE12; clear hE10
  refine q_step (v := .agg #[.int .i64 ap0, .slice ap1A ap1.length ap1C]) hE12 (y_loadS Try.underlying79 rfl (by kernel_rfl) rfl (St.row (i := 0) hS6 rfl)) rfl rfl rfl ?_; intro a13 hE14; clear hE12
  refine l_step hE14 rfl (l_call (f := 206) (argv := [.agg #[.int .i64 ap0, .slice ap1A ap1.length ap1C]]) hE14 (fun _ => cf_ModalAlgebra_full _ _) rfl rfl (d_ModalAlgebra_full ap0 ap1A ap1.length ap1C ap1 w3 (St.rdR (i := 1) hS6 rfl) (by omega) (by omega)) ?_)
  rintro _ w16 ⟨rfl, he20⟩ a17 hE18; clear hE14
  have hf21 := fullI_bd (n := ap0) (by omega) (by omega)
  have hS19 := St.go hS6 he20; clear hS6
  refine l_step hE18 rfl (l_call (f := 87) (argv := [.int .i64 xp, .int .i64 0, .int .i64 (fullI ap0)]) hE18 (fun _ => cf_inRange _ _) rfl rfl (c_inRange xp 0 (fullI ap0) w16) ?_)
  rintro _ _ ⟨rfl, rfl⟩ a24 hE25; clear hE18
  refine q_step (v := .bool (F_inRange xp 0 (fullI ap0))) hE25 (y_assign rfl) rfl rfl rfl ?_; intro a28 hE29; clear hE25
  refine c_nil ?_
  have hE30 := hE29.sub (L' := [(4, .bool (F_inRange xp 0 (fullI ap0)))]) ⟨rfl, trivial⟩; clear hE29
  refine p_tn ?_
  refine wp_ret ?_
  have hF : F_ModalAlgebra_isElement ap0 ap1 xp = F_inRange xp 0 (fullI ap0) := by unfold F_ModalAlgebra_isElement; rfl
  refine c_ret1 hE30 rfl rfl ?_
  exact ⟨(by rw [hF]; first | done | (dsimp only; done) | rfl), hS19.ext⟩
def F_isModalAlgebra_k1 (xp : Int) (cap00 : Int) (cap01 : List Int) : Bool :=
  (!(F_ModalAlgebra_isElement cap00 cap01 xp))
theorem cf_isModalAlgebra_k1 (args : Array Value) (w : World) : (callFunc 207 args).run Try.prog w = .ok (.enter 207 args) w := by kernel_rfl
set_option maxRecDepth 100000 in
theorem c_isModalAlgebra_k1 (xp : Int) (cap0B : Nat) (cap00 : Int) (cap01A : Option Addr) (cap01N cap01C : Nat) (cap01 : List Int) (w : World) (cap01R : RdS w 1 cap01A cap01N cap01C cap01) (cap0H : w.heap[cap0B]? = some (.cells #[.int .i64 cap00, .slice cap01A cap01N cap01C] 79 (0, 0))) (h0 : 0 ≤ cap00) (h1 : cap00 ≤ 30) :
    Calls Try.prog 207 #[.int .i64 xp, .pointer (some ⟨cap0B, 0, none⟩)] w (Ret fun v w' => v = .bool (F_isModalAlgebra_k1 xp cap00 cap01) ∧ Ext w w') := by
  obtain rfl : cap01N = cap01.length := cap01R.len1.symm
  have cap01Le := cap01R.le
  have hS := St.nil w
  have hS1 := St.rd0 hS rfl cap01R; clear hS
  have hS2 := St.rb0 hS1 rfl cap0H; clear hS1
  refine enter (args := [.int .i64 xp, .pointer (some ⟨cap0B, 0, none⟩)]) Try.func207 rfl rfl ?_
  rw [Try.ntmps207]; intro a hE
  have hE := hE.sub (L' := [(0, .int .i64 xp), (1, .pointer (some ⟨cap0B, 0, none⟩))]) ⟨rfl, rfl, trivial⟩
  refine c_seq ?_
  refine c_reg ?_
  refine q_step (v := .bool false) hE (y_assign rfl) rfl rfl rfl ?_; intro a3 hE4; clear hE
  refine c_nil ?_
  have hE5 := hE4.sub (L' := [(0, .int .i64 xp), (1, .pointer (some ⟨cap0B, 0, none⟩))]) ⟨rfl, rfl, trivial⟩; clear hE4
  refine p_tn ?_
  refine c_seq ?_
  refine c_reg ?_
  refine q_step (v := .agg #[.int .i64 cap00, .slice cap01A cap01.length cap01C]) hE5 (y_loadS Try.underlying79 rfl (by kernel_rfl) rfl (St.rowR (i := 0) hS2 rfl)) rfl rfl rfl ?_; intro a6 hE7; clear hE5
  refine q_step (v := .int .i64 xp) hE7 (y_move rfl) rfl rfl rfl ?_; intro a8 hE9; clear hE7
  refine l_step hE9 rfl (l_call (f := 208) (argv := [.agg #[.int .i64 cap00, .slice cap01A cap01.length cap01C], .int .i64 xp]) hE9 (fun _ => cf_ModalAlgebra_isElement _ _) rfl rfl (c_ModalAlgebra_isElement cap00 cap01A cap01.length cap01C cap01 xp w (St.rdR (i := 1) hS2 rfl) (by omega) (by omega)) ?_)
  rintro _ w11 ⟨rfl, he15⟩ a12 hE13; clear hE9
  have hS14 := St.go hS2 he15; clear hS2
  refine q_step (v := .bool (!(F_ModalAlgebra_isElement cap00 cap01 xp))) hE13 (y_not rfl) rfl rfl rfl ?_; intro a16 hE17; clear hE13
  refine q_step (v := .bool (!(F_ModalAlgebra_isElement cap00 cap01 xp))) hE17 (y_assign rfl) rfl rfl rfl ?_; intro a18 hE19; clear hE17
  refine c_nil ?_
  have hE20 := hE19.sub (L' := [(3, .bool (!(F_ModalAlgebra_isElement cap00 cap01 xp)))]) ⟨rfl, trivial⟩; clear hE19
  refine p_tn ?_
  refine wp_ret ?_
  have hF : F_isModalAlgebra_k1 xp cap00 cap01 = (!(F_ModalAlgebra_isElement cap00 cap01 xp)) := by unfold F_isModalAlgebra_k1; rfl
  refine c_ret1 hE20 rfl rfl ?_
  exact ⟨(by rw [hF]; first | done | (dsimp only; done) | rfl), hS14.ext⟩
def F_l15Is_L2b (ap1 : List Int) (x4 : Int) (rec : Int → Except (Bool) (Int)) (y5L2 : Int) : Except (Bool) (Int) :=
  bif (decide (y5L2 < x4)) then (bif (!decide ((gI ap1 (andI x4 y5L2)) = (andI (gI ap1 x4) (gI ap1 y5L2)))) then (.error false) else (rec (y5L2 + 1))) else (.ok y5L2)
def F_l15Is_L2 (ap1 : List Int) (x4 : Int) : Nat → Int → Except (Bool) (Int)
  | 0, y5L2 => .ok y5L2
  | r + 1, y5L2 => F_l15Is_L2b ap1 x4 (F_l15Is_L2 ap1 x4 r) y5L2
def F_l15Is_L1b (ap0 : Int) (ap1 : List Int) (rec : Int → Except (Bool) (Int)) (x4 : Int) : Except (Bool) (Int) :=
  bif (decide (x4 ≤ (fullI ap0))) then (bif (isOk (F_l15Is_L2 ap1 x4 (Int.toNat (x4 - 0) + 1) 0)) then (rec (x4 + 1)) else (.error (errD (F_l15Is_L2 ap1 x4 (Int.toNat (x4 - 0) + 1) 0)))) else (.ok x4)
def F_l15Is_L1 (ap0 : Int) (ap1 : List Int) : Nat → Int → Except (Bool) (Int)
  | 0, x4 => .ok x4
  | r + 1, x4 => F_l15Is_L1b ap0 ap1 (F_l15Is_L1 ap0 ap1 r) x4
def F_l15Is (ap0 : Int) (ap1 : List Int) : Bool :=
  bif ((!(F_l01In ap0 0 5)) || ((!decide ((ap1.length : Int) = (powI ap0))) || (!(F_l01Masks ap0 ap1)))) then false else (bif (!decide ((gI ap1 (fullI ap0)) = (fullI ap0))) then false else (bif (isOk (F_l15Is_L1 ap0 ap1 (Int.toNat ((fullI ap0) + 1 - 0) + 1) 0)) then true else (errD (F_l15Is_L1 ap0 ap1 (Int.toNat ((fullI ap0) + 1 - 0) + 1) 0))))
theorem cf_l15Is (args : Array Value) (w : World) : (callFunc 131 args).run Try.prog w = .ok (.enter 131 args) w := by kernel_rfl
set_option maxRecDepth 100000 in
theorem c_l15Is (ap0 : Int) (ap1A : Option Addr) (ap1N ap1C : Nat) (ap1 : List Int) (w : World) (ap1R : RdS w 1 ap1A ap1N ap1C ap1) :
    Calls Try.prog 131 #[.agg #[.int .i64 ap0, .slice ap1A ap1N ap1C]] w (Ret fun v w' => v = .bool (F_l15Is ap0 ap1) ∧ Ext w w') := by
  obtain rfl : ap1N = ap1.length := ap1R.len1.symm
  have ap1Le := ap1R.le
  have hS := St.nil w
  have hS1 := St.rd0 hS rfl ap1R; clear hS
  refine enter (args := [.agg #[.int .i64 ap0, .slice ap1A ap1.length ap1C]]) Try.func131 rfl rfl ?_
  rw [Try.ntmps131]; intro a hE
  have hE := hE.sub (L' := [(0, .agg #[.int .i64 ap0, .slice ap1A ap1.length ap1C])]) ⟨rfl, trivial⟩
  refine c_seq ?_
  refine c_reg ?_
  refine l_step hE rfl (l_box (v := .agg #[.int .i64 ap0, .slice ap1A ap1.length ap1C]) (cs := #[.int .i64 ap0, .slice ap1A ap1.length ap1C]) hS1 hE rfl rfl rfl ?_)
  intro b2 w3 hS6 he7 a4 hE5; clear hS1 hE
  refine q_step (v := .bool false) hE5 (y_assign rfl) rfl rfl rfl ?_; intro a8 hE9; clear hE5
  refine c_nil ?_
  have hE10 := hE9.sub (L' := [(1, .pointer (some ⟨b2, 0, none⟩))]) ⟨rfl, trivial⟩; clear hE9
  refine p_tn ?_
  refine c_seq ?_
  refine c_cut (fun a' w' => E a' 66 [(1, .pointer (some ⟨b2, 0, none⟩)), (26, .bool ((!(F_l01In ap0 0 5)) || ((!decide ((ap1.length : Int) = (powI ap0))) || (!(F_l01Masks ap0 ap1)))))] ∧ St w w' [.rd 1 ap1A ap1.length ap1C ap1, .blk b2 #[.int .i64 ap0, .slice ap1A ap1.length ap1C] 79]) ?_ ?_
  ·
   refine d_start (fun w w' => (fun w' => w'.cell? ⟨b2, 0, none⟩ = some (.int .i64 ap0) ∧ w'.cell? ⟨b2, 1, none⟩ = some (.slice ap1A ap1.length ap1C) ∧ w'.cell? ⟨b2, 0, none⟩ = some (.int .i64 ap0) ∧ w'.cell? ⟨b2, 0, none⟩ = some (.int .i64 ap0) ∧ w'.cell? ⟨b2, 1, none⟩ = some (.slice ap1A ap1.length ap1C) ∧ True) w → (fun w' => w'.cell? ⟨b2, 0, none⟩ = some (.int .i64 ap0) ∧ w'.cell? ⟨b2, 1, none⟩ = some (.slice ap1A ap1.length ap1C) ∧ w'.cell? ⟨b2, 0, none⟩ = some (.int .i64 ap0) ∧ w'.cell? ⟨b2, 0, none⟩ = some (.int .i64 ap0) ∧ w'.cell? ⟨b2, 1, none⟩ = some (.slice ap1A ap1.length ap1C) ∧ True) w') [1, 6, 9, 15, 17] 21 (by kernel_rfl) rfl ?_
   intro w11 he12; have hS13 := St.go hS6 he12; clear hS6
   refine d_pure (fun _ h => h) (v := .pointer (some ⟨b2, 0, none⟩)) 0 rfl hE10 (y_field rfl (fun _ => by kernel_rfl)) rfl (by kernel_rfl) (by kernel_rfl) (by kernel_rfl) rfl rfl (fun _ _ _ h => h) ?_; intro a14 hE15; clear hE10
   refine d_take (fun _ h => h) (fun _ _ h k => h k) (v := .int .i64 ap0) 1 rfl hE15 (S := fun w' => w'.cell? ⟨b2, 0, none⟩ = some (.int .i64 ap0) ∧ w'.cell? ⟨b2, 1, none⟩ = some (.slice ap1A ap1.length ap1C) ∧ w'.cell? ⟨b2, 0, none⟩ = some (.int .i64 ap0) ∧ w'.cell? ⟨b2, 0, none⟩ = some (.int .i64 ap0) ∧ w'.cell? ⟨b2, 1, none⟩ = some (.slice ap1A ap1.length ap1C) ∧ True) ⟨(St.cell (i := 0) hS13 rfl rfl _ (Ext.refl _)), (St.cell (i := 0) hS13 rfl rfl _ (Ext.refl _)), (St.cell (i := 0) hS13 rfl rfl _ (Ext.refl _)), (St.cell (i := 0) hS13 rfl rfl _ (Ext.refl _)), (St.cell (i := 0) hS13 rfl rfl _ (Ext.refl _)), trivial⟩ (y_load (fun _ => by kernel_rfl) rfl (fun _ h => h.1)) rfl rfl (by kernel_rfl) (by kernel_rfl) (by kernel_rfl) (by kernel_rfl) rfl rfl (fun _ _ _ h => h) ?_; intro a16 hE17; clear hE15
   refine d_only 2 (by kernel_rfl) rfl hE17 rfl (l_call (f := 85) (argv := [.int .i64 ap0, .int .i64 0, .int .i64 5]) hE17 (fun _ => cf_l01In _ _) rfl rfl (c_l01In ap0 0 5 w11) ?_)
   rintro _ _ ⟨rfl, rfl⟩ a20 hE21; clear hE17
   refine ⟨fun _ _ => ⟨(St.cell (i := 0) hS13 rfl rfl _ (Ext.refl _)), (St.cell (i := 0) hS13 rfl rfl _ (Ext.refl _)), (St.cell (i := 0) hS13 rfl rfl _ (Ext.refl _)), (St.cell (i := 0) hS13 rfl rfl _ (Ext.refl _)), (St.cell (i := 0) hS13 rfl rfl _ (Ext.refl _)), trivial⟩, ?_⟩
   refine d_pure (fun _ h => h) (v := .bool (!(F_l01In ap0 0 5))) 3 rfl hE21 (y_not rfl) rfl (by kernel_rfl) (by kernel_rfl) (by kernel_rfl) rfl rfl (fun _ _ _ h => h) ?_; intro a24 hE25; clear hE21
   refine d_pure (fun _ h => h) (v := .bool (!(F_l01In ap0 0 5))) 4 rfl hE25 (y_move rfl) rfl (by kernel_rfl) (by kernel_rfl) (by kernel_rfl) rfl rfl (fun _ _ _ h => h) ?_; intro a26 hE27; clear hE25
   rcases Bool.eq_false_or_eq_true (!(F_l01In ap0 0 5)) with hb28 | hb28
   ·
    have hE29 := hE27; (try rw [hb28] at hE29); clear hE27
    have ht30 := bn_t hb28
    refine d_skip (fun _ h => h) 5 rfl hE29 rfl (by kernel_rfl) (by kernel_rfl) (by kernel_rfl) rfl rfl (fun _ _ _ h => h) ?_; intro a31 hE32; clear hE29
    refine d_skip (fun _ h => h) 6 rfl hE32 rfl (by kernel_rfl) (by kernel_rfl) (by kernel_rfl) rfl rfl (fun _ _ _ h => h) ?_; intro a33 hE34; clear hE32
    refine d_skip (fun _ h => h) 7 rfl hE34 rfl (by kernel_rfl) (by kernel_rfl) (by kernel_rfl) rfl rfl (fun _ _ _ h => h) ?_; intro a35 hE36; clear hE34
    refine d_skip (fun _ h => h) 8 rfl hE36 rfl (by kernel_rfl) (by kernel_rfl) (by kernel_rfl) rfl rfl (fun _ _ _ h => h) ?_; intro a37 hE38; clear hE36
    refine d_skip (fun _ h => h) 9 rfl hE38 rfl (by kernel_rfl) (by kernel_rfl) (by kernel_rfl) rfl rfl (fun _ _ _ h => h) ?_; intro a39 hE40; clear hE38
    refine d_skip (fun _ h => h) 10 rfl hE40 rfl (by kernel_rfl) (by kernel_rfl) (by kernel_rfl) rfl rfl (fun _ _ _ h => h) ?_; intro a41 hE42; clear hE40
    refine d_skip (fun _ h => h) 11 rfl hE42 rfl (by kernel_rfl) (by kernel_rfl) (by kernel_rfl) rfl rfl (fun _ _ _ h => h) ?_; intro a43 hE44; clear hE42
    refine d_pure (fun _ h => h) (v := .bool true) 12 rfl hE44 (y_pick (b := true) rfl rfl) rfl (by kernel_rfl) (by kernel_rfl) (by kernel_rfl) rfl rfl (fun _ _ _ h => h) ?_; intro a45 hE46; clear hE44
    refine d_pure (fun _ h => h) (v := .bool true) 13 rfl hE46 (y_move rfl) rfl (by kernel_rfl) (by kernel_rfl) (by kernel_rfl) rfl rfl (fun _ _ _ h => h) ?_; intro a47 hE48; clear hE46
    refine d_skip (fun _ h => h) 14 rfl hE48 rfl (by kernel_rfl) (by kernel_rfl) (by kernel_rfl) rfl rfl (fun _ _ _ h => h) ?_; intro a49 hE50; clear hE48
    refine d_skip (fun _ h => h) 15 rfl hE50 rfl (by kernel_rfl) (by kernel_rfl) (by kernel_rfl) rfl rfl (fun _ _ _ h => h) ?_; intro a51 hE52; clear hE50
    refine d_skip (fun _ h => h) 16 rfl hE52 rfl (by kernel_rfl) (by kernel_rfl) (by kernel_rfl) rfl rfl (fun _ _ _ h => h) ?_; intro a53 hE54; clear hE52
    refine d_skip (fun _ h => h) 17 rfl hE54 rfl (by kernel_rfl) (by kernel_rfl) (by kernel_rfl) rfl rfl (fun _ _ _ h => h) ?_; intro a55 hE56; clear hE54
    refine d_skip (fun _ h => h) 18 rfl hE56 rfl (by kernel_rfl) (by kernel_rfl) (by kernel_rfl) rfl rfl (fun _ _ _ h => h) ?_; intro a57 hE58; clear hE56
    refine d_skip (fun _ h => h) 19 rfl hE58 rfl (by kernel_rfl) (by kernel_rfl) (by kernel_rfl) rfl rfl (fun _ _ _ h => h) ?_; intro a59 hE60; clear hE58
    refine d_pure (fun _ h => h) (v := .bool true) 20 rfl hE60 (y_pick (b := true) rfl rfl) rfl (by kernel_rfl) (by kernel_rfl) (by kernel_rfl) rfl rfl (fun _ _ _ h => h) ?_; intro a61 hE62; clear hE60
    refine d_done (by kernel_rfl) ?_
    have hE63 := hE62.sub (L' := [(1, .pointer (some ⟨b2, 0, none⟩)), (26, .bool true)]) ⟨rfl, rfl, trivial⟩; clear hE62
    refine p_tn ?_
    have hE64 := hE63.sub (L' := [(1, .pointer (some ⟨b2, 0, none⟩)), (26, .bool true)]) ⟨rfl, rfl, trivial⟩
    have hS65 := (St.pick (Γ' := [.rd 1 ap1A ap1.length ap1C ap1, .blk b2 #[.int .i64 ap0, .slice ap1A ap1.length ap1C] 79]) hS13 [1, 0] (by decide) rfl)
    exact ⟨(by rw [hb28]; exact hE64), hS65⟩
   ·
    have hE66 := hE27; (try rw [hb28] at hE66); clear hE27
    have ht67 := bn_f hb28
    have hp68 := in5_t ht67
    refine d_pure (fun _ h => h) (v := .pointer (some ⟨b2, 1, none⟩)) 5 rfl hE66 (y_field rfl (fun _ => by kernel_rfl)) rfl (by kernel_rfl) (by kernel_rfl) (by kernel_rfl) rfl rfl (fun _ _ _ h => h) ?_; intro a69 hE70; clear hE66
    refine d_take (fun _ h => h) (fun _ _ h k => h k) (v := .slice ap1A ap1.length ap1C) 6 rfl hE70 (S := fun w' => w'.cell? ⟨b2, 0, none⟩ = some (.int .i64 ap0) ∧ w'.cell? ⟨b2, 1, none⟩ = some (.slice ap1A ap1.length ap1C) ∧ w'.cell? ⟨b2, 0, none⟩ = some (.int .i64 ap0) ∧ w'.cell? ⟨b2, 0, none⟩ = some (.int .i64 ap0) ∧ w'.cell? ⟨b2, 1, none⟩ = some (.slice ap1A ap1.length ap1C) ∧ True) ⟨(St.cell (i := 0) hS13 rfl rfl _ (Ext.refl _)), (St.cell (i := 0) hS13 rfl rfl _ (Ext.refl _)), (St.cell (i := 0) hS13 rfl rfl _ (Ext.refl _)), (St.cell (i := 0) hS13 rfl rfl _ (Ext.refl _)), (St.cell (i := 0) hS13 rfl rfl _ (Ext.refl _)), trivial⟩ (y_load (fun _ => by kernel_rfl) rfl (fun _ h => h.2.1)) rfl rfl (by kernel_rfl) (by kernel_rfl) (by kernel_rfl) (by kernel_rfl) rfl rfl (fun _ _ _ h => h) ?_; intro a71 hE72; clear hE70
    refine d_pure (fun _ h => h) (v := .int .i64 (ap1.length : Int)) 7 rfl hE72 (y_len (e := 2) (by kernel_rfl) rfl) rfl (by kernel_rfl) (by kernel_rfl) (by kernel_rfl) rfl rfl (fun _ _ _ h => h) ?_; intro a73 hE74; clear hE72
    refine d_pure (fun _ h => h) (v := .pointer (some ⟨b2, 0, none⟩)) 8 rfl hE74 (y_field rfl (fun _ => by kernel_rfl)) rfl (by kernel_rfl) (by kernel_rfl) (by kernel_rfl) rfl rfl (fun _ _ _ h => h) ?_; intro a75 hE76; clear hE74
    refine d_take (fun _ h => h) (fun _ _ h k => h k) (v := .int .i64 ap0) 9 rfl hE76 (S := fun w' => w'.cell? ⟨b2, 0, none⟩ = some (.int .i64 ap0) ∧ w'.cell? ⟨b2, 1, none⟩ = some (.slice ap1A ap1.length ap1C) ∧ w'.cell? ⟨b2, 0, none⟩ = some (.int .i64 ap0) ∧ w'.cell? ⟨b2, 0, none⟩ = some (.int .i64 ap0) ∧ w'.cell? ⟨b2, 1, none⟩ = some (.slice ap1A ap1.length ap1C) ∧ True) ⟨(St.cell (i := 0) hS13 rfl rfl _ (Ext.refl _)), (St.cell (i := 0) hS13 rfl rfl _ (Ext.refl _)), (St.cell (i := 0) hS13 rfl rfl _ (Ext.refl _)), (St.cell (i := 0) hS13 rfl rfl _ (Ext.refl _)), (St.cell (i := 0) hS13 rfl rfl _ (Ext.refl _)), trivial⟩ (y_load (fun _ => by kernel_rfl) rfl (fun _ h => h.2.2.1)) rfl rfl (by kernel_rfl) (by kernel_rfl) (by kernel_rfl) (by kernel_rfl) rfl rfl (fun _ _ _ h => h) ?_; intro a77 hE78; clear hE76
    refine d_only 10 (by kernel_rfl) rfl hE78 rfl (l_call (f := 209) (argv := [.int .i64 ap0]) hE78 (fun _ => cf_l01One _ _) rfl rfl (d_l01One ap0 w11 (by omega) (by omega)) ?_)
    rintro _ _ ⟨rfl, rfl⟩ a81 hE82; clear hE78
    refine ⟨fun _ _ => ⟨(St.cell (i := 0) hS13 rfl rfl _ (Ext.refl _)), (St.cell (i := 0) hS13 rfl rfl _ (Ext.refl _)), (St.cell (i := 0) hS13 rfl rfl _ (Ext.refl _)), (St.cell (i := 0) hS13 rfl rfl _ (Ext.refl _)), (St.cell (i := 0) hS13 rfl rfl _ (Ext.refl _)), trivial⟩, ?_⟩
    refine d_pure (fun _ h => h) (v := .bool (!decide ((ap1.length : Int) = (powI ap0)))) 11 rfl hE82 (y_neq rfl rfl) rfl (by kernel_rfl) (by kernel_rfl) (by kernel_rfl) rfl rfl (fun _ _ _ h => h) ?_; intro a85 hE86; clear hE82
    refine d_pure (fun _ h => h) (v := .bool (!decide ((ap1.length : Int) = (powI ap0)))) 12 rfl hE86 (y_pick (b := false) rfl rfl) rfl (by kernel_rfl) (by kernel_rfl) (by kernel_rfl) rfl rfl (fun _ _ _ h => h) ?_; intro a87 hE88; clear hE86
    refine d_pure (fun _ h => h) (v := .bool (!decide ((ap1.length : Int) = (powI ap0)))) 13 rfl hE88 (y_move rfl) rfl (by kernel_rfl) (by kernel_rfl) (by kernel_rfl) rfl rfl (fun _ _ _ h => h) ?_; intro a89 hE90; clear hE88
    rcases Bool.eq_false_or_eq_true (!decide ((ap1.length : Int) = (powI ap0))) with hb91 | hb91
    ·
     have hE92 := hE90; (try rw [hb91] at hE92); clear hE90
     have ht93 := bn_t hb91
     have hp94 := of_decide_eq_false ht93
     refine d_skip (fun _ h => h) 14 rfl hE92 rfl (by kernel_rfl) (by kernel_rfl) (by kernel_rfl) rfl rfl (fun _ _ _ h => h) ?_; intro a95 hE96; clear hE92
     refine d_skip (fun _ h => h) 15 rfl hE96 rfl (by kernel_rfl) (by kernel_rfl) (by kernel_rfl) rfl rfl (fun _ _ _ h => h) ?_; intro a97 hE98; clear hE96
     refine d_skip (fun _ h => h) 16 rfl hE98 rfl (by kernel_rfl) (by kernel_rfl) (by kernel_rfl) rfl rfl (fun _ _ _ h => h) ?_; intro a99 hE100; clear hE98
     refine d_skip (fun _ h => h) 17 rfl hE100 rfl (by kernel_rfl) (by kernel_rfl) (by kernel_rfl) rfl rfl (fun _ _ _ h => h) ?_; intro a101 hE102; clear hE100
     refine d_skip (fun _ h => h) 18 rfl hE102 rfl (by kernel_rfl) (by kernel_rfl) (by kernel_rfl) rfl rfl (fun _ _ _ h => h) ?_; intro a103 hE104; clear hE102
     refine d_skip (fun _ h => h) 19 rfl hE104 rfl (by kernel_rfl) (by kernel_rfl) (by kernel_rfl) rfl rfl (fun _ _ _ h => h) ?_; intro a105 hE106; clear hE104
     refine d_pure (fun _ h => h) (v := .bool true) 20 rfl hE106 (y_pick (b := true) rfl rfl) rfl (by kernel_rfl) (by kernel_rfl) (by kernel_rfl) rfl rfl (fun _ _ _ h => h) ?_; intro a107 hE108; clear hE106
     refine d_done (by kernel_rfl) ?_
     have hE109 := hE108.sub (L' := [(1, .pointer (some ⟨b2, 0, none⟩)), (26, .bool true)]) ⟨rfl, rfl, trivial⟩; clear hE108
     refine p_tn ?_
     have hE110 := hE109.sub (L' := [(1, .pointer (some ⟨b2, 0, none⟩)), (26, .bool true)]) ⟨rfl, rfl, trivial⟩
     have hS111 := (St.pick (Γ' := [.rd 1 ap1A ap1.length ap1C ap1, .blk b2 #[.int .i64 ap0, .slice ap1A ap1.length ap1C] 79]) hS13 [1, 0] (by decide) rfl)
     exact ⟨(by rw [hb91, hb28]; exact hE110), hS111⟩
    ·
     have hE112 := hE90; (try rw [hb91] at hE112); clear hE90
     have ht113 := bn_f hb91
     have hp114 := of_decide_eq_true ht113
     have hq115 := len_pow hp114
     refine d_pure (fun _ h => h) (v := .pointer (some ⟨b2, 0, none⟩)) 14 rfl hE112 (y_field rfl (fun _ => by kernel_rfl)) rfl (by kernel_rfl) (by kernel_rfl) (by kernel_rfl) rfl rfl (fun _ _ _ h => h) ?_; intro a116 hE117; clear hE112
     refine d_take (fun _ h => h) (fun _ _ h k => h k) (v := .int .i64 ap0) 15 rfl hE117 (S := fun w' => w'.cell? ⟨b2, 0, none⟩ = some (.int .i64 ap0) ∧ w'.cell? ⟨b2, 1, none⟩ = some (.slice ap1A ap1.length ap1C) ∧ w'.cell? ⟨b2, 0, none⟩ = some (.int .i64 ap0) ∧ w'.cell? ⟨b2, 0, none⟩ = some (.int .i64 ap0) ∧ w'.cell? ⟨b2, 1, none⟩ = some (.slice ap1A ap1.length ap1C) ∧ True) ⟨(St.cell (i := 0) hS13 rfl rfl _ (Ext.refl _)), (St.cell (i := 0) hS13 rfl rfl _ (Ext.refl _)), (St.cell (i := 0) hS13 rfl rfl _ (Ext.refl _)), (St.cell (i := 0) hS13 rfl rfl _ (Ext.refl _)), (St.cell (i := 0) hS13 rfl rfl _ (Ext.refl _)), trivial⟩ (y_load (fun _ => by kernel_rfl) rfl (fun _ h => h.2.2.2.1)) rfl rfl (by kernel_rfl) (by kernel_rfl) (by kernel_rfl) (by kernel_rfl) rfl rfl (fun _ _ _ h => h) ?_; intro a118 hE119; clear hE117
     refine d_pure (fun _ h => h) (v := .pointer (some ⟨b2, 1, none⟩)) 16 rfl hE119 (y_field rfl (fun _ => by kernel_rfl)) rfl (by kernel_rfl) (by kernel_rfl) (by kernel_rfl) rfl rfl (fun _ _ _ h => h) ?_; intro a120 hE121; clear hE119
     refine d_take (fun _ h => h) (fun _ _ h k => h k) (v := .slice ap1A ap1.length ap1C) 17 rfl hE121 (S := fun w' => w'.cell? ⟨b2, 0, none⟩ = some (.int .i64 ap0) ∧ w'.cell? ⟨b2, 1, none⟩ = some (.slice ap1A ap1.length ap1C) ∧ w'.cell? ⟨b2, 0, none⟩ = some (.int .i64 ap0) ∧ w'.cell? ⟨b2, 0, none⟩ = some (.int .i64 ap0) ∧ w'.cell? ⟨b2, 1, none⟩ = some (.slice ap1A ap1.length ap1C) ∧ True) ⟨(St.cell (i := 0) hS13 rfl rfl _ (Ext.refl _)), (St.cell (i := 0) hS13 rfl rfl _ (Ext.refl _)), (St.cell (i := 0) hS13 rfl rfl _ (Ext.refl _)), (St.cell (i := 0) hS13 rfl rfl _ (Ext.refl _)), (St.cell (i := 0) hS13 rfl rfl _ (Ext.refl _)), trivial⟩ (y_load (fun _ => by kernel_rfl) rfl (fun _ h => h.2.2.2.2.1)) rfl rfl (by kernel_rfl) (by kernel_rfl) (by kernel_rfl) (by kernel_rfl) rfl rfl (fun _ _ _ h => h) ?_; intro a122 hE123; clear hE121
     refine d_only 18 (by kernel_rfl) rfl hE123 rfl (l_call (f := 162) (argv := [.int .i64 ap0, .slice ap1A ap1.length ap1C]) hE123 (fun _ => cf_l01Masks _ _) rfl rfl (c_l01Masks ap0 ap1A ap1.length ap1C ap1 w11 (St.rdR (i := 1) hS13 rfl) (by omega) (by omega)) ?_)
     rintro _ w125 ⟨rfl, he129⟩ a126 hE127; clear hE123
     have hS128 := St.go hS13 he129; clear hS13
     refine ⟨fun h => Bool.noConfusion (h.symm.trans (show exm _ _ _ = true by kernel_rfl)), ?_⟩
     refine d_pure (fun _ h => h) (v := .bool (!(F_l01Masks ap0 ap1))) 19 rfl hE127 (y_not rfl) rfl (by kernel_rfl) (by kernel_rfl) (by kernel_rfl) rfl rfl (fun _ _ _ h => h) ?_; intro a130 hE131; clear hE127
     refine d_pure (fun _ h => h) (v := .bool (!(F_l01Masks ap0 ap1))) 20 rfl hE131 (y_pick (b := false) rfl rfl) rfl (by kernel_rfl) (by kernel_rfl) (by kernel_rfl) rfl rfl (fun _ _ _ h => h) ?_; intro a132 hE133; clear hE131
     refine d_done (by kernel_rfl) ?_
     have hE134 := hE133.sub (L' := [(1, .pointer (some ⟨b2, 0, none⟩)), (26, .bool (!(F_l01Masks ap0 ap1)))]) ⟨rfl, rfl, trivial⟩; clear hE133
     refine p_tn ?_
     have hE135 := hE134.sub (L' := [(1, .pointer (some ⟨b2, 0, none⟩)), (26, .bool (!(F_l01Masks ap0 ap1)))]) ⟨rfl, rfl, trivial⟩
     have hS136 := (St.pick (Γ' := [.rd 1 ap1A ap1.length ap1C ap1, .blk b2 #[.int .i64 ap0, .slice ap1A ap1.length ap1C] 79]) hS128 [1, 0] (by decide) rfl)
     exact ⟨(by rw [hb91, hb28]; exact hE135), hS136⟩
  ·
   rintro a137 w138 ⟨hE139, hS140⟩; clear hE10 hS6
   refine c_cond hE139 rfl (fun ht142 => ?_) (fun ht142 => ?_)
   ·
    have hE143 := hE139; rw [ht142] at hE143; clear hE139
    refine c_seq ?_
    refine c_reg ?_
    refine q_step (v := .bool false) hE143 (y_assign rfl) rfl rfl rfl ?_; intro a144 hE145; clear hE143
    refine c_nil ?_
    have hE146 := hE145.sub (L' := [(2, .bool false)]) ⟨rfl, trivial⟩; clear hE145
    refine p_tn ?_
    refine wp_ret ?_
    refine p_tr ?_
    have hF : F_l15Is ap0 ap1 = false := by unfold F_l15Is; rw [ht142]; first | done | rfl
    refine c_ret1 hE146 rfl rfl ?_
    exact ⟨(by rw [hF]; first | done | (dsimp only; done) | rfl), hS140.ext⟩
   ·
    obtain ⟨ht147, ht148⟩ := bor_f ht142
    have ht149 := bn_f ht147
    have hp150 := in5_t ht149
    obtain ⟨ht151, ht152⟩ := bor_f ht148
    have ht153 := bn_f ht151
    have hp154 := of_decide_eq_true ht153
    have hq155 := len_pow hp154
    have ht156 := bn_f ht152
    have hp157 := masks_mem ht156
    have hE158 := hE139; rw [ht142] at hE158; clear hE139
    refine wp_skip ?_
    refine p_tn ?_
    refine c_seq ?_
    refine c_reg ?_
    refine q_step (v := .pointer (some ⟨b2, 0, none⟩)) hE158 (y_field rfl (fun _ => by kernel_rfl)) rfl rfl rfl ?_; intro a159 hE160; clear hE158
    refine q_step (v := .int .i64 ap0) hE160 (y_load (fun _ => by kernel_rfl) rfl (St.cell (i := 1) hS140 rfl rfl)) rfl rfl rfl ?_; intro a161 hE162; clear hE160
    refine l_step hE162 rfl (l_call (f := 172) (argv := [.int .i64 ap0]) hE162 (fun _ => cf_l01Full _ _) rfl rfl (d_l01Full ap0 w138 (by omega) (by omega)) ?_)
    rintro _ _ ⟨rfl, rfl⟩ a165 hE166; clear hE162
    refine q_step (v := .int .i64 (fullI ap0)) hE166 (y_assign rfl) rfl rfl rfl ?_; intro a169 hE170; clear hE166
    refine c_nil ?_
    have hE171 := hE170.sub (L' := [(1, .pointer (some ⟨b2, 0, none⟩)), (3, .int .i64 (fullI ap0))]) ⟨rfl, rfl, trivial⟩; clear hE170
    refine p_tn ?_
    refine c_seq ?_
    refine c_seq ?_
    refine c_reg ?_
    refine q_step (v := .pointer (some ⟨b2, 1, none⟩)) hE171 (y_field rfl (fun _ => by kernel_rfl)) rfl rfl rfl ?_; intro a172 hE173; clear hE171
    refine q_step (v := .slice ap1A ap1.length ap1C) hE173 (y_load (fun _ => by kernel_rfl) rfl (St.cell (i := 1) hS140 rfl rfl)) rfl rfl rfl ?_; intro a174 hE175; clear hE173
    refine q_step (v := .int .i64 (fullI ap0)) hE175 (y_move rfl) rfl rfl rfl ?_; intro a176 hE177; clear hE175
    refine q_step (v := .pointer (some (adr ap1A (Int.toNat (fullI ap0))))) hE177 (y_idx (by kernel_rfl) (fun _ => by kernel_rfl) rfl rfl (RdS.isS (m := fullI ap0) (St.rdR (i := 0) hS140 rfl) (by omega) (by omega)) (by omega) (by omega) (Nat.mul_one _).symm) rfl rfl rfl ?_; intro a178 hE179; clear hE177
    refine q_step (v := .int .i64 (gI ap1 (fullI ap0))) hE179 (y_load (fun _ => by kernel_rfl) rfl (RdS.elt (St.rdR (i := 0) hS140 rfl) (by omega) (by omega))) rfl rfl rfl ?_; intro a180 hE181; clear hE179
    refine q_step (v := .int .i64 (fullI ap0)) hE181 (y_move rfl) rfl rfl rfl ?_; intro a182 hE183; clear hE181
    refine q_step (v := .bool (!decide ((gI ap1 (fullI ap0)) = (fullI ap0)))) hE183 (y_neq rfl rfl) rfl rfl rfl ?_; intro a184 hE185; clear hE183
    refine c_nil ?_
    have hE186 := hE185.sub (L' := [(1, .pointer (some ⟨b2, 0, none⟩)), (3, .int .i64 (fullI ap0)), (36, .bool (!decide ((gI ap1 (fullI ap0)) = (fullI ap0))))]) ⟨rfl, rfl, rfl, trivial⟩; clear hE185
    refine p_tn ?_
    refine c_cond hE186 rfl (fun ht187 => ?_) (fun ht187 => ?_)
    ·
     have ht188 := bn_t ht187
     have hp189 := of_decide_eq_false ht188
     have hE190 := hE186; rw [ht187] at hE190; clear hE186
     refine c_seq ?_
     refine c_reg ?_
     refine q_step (v := .bool false) hE190 (y_assign rfl) rfl rfl rfl ?_; intro a191 hE192; clear hE190
     refine c_nil ?_
     have hE193 := hE192.sub (L' := [(2, .bool false)]) ⟨rfl, trivial⟩; clear hE192
     refine p_tn ?_
     refine wp_ret ?_
     refine p_tr ?_
     have hF : F_l15Is ap0 ap1 = false := by unfold F_l15Is; rw [ht187, ht142]; first | done | rfl
     refine c_ret1 hE193 rfl rfl ?_
     exact ⟨(by rw [hF]; first | done | (dsimp only; done) | rfl), hS140.ext⟩
    ·
     have ht194 := bn_f ht187
     have hp195 := of_decide_eq_true ht194
     have hE196 := hE186; rw [ht187] at hE196; clear hE186
     refine wp_skip ?_
     refine p_tn ?_
     refine c_seq ?_
     refine c_seq ?_
     refine c_reg ?_
     refine q_step (v := .int .i64 0) hE196 (y_assign rfl) rfl rfl rfl ?_; intro a197 hE198; clear hE196
     refine c_nil ?_
     have hE199 := hE198.sub (L' := [(1, .pointer (some ⟨b2, 0, none⟩)), (3, .int .i64 (fullI ap0)), (4, .int .i64 0)]) ⟨rfl, rfl, rfl, trivial⟩; clear hE198
     refine p_tn ?_
     refine c_cut1 (fun a' w' => isOk (F_l15Is_L1 ap0 ap1 (Int.toNat ((fullI ap0) + 1 - 0) + 1) 0) = true ∧ (0 ≤ (okD (F_l15Is_L1 ap0 ap1 (Int.toNat ((fullI ap0) + 1 - 0) + 1) 0))) ∧ ((okD (F_l15Is_L1 ap0 ap1 (Int.toNat ((fullI ap0) + 1 - 0) + 1) 0)) ≤ fullI ap0 + 1) ∧ E a' 66 [(1, .pointer (some ⟨b2, 0, none⟩)), (3, .int .i64 (fullI ap0)), (4, .int .i64 (okD (F_l15Is_L1 ap0 ap1 (Int.toNat ((fullI ap0) + 1 - 0) + 1) 0)))] ∧ St w w' [.rd 1 ap1A ap1.length ap1C ap1, .blk b2 #[.int .i64 ap0, .slice ap1A ap1.length ap1C] 79]) ?_ ?_
     ·
      refine wp_block ?_
      refine c_loop (fun r a' w' => ∃ x4 : Int, F_l15Is_L1 ap0 ap1 r x4 = F_l15Is_L1 ap0 ap1 (Int.toNat ((fullI ap0) + 1 - 0) + 1) 0 ∧ Int.toNat ((fullI ap0) + 1 - x4) < r ∧ (0 ≤ x4) ∧ (x4 ≤ fullI ap0 + 1) ∧ E a' 66 [(1, .pointer (some ⟨b2, 0, none⟩)), (3, .int .i64 (fullI ap0)), (4, .int .i64 x4)] ∧ St w w' [.rd 1 ap1A ap1.length ap1C ap1, .blk b2 #[.int .i64 ap0, .slice ap1A ap1.length ap1C] 79]) (r := (Int.toNat ((fullI ap0) + 1 - 0) + 1)) ?_ ?_
      · exact ⟨0, rfl, Nat.lt_succ_self _, (by first | omega | (simp only [sS_len, sL_len]; omega) | (simp only [List.length_replicate, sI_len]; omega) | (simp only [List.length_append, List.length_cons, List.length_nil, sI_len, cond_true, cond_false]; omega) | (simp only [List.length_append, List.length_cons, List.length_nil, sI_len, cond_eq_ite, apply_ite List.length]; split <;> simp only [List.length_append, List.length_cons, List.length_nil, sI_len] <;> omega) | grind), (by first | omega | (simp only [sS_len, sL_len]; omega) | (simp only [List.length_replicate, sI_len]; omega) | (simp only [List.length_append, List.length_cons, List.length_nil, sI_len, cond_true, cond_false]; omega) | (simp only [List.length_append, List.length_cons, List.length_nil, sI_len, cond_eq_ite, apply_ite List.length]; split <;> simp only [List.length_append, List.length_cons, List.length_nil, sI_len] <;> omega) | grind), (hE199.sub (L' := [(1, .pointer (some ⟨b2, 0, none⟩)), (3, .int .i64 (fullI ap0)), (4, .int .i64 0)]) ⟨rfl, rfl, rfl, trivial⟩), (St.pick (Γ' := [.rd 1 ap1A ap1.length ap1C ap1, .blk b2 #[.int .i64 ap0, .slice ap1A ap1.length ap1C] 79]) hS140 [0, 1] (by decide) rfl)⟩
      ·
       clear hE199 hS140
       rintro r209 a201 w202 ⟨x4, hT205, hr206, hi207, hi208, hE203, hS204⟩
       obtain ⟨r209, rfl⟩ : ∃ r', r209 = r' + 1 := ⟨r209 - 1, by omega⟩
       refine c_seq ?_
       refine c_seq ?_
       refine c_reg ?_
       refine q_step (v := .int .i64 x4) hE203 (y_move rfl) rfl rfl rfl ?_; intro a210 hE211; clear hE203
       refine q_step (v := .int .i64 (fullI ap0)) hE211 (y_move rfl) rfl rfl rfl ?_; intro a212 hE213; clear hE211
       refine q_step (v := .bool (decide (x4 ≤ (fullI ap0)))) hE213 (y_leq rfl rfl) rfl rfl rfl ?_; intro a214 hE215; clear hE213
       refine c_nil ?_
       have hE216 := hE215.sub (L' := [(1, .pointer (some ⟨b2, 0, none⟩)), (3, .int .i64 (fullI ap0)), (4, .int .i64 x4), (39, .bool (decide (x4 ≤ (fullI ap0))))]) ⟨rfl, rfl, rfl, rfl, trivial⟩; clear hE215
       refine p_tn ?_
       refine c_cond hE216 rfl (fun ht217 => ?_) (fun ht217 => ?_)
       ·
        have hp218 := of_decide_eq_true ht217
        have hE219 := hE216; rw [ht217] at hE219; clear hE216
        refine wp_skip ?_
        refine p_tn ?_
        refine c_seq ?_
        refine wp_block ?_
        refine c_seq ?_
        refine c_reg ?_
        refine q_step (v := .int .i64 0) hE219 (y_assign rfl) rfl rfl rfl ?_; intro a220 hE221; clear hE219
        refine c_nil ?_
        have hE222 := hE221.sub (L' := [(1, .pointer (some ⟨b2, 0, none⟩)), (3, .int .i64 (fullI ap0)), (4, .int .i64 x4), (5, .int .i64 0)]) ⟨rfl, rfl, rfl, rfl, trivial⟩; clear hE221
        refine p_tn ?_
        refine c_cut1 (fun a' w' => isOk (F_l15Is_L2 ap1 x4 (Int.toNat (x4 - 0) + 1) 0) = true ∧ (0 ≤ (okD (F_l15Is_L2 ap1 x4 (Int.toNat (x4 - 0) + 1) 0))) ∧ ((okD (F_l15Is_L2 ap1 x4 (Int.toNat (x4 - 0) + 1) 0)) ≤ x4) ∧ E a' 66 [(1, .pointer (some ⟨b2, 0, none⟩)), (3, .int .i64 (fullI ap0)), (4, .int .i64 x4), (5, .int .i64 (okD (F_l15Is_L2 ap1 x4 (Int.toNat (x4 - 0) + 1) 0)))] ∧ St w w' [.rd 1 ap1A ap1.length ap1C ap1, .blk b2 #[.int .i64 ap0, .slice ap1A ap1.length ap1C] 79]) ?_ ?_
        ·
         refine wp_block ?_
         refine c_loop (fun r a' w' => ∃ y5L2 : Int, F_l15Is_L2 ap1 x4 r y5L2 = F_l15Is_L2 ap1 x4 (Int.toNat (x4 - 0) + 1) 0 ∧ Int.toNat (x4 - y5L2) < r ∧ (0 ≤ y5L2) ∧ (y5L2 ≤ x4) ∧ E a' 66 [(1, .pointer (some ⟨b2, 0, none⟩)), (3, .int .i64 (fullI ap0)), (4, .int .i64 x4), (5, .int .i64 y5L2)] ∧ St w w' [.rd 1 ap1A ap1.length ap1C ap1, .blk b2 #[.int .i64 ap0, .slice ap1A ap1.length ap1C] 79]) (r := (Int.toNat (x4 - 0) + 1)) ?_ ?_
         · exact ⟨0, rfl, Nat.lt_succ_self _, (by first | omega | (simp only [sS_len, sL_len]; omega) | (simp only [List.length_replicate, sI_len]; omega) | (simp only [List.length_append, List.length_cons, List.length_nil, sI_len, cond_true, cond_false]; omega) | (simp only [List.length_append, List.length_cons, List.length_nil, sI_len, cond_eq_ite, apply_ite List.length]; split <;> simp only [List.length_append, List.length_cons, List.length_nil, sI_len] <;> omega) | grind), (by first | omega | (simp only [sS_len, sL_len]; omega) | (simp only [List.length_replicate, sI_len]; omega) | (simp only [List.length_append, List.length_cons, List.length_nil, sI_len, cond_true, cond_false]; omega) | (simp only [List.length_append, List.length_cons, List.length_nil, sI_len, cond_eq_ite, apply_ite List.length]; split <;> simp only [List.length_append, List.length_cons, List.length_nil, sI_len] <;> omega) | grind), (hE222.sub (L' := [(1, .pointer (some ⟨b2, 0, none⟩)), (3, .int .i64 (fullI ap0)), (4, .int .i64 x4), (5, .int .i64 0)]) ⟨rfl, rfl, rfl, rfl, trivial⟩), (St.pick (Γ' := [.rd 1 ap1A ap1.length ap1C ap1, .blk b2 #[.int .i64 ap0, .slice ap1A ap1.length ap1C] 79]) hS204 [0, 1] (by decide) rfl)⟩
         ·
          clear hE222 hS204
          rintro r232 a224 w225 ⟨y5L2, hT228, hr229, hi230, hi231, hE226, hS227⟩
          obtain ⟨r232, rfl⟩ : ∃ r', r232 = r' + 1 := ⟨r232 - 1, by omega⟩
          have hand := andI_le (m := x4) (k := y5L2) (by omega) (by omega) (by omega) (by omega)
          refine c_seq ?_
          refine c_seq ?_
          refine c_reg ?_
          refine q_step (v := .int .i64 y5L2) hE226 (y_move rfl) rfl rfl rfl ?_; intro a233 hE234; clear hE226
          refine q_step (v := .int .i64 x4) hE234 (y_move rfl) rfl rfl rfl ?_; intro a235 hE236; clear hE234
          refine q_step (v := .bool (decide (y5L2 < x4))) hE236 (y_lss rfl rfl) rfl rfl rfl ?_; intro a237 hE238; clear hE236
          refine c_nil ?_
          have hE239 := hE238.sub (L' := [(1, .pointer (some ⟨b2, 0, none⟩)), (3, .int .i64 (fullI ap0)), (4, .int .i64 x4), (5, .int .i64 y5L2), (44, .bool (decide (y5L2 < x4)))]) ⟨rfl, rfl, rfl, rfl, rfl, trivial⟩; clear hE238
          refine p_tn ?_
          refine c_cond hE239 rfl (fun ht240 => ?_) (fun ht240 => ?_)
          ·
           have hp241 := of_decide_eq_true ht240
           have hE242 := hE239; rw [ht240] at hE242; clear hE239
           refine wp_skip ?_
           refine p_tn ?_
           refine c_seq ?_
           refine wp_block ?_
           refine c_seq ?_
           refine d_start (fun w w' => (fun w' => w'.cell? ⟨b2, 1, none⟩ = some (.slice ap1A ap1.length ap1C) ∧ w'.cell? (adr ap1A (Int.toNat (andI x4 y5L2))) = some (.int .i64 (gI ap1 (andI x4 y5L2))) ∧ w'.cell? ⟨b2, 1, none⟩ = some (.slice ap1A ap1.length ap1C) ∧ w'.cell? (adr ap1A (Int.toNat x4)) = some (.int .i64 (gI ap1 x4)) ∧ w'.cell? ⟨b2, 1, none⟩ = some (.slice ap1A ap1.length ap1C) ∧ w'.cell? (adr ap1A (Int.toNat y5L2)) = some (.int .i64 (gI ap1 y5L2)) ∧ True) w → (fun w' => w'.cell? ⟨b2, 1, none⟩ = some (.slice ap1A ap1.length ap1C) ∧ w'.cell? (adr ap1A (Int.toNat (andI x4 y5L2))) = some (.int .i64 (gI ap1 (andI x4 y5L2))) ∧ w'.cell? ⟨b2, 1, none⟩ = some (.slice ap1A ap1.length ap1C) ∧ w'.cell? (adr ap1A (Int.toNat x4)) = some (.int .i64 (gI ap1 x4)) ∧ w'.cell? ⟨b2, 1, none⟩ = some (.slice ap1A ap1.length ap1C) ∧ w'.cell? (adr ap1A (Int.toNat y5L2)) = some (.int .i64 (gI ap1 y5L2)) ∧ True) w') [1, 6, 8, 11, 13, 16] 19 (by kernel_rfl) rfl ?_
           intro w243 he244; have hS245 := St.go hS227 he244; clear hS227
           refine d_pure (fun _ h => h) (v := .pointer (some ⟨b2, 1, none⟩)) 0 rfl hE242 (y_field rfl (fun _ => by kernel_rfl)) rfl (by kernel_rfl) (by kernel_rfl) (by kernel_rfl) rfl rfl (fun _ _ _ h => h) ?_; intro a246 hE247; clear hE242
           refine d_take (fun _ h => h) (fun _ _ h k => h k) (v := .slice ap1A ap1.length ap1C) 1 rfl hE247 (S := fun w' => w'.cell? ⟨b2, 1, none⟩ = some (.slice ap1A ap1.length ap1C) ∧ w'.cell? (adr ap1A (Int.toNat (andI x4 y5L2))) = some (.int .i64 (gI ap1 (andI x4 y5L2))) ∧ w'.cell? ⟨b2, 1, none⟩ = some (.slice ap1A ap1.length ap1C) ∧ w'.cell? (adr ap1A (Int.toNat x4)) = some (.int .i64 (gI ap1 x4)) ∧ w'.cell? ⟨b2, 1, none⟩ = some (.slice ap1A ap1.length ap1C) ∧ w'.cell? (adr ap1A (Int.toNat y5L2)) = some (.int .i64 (gI ap1 y5L2)) ∧ True) ⟨(St.cell (i := 1) hS245 rfl rfl _ (Ext.refl _)), (RdS.elt (St.rdR (i := 0) hS245 rfl) (by omega) (by omega) _ (Ext.refl _)), (St.cell (i := 1) hS245 rfl rfl _ (Ext.refl _)), (RdS.elt (St.rdR (i := 0) hS245 rfl) (by omega) (by omega) _ (Ext.refl _)), (St.cell (i := 1) hS245 rfl rfl _ (Ext.refl _)), (RdS.elt (St.rdR (i := 0) hS245 rfl) (by omega) (by omega) _ (Ext.refl _)), trivial⟩ (y_load (fun _ => by kernel_rfl) rfl (fun _ h => h.1)) rfl rfl (by kernel_rfl) (by kernel_rfl) (by kernel_rfl) (by kernel_rfl) rfl rfl (fun _ _ _ h => h) ?_; intro a248 hE249; clear hE247
           refine d_pure (fun _ h => h) (v := .int .i64 x4) 2 rfl hE249 (y_move rfl) rfl (by kernel_rfl) (by kernel_rfl) (by kernel_rfl) rfl rfl (fun _ _ _ h => h) ?_; intro a250 hE251; clear hE249
           refine d_pure (fun _ h => h) (v := .int .i64 y5L2) 3 rfl hE251 (y_move rfl) rfl (by kernel_rfl) (by kernel_rfl) (by kernel_rfl) rfl rfl (fun _ _ _ h => h) ?_; intro a252 hE253; clear hE251
           refine d_pure (fun _ h => h) (v := .int .i64 (andI x4 y5L2)) 4 rfl hE253 (y_and rfl rfl) rfl (by kernel_rfl) (by kernel_rfl) (by kernel_rfl) rfl rfl (fun _ _ _ h => h) ?_; intro a254 hE255; clear hE253
           refine d_pure (fun _ h => h) (v := .pointer (some (adr ap1A (Int.toNat (andI x4 y5L2))))) 5 rfl hE255 (y_idx (by kernel_rfl) (fun _ => by kernel_rfl) rfl rfl (RdS.isS (m := andI x4 y5L2) (St.rdR (i := 0) hS245 rfl) (by omega) (by omega)) (by omega) (by omega) (Nat.mul_one _).symm) rfl (by kernel_rfl) (by kernel_rfl) (by kernel_rfl) rfl rfl (fun _ _ _ h => h) ?_; intro a256 hE257; clear hE255
           refine d_take (fun _ h => h) (fun _ _ h k => h k) (v := .int .i64 (gI ap1 (andI x4 y5L2))) 6 rfl hE257 (S := fun w' => w'.cell? ⟨b2, 1, none⟩ = some (.slice ap1A ap1.length ap1C) ∧ w'.cell? (adr ap1A (Int.toNat (andI x4 y5L2))) = some (.int .i64 (gI ap1 (andI x4 y5L2))) ∧ w'.cell? ⟨b2, 1, none⟩ = some (.slice ap1A ap1.length ap1C) ∧ w'.cell? (adr ap1A (Int.toNat x4)) = some (.int .i64 (gI ap1 x4)) ∧ w'.cell? ⟨b2, 1, none⟩ = some (.slice ap1A ap1.length ap1C) ∧ w'.cell? (adr ap1A (Int.toNat y5L2)) = some (.int .i64 (gI ap1 y5L2)) ∧ True) ⟨(St.cell (i := 1) hS245 rfl rfl _ (Ext.refl _)), (RdS.elt (St.rdR (i := 0) hS245 rfl) (by omega) (by omega) _ (Ext.refl _)), (St.cell (i := 1) hS245 rfl rfl _ (Ext.refl _)), (RdS.elt (St.rdR (i := 0) hS245 rfl) (by omega) (by omega) _ (Ext.refl _)), (St.cell (i := 1) hS245 rfl rfl _ (Ext.refl _)), (RdS.elt (St.rdR (i := 0) hS245 rfl) (by omega) (by omega) _ (Ext.refl _)), trivial⟩ (y_load (fun _ => by kernel_rfl) rfl (fun _ h => h.2.1)) rfl rfl (by kernel_rfl) (by kernel_rfl) (by kernel_rfl) (by kernel_rfl) rfl rfl (fun _ _ _ h => h) ?_; intro a258 hE259; clear hE257
           refine d_pure (fun _ h => h) (v := .pointer (some ⟨b2, 1, none⟩)) 7 rfl hE259 (y_field rfl (fun _ => by kernel_rfl)) rfl (by kernel_rfl) (by kernel_rfl) (by kernel_rfl) rfl rfl (fun _ _ _ h => h) ?_; intro a260 hE261; clear hE259
           refine d_take (fun _ h => h) (fun _ _ h k => h k) (v := .slice ap1A ap1.length ap1C) 8 rfl hE261 (S := fun w' => w'.cell? ⟨b2, 1, none⟩ = some (.slice ap1A ap1.length ap1C) ∧ w'.cell? (adr ap1A (Int.toNat (andI x4 y5L2))) = some (.int .i64 (gI ap1 (andI x4 y5L2))) ∧ w'.cell? ⟨b2, 1, none⟩ = some (.slice ap1A ap1.length ap1C) ∧ w'.cell? (adr ap1A (Int.toNat x4)) = some (.int .i64 (gI ap1 x4)) ∧ w'.cell? ⟨b2, 1, none⟩ = some (.slice ap1A ap1.length ap1C) ∧ w'.cell? (adr ap1A (Int.toNat y5L2)) = some (.int .i64 (gI ap1 y5L2)) ∧ True) ⟨(St.cell (i := 1) hS245 rfl rfl _ (Ext.refl _)), (RdS.elt (St.rdR (i := 0) hS245 rfl) (by omega) (by omega) _ (Ext.refl _)), (St.cell (i := 1) hS245 rfl rfl _ (Ext.refl _)), (RdS.elt (St.rdR (i := 0) hS245 rfl) (by omega) (by omega) _ (Ext.refl _)), (St.cell (i := 1) hS245 rfl rfl _ (Ext.refl _)), (RdS.elt (St.rdR (i := 0) hS245 rfl) (by omega) (by omega) _ (Ext.refl _)), trivial⟩ (y_load (fun _ => by kernel_rfl) rfl (fun _ h => h.2.2.1)) rfl rfl (by kernel_rfl) (by kernel_rfl) (by kernel_rfl) (by kernel_rfl) rfl rfl (fun _ _ _ h => h) ?_; intro a262 hE263; clear hE261
           refine d_pure (fun _ h => h) (v := .int .i64 x4) 9 rfl hE263 (y_move rfl) rfl (by kernel_rfl) (by kernel_rfl) (by kernel_rfl) rfl rfl (fun _ _ _ h => h) ?_; intro a264 hE265; clear hE263
           refine d_pure (fun _ h => h) (v := .pointer (some (adr ap1A (Int.toNat x4)))) 10 rfl hE265 (y_idx (by kernel_rfl) (fun _ => by kernel_rfl) rfl rfl (RdS.isS (m := x4) (St.rdR (i := 0) hS245 rfl) (by omega) (by omega)) (by omega) (by omega) (Nat.mul_one _).symm) rfl (by kernel_rfl) (by kernel_rfl) (by kernel_rfl) rfl rfl (fun _ _ _ h => h) ?_; intro a266 hE267; clear hE265
           refine d_take (fun _ h => h) (fun _ _ h k => h k) (v := .int .i64 (gI ap1 x4)) 11 rfl hE267 (S := fun w' => w'.cell? ⟨b2, 1, none⟩ = some (.slice ap1A ap1.length ap1C) ∧ w'.cell? (adr ap1A (Int.toNat (andI x4 y5L2))) = some (.int .i64 (gI ap1 (andI x4 y5L2))) ∧ w'.cell? ⟨b2, 1, none⟩ = some (.slice ap1A ap1.length ap1C) ∧ w'.cell? (adr ap1A (Int.toNat x4)) = some (.int .i64 (gI ap1 x4)) ∧ w'.cell? ⟨b2, 1, none⟩ = some (.slice ap1A ap1.length ap1C) ∧ w'.cell? (adr ap1A (Int.toNat y5L2)) = some (.int .i64 (gI ap1 y5L2)) ∧ True) ⟨(St.cell (i := 1) hS245 rfl rfl _ (Ext.refl _)), (RdS.elt (St.rdR (i := 0) hS245 rfl) (by omega) (by omega) _ (Ext.refl _)), (St.cell (i := 1) hS245 rfl rfl _ (Ext.refl _)), (RdS.elt (St.rdR (i := 0) hS245 rfl) (by omega) (by omega) _ (Ext.refl _)), (St.cell (i := 1) hS245 rfl rfl _ (Ext.refl _)), (RdS.elt (St.rdR (i := 0) hS245 rfl) (by omega) (by omega) _ (Ext.refl _)), trivial⟩ (y_load (fun _ => by kernel_rfl) rfl (fun _ h => h.2.2.2.1)) rfl rfl (by kernel_rfl) (by kernel_rfl) (by kernel_rfl) (by kernel_rfl) rfl rfl (fun _ _ _ h => h) ?_; intro a268 hE269; clear hE267
           refine d_pure (fun _ h => h) (v := .pointer (some ⟨b2, 1, none⟩)) 12 rfl hE269 (y_field rfl (fun _ => by kernel_rfl)) rfl (by kernel_rfl) (by kernel_rfl) (by kernel_rfl) rfl rfl (fun _ _ _ h => h) ?_; intro a270 hE271; clear hE269
           refine d_take (fun _ h => h) (fun _ _ h k => h k) (v := .slice ap1A ap1.length ap1C) 13 rfl hE271 (S := fun w' => w'.cell? ⟨b2, 1, none⟩ = some (.slice ap1A ap1.length ap1C) ∧ w'.cell? (adr ap1A (Int.toNat (andI x4 y5L2))) = some (.int .i64 (gI ap1 (andI x4 y5L2))) ∧ w'.cell? ⟨b2, 1, none⟩ = some (.slice ap1A ap1.length ap1C) ∧ w'.cell? (adr ap1A (Int.toNat x4)) = some (.int .i64 (gI ap1 x4)) ∧ w'.cell? ⟨b2, 1, none⟩ = some (.slice ap1A ap1.length ap1C) ∧ w'.cell? (adr ap1A (Int.toNat y5L2)) = some (.int .i64 (gI ap1 y5L2)) ∧ True) ⟨(St.cell (i := 1) hS245 rfl rfl _ (Ext.refl _)), (RdS.elt (St.rdR (i := 0) hS245 rfl) (by omega) (by omega) _ (Ext.refl _)), (St.cell (i := 1) hS245 rfl rfl _ (Ext.refl _)), (RdS.elt (St.rdR (i := 0) hS245 rfl) (by omega) (by omega) _ (Ext.refl _)), (St.cell (i := 1) hS245 rfl rfl _ (Ext.refl _)), (RdS.elt (St.rdR (i := 0) hS245 rfl) (by omega) (by omega) _ (Ext.refl _)), trivial⟩ (y_load (fun _ => by kernel_rfl) rfl (fun _ h => h.2.2.2.2.1)) rfl rfl (by kernel_rfl) (by kernel_rfl) (by kernel_rfl) (by kernel_rfl) rfl rfl (fun _ _ _ h => h) ?_; intro a272 hE273; clear hE271
           refine d_pure (fun _ h => h) (v := .int .i64 y5L2) 14 rfl hE273 (y_move rfl) rfl (by kernel_rfl) (by kernel_rfl) (by kernel_rfl) rfl rfl (fun _ _ _ h => h) ?_; intro a274 hE275; clear hE273
           refine d_pure (fun _ h => h) (v := .pointer (some (adr ap1A (Int.toNat y5L2)))) 15 rfl hE275 (y_idx (by kernel_rfl) (fun _ => by kernel_rfl) rfl rfl (RdS.isS (m := y5L2) (St.rdR (i := 0) hS245 rfl) (by omega) (by omega)) (by omega) (by omega) (Nat.mul_one _).symm) rfl (by kernel_rfl) (by kernel_rfl) (by kernel_rfl) rfl rfl (fun _ _ _ h => h) ?_; intro a276 hE277; clear hE275
           refine d_take (fun _ h => h) (fun _ _ h k => h k) (v := .int .i64 (gI ap1 y5L2)) 16 rfl hE277 (S := fun w' => w'.cell? ⟨b2, 1, none⟩ = some (.slice ap1A ap1.length ap1C) ∧ w'.cell? (adr ap1A (Int.toNat (andI x4 y5L2))) = some (.int .i64 (gI ap1 (andI x4 y5L2))) ∧ w'.cell? ⟨b2, 1, none⟩ = some (.slice ap1A ap1.length ap1C) ∧ w'.cell? (adr ap1A (Int.toNat x4)) = some (.int .i64 (gI ap1 x4)) ∧ w'.cell? ⟨b2, 1, none⟩ = some (.slice ap1A ap1.length ap1C) ∧ w'.cell? (adr ap1A (Int.toNat y5L2)) = some (.int .i64 (gI ap1 y5L2)) ∧ True) ⟨(St.cell (i := 1) hS245 rfl rfl _ (Ext.refl _)), (RdS.elt (St.rdR (i := 0) hS245 rfl) (by omega) (by omega) _ (Ext.refl _)), (St.cell (i := 1) hS245 rfl rfl _ (Ext.refl _)), (RdS.elt (St.rdR (i := 0) hS245 rfl) (by omega) (by omega) _ (Ext.refl _)), (St.cell (i := 1) hS245 rfl rfl _ (Ext.refl _)), (RdS.elt (St.rdR (i := 0) hS245 rfl) (by omega) (by omega) _ (Ext.refl _)), trivial⟩ (y_load (fun _ => by kernel_rfl) rfl (fun _ h => h.2.2.2.2.2.1)) rfl rfl (by kernel_rfl) (by kernel_rfl) (by kernel_rfl) (by kernel_rfl) rfl rfl (fun _ _ _ h => h) ?_; intro a278 hE279; clear hE277
           refine d_pure (fun _ h => h) (v := .int .i64 (andI (gI ap1 x4) (gI ap1 y5L2))) 17 rfl hE279 (y_and rfl rfl) rfl (by kernel_rfl) (by kernel_rfl) (by kernel_rfl) rfl rfl (fun _ _ _ h => h) ?_; intro a280 hE281; clear hE279
           refine d_pure (fun _ h => h) (v := .bool (!decide ((gI ap1 (andI x4 y5L2)) = (andI (gI ap1 x4) (gI ap1 y5L2))))) 18 rfl hE281 (y_neq rfl rfl) rfl (by kernel_rfl) (by kernel_rfl) (by kernel_rfl) rfl rfl (fun _ _ _ h => h) ?_; intro a282 hE283; clear hE281
           refine d_done (by kernel_rfl) ?_
           have hE284 := hE283.sub (L' := [(1, .pointer (some ⟨b2, 0, none⟩)), (3, .int .i64 (fullI ap0)), (4, .int .i64 x4), (5, .int .i64 y5L2), (65, .bool (!decide ((gI ap1 (andI x4 y5L2)) = (andI (gI ap1 x4) (gI ap1 y5L2)))))]) ⟨rfl, rfl, rfl, rfl, rfl, trivial⟩; clear hE283
           refine p_tn ?_
           refine c_cond hE284 rfl (fun ht285 => ?_) (fun ht285 => ?_)
           ·
            have ht286 := bn_t ht285
            have hp287 := of_decide_eq_false ht286
            have hE288 := hE284; rw [ht285] at hE288; clear hE284
            refine c_seq ?_
            refine c_reg ?_
            refine q_step (v := .bool false) hE288 (y_assign rfl) rfl rfl rfl ?_; intro a289 hE290; clear hE288
            refine c_nil ?_
            have hE291 := hE290.sub (L' := [(2, .bool false)]) ⟨rfl, trivial⟩; clear hE290
            refine p_tn ?_
            refine wp_ret ?_
            refine p_br ?_
            refine p_tr ?_
            have hX292 : F_l15Is_L2 ap1 x4 (Int.toNat (x4 - 0) + 1) 0 = .error false := hT228.symm.trans (show F_l15Is_L2b ap1 x4 (F_l15Is_L2 ap1 x4 r232) y5L2 = .error false by unfold F_l15Is_L2b; rw [ht285, ht240]; first | done | rfl)
            refine p_tr (p_br (p_tr ?_))
            refine p_br ?_
            refine p_tr ?_
            have hX293 : F_l15Is_L1 ap0 ap1 (Int.toNat ((fullI ap0) + 1 - 0) + 1) 0 = .error false := hT205.symm.trans (show F_l15Is_L1b ap0 ap1 (F_l15Is_L1 ap0 ap1 r209) x4 = .error false by unfold F_l15Is_L1b; rw [hX292, ht217]; first | done | rfl)
            refine p_tr (p_br (p_tr ?_))
            refine p_tr ?_
            have hF : F_l15Is ap0 ap1 = false := by unfold F_l15Is; rw [hX293, ht187, ht142]; first | done | rfl
            refine c_ret1 hE291 rfl rfl ?_
            exact ⟨(by rw [hF]; first | done | (dsimp only; done) | rfl), hS245.ext⟩
           ·
            have ht294 := bn_f ht285
            have hp295 := of_decide_eq_true ht294
            have hE296 := hE284; rw [ht285] at hE296; clear hE284
            refine wp_skip ?_
            refine p_bn ?_
            refine p_tn ?_
            refine c_reg ?_
            refine q_step (v := .int .i64 y5L2) hE296 (y_move rfl) rfl rfl rfl ?_; intro a297 hE298; clear hE296
            refine q_step (v := .int .i64 (y5L2 + 1)) hE298 (y_add rfl rfl ⟨(by omega), (by omega)⟩) rfl rfl rfl ?_; intro a299 hE300; clear hE298
            refine q_step (v := .int .i64 (y5L2 + 1)) hE300 (y_assign rfl) rfl rfl rfl ?_; intro a301 hE302; clear hE300
            refine c_nil ?_
            have hE303 := hE302.sub (L' := [(1, .pointer (some ⟨b2, 0, none⟩)), (3, .int .i64 (fullI ap0)), (4, .int .i64 x4), (5, .int .i64 (y5L2 + 1))]) ⟨rfl, rfl, rfl, rfl, trivial⟩; clear hE302
            refine p_tn ⟨r232, Nat.lt_succ_self _, y5L2 + 1, (hT228.symm.trans (show F_l15Is_L2b ap1 x4 (F_l15Is_L2 ap1 x4 r232) y5L2 = F_l15Is_L2 ap1 x4 r232 (y5L2 + 1) by unfold F_l15Is_L2b; rw [ht285, ht240]; first | done | rfl)).symm, (by omega), (by first | omega | (simp only [sS_len, sL_len]; omega) | (simp only [List.length_replicate, sI_len]; omega) | (simp only [List.length_append, List.length_cons, List.length_nil, sI_len, cond_true, cond_false]; omega) | (simp only [List.length_append, List.length_cons, List.length_nil, sI_len, cond_eq_ite, apply_ite List.length]; split <;> simp only [List.length_append, List.length_cons, List.length_nil, sI_len] <;> omega) | grind), (by first | omega | (simp only [sS_len, sL_len]; omega) | (simp only [List.length_replicate, sI_len]; omega) | (simp only [List.length_append, List.length_cons, List.length_nil, sI_len, cond_true, cond_false]; omega) | (simp only [List.length_append, List.length_cons, List.length_nil, sI_len, cond_eq_ite, apply_ite List.length]; split <;> simp only [List.length_append, List.length_cons, List.length_nil, sI_len] <;> omega) | grind), (hE303.sub (L' := [(1, .pointer (some ⟨b2, 0, none⟩)), (3, .int .i64 (fullI ap0)), (4, .int .i64 x4), (5, .int .i64 (y5L2 + 1))]) ⟨rfl, rfl, rfl, rfl, trivial⟩), (St.pick (Γ' := [.rd 1 ap1A ap1.length ap1C ap1, .blk b2 #[.int .i64 ap0, .slice ap1A ap1.length ap1C] 79]) hS245 [0, 1] (by decide) rfl)⟩
          ·
           have hp304 := of_decide_eq_false ht240
           have hE305 := hE239; rw [ht240] at hE305; clear hE239
           refine wp_exit ?_
           refine p_te ?_
           have hX306 : F_l15Is_L2 ap1 x4 (Int.toNat (x4 - 0) + 1) 0 = .ok y5L2 := hT228.symm.trans (show F_l15Is_L2b ap1 x4 (F_l15Is_L2 ap1 x4 r232) y5L2 = .ok y5L2 by unfold F_l15Is_L2b; rw [ht240]; first | done | rfl)
           refine p_te (p_be (p_tn ?_))
           exact ⟨(by rw [hX306]; rfl), (by rw [hX306]; exact (show 0 ≤ y5L2 from (by first | omega | (simp only [sS_len, sL_len]; omega) | (simp only [List.length_replicate, sI_len]; omega) | (simp only [List.length_append, List.length_cons, List.length_nil, sI_len, cond_true, cond_false]; omega) | (simp only [List.length_append, List.length_cons, List.length_nil, sI_len, cond_eq_ite, apply_ite List.length]; split <;> simp only [List.length_append, List.length_cons, List.length_nil, sI_len] <;> omega) | grind))), (by rw [hX306]; exact (show y5L2 ≤ x4 from (by first | omega | (simp only [sS_len, sL_len]; omega) | (simp only [List.length_replicate, sI_len]; omega) | (simp only [List.length_append, List.length_cons, List.length_nil, sI_len, cond_true, cond_false]; omega) | (simp only [List.length_append, List.length_cons, List.length_nil, sI_len, cond_eq_ite, apply_ite List.length]; split <;> simp only [List.length_append, List.length_cons, List.length_nil, sI_len] <;> omega) | grind))), (by rw [hX306]; exact (hE305.sub (L' := [(1, .pointer (some ⟨b2, 0, none⟩)), (3, .int .i64 (fullI ap0)), (4, .int .i64 x4), (5, .int .i64 y5L2)]) ⟨rfl, rfl, rfl, rfl, trivial⟩)), (St.pick (Γ' := [.rd 1 ap1A ap1.length ap1C ap1, .blk b2 #[.int .i64 ap0, .slice ap1A ap1.length ap1C] 79]) hS227 [0, 1] (by decide) rfl)⟩
        ·
         rintro a307 w308 ⟨hO311, hi312, hi313, hE309, hS310⟩; clear hE222 hS204
         refine p_bn ?_
         refine p_tn ?_
         refine c_reg ?_
         refine q_step (v := .int .i64 x4) hE309 (y_move rfl) rfl rfl rfl ?_; intro a314 hE315; clear hE309
         refine q_step (v := .int .i64 (x4 + 1)) hE315 (y_add rfl rfl ⟨(by omega), (by omega)⟩) rfl rfl rfl ?_; intro a316 hE317; clear hE315
         refine q_step (v := .int .i64 (x4 + 1)) hE317 (y_assign rfl) rfl rfl rfl ?_; intro a318 hE319; clear hE317
         refine c_nil ?_
         have hE320 := hE319.sub (L' := [(1, .pointer (some ⟨b2, 0, none⟩)), (3, .int .i64 (fullI ap0)), (4, .int .i64 (x4 + 1))]) ⟨rfl, rfl, rfl, trivial⟩; clear hE319
         refine p_tn ⟨r209, Nat.lt_succ_self _, x4 + 1, (hT205.symm.trans (show F_l15Is_L1b ap0 ap1 (F_l15Is_L1 ap0 ap1 r209) x4 = F_l15Is_L1 ap0 ap1 r209 (x4 + 1) by unfold F_l15Is_L1b; rw [hO311, ht217]; first | done | rfl)).symm, (by omega), (by first | omega | (simp only [sS_len, sL_len]; omega) | (simp only [List.length_replicate, sI_len]; omega) | (simp only [List.length_append, List.length_cons, List.length_nil, sI_len, cond_true, cond_false]; omega) | (simp only [List.length_append, List.length_cons, List.length_nil, sI_len, cond_eq_ite, apply_ite List.length]; split <;> simp only [List.length_append, List.length_cons, List.length_nil, sI_len] <;> omega) | grind), (by first | omega | (simp only [sS_len, sL_len]; omega) | (simp only [List.length_replicate, sI_len]; omega) | (simp only [List.length_append, List.length_cons, List.length_nil, sI_len, cond_true, cond_false]; omega) | (simp only [List.length_append, List.length_cons, List.length_nil, sI_len, cond_eq_ite, apply_ite List.length]; split <;> simp only [List.length_append, List.length_cons, List.length_nil, sI_len] <;> omega) | grind), (hE320.sub (L' := [(1, .pointer (some ⟨b2, 0, none⟩)), (3, .int .i64 (fullI ap0)), (4, .int .i64 (x4 + 1))]) ⟨rfl, rfl, rfl, trivial⟩), (St.pick (Γ' := [.rd 1 ap1A ap1.length ap1C ap1, .blk b2 #[.int .i64 ap0, .slice ap1A ap1.length ap1C] 79]) hS310 [0, 1] (by decide) rfl)⟩
       ·
        have hp321 := of_decide_eq_false ht217
        have hE322 := hE216; rw [ht217] at hE322; clear hE216
        refine wp_exit ?_
        refine p_te ?_
        have hX323 : F_l15Is_L1 ap0 ap1 (Int.toNat ((fullI ap0) + 1 - 0) + 1) 0 = .ok x4 := hT205.symm.trans (show F_l15Is_L1b ap0 ap1 (F_l15Is_L1 ap0 ap1 r209) x4 = .ok x4 by unfold F_l15Is_L1b; rw [ht217]; first | done | rfl)
        refine p_te (p_be (p_tn ?_))
        exact ⟨(by rw [hX323]; rfl), (by rw [hX323]; exact (show 0 ≤ x4 from (by first | omega | (simp only [sS_len, sL_len]; omega) | (simp only [List.length_replicate, sI_len]; omega) | (simp only [List.length_append, List.length_cons, List.length_nil, sI_len, cond_true, cond_false]; omega) | (simp only [List.length_append, List.length_cons, List.length_nil, sI_len, cond_eq_ite, apply_ite List.length]; split <;> simp only [List.length_append, List.length_cons, List.length_nil, sI_len] <;> omega) | grind))), (by rw [hX323]; exact (show x4 ≤ fullI ap0 + 1 from (by first | omega | (simp only [sS_len, sL_len]; omega) | (simp only [List.length_replicate, sI_len]; omega) | (simp only [List.length_append, List.length_cons, List.length_nil, sI_len, cond_true, cond_false]; omega) | (simp only [List.length_append, List.length_cons, List.length_nil, sI_len, cond_eq_ite, apply_ite List.length]; split <;> simp only [List.length_append, List.length_cons, List.length_nil, sI_len] <;> omega) | grind))), (by rw [hX323]; exact (hE322.sub (L' := [(1, .pointer (some ⟨b2, 0, none⟩)), (3, .int .i64 (fullI ap0)), (4, .int .i64 x4)]) ⟨rfl, rfl, rfl, trivial⟩)), (St.pick (Γ' := [.rd 1 ap1A ap1.length ap1C ap1, .blk b2 #[.int .i64 ap0, .slice ap1A ap1.length ap1C] 79]) hS204 [0, 1] (by decide) rfl)⟩
     ·
      rintro a324 w325 ⟨hO328, hi329, hi330, hE326, hS327⟩; clear hE199 hS140
      refine p_tn ?_
      refine c_seq ?_
      refine c_reg ?_
      refine q_step (v := .bool true) hE326 (y_assign rfl) rfl rfl rfl ?_; intro a331 hE332; clear hE326
      refine c_nil ?_
      have hE333 := hE332.sub (L' := [(2, .bool true)]) ⟨rfl, trivial⟩; clear hE332
      refine p_tn ?_
      refine wp_ret ?_
      have hF : F_l15Is ap0 ap1 = true := by unfold F_l15Is; rw [hO328, ht187, ht142]; first | done | rfl
      refine c_ret1 hE333 rfl rfl ?_
      exact ⟨(by rw [hF]; first | done | (dsimp only; done) | rfl), hS327.ext⟩
theorem l15Is_t {ap0 : Int} {ap1 : List Int} (h : F_l15Is ap0 ap1 = true) : ((0 ≤ ap0 ∧ ap0 ≤ 5) ∧ 0 ≤ fullI ap0 ∧ fullI ap0 ≤ 31) ∧ (ap1.length : Int) = fullI ap0 + 1 ∧ ∀ m : Int, 0 ≤ m → m < (ap1.length : Int) → 0 ≤ gI ap1 m ∧ gI ap1 m ≤ fullI ap0 := by
  unfold F_l15Is at h
  cases h1 : ((!(F_l01In ap0 0 5)) || ((!decide ((ap1.length : Int) = (powI ap0))) || (!(F_l01Masks ap0 ap1))))
  · obtain ⟨h2, h3⟩ := bor_f h1
    obtain ⟨h3, h4⟩ := bor_f h3
    refine ⟨in5_t (bn_f h2), ?_, masks_mem (bn_f h4)⟩
    have := of_decide_eq_true (bn_f h3)
    rw [fullI_pow]; omega
  · rw [h1] at h; cases h
def F_isModalAlgebra_L2b (ap1 : List Int) (t27 : Int) (rec : Int → Except (Bool) (Int)) (t31L2 : Int) : Except (Bool) (Int) :=
  bif (decide (t31L2 < t27)) then (bif (!decide ((gI ap1 (andI t27 t31L2)) = (andI (gI ap1 t27) (gI ap1 t31L2)))) then (.error false) else (rec (t31L2 + 1))) else (.ok t31L2)
def F_isModalAlgebra_L2 (ap1 : List Int) (t27 : Int) : Nat → Int → Except (Bool) (Int)
  | 0, t31L2 => .ok t31L2
  | r + 1, t31L2 => F_isModalAlgebra_L2b ap1 t27 (F_isModalAlgebra_L2 ap1 t27 r) t31L2
def F_isModalAlgebra_L1b (ap1 : List Int) (rec : Int → Except (Bool) (Int)) (t27 : Int) : Except (Bool) (Int) :=
  bif (decide (t27 < (ap1.length : Int))) then (bif (isOk (F_isModalAlgebra_L2 ap1 t27 (Int.toNat (t27 - 0) + 1) 0)) then (rec (t27 + 1)) else (.error (errD (F_isModalAlgebra_L2 ap1 t27 (Int.toNat (t27 - 0) + 1) 0)))) else (.ok t27)
def F_isModalAlgebra_L1 (ap1 : List Int) : Nat → Int → Except (Bool) (Int)
  | 0, t27 => .ok t27
  | r + 1, t27 => F_isModalAlgebra_L1b ap1 (F_isModalAlgebra_L1 ap1 r) t27
def F_isModalAlgebra (ap0 : Int) (ap1 : List Int) : Bool :=
  bif ((!(F_inRange ap0 0 5)) || ((!decide ((ap1.length : Int) = ((fullI ap0) + 1))) || (F_z_ContainsFunc ap1 (fun x0 => F_isModalAlgebra_k1 x0 ap0 ap1)))) then false else (bif (isOk (F_isModalAlgebra_L1 ap1 (Int.toNat ((ap1.length : Int) - 0) + 1) 0)) then (decide ((gI ap1 (fullI ap0)) = (fullI ap0))) else (errD (F_isModalAlgebra_L1 ap1 (Int.toNat ((ap1.length : Int) - 0) + 1) 0)))
theorem cf_isModalAlgebra (args : Array Value) (w : World) : (callFunc 129 args).run Try.prog w = .ok (.enter 129 args) w := by kernel_rfl
set_option maxRecDepth 100000 in
theorem c_isModalAlgebra (ap0 : Int) (ap1A : Option Addr) (ap1N ap1C : Nat) (ap1 : List Int) (w : World) (ap1R : RdS w 1 ap1A ap1N ap1C ap1) :
    Calls Try.prog 129 #[.agg #[.int .i64 ap0, .slice ap1A ap1N ap1C]] w (Ret fun v w' => v = .bool (F_isModalAlgebra ap0 ap1) ∧ Ext w w') := by
  obtain rfl : ap1N = ap1.length := ap1R.len1.symm
  have ap1Le := ap1R.le
  have hS := St.nil w
  have hS1 := St.rd0 hS rfl ap1R; clear hS
  refine enter (args := [.agg #[.int .i64 ap0, .slice ap1A ap1.length ap1C]]) Try.func129 rfl rfl ?_
  rw [Try.ntmps129]; intro a hE
  have hE := hE.sub (L' := [(0, .agg #[.int .i64 ap0, .slice ap1A ap1.length ap1C])]) ⟨rfl, trivial⟩
  refine c_seq ?_
  refine c_reg ?_
  refine l_step hE rfl (l_box (v := .agg #[.int .i64 ap0, .slice ap1A ap1.length ap1C]) (cs := #[.int .i64 ap0, .slice ap1A ap1.length ap1C]) hS1 hE rfl rfl rfl ?_)
  intro b2 w3 hS6 he7 a4 hE5; clear hS1 hE
  refine q_step (v := .bool false) hE5 (y_assign rfl) rfl rfl rfl ?_; intro a8 hE9; clear hE5
  refine c_nil ?_
  have hE10 := hE9.sub (L' := [(1, .pointer (some ⟨b2, 0, none⟩))]) ⟨rfl, trivial⟩; clear hE9
  refine p_tn ?_
  refine c_seq ?_
  refine c_cut (fun a' w' => E a' 64 [(1, .pointer (some ⟨b2, 0, none⟩)), (23, .bool ((!(F_inRange ap0 0 5)) || ((!decide ((ap1.length : Int) = ((fullI ap0) + 1))) || (F_z_ContainsFunc ap1 (fun x0 => F_isModalAlgebra_k1 x0 ap0 ap1)))))] ∧ St w w' [.rd 1 ap1A ap1.length ap1C ap1, .blk b2 #[.int .i64 ap0, .slice ap1A ap1.length ap1C] 79]) ?_ ?_
  ·
   refine d_start (fun w w' => (fun w' => w'.cell? ⟨b2, 0, none⟩ = some (.int .i64 ap0) ∧ w'.cell? ⟨b2, 1, none⟩ = some (.slice ap1A ap1.length ap1C) ∧ w'.heap[b2]? = some (.cells #[.int .i64 ap0, .slice ap1A ap1.length ap1C] 79 (0, 0)) ∧ w'.cell? ⟨b2, 1, none⟩ = some (.slice ap1A ap1.length ap1C) ∧ True) w → (fun w' => w'.cell? ⟨b2, 0, none⟩ = some (.int .i64 ap0) ∧ w'.cell? ⟨b2, 1, none⟩ = some (.slice ap1A ap1.length ap1C) ∧ w'.heap[b2]? = some (.cells #[.int .i64 ap0, .slice ap1A ap1.length ap1C] 79 (0, 0)) ∧ w'.cell? ⟨b2, 1, none⟩ = some (.slice ap1A ap1.length ap1C) ∧ True) w') [1, 6, 8, 15] 19 (by kernel_rfl) rfl ?_
   intro w11 he12; have hS13 := St.go hS6 he12; clear hS6
   refine d_pure (fun _ h => h) (v := .pointer (some ⟨b2, 0, none⟩)) 0 rfl hE10 (y_field rfl (fun _ => by kernel_rfl)) rfl (by kernel_rfl) (by kernel_rfl) (by kernel_rfl) rfl rfl (fun _ _ _ h => h) ?_; intro a14 hE15; clear hE10
   refine d_take (fun _ h => h) (fun _ _ h k => h k) (v := .int .i64 ap0) 1 rfl hE15 (S := fun w' => w'.cell? ⟨b2, 0, none⟩ = some (.int .i64 ap0) ∧ w'.cell? ⟨b2, 1, none⟩ = some (.slice ap1A ap1.length ap1C) ∧ w'.heap[b2]? = some (.cells #[.int .i64 ap0, .slice ap1A ap1.length ap1C] 79 (0, 0)) ∧ w'.cell? ⟨b2, 1, none⟩ = some (.slice ap1A ap1.length ap1C) ∧ True) ⟨(St.cell (i := 0) hS13 rfl rfl _ (Ext.refl _)), (St.cell (i := 0) hS13 rfl rfl _ (Ext.refl _)), (St.row (i := 0) hS13 rfl _ (Ext.refl _)), (St.cell (i := 0) hS13 rfl rfl _ (Ext.refl _)), trivial⟩ (y_load (fun _ => by kernel_rfl) rfl (fun _ h => h.1)) rfl rfl (by kernel_rfl) (by kernel_rfl) (by kernel_rfl) (by kernel_rfl) rfl rfl (fun _ _ _ h => h) ?_; intro a16 hE17; clear hE15
   refine d_only 2 (by kernel_rfl) rfl hE17 rfl (l_call (f := 87) (argv := [.int .i64 ap0, .int .i64 0, .int .i64 5]) hE17 (fun _ => cf_inRange _ _) rfl rfl (c_inRange ap0 0 5 w11) ?_)
   rintro _ _ ⟨rfl, rfl⟩ a20 hE21; clear hE17
   refine ⟨fun _ _ => ⟨(St.cell (i := 0) hS13 rfl rfl _ (Ext.refl _)), (St.cell (i := 0) hS13 rfl rfl _ (Ext.refl _)), (St.row (i := 0) hS13 rfl _ (Ext.refl _)), (St.cell (i := 0) hS13 rfl rfl _ (Ext.refl _)), trivial⟩, ?_⟩
   refine d_pure (fun _ h => h) (v := .bool (!(F_inRange ap0 0 5))) 3 rfl hE21 (y_not rfl) rfl (by kernel_rfl) (by kernel_rfl) (by kernel_rfl) rfl rfl (fun _ _ _ h => h) ?_; intro a24 hE25; clear hE21
   refine d_pure (fun _ h => h) (v := .bool (!(F_inRange ap0 0 5))) 4 rfl hE25 (y_move rfl) rfl (by kernel_rfl) (by kernel_rfl) (by kernel_rfl) rfl rfl (fun _ _ _ h => h) ?_; intro a26 hE27; clear hE25
   rcases Bool.eq_false_or_eq_true (!(F_inRange ap0 0 5)) with hb28 | hb28
   ·
    have hE29 := hE27; (try rw [hb28] at hE29); clear hE27
    have ht30 := bn_t hb28
    refine d_skip (fun _ h => h) 5 rfl hE29 rfl (by kernel_rfl) (by kernel_rfl) (by kernel_rfl) rfl rfl (fun _ _ _ h => h) ?_; intro a31 hE32; clear hE29
    refine d_skip (fun _ h => h) 6 rfl hE32 rfl (by kernel_rfl) (by kernel_rfl) (by kernel_rfl) rfl rfl (fun _ _ _ h => h) ?_; intro a33 hE34; clear hE32
    refine d_skip (fun _ h => h) 7 rfl hE34 rfl (by kernel_rfl) (by kernel_rfl) (by kernel_rfl) rfl rfl (fun _ _ _ h => h) ?_; intro a35 hE36; clear hE34
    refine d_skip (fun _ h => h) 8 rfl hE36 rfl (by kernel_rfl) (by kernel_rfl) (by kernel_rfl) rfl rfl (fun _ _ _ h => h) ?_; intro a37 hE38; clear hE36
    refine d_skip (fun _ h => h) 9 rfl hE38 rfl (by kernel_rfl) (by kernel_rfl) (by kernel_rfl) rfl rfl (fun _ _ _ h => h) ?_; intro a39 hE40; clear hE38
    refine d_skip (fun _ h => h) 10 rfl hE40 rfl (by kernel_rfl) (by kernel_rfl) (by kernel_rfl) rfl rfl (fun _ _ _ h => h) ?_; intro a41 hE42; clear hE40
    refine d_skip (fun _ h => h) 11 rfl hE42 rfl (by kernel_rfl) (by kernel_rfl) (by kernel_rfl) rfl rfl (fun _ _ _ h => h) ?_; intro a43 hE44; clear hE42
    refine d_pure (fun _ h => h) (v := .bool true) 12 rfl hE44 (y_pick (b := true) rfl rfl) rfl (by kernel_rfl) (by kernel_rfl) (by kernel_rfl) rfl rfl (fun _ _ _ h => h) ?_; intro a45 hE46; clear hE44
    refine d_pure (fun _ h => h) (v := .bool true) 13 rfl hE46 (y_move rfl) rfl (by kernel_rfl) (by kernel_rfl) (by kernel_rfl) rfl rfl (fun _ _ _ h => h) ?_; intro a47 hE48; clear hE46
    refine d_skip (fun _ h => h) 14 rfl hE48 rfl (by kernel_rfl) (by kernel_rfl) (by kernel_rfl) rfl rfl (fun _ _ _ h => h) ?_; intro a49 hE50; clear hE48
    refine d_skip (fun _ h => h) 15 rfl hE50 rfl (by kernel_rfl) (by kernel_rfl) (by kernel_rfl) rfl rfl (fun _ _ _ h => h) ?_; intro a51 hE52; clear hE50
    refine d_skip (fun _ h => h) 16 rfl hE52 rfl (by kernel_rfl) (by kernel_rfl) (by kernel_rfl) rfl rfl (fun _ _ _ h => h) ?_; intro a53 hE54; clear hE52
    refine d_skip (fun _ h => h) 17 rfl hE54 rfl (by kernel_rfl) (by kernel_rfl) (by kernel_rfl) rfl rfl (fun _ _ _ h => h) ?_; intro a55 hE56; clear hE54
    refine d_pure (fun _ h => h) (v := .bool true) 18 rfl hE56 (y_pick (b := true) rfl rfl) rfl (by kernel_rfl) (by kernel_rfl) (by kernel_rfl) rfl rfl (fun _ _ _ h => h) ?_; intro a57 hE58; clear hE56
    refine d_done (by kernel_rfl) ?_
    have hE59 := hE58.sub (L' := [(1, .pointer (some ⟨b2, 0, none⟩)), (23, .bool true)]) ⟨rfl, rfl, trivial⟩; clear hE58
    refine p_tn ?_
    have hE60 := hE59.sub (L' := [(1, .pointer (some ⟨b2, 0, none⟩)), (23, .bool true)]) ⟨rfl, rfl, trivial⟩
    have hS61 := (St.pick (Γ' := [.rd 1 ap1A ap1.length ap1C ap1, .blk b2 #[.int .i64 ap0, .slice ap1A ap1.length ap1C] 79]) hS13 [1, 0] (by decide) rfl)
    exact ⟨(by rw [hb28]; exact hE60), hS61⟩
   ·
    have hE62 := hE27; (try rw [hb28] at hE62); clear hE27
    have ht63 := bn_f hb28
    have hp64 := inR5_t ht63
    refine d_pure (fun _ h => h) (v := .pointer (some ⟨b2, 1, none⟩)) 5 rfl hE62 (y_field rfl (fun _ => by kernel_rfl)) rfl (by kernel_rfl) (by kernel_rfl) (by kernel_rfl) rfl rfl (fun _ _ _ h => h) ?_; intro a65 hE66; clear hE62
    refine d_take (fun _ h => h) (fun _ _ h k => h k) (v := .slice ap1A ap1.length ap1C) 6 rfl hE66 (S := fun w' => w'.cell? ⟨b2, 0, none⟩ = some (.int .i64 ap0) ∧ w'.cell? ⟨b2, 1, none⟩ = some (.slice ap1A ap1.length ap1C) ∧ w'.heap[b2]? = some (.cells #[.int .i64 ap0, .slice ap1A ap1.length ap1C] 79 (0, 0)) ∧ w'.cell? ⟨b2, 1, none⟩ = some (.slice ap1A ap1.length ap1C) ∧ True) ⟨(St.cell (i := 0) hS13 rfl rfl _ (Ext.refl _)), (St.cell (i := 0) hS13 rfl rfl _ (Ext.refl _)), (St.row (i := 0) hS13 rfl _ (Ext.refl _)), (St.cell (i := 0) hS13 rfl rfl _ (Ext.refl _)), trivial⟩ (y_load (fun _ => by kernel_rfl) rfl (fun _ h => h.2.1)) rfl rfl (by kernel_rfl) (by kernel_rfl) (by kernel_rfl) (by kernel_rfl) rfl rfl (fun _ _ _ h => h) ?_; intro a67 hE68; clear hE66
    refine d_take (fun _ h => h) (fun _ _ h k => h k) (v := .agg #[.int .i64 ap0, .slice ap1A ap1.length ap1C]) 8 rfl hE68 (S := fun w' => w'.cell? ⟨b2, 0, none⟩ = some (.int .i64 ap0) ∧ w'.cell? ⟨b2, 1, none⟩ = some (.slice ap1A ap1.length ap1C) ∧ w'.heap[b2]? = some (.cells #[.int .i64 ap0, .slice ap1A ap1.length ap1C] 79 (0, 0)) ∧ w'.cell? ⟨b2, 1, none⟩ = some (.slice ap1A ap1.length ap1C) ∧ True) ⟨(St.cell (i := 0) hS13 rfl rfl _ (Ext.refl _)), (St.cell (i := 0) hS13 rfl rfl _ (Ext.refl _)), (St.row (i := 0) hS13 rfl _ (Ext.refl _)), (St.cell (i := 0) hS13 rfl rfl _ (Ext.refl _)), trivial⟩ (y_loadS Try.underlying79 rfl (by kernel_rfl) rfl (fun _ h => h.2.2.1)) rfl rfl (by kernel_rfl) (by kernel_rfl) (by kernel_rfl) (by kernel_rfl) rfl rfl (fun _ _ _ h => h) ?_; intro a69 hE70; clear hE68
    refine d_only 7 (by kernel_rfl) rfl hE70 rfl (l_call (f := 165) (argv := [.slice ap1A ap1.length ap1C]) hE70 (fun _ => cf_size _ _) rfl rfl (d_size ap1A ap1.length ap1C ap1 w11 (St.rdR (i := 1) hS13 rfl)) ?_)
    rintro _ _ ⟨rfl, rfl⟩ a73 hE74; clear hE70
    refine ⟨fun _ _ => ⟨(St.cell (i := 0) hS13 rfl rfl _ (Ext.refl _)), (St.cell (i := 0) hS13 rfl rfl _ (Ext.refl _)), (St.row (i := 0) hS13 rfl _ (Ext.refl _)), (St.cell (i := 0) hS13 rfl rfl _ (Ext.refl _)), trivial⟩, ?_⟩
    refine d_only 9 (by kernel_rfl) rfl hE74 rfl (l_call (f := 206) (argv := [.agg #[.int .i64 ap0, .slice ap1A ap1.length ap1C]]) hE74 (fun _ => cf_ModalAlgebra_full _ _) rfl rfl (d_ModalAlgebra_full ap0 ap1A ap1.length ap1C ap1 w11 (St.rdR (i := 1) hS13 rfl) (by omega) (by omega)) ?_)
    rintro _ w78 ⟨rfl, he82⟩ a79 hE80; clear hE74
    have hf83 := fullI_bd (n := ap0) (by omega) (by omega)
    have hS81 := St.go hS13 he82; clear hS13
    refine ⟨fun _ _ => ⟨(St.cell (i := 0) hS81 rfl rfl _ (Ext.refl _)), (St.cell (i := 0) hS81 rfl rfl _ (Ext.refl _)), (St.row (i := 0) hS81 rfl _ (Ext.refl _)), (St.cell (i := 0) hS81 rfl rfl _ (Ext.refl _)), trivial⟩, ?_⟩
    refine d_pure (fun _ h => h) (v := .int .i64 ((fullI ap0) + 1)) 10 rfl hE80 (y_add rfl rfl ⟨(by omega), (by omega)⟩) rfl (by kernel_rfl) (by kernel_rfl) (by kernel_rfl) rfl rfl (fun _ _ _ h => h) ?_; intro a84 hE85; clear hE80
    refine d_pure (fun _ h => h) (v := .bool (!decide ((ap1.length : Int) = ((fullI ap0) + 1)))) 11 rfl hE85 (y_neq rfl rfl) rfl (by kernel_rfl) (by kernel_rfl) (by kernel_rfl) rfl rfl (fun _ _ _ h => h) ?_; intro a86 hE87; clear hE85
    refine d_pure (fun _ h => h) (v := .bool (!decide ((ap1.length : Int) = ((fullI ap0) + 1)))) 12 rfl hE87 (y_pick (b := false) rfl rfl) rfl (by kernel_rfl) (by kernel_rfl) (by kernel_rfl) rfl rfl (fun _ _ _ h => h) ?_; intro a88 hE89; clear hE87
    refine d_pure (fun _ h => h) (v := .bool (!decide ((ap1.length : Int) = ((fullI ap0) + 1)))) 13 rfl hE89 (y_move rfl) rfl (by kernel_rfl) (by kernel_rfl) (by kernel_rfl) rfl rfl (fun _ _ _ h => h) ?_; intro a90 hE91; clear hE89
    rcases Bool.eq_false_or_eq_true (!decide ((ap1.length : Int) = ((fullI ap0) + 1))) with hb92 | hb92
    ·
     have hE93 := hE91; (try rw [hb92] at hE93); clear hE91
     have ht94 := bn_t hb92
     have hp95 := of_decide_eq_false ht94
     refine d_skip (fun _ h => h) 14 rfl hE93 rfl (by kernel_rfl) (by kernel_rfl) (by kernel_rfl) rfl rfl (fun _ _ _ h => h) ?_; intro a96 hE97; clear hE93
     refine d_skip (fun _ h => h) 15 rfl hE97 rfl (by kernel_rfl) (by kernel_rfl) (by kernel_rfl) rfl rfl (fun _ _ _ h => h) ?_; intro a98 hE99; clear hE97
     refine d_skip (fun _ h => h) 16 rfl hE99 rfl (by kernel_rfl) (by kernel_rfl) (by kernel_rfl) rfl rfl (fun _ _ _ h => h) ?_; intro a100 hE101; clear hE99
     refine d_skip (fun _ h => h) 17 rfl hE101 rfl (by kernel_rfl) (by kernel_rfl) (by kernel_rfl) rfl rfl (fun _ _ _ h => h) ?_; intro a102 hE103; clear hE101
     refine d_pure (fun _ h => h) (v := .bool true) 18 rfl hE103 (y_pick (b := true) rfl rfl) rfl (by kernel_rfl) (by kernel_rfl) (by kernel_rfl) rfl rfl (fun _ _ _ h => h) ?_; intro a104 hE105; clear hE103
     refine d_done (by kernel_rfl) ?_
     have hE106 := hE105.sub (L' := [(1, .pointer (some ⟨b2, 0, none⟩)), (23, .bool true)]) ⟨rfl, rfl, trivial⟩; clear hE105
     refine p_tn ?_
     have hE107 := hE106.sub (L' := [(1, .pointer (some ⟨b2, 0, none⟩)), (23, .bool true)]) ⟨rfl, rfl, trivial⟩
     have hS108 := (St.pick (Γ' := [.rd 1 ap1A ap1.length ap1C ap1, .blk b2 #[.int .i64 ap0, .slice ap1A ap1.length ap1C] 79]) hS81 [1, 0] (by decide) rfl)
     exact ⟨(by rw [hb92, hb28]; exact hE107), hS108⟩
    ·
     have hE109 := hE91; (try rw [hb92] at hE109); clear hE91
     have ht110 := bn_f hb92
     have hp111 := of_decide_eq_true ht110
     refine d_pure (fun _ h => h) (v := .pointer (some ⟨b2, 1, none⟩)) 14 rfl hE109 (y_field rfl (fun _ => by kernel_rfl)) rfl (by kernel_rfl) (by kernel_rfl) (by kernel_rfl) rfl rfl (fun _ _ _ h => h) ?_; intro a112 hE113; clear hE109
     refine d_take (fun _ h => h) (fun _ _ h k => h k) (v := .slice ap1A ap1.length ap1C) 15 rfl hE113 (S := fun w' => w'.cell? ⟨b2, 0, none⟩ = some (.int .i64 ap0) ∧ w'.cell? ⟨b2, 1, none⟩ = some (.slice ap1A ap1.length ap1C) ∧ w'.heap[b2]? = some (.cells #[.int .i64 ap0, .slice ap1A ap1.length ap1C] 79 (0, 0)) ∧ w'.cell? ⟨b2, 1, none⟩ = some (.slice ap1A ap1.length ap1C) ∧ True) ⟨(St.cell (i := 0) hS81 rfl rfl _ (Ext.refl _)), (St.cell (i := 0) hS81 rfl rfl _ (Ext.refl _)), (St.row (i := 0) hS81 rfl _ (Ext.refl _)), (St.cell (i := 0) hS81 rfl rfl _ (Ext.refl _)), trivial⟩ (y_load (fun _ => by kernel_rfl) rfl (fun _ h => h.2.2.2.1)) rfl rfl (by kernel_rfl) (by kernel_rfl) (by kernel_rfl) (by kernel_rfl) rfl rfl (fun _ _ _ h => h) ?_; intro a114 hE115; clear hE113
     refine d_pure (fun _ h => h) (v := .func (.func 207) #[] #[.pointer (some ⟨b2, 0, none⟩)]) 16 rfl hE115 (y_makeFunc (vs := [.pointer (some ⟨b2, 0, none⟩)]) rfl) rfl (by kernel_rfl) (by kernel_rfl) (by kernel_rfl) rfl rfl (fun _ _ _ h => h) ?_; intro a116 hE117; clear hE115
     refine d_only 17 (by kernel_rfl) rfl hE117 rfl (l_call (f := 146) (argv := [.slice ap1A ap1.length ap1C, .func (.func 207) #[] #[.pointer (some ⟨b2, 0, none⟩)]]) hE117 (fun _ => cf_z_ContainsFunc _ _) rfl rfl (c_z_ContainsFunc ap1A ap1.length ap1C ap1 207 [.pointer (some ⟨b2, 0, none⟩)] (fun x0 => F_isModalAlgebra_k1 x0 ap0 ap1) (fun _ => True) w78 (St.rdR (i := 1) hS81 rfl) (fun _ _ => cf_isModalAlgebra_k1 _ _) (fun x0 w' hx he => c_isModalAlgebra_k1 x0 b2 ap0 ap1A ap1.length ap1C ap1 w' (RdS.ext (St.rdR (i := 1) hS81 rfl) he) (St.row (i := 0) hS81 rfl w' he) (by omega) (by omega)) (fun _ _ _ => trivial)) ?_)
     rintro _ w119 ⟨rfl, he123⟩ a120 hE121; clear hE117
     have hS122 := St.go hS81 he123; clear hS81
     refine ⟨fun h => Bool.noConfusion (h.symm.trans (show exm _ _ _ = true by kernel_rfl)), ?_⟩
     refine d_pure (fun _ h => h) (v := .bool (F_z_ContainsFunc ap1 (fun x0 => F_isModalAlgebra_k1 x0 ap0 ap1))) 18 rfl hE121 (y_pick (b := false) rfl rfl) rfl (by kernel_rfl) (by kernel_rfl) (by kernel_rfl) rfl rfl (fun _ _ _ h => h) ?_; intro a124 hE125; clear hE121
     refine d_done (by kernel_rfl) ?_
     have hE126 := hE125.sub (L' := [(1, .pointer (some ⟨b2, 0, none⟩)), (23, .bool (F_z_ContainsFunc ap1 (fun x0 => F_isModalAlgebra_k1 x0 ap0 ap1)))]) ⟨rfl, rfl, trivial⟩; clear hE125
     refine p_tn ?_
     have hE127 := hE126.sub (L' := [(1, .pointer (some ⟨b2, 0, none⟩)), (23, .bool (F_z_ContainsFunc ap1 (fun x0 => F_isModalAlgebra_k1 x0 ap0 ap1)))]) ⟨rfl, rfl, trivial⟩
     have hS128 := (St.pick (Γ' := [.rd 1 ap1A ap1.length ap1C ap1, .blk b2 #[.int .i64 ap0, .slice ap1A ap1.length ap1C] 79]) hS122 [1, 0] (by decide) rfl)
     exact ⟨(by rw [hb92, hb28]; exact hE127), hS128⟩
  ·
   rintro a129 w130 ⟨hE131, hS132⟩; clear hE10 hS6
   refine c_cond hE131 rfl (fun ht134 => ?_) (fun ht134 => ?_)
   ·
    have hE135 := hE131; rw [ht134] at hE135; clear hE131
    refine c_seq ?_
    refine c_reg ?_
    refine q_step (v := .bool false) hE135 (y_assign rfl) rfl rfl rfl ?_; intro a136 hE137; clear hE135
    refine c_nil ?_
    have hE138 := hE137.sub (L' := [(2, .bool false)]) ⟨rfl, trivial⟩; clear hE137
    refine p_tn ?_
    refine wp_ret ?_
    refine p_tr ?_
    have hF : F_isModalAlgebra ap0 ap1 = false := by unfold F_isModalAlgebra; rw [ht134]; first | done | rfl
    refine c_ret1 hE138 rfl rfl ?_
    exact ⟨(by rw [hF]; first | done | (dsimp only; done) | rfl), hS132.ext⟩
   ·
    obtain ⟨ht139, ht140⟩ := bor_f ht134
    have ht141 := bn_f ht139
    have hp142 := inR5_t ht141
    obtain ⟨ht143, ht144⟩ := bor_f ht140
    have ht145 := bn_f ht143
    have hp146 := of_decide_eq_true ht145
    have hE147 := hE131; rw [ht134] at hE147; clear hE131
    refine wp_skip ?_
    refine p_tn ?_
    refine c_seq ?_
    refine c_seq ?_
    refine c_reg ?_
    refine q_step (v := .pointer (some ⟨b2, 1, none⟩)) hE147 (y_field rfl (fun _ => by kernel_rfl)) rfl rfl rfl ?_; intro a148 hE149; clear hE147
    refine q_step (v := .slice ap1A ap1.length ap1C) hE149 (y_load (fun _ => by kernel_rfl) rfl (St.cell (i := 1) hS132 rfl rfl)) rfl rfl rfl ?_; intro a150 hE151; clear hE149
    refine q_step (v := .int .i64 (ap1.length : Int)) hE151 (y_len (e := 2) (by kernel_rfl) rfl) rfl rfl rfl ?_; intro a152 hE153; clear hE151
    refine q_step (v := .int .i64 0) hE153 (y_move rfl) rfl rfl rfl ?_; intro a154 hE155; clear hE153
    refine c_nil ?_
    have hE156 := hE155.sub (L' := [(1, .pointer (some ⟨b2, 0, none⟩)), (26, .int .i64 (ap1.length : Int)), (27, .int .i64 0)]) ⟨rfl, rfl, rfl, trivial⟩; clear hE155
    refine p_tn ?_
    refine c_cut1 (fun a' w' => isOk (F_isModalAlgebra_L1 ap1 (Int.toNat ((ap1.length : Int) - 0) + 1) 0) = true ∧ (0 ≤ (okD (F_isModalAlgebra_L1 ap1 (Int.toNat ((ap1.length : Int) - 0) + 1) 0))) ∧ ((okD (F_isModalAlgebra_L1 ap1 (Int.toNat ((ap1.length : Int) - 0) + 1) 0)) ≤ (ap1.length : Int)) ∧ E a' 64 [(1, .pointer (some ⟨b2, 0, none⟩)), (26, .int .i64 (ap1.length : Int)), (27, .int .i64 (okD (F_isModalAlgebra_L1 ap1 (Int.toNat ((ap1.length : Int) - 0) + 1) 0)))] ∧ St w w' [.rd 1 ap1A ap1.length ap1C ap1, .blk b2 #[.int .i64 ap0, .slice ap1A ap1.length ap1C] 79]) ?_ ?_
    ·
     refine wp_block ?_
     refine c_loop (fun r a' w' => ∃ t27 : Int, F_isModalAlgebra_L1 ap1 r t27 = F_isModalAlgebra_L1 ap1 (Int.toNat ((ap1.length : Int) - 0) + 1) 0 ∧ Int.toNat ((ap1.length : Int) - t27) < r ∧ (0 ≤ t27) ∧ (t27 ≤ (ap1.length : Int)) ∧ E a' 64 [(1, .pointer (some ⟨b2, 0, none⟩)), (26, .int .i64 (ap1.length : Int)), (27, .int .i64 t27)] ∧ St w w' [.rd 1 ap1A ap1.length ap1C ap1, .blk b2 #[.int .i64 ap0, .slice ap1A ap1.length ap1C] 79]) (r := (Int.toNat ((ap1.length : Int) - 0) + 1)) ?_ ?_
     · exact ⟨0, rfl, Nat.lt_succ_self _, (by first | omega | (simp only [sS_len, sL_len]; omega) | (simp only [List.length_replicate, sI_len]; omega) | (simp only [List.length_append, List.length_cons, List.length_nil, sI_len, cond_true, cond_false]; omega) | (simp only [List.length_append, List.length_cons, List.length_nil, sI_len, cond_eq_ite, apply_ite List.length]; split <;> simp only [List.length_append, List.length_cons, List.length_nil, sI_len] <;> omega) | grind), (by first | omega | (simp only [sS_len, sL_len]; omega) | (simp only [List.length_replicate, sI_len]; omega) | (simp only [List.length_append, List.length_cons, List.length_nil, sI_len, cond_true, cond_false]; omega) | (simp only [List.length_append, List.length_cons, List.length_nil, sI_len, cond_eq_ite, apply_ite List.length]; split <;> simp only [List.length_append, List.length_cons, List.length_nil, sI_len] <;> omega) | grind), (hE156.sub (L' := [(1, .pointer (some ⟨b2, 0, none⟩)), (26, .int .i64 (ap1.length : Int)), (27, .int .i64 0)]) ⟨rfl, rfl, rfl, trivial⟩), (St.pick (Γ' := [.rd 1 ap1A ap1.length ap1C ap1, .blk b2 #[.int .i64 ap0, .slice ap1A ap1.length ap1C] 79]) hS132 [0, 1] (by decide) rfl)⟩
     ·
      clear hE156 hS132
      rintro r166 a158 w159 ⟨t27, hT162, hr163, hi164, hi165, hE160, hS161⟩
      obtain ⟨r166, rfl⟩ : ∃ r', r166 = r' + 1 := ⟨r166 - 1, by omega⟩
      refine c_seq ?_
      refine c_reg ?_
      refine q_step (v := .bool (decide (t27 < (ap1.length : Int)))) hE160 (y_lss rfl rfl) rfl rfl rfl ?_; intro a167 hE168; clear hE160
      refine c_nil ?_
      have hE169 := hE168.sub (L' := [(1, .pointer (some ⟨b2, 0, none⟩)), (26, .int .i64 (ap1.length : Int)), (27, .int .i64 t27), (28, .bool (decide (t27 < (ap1.length : Int))))]) ⟨rfl, rfl, rfl, rfl, trivial⟩; clear hE168
      refine p_tn ?_
      refine c_seq ?_
      refine c_cond hE169 rfl (fun ht170 => ?_) (fun ht170 => ?_)
      ·
       have hp171 := of_decide_eq_true ht170
       have hE172 := hE169; rw [ht170] at hE172; clear hE169
       refine wp_skip ?_
       refine p_tn ?_
       refine c_seq ?_
       refine wp_block ?_
       refine c_seq ?_
       refine c_reg ?_
       refine q_step (v := .int .i64 t27) hE172 (y_move rfl) rfl rfl rfl ?_; intro a173 hE174; clear hE172
       refine q_step (v := .int .i64 t27) hE174 (y_assign rfl) rfl rfl rfl ?_; intro a175 hE176; clear hE174
       refine c_nil ?_
       have hE177 := hE176.sub (L' := [(1, .pointer (some ⟨b2, 0, none⟩)), (3, .int .i64 t27), (26, .int .i64 (ap1.length : Int)), (27, .int .i64 t27)]) ⟨rfl, rfl, rfl, rfl, trivial⟩; clear hE176
       refine p_tn ?_
       refine c_seq ?_
       refine c_reg ?_
       refine q_step (v := .int .i64 t27) hE177 (y_move rfl) rfl rfl rfl ?_; intro a178 hE179; clear hE177
       refine q_step (v := .int .i64 0) hE179 (y_move rfl) rfl rfl rfl ?_; intro a180 hE181; clear hE179
       refine c_nil ?_
       have hE182 := hE181.sub (L' := [(1, .pointer (some ⟨b2, 0, none⟩)), (3, .int .i64 t27), (26, .int .i64 (ap1.length : Int)), (27, .int .i64 t27), (30, .int .i64 t27), (31, .int .i64 0)]) ⟨rfl, rfl, rfl, rfl, rfl, rfl, trivial⟩; clear hE181
       refine p_tn ?_
       refine c_cut1 (fun a' w' => isOk (F_isModalAlgebra_L2 ap1 t27 (Int.toNat (t27 - 0) + 1) 0) = true ∧ (0 ≤ (okD (F_isModalAlgebra_L2 ap1 t27 (Int.toNat (t27 - 0) + 1) 0))) ∧ ((okD (F_isModalAlgebra_L2 ap1 t27 (Int.toNat (t27 - 0) + 1) 0)) ≤ t27) ∧ E a' 64 [(1, .pointer (some ⟨b2, 0, none⟩)), (3, .int .i64 t27), (26, .int .i64 (ap1.length : Int)), (27, .int .i64 t27), (30, .int .i64 t27), (31, .int .i64 (okD (F_isModalAlgebra_L2 ap1 t27 (Int.toNat (t27 - 0) + 1) 0)))] ∧ St w w' [.rd 1 ap1A ap1.length ap1C ap1, .blk b2 #[.int .i64 ap0, .slice ap1A ap1.length ap1C] 79]) ?_ ?_
       ·
        refine wp_block ?_
        refine c_loop (fun r a' w' => ∃ t31L2 : Int, F_isModalAlgebra_L2 ap1 t27 r t31L2 = F_isModalAlgebra_L2 ap1 t27 (Int.toNat (t27 - 0) + 1) 0 ∧ Int.toNat (t27 - t31L2) < r ∧ (0 ≤ t31L2) ∧ (t31L2 ≤ t27) ∧ E a' 64 [(1, .pointer (some ⟨b2, 0, none⟩)), (3, .int .i64 t27), (26, .int .i64 (ap1.length : Int)), (27, .int .i64 t27), (30, .int .i64 t27), (31, .int .i64 t31L2)] ∧ St w w' [.rd 1 ap1A ap1.length ap1C ap1, .blk b2 #[.int .i64 ap0, .slice ap1A ap1.length ap1C] 79]) (r := (Int.toNat (t27 - 0) + 1)) ?_ ?_
        · exact ⟨0, rfl, Nat.lt_succ_self _, (by first | omega | (simp only [sS_len, sL_len]; omega) | (simp only [List.length_replicate, sI_len]; omega) | (simp only [List.length_append, List.length_cons, List.length_nil, sI_len, cond_true, cond_false]; omega) | (simp only [List.length_append, List.length_cons, List.length_nil, sI_len, cond_eq_ite, apply_ite List.length]; split <;> simp only [List.length_append, List.length_cons, List.length_nil, sI_len] <;> omega) | grind), (by first | omega | (simp only [sS_len, sL_len]; omega) | (simp only [List.length_replicate, sI_len]; omega) | (simp only [List.length_append, List.length_cons, List.length_nil, sI_len, cond_true, cond_false]; omega) | (simp only [List.length_append, List.length_cons, List.length_nil, sI_len, cond_eq_ite, apply_ite List.length]; split <;> simp only [List.length_append, List.length_cons, List.length_nil, sI_len] <;> omega) | grind), (hE182.sub (L' := [(1, .pointer (some ⟨b2, 0, none⟩)), (3, .int .i64 t27), (26, .int .i64 (ap1.length : Int)), (27, .int .i64 t27), (30, .int .i64 t27), (31, .int .i64 0)]) ⟨rfl, rfl, rfl, rfl, rfl, rfl, trivial⟩), (St.pick (Γ' := [.rd 1 ap1A ap1.length ap1C ap1, .blk b2 #[.int .i64 ap0, .slice ap1A ap1.length ap1C] 79]) hS161 [0, 1] (by decide) rfl)⟩
        ·
         clear hE182 hS161
         rintro r192 a184 w185 ⟨t31L2, hT188, hr189, hi190, hi191, hE186, hS187⟩
         obtain ⟨r192, rfl⟩ : ∃ r', r192 = r' + 1 := ⟨r192 - 1, by omega⟩
         have hand := andI_le (m := t27) (k := t31L2) (by omega) (by omega) (by omega) (by omega)
         refine c_seq ?_
         refine c_reg ?_
         refine q_step (v := .bool (decide (t31L2 < t27))) hE186 (y_lss rfl rfl) rfl rfl rfl ?_; intro a193 hE194; clear hE186
         refine c_nil ?_
         have hE195 := hE194.sub (L' := [(1, .pointer (some ⟨b2, 0, none⟩)), (3, .int .i64 t27), (26, .int .i64 (ap1.length : Int)), (27, .int .i64 t27), (30, .int .i64 t27), (31, .int .i64 t31L2), (32, .bool (decide (t31L2 < t27)))]) ⟨rfl, rfl, rfl, rfl, rfl, rfl, rfl, trivial⟩; clear hE194
         refine p_tn ?_
         refine c_seq ?_
         refine c_cond hE195 rfl (fun ht196 => ?_) (fun ht196 => ?_)
         ·
          have hp197 := of_decide_eq_true ht196
          have hE198 := hE195; rw [ht196] at hE198; clear hE195
          refine wp_skip ?_
          refine p_tn ?_
          refine c_seq ?_
          refine wp_block ?_
          refine c_seq ?_
          refine c_reg ?_
          refine q_step (v := .int .i64 t31L2) hE198 (y_move rfl) rfl rfl rfl ?_; intro a199 hE200; clear hE198
          refine q_step (v := .int .i64 t31L2) hE200 (y_assign rfl) rfl rfl rfl ?_; intro a201 hE202; clear hE200
          refine c_nil ?_
          have hE203 := hE202.sub (L' := [(1, .pointer (some ⟨b2, 0, none⟩)), (3, .int .i64 t27), (4, .int .i64 t31L2), (26, .int .i64 (ap1.length : Int)), (27, .int .i64 t27), (30, .int .i64 t27), (31, .int .i64 t31L2)]) ⟨rfl, rfl, rfl, rfl, rfl, rfl, rfl, trivial⟩; clear hE202
          refine p_tn ?_
          refine c_seq ?_
          refine d_start (fun w w' => (fun w' => w'.cell? ⟨b2, 1, none⟩ = some (.slice ap1A ap1.length ap1C) ∧ w'.cell? (adr ap1A (Int.toNat (andI t27 t31L2))) = some (.int .i64 (gI ap1 (andI t27 t31L2))) ∧ w'.cell? ⟨b2, 1, none⟩ = some (.slice ap1A ap1.length ap1C) ∧ w'.cell? (adr ap1A (Int.toNat t27)) = some (.int .i64 (gI ap1 t27)) ∧ w'.cell? ⟨b2, 1, none⟩ = some (.slice ap1A ap1.length ap1C) ∧ w'.cell? (adr ap1A (Int.toNat t31L2)) = some (.int .i64 (gI ap1 t31L2)) ∧ True) w → (fun w' => w'.cell? ⟨b2, 1, none⟩ = some (.slice ap1A ap1.length ap1C) ∧ w'.cell? (adr ap1A (Int.toNat (andI t27 t31L2))) = some (.int .i64 (gI ap1 (andI t27 t31L2))) ∧ w'.cell? ⟨b2, 1, none⟩ = some (.slice ap1A ap1.length ap1C) ∧ w'.cell? (adr ap1A (Int.toNat t27)) = some (.int .i64 (gI ap1 t27)) ∧ w'.cell? ⟨b2, 1, none⟩ = some (.slice ap1A ap1.length ap1C) ∧ w'.cell? (adr ap1A (Int.toNat t31L2)) = some (.int .i64 (gI ap1 t31L2)) ∧ True) w') [1, 6, 8, 11, 13, 16] 19 (by kernel_rfl) rfl ?_
          intro w204 he205; have hS206 := St.go hS187 he205; clear hS187
          refine d_pure (fun _ h => h) (v := .pointer (some ⟨b2, 1, none⟩)) 0 rfl hE203 (y_field rfl (fun _ => by kernel_rfl)) rfl (by kernel_rfl) (by kernel_rfl) (by kernel_rfl) rfl rfl (fun _ _ _ h => h) ?_; intro a207 hE208; clear hE203
          refine d_take (fun _ h => h) (fun _ _ h k => h k) (v := .slice ap1A ap1.length ap1C) 1 rfl hE208 (S := fun w' => w'.cell? ⟨b2, 1, none⟩ = some (.slice ap1A ap1.length ap1C) ∧ w'.cell? (adr ap1A (Int.toNat (andI t27 t31L2))) = some (.int .i64 (gI ap1 (andI t27 t31L2))) ∧ w'.cell? ⟨b2, 1, none⟩ = some (.slice ap1A ap1.length ap1C) ∧ w'.cell? (adr ap1A (Int.toNat t27)) = some (.int .i64 (gI ap1 t27)) ∧ w'.cell? ⟨b2, 1, none⟩ = some (.slice ap1A ap1.length ap1C) ∧ w'.cell? (adr ap1A (Int.toNat t31L2)) = some (.int .i64 (gI ap1 t31L2)) ∧ True) ⟨(St.cell (i := 1) hS206 rfl rfl _ (Ext.refl _)), (RdS.elt (St.rdR (i := 0) hS206 rfl) (by omega) (by omega) _ (Ext.refl _)), (St.cell (i := 1) hS206 rfl rfl _ (Ext.refl _)), (RdS.elt (St.rdR (i := 0) hS206 rfl) (by omega) (by omega) _ (Ext.refl _)), (St.cell (i := 1) hS206 rfl rfl _ (Ext.refl _)), (RdS.elt (St.rdR (i := 0) hS206 rfl) (by omega) (by omega) _ (Ext.refl _)), trivial⟩ (y_load (fun _ => by kernel_rfl) rfl (fun _ h => h.1)) rfl rfl (by kernel_rfl) (by kernel_rfl) (by kernel_rfl) (by kernel_rfl) rfl rfl (fun _ _ _ h => h) ?_; intro a209 hE210; clear hE208
          refine d_pure (fun _ h => h) (v := .int .i64 t27) 2 rfl hE210 (y_move rfl) rfl (by kernel_rfl) (by kernel_rfl) (by kernel_rfl) rfl rfl (fun _ _ _ h => h) ?_; intro a211 hE212; clear hE210
          refine d_pure (fun _ h => h) (v := .int .i64 t31L2) 3 rfl hE212 (y_move rfl) rfl (by kernel_rfl) (by kernel_rfl) (by kernel_rfl) rfl rfl (fun _ _ _ h => h) ?_; intro a213 hE214; clear hE212
          refine d_pure (fun _ h => h) (v := .int .i64 (andI t27 t31L2)) 4 rfl hE214 (y_and rfl rfl) rfl (by kernel_rfl) (by kernel_rfl) (by kernel_rfl) rfl rfl (fun _ _ _ h => h) ?_; intro a215 hE216; clear hE214
          refine d_pure (fun _ h => h) (v := .pointer (some (adr ap1A (Int.toNat (andI t27 t31L2))))) 5 rfl hE216 (y_idx (by kernel_rfl) (fun _ => by kernel_rfl) rfl rfl (RdS.isS (m := andI t27 t31L2) (St.rdR (i := 0) hS206 rfl) (by omega) (by omega)) (by omega) (by omega) (Nat.mul_one _).symm) rfl (by kernel_rfl) (by kernel_rfl) (by kernel_rfl) rfl rfl (fun _ _ _ h => h) ?_; intro a217 hE218; clear hE216
          refine d_take (fun _ h => h) (fun _ _ h k => h k) (v := .int .i64 (gI ap1 (andI t27 t31L2))) 6 rfl hE218 (S := fun w' => w'.cell? ⟨b2, 1, none⟩ = some (.slice ap1A ap1.length ap1C) ∧ w'.cell? (adr ap1A (Int.toNat (andI t27 t31L2))) = some (.int .i64 (gI ap1 (andI t27 t31L2))) ∧ w'.cell? ⟨b2, 1, none⟩ = some (.slice ap1A ap1.length ap1C) ∧ w'.cell? (adr ap1A (Int.toNat t27)) = some (.int .i64 (gI ap1 t27)) ∧ w'.cell? ⟨b2, 1, none⟩ = some (.slice ap1A ap1.length ap1C) ∧ w'.cell? (adr ap1A (Int.toNat t31L2)) = some (.int .i64 (gI ap1 t31L2)) ∧ True) ⟨(St.cell (i := 1) hS206 rfl rfl _ (Ext.refl _)), (RdS.elt (St.rdR (i := 0) hS206 rfl) (by omega) (by omega) _ (Ext.refl _)), (St.cell (i := 1) hS206 rfl rfl _ (Ext.refl _)), (RdS.elt (St.rdR (i := 0) hS206 rfl) (by omega) (by omega) _ (Ext.refl _)), (St.cell (i := 1) hS206 rfl rfl _ (Ext.refl _)), (RdS.elt (St.rdR (i := 0) hS206 rfl) (by omega) (by omega) _ (Ext.refl _)), trivial⟩ (y_load (fun _ => by kernel_rfl) rfl (fun _ h => h.2.1)) rfl rfl (by kernel_rfl) (by kernel_rfl) (by kernel_rfl) (by kernel_rfl) rfl rfl (fun _ _ _ h => h) ?_; intro a219 hE220; clear hE218
          refine d_pure (fun _ h => h) (v := .pointer (some ⟨b2, 1, none⟩)) 7 rfl hE220 (y_field rfl (fun _ => by kernel_rfl)) rfl (by kernel_rfl) (by kernel_rfl) (by kernel_rfl) rfl rfl (fun _ _ _ h => h) ?_; intro a221 hE222; clear hE220
          refine d_take (fun _ h => h) (fun _ _ h k => h k) (v := .slice ap1A ap1.length ap1C) 8 rfl hE222 (S := fun w' => w'.cell? ⟨b2, 1, none⟩ = some (.slice ap1A ap1.length ap1C) ∧ w'.cell? (adr ap1A (Int.toNat (andI t27 t31L2))) = some (.int .i64 (gI ap1 (andI t27 t31L2))) ∧ w'.cell? ⟨b2, 1, none⟩ = some (.slice ap1A ap1.length ap1C) ∧ w'.cell? (adr ap1A (Int.toNat t27)) = some (.int .i64 (gI ap1 t27)) ∧ w'.cell? ⟨b2, 1, none⟩ = some (.slice ap1A ap1.length ap1C) ∧ w'.cell? (adr ap1A (Int.toNat t31L2)) = some (.int .i64 (gI ap1 t31L2)) ∧ True) ⟨(St.cell (i := 1) hS206 rfl rfl _ (Ext.refl _)), (RdS.elt (St.rdR (i := 0) hS206 rfl) (by omega) (by omega) _ (Ext.refl _)), (St.cell (i := 1) hS206 rfl rfl _ (Ext.refl _)), (RdS.elt (St.rdR (i := 0) hS206 rfl) (by omega) (by omega) _ (Ext.refl _)), (St.cell (i := 1) hS206 rfl rfl _ (Ext.refl _)), (RdS.elt (St.rdR (i := 0) hS206 rfl) (by omega) (by omega) _ (Ext.refl _)), trivial⟩ (y_load (fun _ => by kernel_rfl) rfl (fun _ h => h.2.2.1)) rfl rfl (by kernel_rfl) (by kernel_rfl) (by kernel_rfl) (by kernel_rfl) rfl rfl (fun _ _ _ h => h) ?_; intro a223 hE224; clear hE222
          refine d_pure (fun _ h => h) (v := .int .i64 t27) 9 rfl hE224 (y_move rfl) rfl (by kernel_rfl) (by kernel_rfl) (by kernel_rfl) rfl rfl (fun _ _ _ h => h) ?_; intro a225 hE226; clear hE224
          refine d_pure (fun _ h => h) (v := .pointer (some (adr ap1A (Int.toNat t27)))) 10 rfl hE226 (y_idx (by kernel_rfl) (fun _ => by kernel_rfl) rfl rfl (RdS.isS (m := t27) (St.rdR (i := 0) hS206 rfl) (by omega) (by omega)) (by omega) (by omega) (Nat.mul_one _).symm) rfl (by kernel_rfl) (by kernel_rfl) (by kernel_rfl) rfl rfl (fun _ _ _ h => h) ?_; intro a227 hE228; clear hE226
          refine d_take (fun _ h => h) (fun _ _ h k => h k) (v := .int .i64 (gI ap1 t27)) 11 rfl hE228 (S := fun w' => w'.cell? ⟨b2, 1, none⟩ = some (.slice ap1A ap1.length ap1C) ∧ w'.cell? (adr ap1A (Int.toNat (andI t27 t31L2))) = some (.int .i64 (gI ap1 (andI t27 t31L2))) ∧ w'.cell? ⟨b2, 1, none⟩ = some (.slice ap1A ap1.length ap1C) ∧ w'.cell? (adr ap1A (Int.toNat t27)) = some (.int .i64 (gI ap1 t27)) ∧ w'.cell? ⟨b2, 1, none⟩ = some (.slice ap1A ap1.length ap1C) ∧ w'.cell? (adr ap1A (Int.toNat t31L2)) = some (.int .i64 (gI ap1 t31L2)) ∧ True) ⟨(St.cell (i := 1) hS206 rfl rfl _ (Ext.refl _)), (RdS.elt (St.rdR (i := 0) hS206 rfl) (by omega) (by omega) _ (Ext.refl _)), (St.cell (i := 1) hS206 rfl rfl _ (Ext.refl _)), (RdS.elt (St.rdR (i := 0) hS206 rfl) (by omega) (by omega) _ (Ext.refl _)), (St.cell (i := 1) hS206 rfl rfl _ (Ext.refl _)), (RdS.elt (St.rdR (i := 0) hS206 rfl) (by omega) (by omega) _ (Ext.refl _)), trivial⟩ (y_load (fun _ => by kernel_rfl) rfl (fun _ h => h.2.2.2.1)) rfl rfl (by kernel_rfl) (by kernel_rfl) (by kernel_rfl) (by kernel_rfl) rfl rfl (fun _ _ _ h => h) ?_; intro a229 hE230; clear hE228
          refine d_pure (fun _ h => h) (v := .pointer (some ⟨b2, 1, none⟩)) 12 rfl hE230 (y_field rfl (fun _ => by kernel_rfl)) rfl (by kernel_rfl) (by kernel_rfl) (by kernel_rfl) rfl rfl (fun _ _ _ h => h) ?_; intro a231 hE232; clear hE230
          refine d_take (fun _ h => h) (fun _ _ h k => h k) (v := .slice ap1A ap1.length ap1C) 13 rfl hE232 (S := fun w' => w'.cell? ⟨b2, 1, none⟩ = some (.slice ap1A ap1.length ap1C) ∧ w'.cell? (adr ap1A (Int.toNat (andI t27 t31L2))) = some (.int .i64 (gI ap1 (andI t27 t31L2))) ∧ w'.cell? ⟨b2, 1, none⟩ = some (.slice ap1A ap1.length ap1C) ∧ w'.cell? (adr ap1A (Int.toNat t27)) = some (.int .i64 (gI ap1 t27)) ∧ w'.cell? ⟨b2, 1, none⟩ = some (.slice ap1A ap1.length ap1C) ∧ w'.cell? (adr ap1A (Int.toNat t31L2)) = some (.int .i64 (gI ap1 t31L2)) ∧ True) ⟨(St.cell (i := 1) hS206 rfl rfl _ (Ext.refl _)), (RdS.elt (St.rdR (i := 0) hS206 rfl) (by omega) (by omega) _ (Ext.refl _)), (St.cell (i := 1) hS206 rfl rfl _ (Ext.refl _)), (RdS.elt (St.rdR (i := 0) hS206 rfl) (by omega) (by omega) _ (Ext.refl _)), (St.cell (i := 1) hS206 rfl rfl _ (Ext.refl _)), (RdS.elt (St.rdR (i := 0) hS206 rfl) (by omega) (by omega) _ (Ext.refl _)), trivial⟩ (y_load (fun _ => by kernel_rfl) rfl (fun _ h => h.2.2.2.2.1)) rfl rfl (by kernel_rfl) (by kernel_rfl) (by kernel_rfl) (by kernel_rfl) rfl rfl (fun _ _ _ h => h) ?_; intro a233 hE234; clear hE232
          refine d_pure (fun _ h => h) (v := .int .i64 t31L2) 14 rfl hE234 (y_move rfl) rfl (by kernel_rfl) (by kernel_rfl) (by kernel_rfl) rfl rfl (fun _ _ _ h => h) ?_; intro a235 hE236; clear hE234
          refine d_pure (fun _ h => h) (v := .pointer (some (adr ap1A (Int.toNat t31L2)))) 15 rfl hE236 (y_idx (by kernel_rfl) (fun _ => by kernel_rfl) rfl rfl (RdS.isS (m := t31L2) (St.rdR (i := 0) hS206 rfl) (by omega) (by omega)) (by omega) (by omega) (Nat.mul_one _).symm) rfl (by kernel_rfl) (by kernel_rfl) (by kernel_rfl) rfl rfl (fun _ _ _ h => h) ?_; intro a237 hE238; clear hE236
          refine d_take (fun _ h => h) (fun _ _ h k => h k) (v := .int .i64 (gI ap1 t31L2)) 16 rfl hE238 (S := fun w' => w'.cell? ⟨b2, 1, none⟩ = some (.slice ap1A ap1.length ap1C) ∧ w'.cell? (adr ap1A (Int.toNat (andI t27 t31L2))) = some (.int .i64 (gI ap1 (andI t27 t31L2))) ∧ w'.cell? ⟨b2, 1, none⟩ = some (.slice ap1A ap1.length ap1C) ∧ w'.cell? (adr ap1A (Int.toNat t27)) = some (.int .i64 (gI ap1 t27)) ∧ w'.cell? ⟨b2, 1, none⟩ = some (.slice ap1A ap1.length ap1C) ∧ w'.cell? (adr ap1A (Int.toNat t31L2)) = some (.int .i64 (gI ap1 t31L2)) ∧ True) ⟨(St.cell (i := 1) hS206 rfl rfl _ (Ext.refl _)), (RdS.elt (St.rdR (i := 0) hS206 rfl) (by omega) (by omega) _ (Ext.refl _)), (St.cell (i := 1) hS206 rfl rfl _ (Ext.refl _)), (RdS.elt (St.rdR (i := 0) hS206 rfl) (by omega) (by omega) _ (Ext.refl _)), (St.cell (i := 1) hS206 rfl rfl _ (Ext.refl _)), (RdS.elt (St.rdR (i := 0) hS206 rfl) (by omega) (by omega) _ (Ext.refl _)), trivial⟩ (y_load (fun _ => by kernel_rfl) rfl (fun _ h => h.2.2.2.2.2.1)) rfl rfl (by kernel_rfl) (by kernel_rfl) (by kernel_rfl) (by kernel_rfl) rfl rfl (fun _ _ _ h => h) ?_; intro a239 hE240; clear hE238
          refine d_pure (fun _ h => h) (v := .int .i64 (andI (gI ap1 t27) (gI ap1 t31L2))) 17 rfl hE240 (y_and rfl rfl) rfl (by kernel_rfl) (by kernel_rfl) (by kernel_rfl) rfl rfl (fun _ _ _ h => h) ?_; intro a241 hE242; clear hE240
          refine d_pure (fun _ h => h) (v := .bool (!decide ((gI ap1 (andI t27 t31L2)) = (andI (gI ap1 t27) (gI ap1 t31L2))))) 18 rfl hE242 (y_neq rfl rfl) rfl (by kernel_rfl) (by kernel_rfl) (by kernel_rfl) rfl rfl (fun _ _ _ h => h) ?_; intro a243 hE244; clear hE242
          refine d_done (by kernel_rfl) ?_
          have hE245 := hE244.sub (L' := [(1, .pointer (some ⟨b2, 0, none⟩)), (3, .int .i64 t27), (26, .int .i64 (ap1.length : Int)), (27, .int .i64 t27), (30, .int .i64 t27), (31, .int .i64 t31L2), (52, .bool (!decide ((gI ap1 (andI t27 t31L2)) = (andI (gI ap1 t27) (gI ap1 t31L2)))))]) ⟨rfl, rfl, rfl, rfl, rfl, rfl, rfl, trivial⟩; clear hE244
          refine p_tn ?_
          refine c_cond hE245 rfl (fun ht246 => ?_) (fun ht246 => ?_)
          ·
           have ht247 := bn_t ht246
           have hp248 := of_decide_eq_false ht247
           have hE249 := hE245; rw [ht246] at hE249; clear hE245
           refine c_seq ?_
           refine c_reg ?_
           refine q_step (v := .bool false) hE249 (y_assign rfl) rfl rfl rfl ?_; intro a250 hE251; clear hE249
           refine c_nil ?_
           have hE252 := hE251.sub (L' := [(2, .bool false)]) ⟨rfl, trivial⟩; clear hE251
           refine p_tn ?_
           refine wp_ret ?_
           refine p_br ?_
           refine p_tr ?_
           have hX253 : F_isModalAlgebra_L2 ap1 t27 (Int.toNat (t27 - 0) + 1) 0 = .error false := hT188.symm.trans (show F_isModalAlgebra_L2b ap1 t27 (F_isModalAlgebra_L2 ap1 t27 r192) t31L2 = .error false by unfold F_isModalAlgebra_L2b; rw [ht246, ht196]; first | done | rfl)
           refine p_tr (p_br (p_tr ?_))
           refine p_br ?_
           refine p_tr ?_
           have hX254 : F_isModalAlgebra_L1 ap1 (Int.toNat ((ap1.length : Int) - 0) + 1) 0 = .error false := hT162.symm.trans (show F_isModalAlgebra_L1b ap1 (F_isModalAlgebra_L1 ap1 r166) t27 = .error false by unfold F_isModalAlgebra_L1b; rw [hX253, ht170]; first | done | rfl)
           refine p_tr (p_br (p_tr ?_))
           refine p_tr ?_
           have hF : F_isModalAlgebra ap0 ap1 = false := by unfold F_isModalAlgebra; rw [hX254, ht134]; first | done | rfl
           refine c_ret1 hE252 rfl rfl ?_
           exact ⟨(by rw [hF]; first | done | (dsimp only; done) | rfl), hS206.ext⟩
          ·
           have ht255 := bn_f ht246
           have hp256 := of_decide_eq_true ht255
           have hE257 := hE245; rw [ht246] at hE257; clear hE245
           refine wp_skip ?_
           refine p_bn ?_
           refine p_tn ?_
           refine c_reg ?_
           refine q_step (v := .int .i64 (t31L2 + 1)) hE257 (y_add rfl rfl ⟨(by omega), (by omega)⟩) rfl rfl rfl ?_; intro a258 hE259; clear hE257
           refine q_step (v := .int .i64 (t31L2 + 1)) hE259 (y_move rfl) rfl rfl rfl ?_; intro a260 hE261; clear hE259
           refine c_nil ?_
           have hE262 := hE261.sub (L' := [(1, .pointer (some ⟨b2, 0, none⟩)), (3, .int .i64 t27), (26, .int .i64 (ap1.length : Int)), (27, .int .i64 t27), (30, .int .i64 t27), (31, .int .i64 (t31L2 + 1))]) ⟨rfl, rfl, rfl, rfl, rfl, rfl, trivial⟩; clear hE261
           refine p_tn ⟨r192, Nat.lt_succ_self _, t31L2 + 1, (hT188.symm.trans (show F_isModalAlgebra_L2b ap1 t27 (F_isModalAlgebra_L2 ap1 t27 r192) t31L2 = F_isModalAlgebra_L2 ap1 t27 r192 (t31L2 + 1) by unfold F_isModalAlgebra_L2b; rw [ht246, ht196]; first | done | rfl)).symm, (by omega), (by first | omega | (simp only [sS_len, sL_len]; omega) | (simp only [List.length_replicate, sI_len]; omega) | (simp only [List.length_append, List.length_cons, List.length_nil, sI_len, cond_true, cond_false]; omega) | (simp only [List.length_append, List.length_cons, List.length_nil, sI_len, cond_eq_ite, apply_ite List.length]; split <;> simp only [List.length_append, List.length_cons, List.length_nil, sI_len] <;> omega) | grind), (by first | omega | (simp only [sS_len, sL_len]; omega) | (simp only [List.length_replicate, sI_len]; omega) | (simp only [List.length_append, List.length_cons, List.length_nil, sI_len, cond_true, cond_false]; omega) | (simp only [List.length_append, List.length_cons, List.length_nil, sI_len, cond_eq_ite, apply_ite List.length]; split <;> simp only [List.length_append, List.length_cons, List.length_nil, sI_len] <;> omega) | grind), (hE262.sub (L' := [(1, .pointer (some ⟨b2, 0, none⟩)), (3, .int .i64 t27), (26, .int .i64 (ap1.length : Int)), (27, .int .i64 t27), (30, .int .i64 t27), (31, .int .i64 (t31L2 + 1))]) ⟨rfl, rfl, rfl, rfl, rfl, rfl, trivial⟩), (St.pick (Γ' := [.rd 1 ap1A ap1.length ap1C ap1, .blk b2 #[.int .i64 ap0, .slice ap1A ap1.length ap1C] 79]) hS206 [0, 1] (by decide) rfl)⟩
         ·
          have hp263 := of_decide_eq_false ht196
          have hE264 := hE195; rw [ht196] at hE264; clear hE195
          refine wp_exit ?_
          refine p_te ?_
          have hX265 : F_isModalAlgebra_L2 ap1 t27 (Int.toNat (t27 - 0) + 1) 0 = .ok t31L2 := hT188.symm.trans (show F_isModalAlgebra_L2b ap1 t27 (F_isModalAlgebra_L2 ap1 t27 r192) t31L2 = .ok t31L2 by unfold F_isModalAlgebra_L2b; rw [ht196]; first | done | rfl)
          refine p_te (p_be (p_tn ?_))
          exact ⟨(by rw [hX265]; rfl), (by rw [hX265]; exact (show 0 ≤ t31L2 from (by first | omega | (simp only [sS_len, sL_len]; omega) | (simp only [List.length_replicate, sI_len]; omega) | (simp only [List.length_append, List.length_cons, List.length_nil, sI_len, cond_true, cond_false]; omega) | (simp only [List.length_append, List.length_cons, List.length_nil, sI_len, cond_eq_ite, apply_ite List.length]; split <;> simp only [List.length_append, List.length_cons, List.length_nil, sI_len] <;> omega) | grind))), (by rw [hX265]; exact (show t31L2 ≤ t27 from (by first | omega | (simp only [sS_len, sL_len]; omega) | (simp only [List.length_replicate, sI_len]; omega) | (simp only [List.length_append, List.length_cons, List.length_nil, sI_len, cond_true, cond_false]; omega) | (simp only [List.length_append, List.length_cons, List.length_nil, sI_len, cond_eq_ite, apply_ite List.length]; split <;> simp only [List.length_append, List.length_cons, List.length_nil, sI_len] <;> omega) | grind))), (by rw [hX265]; exact (hE264.sub (L' := [(1, .pointer (some ⟨b2, 0, none⟩)), (3, .int .i64 t27), (26, .int .i64 (ap1.length : Int)), (27, .int .i64 t27), (30, .int .i64 t27), (31, .int .i64 t31L2)]) ⟨rfl, rfl, rfl, rfl, rfl, rfl, trivial⟩)), (St.pick (Γ' := [.rd 1 ap1A ap1.length ap1C ap1, .blk b2 #[.int .i64 ap0, .slice ap1A ap1.length ap1C] 79]) hS187 [0, 1] (by decide) rfl)⟩
       ·
        rintro a266 w267 ⟨hO270, hi271, hi272, hE268, hS269⟩; clear hE182 hS161
        refine p_bn ?_
        refine p_tn ?_
        refine c_reg ?_
        refine q_step (v := .int .i64 (t27 + 1)) hE268 (y_add rfl rfl ⟨(by omega), (by omega)⟩) rfl rfl rfl ?_; intro a273 hE274; clear hE268
        refine q_step (v := .int .i64 (t27 + 1)) hE274 (y_move rfl) rfl rfl rfl ?_; intro a275 hE276; clear hE274
        refine c_nil ?_
        have hE277 := hE276.sub (L' := [(1, .pointer (some ⟨b2, 0, none⟩)), (26, .int .i64 (ap1.length : Int)), (27, .int .i64 (t27 + 1))]) ⟨rfl, rfl, rfl, trivial⟩; clear hE276
        refine p_tn ⟨r166, Nat.lt_succ_self _, t27 + 1, (hT162.symm.trans (show F_isModalAlgebra_L1b ap1 (F_isModalAlgebra_L1 ap1 r166) t27 = F_isModalAlgebra_L1 ap1 r166 (t27 + 1) by unfold F_isModalAlgebra_L1b; rw [hO270, ht170]; first | done | rfl)).symm, (by omega), (by first | omega | (simp only [sS_len, sL_len]; omega) | (simp only [List.length_replicate, sI_len]; omega) | (simp only [List.length_append, List.length_cons, List.length_nil, sI_len, cond_true, cond_false]; omega) | (simp only [List.length_append, List.length_cons, List.length_nil, sI_len, cond_eq_ite, apply_ite List.length]; split <;> simp only [List.length_append, List.length_cons, List.length_nil, sI_len] <;> omega) | grind), (by first | omega | (simp only [sS_len, sL_len]; omega) | (simp only [List.length_replicate, sI_len]; omega) | (simp only [List.length_append, List.length_cons, List.length_nil, sI_len, cond_true, cond_false]; omega) | (simp only [List.length_append, List.length_cons, List.length_nil, sI_len, cond_eq_ite, apply_ite List.length]; split <;> simp only [List.length_append, List.length_cons, List.length_nil, sI_len] <;> omega) | grind), (hE277.sub (L' := [(1, .pointer (some ⟨b2, 0, none⟩)), (26, .int .i64 (ap1.length : Int)), (27, .int .i64 (t27 + 1))]) ⟨rfl, rfl, rfl, trivial⟩), (St.pick (Γ' := [.rd 1 ap1A ap1.length ap1C ap1, .blk b2 #[.int .i64 ap0, .slice ap1A ap1.length ap1C] 79]) hS269 [0, 1] (by decide) rfl)⟩
      ·
       have hp278 := of_decide_eq_false ht170
       have hE279 := hE169; rw [ht170] at hE279; clear hE169
       refine wp_exit ?_
       refine p_te ?_
       have hX280 : F_isModalAlgebra_L1 ap1 (Int.toNat ((ap1.length : Int) - 0) + 1) 0 = .ok t27 := hT162.symm.trans (show F_isModalAlgebra_L1b ap1 (F_isModalAlgebra_L1 ap1 r166) t27 = .ok t27 by unfold F_isModalAlgebra_L1b; rw [ht170]; first | done | rfl)
       refine p_te (p_be (p_tn ?_))
       exact ⟨(by rw [hX280]; rfl), (by rw [hX280]; exact (show 0 ≤ t27 from (by first | omega | (simp only [sS_len, sL_len]; omega) | (simp only [List.length_replicate, sI_len]; omega) | (simp only [List.length_append, List.length_cons, List.length_nil, sI_len, cond_true, cond_false]; omega) | (simp only [List.length_append, List.length_cons, List.length_nil, sI_len, cond_eq_ite, apply_ite List.length]; split <;> simp only [List.length_append, List.length_cons, List.length_nil, sI_len] <;> omega) | grind))), (by rw [hX280]; exact (show t27 ≤ (ap1.length : Int) from (by first | omega | (simp only [sS_len, sL_len]; omega) | (simp only [List.length_replicate, sI_len]; omega) | (simp only [List.length_append, List.length_cons, List.length_nil, sI_len, cond_true, cond_false]; omega) | (simp only [List.length_append, List.length_cons, List.length_nil, sI_len, cond_eq_ite, apply_ite List.length]; split <;> simp only [List.length_append, List.length_cons, List.length_nil, sI_len] <;> omega) | grind))), (by rw [hX280]; exact (hE279.sub (L' := [(1, .pointer (some ⟨b2, 0, none⟩)), (26, .int .i64 (ap1.length : Int)), (27, .int .i64 t27)]) ⟨rfl, rfl, rfl, trivial⟩)), (St.pick (Γ' := [.rd 1 ap1A ap1.length ap1C ap1, .blk b2 #[.int .i64 ap0, .slice ap1A ap1.length ap1C] 79]) hS161 [0, 1] (by decide) rfl)⟩
    ·
     rintro a281 w282 ⟨hO285, hi286, hi287, hE283, hS284⟩; clear hE156 hS132
     refine p_tn ?_
     refine c_seq ?_
     refine d_start (fun w w' => (fun w' => w'.cell? ⟨b2, 1, none⟩ = some (.slice ap1A ap1.length ap1C) ∧ w'.heap[b2]? = some (.cells #[.int .i64 ap0, .slice ap1A ap1.length ap1C] 79 (0, 0)) ∧ w'.cell? (adr ap1A (Int.toNat (fullI ap0))) = some (.int .i64 (gI ap1 (fullI ap0))) ∧ w'.heap[b2]? = some (.cells #[.int .i64 ap0, .slice ap1A ap1.length ap1C] 79 (0, 0)) ∧ True) w → (fun w' => w'.cell? ⟨b2, 1, none⟩ = some (.slice ap1A ap1.length ap1C) ∧ w'.heap[b2]? = some (.cells #[.int .i64 ap0, .slice ap1A ap1.length ap1C] 79 (0, 0)) ∧ w'.cell? (adr ap1A (Int.toNat (fullI ap0))) = some (.int .i64 (gI ap1 (fullI ap0))) ∧ w'.heap[b2]? = some (.cells #[.int .i64 ap0, .slice ap1A ap1.length ap1C] 79 (0, 0)) ∧ True) w') [1, 2, 5, 6] 10 (by kernel_rfl) rfl ?_
     intro w288 he289; have hS290 := St.go hS284 he289; clear hS284
     refine d_pure (fun _ h => h) (v := .pointer (some ⟨b2, 1, none⟩)) 0 rfl hE283 (y_field rfl (fun _ => by kernel_rfl)) rfl (by kernel_rfl) (by kernel_rfl) (by kernel_rfl) rfl rfl (fun _ _ _ h => h) ?_; intro a291 hE292; clear hE283
     refine d_take (fun _ h => h) (fun _ _ h k => h k) (v := .slice ap1A ap1.length ap1C) 1 rfl hE292 (S := fun w' => w'.cell? ⟨b2, 1, none⟩ = some (.slice ap1A ap1.length ap1C) ∧ w'.heap[b2]? = some (.cells #[.int .i64 ap0, .slice ap1A ap1.length ap1C] 79 (0, 0)) ∧ w'.cell? (adr ap1A (Int.toNat (fullI ap0))) = some (.int .i64 (gI ap1 (fullI ap0))) ∧ w'.heap[b2]? = some (.cells #[.int .i64 ap0, .slice ap1A ap1.length ap1C] 79 (0, 0)) ∧ True) ⟨(St.cell (i := 1) hS290 rfl rfl _ (Ext.refl _)), (St.row (i := 1) hS290 rfl _ (Ext.refl _)), (RdS.elt (St.rdR (i := 0) hS290 rfl) (by omega) (by omega) _ (Ext.refl _)), (St.row (i := 1) hS290 rfl _ (Ext.refl _)), trivial⟩ (y_load (fun _ => by kernel_rfl) rfl (fun _ h => h.1)) rfl rfl (by kernel_rfl) (by kernel_rfl) (by kernel_rfl) (by kernel_rfl) rfl rfl (fun _ _ _ h => h) ?_; intro a293 hE294; clear hE292
     refine d_take (fun _ h => h) (fun _ _ h k => h k) (v := .agg #[.int .i64 ap0, .slice ap1A ap1.length ap1C]) 2 rfl hE294 (S := fun w' => w'.cell? ⟨b2, 1, none⟩ = some (.slice ap1A ap1.length ap1C) ∧ w'.heap[b2]? = some (.cells #[.int .i64 ap0, .slice ap1A ap1.length ap1C] 79 (0, 0)) ∧ w'.cell? (adr ap1A (Int.toNat (fullI ap0))) = some (.int .i64 (gI ap1 (fullI ap0))) ∧ w'.heap[b2]? = some (.cells #[.int .i64 ap0, .slice ap1A ap1.length ap1C] 79 (0, 0)) ∧ True) ⟨(St.cell (i := 1) hS290 rfl rfl _ (Ext.refl _)), (St.row (i := 1) hS290 rfl _ (Ext.refl _)), (RdS.elt (St.rdR (i := 0) hS290 rfl) (by omega) (by omega) _ (Ext.refl _)), (St.row (i := 1) hS290 rfl _ (Ext.refl _)), trivial⟩ (y_loadS Try.underlying79 rfl (by kernel_rfl) rfl (fun _ h => h.2.1)) rfl rfl (by kernel_rfl) (by kernel_rfl) (by kernel_rfl) (by kernel_rfl) rfl rfl (fun _ _ _ h => h) ?_; intro a295 hE296; clear hE294
     refine d_take (fun _ h => h) (fun _ _ h k => h k) (v := .agg #[.int .i64 ap0, .slice ap1A ap1.length ap1C]) 6 rfl hE296 (S := fun w' => w'.cell? ⟨b2, 1, none⟩ = some (.slice ap1A ap1.length ap1C) ∧ w'.heap[b2]? = some (.cells #[.int .i64 ap0, .slice ap1A ap1.length ap1C] 79 (0, 0)) ∧ w'.cell? (adr ap1A (Int.toNat (fullI ap0))) = some (.int .i64 (gI ap1 (fullI ap0))) ∧ w'.heap[b2]? = some (.cells #[.int .i64 ap0, .slice ap1A ap1.length ap1C] 79 (0, 0)) ∧ True) ⟨(St.cell (i := 1) hS290 rfl rfl _ (Ext.refl _)), (St.row (i := 1) hS290 rfl _ (Ext.refl _)), (RdS.elt (St.rdR (i := 0) hS290 rfl) (by omega) (by omega) _ (Ext.refl _)), (St.row (i := 1) hS290 rfl _ (Ext.refl _)), trivial⟩ (y_loadS Try.underlying79 rfl (by kernel_rfl) rfl (fun _ h => h.2.2.2.1)) rfl rfl (by kernel_rfl) (by kernel_rfl) (by kernel_rfl) (by kernel_rfl) rfl rfl (fun _ _ _ h => h) ?_; intro a297 hE298; clear hE296
     refine d_only 3 (by kernel_rfl) rfl hE298 rfl (l_call (f := 206) (argv := [.agg #[.int .i64 ap0, .slice ap1A ap1.length ap1C]]) hE298 (fun _ => cf_ModalAlgebra_full _ _) rfl rfl (d_ModalAlgebra_full ap0 ap1A ap1.length ap1C ap1 w288 (St.rdR (i := 0) hS290 rfl) (by omega) (by omega)) ?_)
     rintro _ w300 ⟨rfl, he304⟩ a301 hE302; clear hE298
     have hf305 := fullI_bd (n := ap0) (by omega) (by omega)
     have hS303 := St.go hS290 he304; clear hS290
     refine ⟨fun _ _ => ⟨(St.cell (i := 1) hS303 rfl rfl _ (Ext.refl _)), (St.row (i := 1) hS303 rfl _ (Ext.refl _)), (RdS.elt (St.rdR (i := 0) hS303 rfl) (by omega) (by omega) _ (Ext.refl _)), (St.row (i := 1) hS303 rfl _ (Ext.refl _)), trivial⟩, ?_⟩
     refine d_pure (fun _ h => h) (v := .pointer (some (adr ap1A (Int.toNat (fullI ap0))))) 4 rfl hE302 (y_idx (by kernel_rfl) (fun _ => by kernel_rfl) rfl rfl (RdS.isS (m := fullI ap0) (St.rdR (i := 0) hS303 rfl) (by omega) (by omega)) (by omega) (by omega) (Nat.mul_one _).symm) rfl (by kernel_rfl) (by kernel_rfl) (by kernel_rfl) rfl rfl (fun _ _ _ h => h) ?_; intro a306 hE307; clear hE302
     refine d_take (fun _ h => h) (fun _ _ h k => h k) (v := .int .i64 (gI ap1 (fullI ap0))) 5 rfl hE307 (S := fun w' => w'.cell? ⟨b2, 1, none⟩ = some (.slice ap1A ap1.length ap1C) ∧ w'.heap[b2]? = some (.cells #[.int .i64 ap0, .slice ap1A ap1.length ap1C] 79 (0, 0)) ∧ w'.cell? (adr ap1A (Int.toNat (fullI ap0))) = some (.int .i64 (gI ap1 (fullI ap0))) ∧ w'.heap[b2]? = some (.cells #[.int .i64 ap0, .slice ap1A ap1.length ap1C] 79 (0, 0)) ∧ True) ⟨(St.cell (i := 1) hS303 rfl rfl _ (Ext.refl _)), (St.row (i := 1) hS303 rfl _ (Ext.refl _)), (RdS.elt (St.rdR (i := 0) hS303 rfl) (by omega) (by omega) _ (Ext.refl _)), (St.row (i := 1) hS303 rfl _ (Ext.refl _)), trivial⟩ (y_load (fun _ => by kernel_rfl) rfl (fun _ h => h.2.2.1)) rfl rfl (by kernel_rfl) (by kernel_rfl) (by kernel_rfl) (by kernel_rfl) rfl rfl (fun _ _ _ h => h) ?_; intro a308 hE309; clear hE307
     refine d_only 7 (by kernel_rfl) rfl hE309 rfl (l_call (f := 206) (argv := [.agg #[.int .i64 ap0, .slice ap1A ap1.length ap1C]]) hE309 (fun _ => cf_ModalAlgebra_full _ _) rfl rfl (d_ModalAlgebra_full ap0 ap1A ap1.length ap1C ap1 w300 (St.rdR (i := 0) hS303 rfl) (by omega) (by omega)) ?_)
     rintro _ w311 ⟨rfl, he315⟩ a312 hE313; clear hE309
     have hf316 := fullI_bd (n := ap0) (by omega) (by omega)
     have hS314 := St.go hS303 he315; clear hS303
     refine ⟨fun _ _ => ⟨(St.cell (i := 1) hS314 rfl rfl _ (Ext.refl _)), (St.row (i := 1) hS314 rfl _ (Ext.refl _)), (RdS.elt (St.rdR (i := 0) hS314 rfl) (by omega) (by omega) _ (Ext.refl _)), (St.row (i := 1) hS314 rfl _ (Ext.refl _)), trivial⟩, ?_⟩
     refine d_pure (fun _ h => h) (v := .bool (decide ((gI ap1 (fullI ap0)) = (fullI ap0)))) 8 rfl hE313 (y_eql rfl rfl) rfl (by kernel_rfl) (by kernel_rfl) (by kernel_rfl) rfl rfl (fun _ _ _ h => h) ?_; intro a317 hE318; clear hE313
     refine d_pure (fun _ h => h) (v := .bool (decide ((gI ap1 (fullI ap0)) = (fullI ap0)))) 9 rfl hE318 (y_assign rfl) rfl (by kernel_rfl) (by kernel_rfl) (by kernel_rfl) rfl rfl (fun _ _ _ h => h) ?_; intro a319 hE320; clear hE318
     refine d_done (by kernel_rfl) ?_
     have hE321 := hE320.sub (L' := [(2, .bool (decide ((gI ap1 (fullI ap0)) = (fullI ap0))))]) ⟨rfl, trivial⟩; clear hE320
     refine p_tn ?_
     refine wp_ret ?_
     have hF : F_isModalAlgebra ap0 ap1 = decide ((gI ap1 (fullI ap0)) = (fullI ap0)) := by unfold F_isModalAlgebra; rw [hO285, ht134]; first | done | rfl
     refine c_ret1 hE321 rfl rfl ?_
     exact ⟨(by rw [hF]; first | done | (dsimp only; done) | rfl), hS314.ext⟩
theorem l15L2_false (ap1 : List Int) (x : Int) : ∀ (r : Nat) (y : Int), isOk (F_l15Is_L2 ap1 x r y) = false → errD (F_l15Is_L2 ap1 x r y) = false := by
  intro r
  induction r with
  | zero => intro y h; cases h
  | succ r ih =>
    intro y
    show isOk (F_l15Is_L2b ap1 x _ y) = false → errD (F_l15Is_L2b ap1 x _ y) = false
    unfold F_l15Is_L2b
    cases decide (y < x)
    · intro h; cases h
    · cases (!decide ((gI ap1 (andI x y)) = (andI (gI ap1 x) (gI ap1 y))))
      · exact ih _
      · intro _; rfl
theorem l15L1_false (ap0 : Int) (ap1 : List Int) : ∀ (r : Nat) (x : Int), isOk (F_l15Is_L1 ap0 ap1 r x) = false → errD (F_l15Is_L1 ap0 ap1 r x) = false := by
  intro r
  induction r with
  | zero => intro y h; cases h
  | succ r ih =>
    intro x
    show isOk (F_l15Is_L1b ap0 ap1 _ x) = false → errD (F_l15Is_L1b ap0 ap1 _ x) = false
    unfold F_l15Is_L1b
    cases decide (x ≤ fullI ap0)
    · intro h; cases h
    · cases h2 : isOk (F_l15Is_L2 ap1 x (Int.toNat (x - 0) + 1) 0)
      · intro _; exact l15L2_false ap1 x _ _ h2
      · exact ih _
theorem isMod_loop2 (ap1 : List Int) (x : Int) (r : Nat) (y : Int) : F_isModalAlgebra_L2 ap1 x r y = F_l15Is_L2 ap1 x r y := by
  induction r generalizing y with
  | zero => rfl
  | succ r ih =>
    show F_isModalAlgebra_L2b ap1 x _ y = F_l15Is_L2b ap1 x _ y
    unfold F_isModalAlgebra_L2b F_l15Is_L2b
    rw [ih]
theorem isMod_loop1 (ap0 : Int) (ap1 : List Int) (hl : (ap1.length : Int) = fullI ap0 + 1) (r : Nat) (x : Int) : F_isModalAlgebra_L1 ap1 r x = F_l15Is_L1 ap0 ap1 r x := by
  induction r generalizing x with
  | zero => rfl
  | succ r ih =>
    show F_isModalAlgebra_L1b ap1 _ x = F_l15Is_L1b ap0 ap1 _ x
    unfold F_isModalAlgebra_L1b F_l15Is_L1b
    rw [ih, isMod_loop2, show decide (x < (ap1.length : Int)) = decide (x ≤ fullI ap0) from decide_eq_decide.2 (by omega)]
theorem isModal_eq (ap0 : Int) (ap1 : List Int) : F_isModalAlgebra ap0 ap1 = F_l15Is ap0 ap1 := by
  unfold F_isModalAlgebra F_l15Is
  rw [show F_inRange ap0 0 5 = F_l01In ap0 0 5 from rfl]
  by_cases h : 0 ≤ ap0 ∧ ap0 ≤ 5
  · have e1 : F_l01In ap0 0 5 = true := by unfold F_l01In; simp [h.1, h.2]
    have e2 : F_z_ContainsFunc ap1 (fun x0 => F_isModalAlgebra_k1 x0 ap0 ap1) = !F_l01Masks ap0 ap1 := by
      rw [contains_eq, masks_eq, List.all_eq_not_any_not, Bool.not_not]; rfl
    have e3 : decide ((ap1.length : Int) = (fullI ap0 + 1)) = decide ((ap1.length : Int) = powI ap0) := decide_eq_decide.2 (by rw [fullI_pow]; omega)
    rw [e1, e2, e3]
    by_cases hl : (ap1.length : Int) = powI ap0
    · have hl' : (ap1.length : Int) = fullI ap0 + 1 := by rw [fullI_pow]; omega
      rw [isMod_loop1 ap0 ap1 hl', show Int.toNat ((ap1.length : Int) - 0) = Int.toNat (fullI ap0 + 1 - 0) by rw [hl']]
      cases F_l01Masks ap0 ap1
      · simp
      · simp only [decide_eq_true hl, Bool.not_true, Bool.or_false, Bool.false_or, cond_false]
        have hs := l15L1_false ap0 ap1 (Int.toNat (fullI ap0 + 1 - 0) + 1) 0
        cases hd : decide (gI ap1 (fullI ap0) = fullI ap0)
        · simp only [Bool.not_false, cond_true]
          cases ho : isOk (F_l15Is_L1 ap0 ap1 (Int.toNat (fullI ap0 + 1 - 0) + 1) 0)
          · simp only [cond_false]; exact hs ho
          · rfl
        · rfl
    · rw [decide_eq_false hl]; rfl
  · have e1 : F_l01In ap0 0 5 = false := by
      cases e : F_l01In ap0 0 5
      · rfl
      · exact absurd (F_l01In_t e) h
    rw [e1]; rfl
theorem isModal_t {ap0 : Int} {ap1 : List Int} (h : F_isModalAlgebra ap0 ap1 = true) : ((0 ≤ ap0 ∧ ap0 ≤ 5) ∧ 0 ≤ fullI ap0 ∧ fullI ap0 ≤ 31) ∧ (ap1.length : Int) = fullI ap0 + 1 ∧ ∀ m : Int, 0 ≤ m → m < (ap1.length : Int) → 0 ≤ gI ap1 m ∧ gI ap1 m ≤ fullI ap0 := by
  rw [isModal_eq] at h; exact l15Is_t h
end Go.Proofs.Ytlbonhloeefnmaa
