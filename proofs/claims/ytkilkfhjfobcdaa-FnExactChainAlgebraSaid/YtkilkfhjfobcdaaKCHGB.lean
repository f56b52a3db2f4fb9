/- GB: models and contracts, printed by wip/gen/gen.py -/
import Derived.Test.YtkilkfhjfobcdaaKCHLoud
import Derived.Test.YtkilkfhjfobcdaaKCHBits
set_option linter.unusedVariables false
set_option linter.unusedSimpArgs false
namespace Go.Proofs.Ytkilkfhjfobcdaa
open Go.RowKit
def F_l01In (np : Int) (low : Int) (high : Int) : Bool :=
  ((decide (low ≤ np)) && (decide (np ≤ high)))
theorem cf_l01In (args : Array Value) (w : World) : (callFunc 71 args).run Try.prog w = .ok (.enter 71 args) w := by kernel_rfl
set_option maxRecDepth 100000 in
theorem c_l01In (np : Int) (low : Int) (high : Int) (w : World) :
    Calls Try.prog 71 #[.int .i64 np, .int .i64 low, .int .i64 high] w (Ret fun v w' => v = .bool (F_l01In np low high) ∧ w = w') := by
  have hS := St.nil w
  refine enter (args := [.int .i64 np, .int .i64 low, .int .i64 high]) Try.func71 rfl rfl ?_
  rw [Try.ntmps71]; intro a hE
  have hE := hE.sub (L' := [(0, .int .i64 np), (1, .int .i64 low), (2, .int .i64 high)]) ⟨rfl, rfl, rfl, trivial⟩
  refine c_seq ?_
  refine c_reg ?_
  refine q_step (v := .bool false) hE (y_assign rfl) rfl rfl rfl ?_; intro a1 hE2; clear hE
  refine c_nil ?_
  have hE3 := hE2.sub (L' := [(0, .int .i64 np), (1, .int .i64 low), (2, .int .i64 high)]) ⟨rfl, rfl, rfl, trivial⟩; clear hE2
  refine p_tn ?_
  refine c_cut (fun a' w' => w = w' ∧ E a' 15 [(6, .bool ((decide (low ≤ np)) && (decide (np ≤ high))))]) ?_ ?_
  ·
   refine c_reg ?_
   refine q_step (v := .int .i64 np) hE3 (y_move rfl) rfl rfl rfl ?_; intro a4 hE5; clear hE3
   refine q_step (v := .int .i64 low) hE5 (y_move rfl) rfl rfl rfl ?_; intro a6 hE7; clear hE5
   refine q_step (v := .bool (decide (low ≤ np))) hE7 (y_geq rfl rfl) rfl rfl rfl ?_; intro a8 hE9; clear hE7
   refine q_step (v := .bool (decide (low ≤ np))) hE9 (y_move rfl) rfl rfl rfl ?_; intro a10 hE11; clear hE9
   rcases Bool.eq_false_or_eq_true (decide (low ≤ np)) with hb12 | hb12
   ·
    have hE13 := hE11; (try rw [hb12] at hE13); clear hE11
    have hp14 := of_decide_eq_true hb12
    refine q_step (v := .int .i64 np) hE13 (y_move rfl) rfl rfl rfl ?_; intro a15 hE16; clear hE13
    refine q_step (v := .int .i64 high) hE16 (y_move rfl) rfl rfl rfl ?_; intro a17 hE18; clear hE16
    refine q_step (v := .bool (decide (np ≤ high))) hE18 (y_leq rfl rfl) rfl rfl rfl ?_; intro a19 hE20; clear hE18
    refine q_step (v := .bool (decide (np ≤ high))) hE20 (y_pick (b := true) rfl rfl) rfl rfl rfl ?_; intro a21 hE22; clear hE20
    refine q_step (v := .bool (decide (np ≤ high))) hE22 (y_assign rfl) rfl rfl rfl ?_; intro a23 hE24; clear hE22
    refine c_nil ?_
    have hE25 := hE24.sub (L' := [(6, .bool (decide (np ≤ high)))]) ⟨rfl, trivial⟩; clear hE24
    refine p_tn ?_
    have hE26 := hE25.sub (L' := [(6, .bool (decide (np ≤ high)))]) ⟨rfl, trivial⟩
    exact ⟨rfl, (by rw [hb12]; exact hE26)⟩
   ·
    have hE27 := hE11; (try rw [hb12] at hE27); clear hE11
    have hp28 := of_decide_eq_false hb12
    refine q_skip hE27 rfl rfl rfl ?_; intro a29 hE30; clear hE27
    refine q_skip hE30 rfl rfl rfl ?_; intro a31 hE32; clear hE30
    refine q_skip hE32 rfl rfl rfl ?_; intro a33 hE34; clear hE32
    refine q_step (v := .bool false) hE34 (y_pick (b := false) rfl rfl) rfl rfl rfl ?_; intro a35 hE36; clear hE34
    refine q_step (v := .bool false) hE36 (y_assign rfl) rfl rfl rfl ?_; intro a37 hE38; clear hE36
    refine c_nil ?_
    have hE39 := hE38.sub (L' := [(6, .bool false)]) ⟨rfl, trivial⟩; clear hE38
    refine p_tn ?_
    have hE40 := hE39.sub (L' := [(6, .bool false)]) ⟨rfl, trivial⟩
    exact ⟨rfl, (by rw [hb12]; exact hE40)⟩
  ·
   rintro a41 _ ⟨rfl, hE43⟩; clear hE3
   refine wp_ret ?_
   have hF : F_l01In np low high = ((decide (low ≤ np)) && (decide (np ≤ high))) := by unfold F_l01In; rfl
   refine c_ret1 hE43 rfl rfl ?_
   exact ⟨(by rw [hF]; first | done | (dsimp only; done) | rfl), rfl⟩
theorem F_l01In_t {x low high : Int} (h : F_l01In x low high = true) : low ≤ x ∧ x ≤ high := by
  unfold F_l01In at h; simpa using h
def F_l01One (i : Int) : Int :=
  shlI 1 i
theorem cf_l01One (args : Array Value) (w : World) : (callFunc 164 args).run Try.prog w = .ok (.enter 164 args) w := by kernel_rfl
set_option maxRecDepth 100000 in
theorem c_l01One (i : Int) (w : World) (h0 : 0 ≤ i) (h1 : i < 64) :
    Calls Try.prog 164 #[.int .i64 i] w (Ret fun v w' => v = .int .i64 (F_l01One i) ∧ w = w') := by
  have hS := St.nil w
  refine enter (args := [.int .i64 i]) Try.func164 rfl rfl ?_
  rw [Try.ntmps164]; intro a hE
  have hE := hE.sub (L' := [(0, .int .i64 i)]) ⟨rfl, trivial⟩
  refine c_seq ?_
  refine c_reg ?_
  refine q_step (v := .int .i64 0) hE (y_assign rfl) rfl rfl rfl ?_; intro a1 hE2; clear hE
  refine c_nil ?_
  have hE3 := hE2.sub (L' := [(0, .int .i64 i)]) ⟨rfl, trivial⟩; clear hE2
  refine p_tn ?_
  refine c_seq ?_
  refine c_reg ?_
  refine q_step (v := .int .i64 i) hE3 (y_move rfl) rfl rfl rfl ?_; intro a4 hE5; clear hE3
  refine q_step (v := .int .u64 i) hE5 (y_conv (ds := .int .i64) (by kernel_rfl) (by kernel_rfl) rfl (wU64 (by omega) (by omega))) rfl rfl rfl ?_; intro a6 hE7; clear hE5
  refine q_step (v := .int .i64 (shlI 1 i)) hE7 (y_shl rfl rfl (by omega)) rfl rfl rfl ?_; intro a8 hE9; clear hE7
  refine q_step (v := .int .i64 (shlI 1 i)) hE9 (y_assign rfl) rfl rfl rfl ?_; intro a10 hE11; clear hE9
  refine c_nil ?_
  have hE12 := hE11.sub (L' := [(2, .int .i64 (shlI 1 i))]) ⟨rfl, trivial⟩; clear hE11
  refine p_tn ?_
  refine wp_ret ?_
  have hF : F_l01One i = shlI 1 i := by unfold F_l01One; rfl
  refine c_ret1 hE12 rfl rfl ?_
  exact ⟨(by rw [hF]; first | done | (dsimp only; done) | rfl), rfl⟩
theorem l01One_eq {i : Int} (h0 : 0 ≤ i) (h1 : i ≤ 62) : F_l01One i = powI i := shlI_one h0 h1
theorem d_l01One (i : Int) (w : World) (h0 : 0 ≤ i) (h1 : i ≤ 62) : Calls Try.prog 164 #[.int .i64 i] w (Ret fun v w' => v = .int .i64 (powI i) ∧ w = w') := by
  have := c_l01One i w h0 (by omega)
  rwa [l01One_eq h0 h1] at this
def F_l01Full (np : Int) : Int :=
  wI ((powI np) - 1)
theorem cf_l01Full (args : Array Value) (w : World) : (callFunc 184 args).run Try.prog w = .ok (.enter 184 args) w := by kernel_rfl
set_option maxRecDepth 100000 in
theorem c_l01Full (np : Int) (w : World) (h0 : 0 ≤ np) (h1 : np ≤ 62) :
    Calls Try.prog 184 #[.int .i64 np] w (Ret fun v w' => v = .int .i64 (F_l01Full np) ∧ w = w') := by
  have hS := St.nil w
  refine enter (args := [.int .i64 np]) Try.func184 rfl rfl ?_
  rw [Try.ntmps184]; intro a hE
  have hE := hE.sub (L' := [(0, .int .i64 np)]) ⟨rfl, trivial⟩
  refine c_seq ?_
  refine c_reg ?_
  refine q_step (v := .int .i64 0) hE (y_assign rfl) rfl rfl rfl ?_; intro a1 hE2; clear hE
  refine c_nil ?_
  have hE3 := hE2.sub (L' := [(0, .int .i64 np)]) ⟨rfl, trivial⟩; clear hE2
  refine p_tn ?_
  refine c_seq ?_
  refine c_reg ?_
  refine q_step (v := .int .i64 np) hE3 (y_move rfl) rfl rfl rfl ?_; intro a4 hE5; clear hE3
  refine l_step hE5 rfl (l_call (f := 164) (argv := [.int .i64 np]) hE5 (fun _ => cf_l01One _ _) rfl rfl (d_l01One np w (by omega) (by omega)) ?_)
  rintro _ _ ⟨rfl, rfl⟩ a8 hE9; clear hE5
  refine q_step (v := .int .i64 (wI ((powI np) - 1))) hE9 (y_subw rfl rfl) rfl rfl rfl ?_; intro a12 hE13; clear hE9
  refine q_step (v := .int .i64 (wI ((powI np) - 1))) hE13 (y_assign rfl) rfl rfl rfl ?_; intro a14 hE15; clear hE13
  refine c_nil ?_
  have hE16 := hE15.sub (L' := [(2, .int .i64 (wI ((powI np) - 1)))]) ⟨rfl, trivial⟩; clear hE15
  refine p_tn ?_
  refine wp_ret ?_
  have hF : F_l01Full np = wI ((powI np) - 1) := by unfold F_l01Full; rfl
  refine c_ret1 hE16 rfl rfl ?_
  exact ⟨(by rw [hF]; first | done | (dsimp only; done) | rfl), rfl⟩
theorem l01Full_eq {np : Int} (h0 : 0 ≤ np) (h1 : np ≤ 62) : F_l01Full np = fullI np := by
  unfold F_l01Full
  have := powI_bd h0 h1
  rw [fullI_pow]; exact wI_in ⟨by omega, by omega⟩
theorem d_l01Full (np : Int) (w : World) (h0 : 0 ≤ np) (h1 : np ≤ 62) : Calls Try.prog 184 #[.int .i64 np] w (Ret fun v w' => v = .int .i64 (fullI np) ∧ w = w') := by
  have := c_l01Full np w h0 h1
  rwa [l01Full_eq h0 h1] at this
def F_l01Bit (mask : Int) (i : Int) : Bool :=
  decide ((andI (shrI mask i) 1) = 1)
theorem cf_l01Bit (args : Array Value) (w : World) : (callFunc 179 args).run Try.prog w = .ok (.enter 179 args) w := by kernel_rfl
set_option maxRecDepth 100000 in
theorem c_l01Bit (mask : Int) (i : Int) (w : World) (h0 : 0 ≤ i) (h1 : i < 64) :
    Calls Try.prog 179 #[.int .i64 mask, .int .i64 i] w (Ret fun v w' => v = .bool (F_l01Bit mask i) ∧ w = w') := by
  have hS := St.nil w
  refine enter (args := [.int .i64 mask, .int .i64 i]) Try.func179 rfl rfl ?_
  rw [Try.ntmps179]; intro a hE
  have hE := hE.sub (L' := [(0, .int .i64 mask), (1, .int .i64 i)]) ⟨rfl, rfl, trivial⟩
  refine c_seq ?_
  refine c_reg ?_
  refine q_step (v := .bool false) hE (y_assign rfl) rfl rfl rfl ?_; intro a1 hE2; clear hE
  refine c_nil ?_
  have hE3 := hE2.sub (L' := [(0, .int .i64 mask), (1, .int .i64 i)]) ⟨rfl, rfl, trivial⟩; clear hE2
  refine p_tn ?_
  refine c_seq ?_
  refine c_reg ?_
  refine q_step (v := .int .i64 mask) hE3 (y_move rfl) rfl rfl rfl ?_; intro a4 hE5; clear hE3
  refine q_step (v := .int .i64 i) hE5 (y_move rfl) rfl rfl rfl ?_; intro a6 hE7; clear hE5
  refine q_step (v := .int .u64 i) hE7 (y_conv (ds := .int .i64) (by kernel_rfl) (by kernel_rfl) rfl (wU64 (by omega) (by omega))) rfl rfl rfl ?_; intro a8 hE9; clear hE7
  refine q_step (v := .int .i64 (shrI mask i)) hE9 (y_shr rfl rfl (by omega)) rfl rfl rfl ?_; intro a10 hE11; clear hE9
  refine q_step (v := .int .i64 (andI (shrI mask i) 1)) hE11 (y_and rfl rfl) rfl rfl rfl ?_; intro a12 hE13; clear hE11
  refine q_step (v := .bool (decide ((andI (shrI mask i) 1) = 1))) hE13 (y_eql rfl rfl) rfl rfl rfl ?_; intro a14 hE15; clear hE13
  refine q_step (v := .bool (decide ((andI (shrI mask i) 1) = 1))) hE15 (y_assign rfl) rfl rfl rfl ?_; intro a16 hE17; clear hE15
  refine c_nil ?_
  have hE18 := hE17.sub (L' := [(4, .bool (decide ((andI (shrI mask i) 1) = 1)))]) ⟨rfl, trivial⟩; clear hE17
  refine p_tn ?_
  refine wp_ret ?_
  have hF : F_l01Bit mask i = decide ((andI (shrI mask i) 1) = 1) := by unfold F_l01Bit; rfl
  refine c_ret1 hE18 rfl rfl ?_
  exact ⟨(by rw [hF]; first | done | (dsimp only; done) | rfl), rfl⟩
def F_l01Image_L1b (ap : List Int) (mask : Int) (rec : Int → Int → Int × Int) (out5 : Int) (i6 : Int) : Int × Int :=
  bif (decide (i6 < (ap.length : Int))) then (rec (bif (F_l01Bit mask i6) then orI out5 (gI ap i6) else out5) (i6 + 1)) else (out5, i6)
def F_l01Image_L1 (ap : List Int) (mask : Int) : Nat → Int → Int → Int × Int
  | 0, out5, i6 => (out5, i6)
  | r + 1, out5, i6 => F_l01Image_L1b ap mask (F_l01Image_L1 ap mask r) out5 i6
def F_l01Image (ap : List Int) (mask : Int) : Int :=
  (F_l01Image_L1 ap mask (Int.toNat ((ap.length : Int) - 0) + 1) 0 0).1
theorem cf_l01Image (args : Array Value) (w : World) : (callFunc 131 args).run Try.prog w = .ok (.enter 131 args) w := by kernel_rfl
set_option maxRecDepth 100000 in
theorem c_l01Image (apA : Option Addr) (apN apC : Nat) (ap : List Int) (mask : Int) (w : World) (apR : RdS w 1 apA apN apC ap) (hl : ap.length ≤ 62) :
    Calls Try.prog 131 #[.slice apA apN apC, .int .i64 mask] w (Ret fun v w' => v = .int .i64 (F_l01Image ap mask) ∧ Ext w w') := by
  obtain rfl : apN = ap.length := apR.len1.symm
  have apLe := apR.le
  have hS := St.nil w
  have hS1 := St.rd0 hS rfl apR; clear hS
  refine enter (args := [.slice apA ap.length apC, .int .i64 mask]) Try.func131 rfl rfl ?_
  rw [Try.ntmps131]; intro a hE
  have hE := hE.sub (L' := [(0, .slice apA ap.length apC), (1, .int .i64 mask)]) ⟨rfl, rfl, trivial⟩
  refine c_seq ?_
  refine c_reg ?_
  refine q_step (v := .int .i64 0) hE (y_assign rfl) rfl rfl rfl ?_; intro a2 hE3; clear hE
  refine c_nil ?_
  have hE4 := hE3.sub (L' := [(0, .slice apA ap.length apC), (1, .int .i64 mask)]) ⟨rfl, rfl, trivial⟩; clear hE3
  refine p_tn ?_
  refine c_seq ?_
  refine c_reg ?_
  refine q_step (v := .int .i64 0) hE4 (y_assign rfl) rfl rfl rfl ?_; intro a5 hE6; clear hE4
  refine c_nil ?_
  have hE7 := hE6.sub (L' := [(0, .slice apA ap.length apC), (1, .int .i64 mask), (5, .int .i64 0)]) ⟨rfl, rfl, rfl, trivial⟩; clear hE6
  refine p_tn ?_
  refine c_seq ?_
  refine c_seq ?_
  refine c_reg ?_
  refine q_step (v := .int .i64 0) hE7 (y_assign rfl) rfl rfl rfl ?_; intro a8 hE9; clear hE7
  refine c_nil ?_
  have hE10 := hE9.sub (L' := [(0, .slice apA ap.length apC), (1, .int .i64 mask), (5, .int .i64 0), (6, .int .i64 0)]) ⟨rfl, rfl, rfl, rfl, trivial⟩; clear hE9
  refine p_tn ?_
  refine c_cut1 (fun a' w' => (0 ≤ ((F_l01Image_L1 ap mask (Int.toNat ((ap.length : Int) - 0) + 1) 0 0).2)) ∧ (((F_l01Image_L1 ap mask (Int.toNat ((ap.length : Int) - 0) + 1) 0 0).2) ≤ (ap.length : Int)) ∧ E a' 23 [(0, .slice apA ap.length apC), (1, .int .i64 mask), (5, .int .i64 ((F_l01Image_L1 ap mask (Int.toNat ((ap.length : Int) - 0) + 1) 0 0).1)), (6, .int .i64 ((F_l01Image_L1 ap mask (Int.toNat ((ap.length : Int) - 0) + 1) 0 0).2))] ∧ St w w' [.rd 1 apA ap.length apC ap]) ?_ ?_
  ·
   refine wp_block ?_
   refine c_loop (fun r a' w' => ∃ out5 : Int, ∃ i6 : Int, F_l01Image_L1 ap mask r out5 i6 = F_l01Image_L1 ap mask (Int.toNat ((ap.length : Int) - 0) + 1) 0 0 ∧ Int.toNat ((ap.length : Int) - i6) < r ∧ (0 ≤ i6) ∧ (i6 ≤ (ap.length : Int)) ∧ E a' 23 [(0, .slice apA ap.length apC), (1, .int .i64 mask), (5, .int .i64 out5), (6, .int .i64 i6)] ∧ St w w' [.rd 1 apA ap.length apC ap]) (r := (Int.toNat ((ap.length : Int) - 0) + 1)) ?_ ?_
   · exact ⟨0, 0, rfl, Nat.lt_succ_self _, (by first | omega | (simp only [sS_len, sL_len]; omega) | (simp only [List.length_replicate, sI_len]; omega) | (simp only [List.length_append, List.length_cons, List.length_nil, sI_len, cond_true, cond_false]; omega) | (simp only [List.length_append, List.length_cons, List.length_nil, sI_len, cond_eq_ite, apply_ite List.length]; split <;> simp only [List.length_append, List.length_cons, List.length_nil, sI_len] <;> omega) | grind), (by first | omega | (simp only [sS_len, sL_len]; omega) | (simp only [List.length_replicate, sI_len]; omega) | (simp only [List.length_append, List.length_cons, List.length_nil, sI_len, cond_true, cond_false]; omega) | (simp only [List.length_append, List.length_cons, List.length_nil, sI_len, cond_eq_ite, apply_ite List.length]; split <;> simp only [List.length_append, List.length_cons, List.length_nil, sI_len] <;> omega) | grind), (hE10.sub (L' := [(0, .slice apA ap.length apC), (1, .int .i64 mask), (5, .int .i64 0), (6, .int .i64 0)]) ⟨rfl, rfl, rfl, rfl, trivial⟩), (St.pick (Γ' := [.rd 1 apA ap.length apC ap]) hS1 [0] (by decide) rfl)⟩
   ·
    clear hE10 hS1
    rintro r20 a12 w13 ⟨out5, i6, hT16, hr17, hi18, hi19, hE14, hS15⟩
    obtain ⟨r20, rfl⟩ : ∃ r', r20 = r' + 1 := ⟨r20 - 1, by omega⟩
    refine c_seq ?_
    refine c_seq ?_
    refine c_reg ?_
    refine q_step (v := .int .i64 i6) hE14 (y_move rfl) rfl rfl rfl ?_; intro a21 hE22; clear hE14
    refine q_step (v := .slice apA ap.length apC) hE22 (y_move rfl) rfl rfl rfl ?_; intro a23 hE24; clear hE22
    refine q_step (v := .int .i64 (ap.length : Int)) hE24 (y_len (e := 2) (by kernel_rfl) rfl) rfl rfl rfl ?_; intro a25 hE26; clear hE24
    refine q_step (v := .bool (decide (i6 < (ap.length : Int)))) hE26 (y_lss rfl rfl) rfl rfl rfl ?_; intro a27 hE28; clear hE26
    refine c_nil ?_
    have hE29 := hE28.sub (L' := [(0, .slice apA ap.length apC), (1, .int .i64 mask), (5, .int .i64 out5), (6, .int .i64 i6), (10, .bool (decide (i6 < (ap.length : Int))))]) ⟨rfl, rfl, rfl, rfl, rfl, trivial⟩; clear hE28
    refine p_tn ?_
    refine c_cond hE29 rfl (fun ht30 => ?_) (fun ht30 => ?_)
    ·
     have hp31 := of_decide_eq_true ht30
     have hE32 := hE29; rw [ht30] at hE32; clear hE29
     refine wp_skip ?_
     refine p_tn ?_
     refine c_cut (fun a' w' => E a' 23 [(0, .slice apA ap.length apC), (1, .int .i64 mask), (5, .int .i64 (bif (F_l01Bit mask i6) then orI out5 (gI ap i6) else out5)), (6, .int .i64 i6)] ∧ St w w' [.rd 1 apA ap.length apC ap]) ?_ ?_
     ·
      refine wp_block ?_
      refine c_seq ?_
      refine c_reg ?_
      refine q_step (v := .int .i64 mask) hE32 (y_move rfl) rfl rfl rfl ?_; intro a33 hE34; clear hE32
      refine q_step (v := .int .i64 i6) hE34 (y_move rfl) rfl rfl rfl ?_; intro a35 hE36; clear hE34
      refine l_step hE36 rfl (l_call (f := 179) (argv := [.int .i64 mask, .int .i64 i6]) hE36 (fun _ => cf_l01Bit _ _) rfl rfl (c_l01Bit mask i6 w13 (by omega) (by omega)) ?_)
      rintro _ _ ⟨rfl, rfl⟩ a39 hE40; clear hE36
      refine c_nil ?_
      have hE43 := hE40.sub (L' := [(0, .slice apA ap.length apC), (1, .int .i64 mask), (5, .int .i64 out5), (6, .int .i64 i6), (15, .bool (F_l01Bit mask i6))]) ⟨rfl, rfl, rfl, rfl, rfl, trivial⟩; clear hE40
      refine p_tn ?_
      refine c_cond hE43 rfl (fun ht44 => ?_) (fun ht44 => ?_)
      ·
       have hE45 := hE43; rw [ht44] at hE45; clear hE43
       refine c_reg ?_
       refine q_step (v := .int .i64 out5) hE45 (y_move rfl) rfl rfl rfl ?_; intro a46 hE47; clear hE45
       refine q_step (v := .slice apA ap.length apC) hE47 (y_move rfl) rfl rfl rfl ?_; intro a48 hE49; clear hE47
       refine q_step (v := .int .i64 i6) hE49 (y_move rfl) rfl rfl rfl ?_; intro a50 hE51; clear hE49
       refine q_step (v := .pointer (some (adr apA (Int.toNat i6)))) hE51 (y_idx (by kernel_rfl) (fun _ => by kernel_rfl) rfl rfl (RdS.isS (m := i6) (St.rdR (i := 0) hS15 rfl) (by omega) (by omega)) (by omega) (by omega) (Nat.mul_one _).symm) rfl rfl rfl ?_; intro a52 hE53; clear hE51
       refine q_step (v := .int .i64 (gI ap i6)) hE53 (y_load (fun _ => by kernel_rfl) rfl (RdS.elt (St.rdR (i := 0) hS15 rfl) (by omega) (by omega))) rfl rfl rfl ?_; intro a54 hE55; clear hE53
       refine q_step (v := .int .i64 (orI out5 (gI ap i6))) hE55 (y_or rfl rfl) rfl rfl rfl ?_; intro a56 hE57; clear hE55
       refine q_step (v := .int .i64 (orI out5 (gI ap i6))) hE57 (y_assign rfl) rfl rfl rfl ?_; intro a58 hE59; clear hE57
       refine c_nil ?_
       have hE60 := hE59.sub (L' := [(0, .slice apA ap.length apC), (1, .int .i64 mask), (5, .int .i64 (orI out5 (gI ap i6))), (6, .int .i64 i6)]) ⟨rfl, rfl, rfl, rfl, trivial⟩; clear hE59
       refine p_bn ?_
       refine p_tn ?_
       have hE61 := hE60.sub (L' := [(0, .slice apA ap.length apC), (1, .int .i64 mask), (5, .int .i64 (orI out5 (gI ap i6))), (6, .int .i64 i6)]) ⟨rfl, rfl, rfl, rfl, trivial⟩
       have hS62 := (St.pick (Γ' := [.rd 1 apA ap.length apC ap]) hS15 [0] (by decide) rfl)
       exact ⟨(by rw [ht44]; exact hE61), hS62⟩
      ·
       have hE63 := hE43; rw [ht44] at hE63; clear hE43
       refine wp_skip ?_
       refine p_bn ?_
       refine p_tn ?_
       have hE64 := hE63.sub (L' := [(0, .slice apA ap.length apC), (1, .int .i64 mask), (5, .int .i64 out5), (6, .int .i64 i6)]) ⟨rfl, rfl, rfl, rfl, trivial⟩
       have hS65 := (St.pick (Γ' := [.rd 1 apA ap.length apC ap]) hS15 [0] (by decide) rfl)
       exact ⟨(by rw [ht44]; exact hE64), hS65⟩
     ·
      rintro a66 w67 ⟨hE68, hS69⟩; clear hE32 hS15
      refine c_reg ?_
      refine q_step (v := .int .i64 i6) hE68 (y_move rfl) rfl rfl rfl ?_; intro a71 hE72; clear hE68
      refine q_step (v := .int .i64 (i6 + 1)) hE72 (y_add rfl rfl ⟨(by omega), (by omega)⟩) rfl rfl rfl ?_; intro a73 hE74; clear hE72
      refine q_step (v := .int .i64 (i6 + 1)) hE74 (y_assign rfl) rfl rfl rfl ?_; intro a75 hE76; clear hE74
      refine c_nil ?_
      have hE77 := hE76.sub (L' := [(0, .slice apA ap.length apC), (1, .int .i64 mask), (5, .int .i64 (bif (F_l01Bit mask i6) then orI out5 (gI ap i6) else out5)), (6, .int .i64 (i6 + 1))]) ⟨rfl, rfl, rfl, rfl, trivial⟩; clear hE76
      refine p_tn ⟨r20, Nat.lt_succ_self _, bif (F_l01Bit mask i6) then orI out5 (gI ap i6) else out5, i6 + 1, (hT16.symm.trans (show F_l01Image_L1b ap mask (F_l01Image_L1 ap mask r20) out5 i6 = F_l01Image_L1 ap mask r20 (bif (F_l01Bit mask i6) then orI out5 (gI ap i6) else out5) (i6 + 1) by unfold F_l01Image_L1b; rw [ht30]; first | done | rfl)).symm, (by omega), (by first | omega | (simp only [sS_len, sL_len]; omega) | (simp only [List.length_replicate, sI_len]; omega) | (simp only [List.length_append, List.length_cons, List.length_nil, sI_len, cond_true, cond_false]; omega) | (simp only [List.length_append, List.length_cons, List.length_nil, sI_len, cond_eq_ite, apply_ite List.length]; split <;> simp only [List.length_append, List.length_cons, List.length_nil, sI_len] <;> omega) | grind), (by first | omega | (simp only [sS_len, sL_len]; omega) | (simp only [List.length_replicate, sI_len]; omega) | (simp only [List.length_append, List.length_cons, List.length_nil, sI_len, cond_true, cond_false]; omega) | (simp only [List.length_append, List.length_cons, List.length_nil, sI_len, cond_eq_ite, apply_ite List.length]; split <;> simp only [List.length_append, List.length_cons, List.length_nil, sI_len] <;> omega) | grind), (hE77.sub (L' := [(0, .slice apA ap.length apC), (1, .int .i64 mask), (5, .int .i64 (bif (F_l01Bit mask i6) then orI out5 (gI ap i6) else out5)), (6, .int .i64 (i6 + 1))]) ⟨rfl, rfl, rfl, rfl, trivial⟩), (St.pick (Γ' := [.rd 1 apA ap.length apC ap]) hS69 [0] (by decide) rfl)⟩
    ·
     have hp78 := of_decide_eq_false ht30
     have hE79 := hE29; rw [ht30] at hE79; clear hE29
     refine wp_exit ?_
     refine p_te ?_
     have hX80 : F_l01Image_L1 ap mask (Int.toNat ((ap.length : Int) - 0) + 1) 0 0 = (out5, i6) := hT16.symm.trans (show F_l01Image_L1b ap mask (F_l01Image_L1 ap mask r20) out5 i6 = (out5, i6) by unfold F_l01Image_L1b; rw [ht30]; first | done | rfl)
     refine p_te (p_be (p_tn ?_))
     exact ⟨(by rw [hX80]; exact (show 0 ≤ i6 from (by first | omega | (simp only [sS_len, sL_len]; omega) | (simp only [List.length_replicate, sI_len]; omega) | (simp only [List.length_append, List.length_cons, List.length_nil, sI_len, cond_true, cond_false]; omega) | (simp only [List.length_append, List.length_cons, List.length_nil, sI_len, cond_eq_ite, apply_ite List.length]; split <;> simp only [List.length_append, List.length_cons, List.length_nil, sI_len] <;> omega) | grind))), (by rw [hX80]; exact (show i6 ≤ (ap.length : Int) from (by first | omega | (simp only [sS_len, sL_len]; omega) | (simp only [List.length_replicate, sI_len]; omega) | (simp only [List.length_append, List.length_cons, List.length_nil, sI_len, cond_true, cond_false]; omega) | (simp only [List.length_append, List.length_cons, List.length_nil, sI_len, cond_eq_ite, apply_ite List.length]; split <;> simp only [List.length_append, List.length_cons, List.length_nil, sI_len] <;> omega) | grind))), (by rw [hX80]; exact (hE79.sub (L' := [(0, .slice apA ap.length apC), (1, .int .i64 mask), (5, .int .i64 out5), (6, .int .i64 i6)]) ⟨rfl, rfl, rfl, rfl, trivial⟩)), (St.pick (Γ' := [.rd 1 apA ap.length apC ap]) hS15 [0] (by decide) rfl)⟩
  ·
   rintro a81 w82 ⟨hi86, hi87, hE83, hS84⟩; clear hE10 hS1
   refine p_tn ?_
   refine c_seq ?_
   refine c_reg ?_
   refine q_step (v := .int .i64 ((F_l01Image_L1 ap mask (Int.toNat ((ap.length : Int) - 0) + 1) 0 0).1)) hE83 (y_move rfl) rfl rfl rfl ?_; intro a88 hE89; clear hE83
   refine q_step (v := .int .i64 ((F_l01Image_L1 ap mask (Int.toNat ((ap.length : Int) - 0) + 1) 0 0).1)) hE89 (y_assign rfl) rfl rfl rfl ?_; intro a90 hE91; clear hE89
   refine c_nil ?_
   have hE92 := hE91.sub (L' := [(4, .int .i64 ((F_l01Image_L1 ap mask (Int.toNat ((ap.length : Int) - 0) + 1) 0 0).1))]) ⟨rfl, trivial⟩; clear hE91
   refine p_tn ?_
   refine wp_ret ?_
   have hF : F_l01Image ap mask = (F_l01Image_L1 ap mask (Int.toNat ((ap.length : Int) - 0) + 1) 0 0).1 := by unfold F_l01Image; rfl
   refine c_ret1 hE92 rfl rfl ?_
   exact ⟨(by rw [hF]; first | done | (dsimp only; done) | rfl), hS84.ext⟩
end Go.Proofs.Ytkilkfhjfobcdaa
