/- GB: models and contracts, printed by wip/gen/gen.py -/
import Derived.Test.YtlbonhloeefnmaaKDWLoud
import Derived.Test.YtlbonhloeefnmaaKDWBits
set_option linter.unusedVariables false
set_option linter.unusedSimpArgs false
namespace Go.Proofs.Ytlbonhloeefnmaa
open Go.RowKit
/-- A loop over a range that leaves with false. -/
theorem allLoop (L : Nat → Int → Except Bool Int) (n : Int) (p : Int → Bool) (hL : ∀ r i, L (r + 1) i = bif decide (i < n) then (bif p i then .error false else L r (i + 1)) else .ok i) :
    ∀ (k : Nat) (i : Int), n - i = (k : Int) → (bif isOk (L (k + 1) i) then true else errD (L (k + 1) i)) = (List.range k).all fun j => !p (i + (j : Int)) := by
  intro k
  induction k with
  | zero => intro i h; rw [hL, decide_eq_false (by omega)]; rfl
  | succ k ih =>
    intro i h
    rw [hL, decide_eq_true (by omega), List.range_succ_eq_map, List.all_cons, List.all_map]
    simp only [cond_true]
    cases hp : p i
    · simp only [cond_false]
      rw [ih (i + 1) (by omega)]
      simp only [Int.natCast_zero, Int.add_zero, hp, Bool.not_false, Bool.true_and, Function.comp_def]
      congr 1; funext j; congr 2; rw [Int.natCast_succ]; omega
    · simp [isOk, errD, hp]
theorem range_all_gI (xs : List Int) (q : Int → Bool) : (List.range xs.length).all (fun j => q (gI xs (0 + (j : Int)))) = xs.all q := by
  rw [Bool.eq_iff_iff, List.all_eq_true, List.all_eq_true]
  constructor
  · intro h x hx
    obtain ⟨j, hj, rfl⟩ := List.mem_iff_getElem.1 hx
    have := h j (List.mem_range.2 hj)
    unfold gI at this
    rwa [show ((0 : Int) + (j : Int)).toNat = j by omega, gi_get hj] at this
  · intro h j hj
    have hj' := List.mem_range.1 hj
    unfold gI
    rw [show ((0 : Int) + (j : Int)).toNat = j by omega, gi_get hj']
    exact h _ (List.getElem_mem hj')
def F_l01In (np : Int) (low : Int) (high : Int) : Bool :=
  ((decide (low ≤ np)) && (decide (np ≤ high)))
theorem cf_l01In (args : Array Value) (w : World) : (callFunc 85 args).run Try.prog w = .ok (.enter 85 args) w := by kernel_rfl
set_option maxRecDepth 100000 in
theorem c_l01In (np : Int) (low : Int) (high : Int) (w : World) :
    Calls Try.prog 85 #[.int .i64 np, .int .i64 low, .int .i64 high] w (Ret fun v w' => v = .bool (F_l01In np low high) ∧ w = w') := by
  have hS := St.nil w
  refine enter (args := [.int .i64 np, .int .i64 low, .int .i64 high]) Try.func85 rfl rfl ?_
  rw [Try.ntmps85]; intro a hE
  have hE := hE.sub (L' := [(0, .int .i64 np), (1, .int .i64 low), (2, .int .i64 high)]) ⟨rfl, rfl, rfl, trivial⟩
  refine c_seq ?_
  refine c_reg ?_
  refine q_step (v := .bool false) hE (y_assign rfl) rfl rfl rfl ?_; intro a1 hE2; clear hE
  refine c_nil ?_
  have hE3 := hE2.sub (L' := [(0, .int .i64 np), (1, .int .i64 low), (2, .int .i64 high)]) ⟨rfl, rfl, rfl, trivial⟩; clear hE2
  refine p_tn ?_
  refine c_cut (fun a' w' => w = w' ∧ E a' 15 [(6, .bool ((decide (low ≤ np)) && (decide (np ≤ high))))]) ?_ ?_
  ·
   refine c_reg ?_
   refine q_step (v := .int .i64 np) hE3 (y_move rfl) rfl rfl rfl ?_; intro a4 hE5; clear hE3
   refine q_step (v := .int .i64 low) hE5 (y_move rfl) rfl rfl rfl ?_; intro a6 hE7; clear hE5
   refine q_step (v := .bool (decide (low ≤ np))) hE7 (y_geq rfl rfl) rfl rfl rfl ?_; intro a8 hE9; clear hE7
   refine q_step (v := .bool (decide (low ≤ np))) hE9 (y_move rfl) rfl rfl rfl ?_; intro a10 hE11; clear hE9
   rcases Bool.eq_false_or_eq_true (decide (low ≤ np)) with hb12 | hb12
   ·
    have hE13 := hE11; (try rw [hb12] at hE13); clear hE11
    have hp14 := of_decide_eq_true hb12
    refine q_step (v := .int .i64 np) hE13 (y_move rfl) rfl rfl rfl ?_; intro a15 hE16; clear hE13
    refine q_step (v := .int .i64 high) hE16 (y_move rfl) rfl rfl rfl ?_; intro a17 hE18; clear hE16
    refine q_step (v := .bool (decide (np ≤ high))) hE18 (y_leq rfl rfl) rfl rfl rfl ?_; intro a19 hE20; clear hE18
    refine q_step (v := .bool (decide (np ≤ high))) hE20 (y_pick (b := true) rfl rfl) rfl rfl rfl ?_; intro a21 hE22; clear hE20
    refine q_step (v := .bool (decide (np ≤ high))) hE22 (y_assign rfl) rfl rfl rfl ?_; intro a23 hE24; clear hE22
    refine c_nil ?_
    have hE25 := hE24.sub (L' := [(6, .bool (decide (np ≤ high)))]) ⟨rfl, trivial⟩; clear hE24
    refine p_tn ?_
    have hE26 := hE25.sub (L' := [(6, .bool (decide (np ≤ high)))]) ⟨rfl, trivial⟩
    exact ⟨rfl, (by rw [hb12]; exact hE26)⟩
   ·
    have hE27 := hE11; (try rw [hb12] at hE27); clear hE11
    have hp28 := of_decide_eq_false hb12
    refine q_skip hE27 rfl rfl rfl ?_; intro a29 hE30; clear hE27
    refine q_skip hE30 rfl rfl rfl ?_; intro a31 hE32; clear hE30
    refine q_skip hE32 rfl rfl rfl ?_; intro a33 hE34; clear hE32
    refine q_step (v := .bool false) hE34 (y_pick (b := false) rfl rfl) rfl rfl rfl ?_; intro a35 hE36; clear hE34
    refine q_step (v := .bool false) hE36 (y_assign rfl) rfl rfl rfl ?_; intro a37 hE38; clear hE36
    refine c_nil ?_
    have hE39 := hE38.sub (L' := [(6, .bool false)]) ⟨rfl, trivial⟩; clear hE38
    refine p_tn ?_
    have hE40 := hE39.sub (L' := [(6, .bool false)]) ⟨rfl, trivial⟩
    exact ⟨rfl, (by rw [hb12]; exact hE40)⟩
  ·
   rintro a41 _ ⟨rfl, hE43⟩; clear hE3
   refine wp_ret ?_
   have hF : F_l01In np low high = ((decide (low ≤ np)) && (decide (np ≤ high))) := by unfold F_l01In; rfl
   refine c_ret1 hE43 rfl rfl ?_
   exact ⟨(by rw [hF]; first | done | (dsimp only; done) | rfl), rfl⟩
theorem F_l01In_t {x low high : Int} (h : F_l01In x low high = true) : low ≤ x ∧ x ≤ high := by
  unfold F_l01In at h; simpa using h
def F_l01One (i : Int) : Int :=
  shlI 1 i
theorem cf_l01One (args : Array Value) (w : World) : (callFunc 209 args).run Try.prog w = .ok (.enter 209 args) w := by kernel_rfl
set_option maxRecDepth 100000 in
theorem c_l01One (i : Int) (w : World) (h0 : 0 ≤ i) (h1 : i < 64) :
    Calls Try.prog 209 #[.int .i64 i] w (Ret fun v w' => v = .int .i64 (F_l01One i) ∧ w = w') := by
  have hS := St.nil w
  refine enter (args := [.int .i64 i]) Try.func209 rfl rfl ?_
  rw [Try.ntmps209]; intro a hE
  have hE := hE.sub (L' := [(0, .int .i64 i)]) ⟨rfl, trivial⟩
  refine c_seq ?_
  refine c_reg ?_
  refine q_step (v := .int .i64 0) hE (y_assign rfl) rfl rfl rfl ?_; intro a1 hE2; clear hE
  refine c_nil ?_
  have hE3 := hE2.sub (L' := [(0, .int .i64 i)]) ⟨rfl, trivial⟩; clear hE2
  refine p_tn ?_
  refine c_seq ?_
  refine c_reg ?_
  refine q_step (v := .int .i64 i) hE3 (y_move rfl) rfl rfl rfl ?_; intro a4 hE5; clear hE3
  refine q_step (v := .int .u64 i) hE5 (y_conv (ds := .int .i64) (by kernel_rfl) (by kernel_rfl) rfl (wU64 (by omega) (by omega))) rfl rfl rfl ?_; intro a6 hE7; clear hE5
  refine q_step (v := .int .i64 (shlI 1 i)) hE7 (y_shl rfl rfl (by omega)) rfl rfl rfl ?_; intro a8 hE9; clear hE7
  refine q_step (v := .int .i64 (shlI 1 i)) hE9 (y_assign rfl) rfl rfl rfl ?_; intro a10 hE11; clear hE9
  refine c_nil ?_
  have hE12 := hE11.sub (L' := [(2, .int .i64 (shlI 1 i))]) ⟨rfl, trivial⟩; clear hE11
  refine p_tn ?_
  refine wp_ret ?_
  have hF : F_l01One i = shlI 1 i := by unfold F_l01One; rfl
  refine c_ret1 hE12 rfl rfl ?_
  exact ⟨(by rw [hF]; first | done | (dsimp only; done) | rfl), rfl⟩
theorem l01One_eq {i : Int} (h0 : 0 ≤ i) (h1 : i ≤ 62) : F_l01One i = powI i := shlI_one h0 h1
theorem d_l01One (i : Int) (w : World) (h0 : 0 ≤ i) (h1 : i ≤ 62) : Calls Try.prog 209 #[.int .i64 i] w (Ret fun v w' => v = .int .i64 (powI i) ∧ w = w') := by
  have := c_l01One i w h0 (by omega)
  rwa [l01One_eq h0 h1] at this
def F_l01Full (np : Int) : Int :=
  wI ((powI np) - 1)
theorem cf_l01Full (args : Array Value) (w : World) : (callFunc 172 args).run Try.prog w = .ok (.enter 172 args) w := by kernel_rfl
set_option maxRecDepth 100000 in
theorem c_l01Full (np : Int) (w : World) (h0 : 0 ≤ np) (h1 : np ≤ 62) :
    Calls Try.prog 172 #[.int .i64 np] w (Ret fun v w' => v = .int .i64 (F_l01Full np) ∧ w = w') := by
  have hS := St.nil w
  refine enter (args := [.int .i64 np]) Try.func172 rfl rfl ?_
  rw [Try.ntmps172]; intro a hE
  have hE := hE.sub (L' := [(0, .int .i64 np)]) ⟨rfl, trivial⟩
  refine c_seq ?_
  refine c_reg ?_
  refine q_step (v := .int .i64 0) hE (y_assign rfl) rfl rfl rfl ?_; intro a1 hE2; clear hE
  refine c_nil ?_
  have hE3 := hE2.sub (L' := [(0, .int .i64 np)]) ⟨rfl, trivial⟩; clear hE2
  refine p_tn ?_
  refine c_seq ?_
  refine c_reg ?_
  refine q_step (v := .int .i64 np) hE3 (y_move rfl) rfl rfl rfl ?_; intro a4 hE5; clear hE3
  refine l_step hE5 rfl (l_call (f := 209) (argv := [.int .i64 np]) hE5 (fun _ => cf_l01One _ _) rfl rfl (d_l01One np w (by omega) (by omega)) ?_)
  rintro _ _ ⟨rfl, rfl⟩ a8 hE9; clear hE5
  refine q_step (v := .int .i64 (wI ((powI np) - 1))) hE9 (y_subw rfl rfl) rfl rfl rfl ?_; intro a12 hE13; clear hE9
  refine q_step (v := .int .i64 (wI ((powI np) - 1))) hE13 (y_assign rfl) rfl rfl rfl ?_; intro a14 hE15; clear hE13
  refine c_nil ?_
  have hE16 := hE15.sub (L' := [(2, .int .i64 (wI ((powI np) - 1)))]) ⟨rfl, trivial⟩; clear hE15
  refine p_tn ?_
  refine wp_ret ?_
  have hF : F_l01Full np = wI ((powI np) - 1) := by unfold F_l01Full; rfl
  refine c_ret1 hE16 rfl rfl ?_
  exact ⟨(by rw [hF]; first | done | (dsimp only; done) | rfl), rfl⟩
theorem l01Full_eq {np : Int} (h0 : 0 ≤ np) (h1 : np ≤ 62) : F_l01Full np = fullI np := by
  unfold F_l01Full
  have := powI_bd h0 h1
  rw [fullI_pow]; exact wI_in ⟨by omega, by omega⟩
theorem d_l01Full (np : Int) (w : World) (h0 : 0 ≤ np) (h1 : np ≤ 62) : Calls Try.prog 172 #[.int .i64 np] w (Ret fun v w' => v = .int .i64 (fullI np) ∧ w = w') := by
  have := c_l01Full np w h0 h1
  rwa [l01Full_eq h0 h1] at this
def F_l01Masks_L1b (np : Int) (list : List Int) (rec : Int → Except (Bool) (Int)) (i5 : Int) : Except (Bool) (Int) :=
  bif (decide (i5 < (list.length : Int))) then (bif (!(F_l01In (gI list i5) 0 (fullI np))) then (.error false) else (rec (i5 + 1))) else (.ok i5)
def F_l01Masks_L1 (np : Int) (list : List Int) : Nat → Int → Except (Bool) (Int)
  | 0, i5 => .ok i5
  | r + 1, i5 => F_l01Masks_L1b np list (F_l01Masks_L1 np list r) i5
def F_l01Masks (np : Int) (list : List Int) : Bool :=
  bif (isOk (F_l01Masks_L1 np list (Int.toNat ((list.length : Int) - 0) + 1) 0)) then true else (errD (F_l01Masks_L1 np list (Int.toNat ((list.length : Int) - 0) + 1) 0))
theorem cf_l01Masks (args : Array Value) (w : World) : (callFunc 162 args).run Try.prog w = .ok (.enter 162 args) w := by kernel_rfl
set_option maxRecDepth 100000 in
theorem c_l01Masks (np : Int) (listA : Option Addr) (listN listC : Nat) (list : List Int) (w : World) (listR : RdS w 1 listA listN listC list) (h0 : 0 ≤ np) (h1 : np ≤ 62) :
    Calls Try.prog 162 #[.int .i64 np, .slice listA listN listC] w (Ret fun v w' => v = .bool (F_l01Masks np list) ∧ Ext w w') := by
  obtain rfl : listN = list.length := listR.len1.symm
  have listLe := listR.le
  have hS := St.nil w
  have hS1 := St.rd0 hS rfl listR; clear hS
  refine enter (args := [.int .i64 np, .slice listA list.length listC]) Try.func162 rfl rfl ?_
  rw [Try.ntmps162]; intro a hE
  have hE := hE.sub (L' := [(0, .int .i64 np), (1, .slice listA list.length listC)]) ⟨rfl, rfl, trivial⟩
  refine c_seq ?_
  refine c_reg ?_
  refine q_step (v := .bool false) hE (y_assign rfl) rfl rfl rfl ?_; intro a2 hE3; clear hE
  refine c_nil ?_
  have hE4 := hE3.sub (L' := [(0, .int .i64 np), (1, .slice listA list.length listC)]) ⟨rfl, rfl, trivial⟩; clear hE3
  refine p_tn ?_
  refine c_seq ?_
  refine c_seq ?_
  refine c_reg ?_
  refine q_step (v := .int .i64 0) hE4 (y_assign rfl) rfl rfl rfl ?_; intro a5 hE6; clear hE4
  refine c_nil ?_
  have hE7 := hE6.sub (L' := [(0, .int .i64 np), (1, .slice listA list.length listC), (5, .int .i64 0)]) ⟨rfl, rfl, rfl, trivial⟩; clear hE6
  refine p_tn ?_
  refine c_cut1 (fun a' w' => isOk (F_l01Masks_L1 np list (Int.toNat ((list.length : Int) - 0) + 1) 0) = true ∧ (0 ≤ (okD (F_l01Masks_L1 np list (Int.toNat ((list.length : Int) - 0) + 1) 0))) ∧ ((okD (F_l01Masks_L1 np list (Int.toNat ((list.length : Int) - 0) + 1) 0)) ≤ (list.length : Int)) ∧ E a' 20 [(0, .int .i64 np), (1, .slice listA list.length listC), (5, .int .i64 (okD (F_l01Masks_L1 np list (Int.toNat ((list.length : Int) - 0) + 1) 0)))] ∧ St w w' [.rd 1 listA list.length listC list]) ?_ ?_
  ·
   refine wp_block ?_
   refine c_loop (fun r a' w' => ∃ i5 : Int, F_l01Masks_L1 np list r i5 = F_l01Masks_L1 np list (Int.toNat ((list.length : Int) - 0) + 1) 0 ∧ Int.toNat ((list.length : Int) - i5) < r ∧ (0 ≤ i5) ∧ (i5 ≤ (list.length : Int)) ∧ E a' 20 [(0, .int .i64 np), (1, .slice listA list.length listC), (5, .int .i64 i5)] ∧ St w w' [.rd 1 listA list.length listC list]) (r := (Int.toNat ((list.length : Int) - 0) + 1)) ?_ ?_
   · exact ⟨0, rfl, Nat.lt_succ_self _, (by first | omega | (simp only [sS_len, sL_len]; omega) | (simp only [List.length_replicate, sI_len]; omega) | (simp only [List.length_append, List.length_cons, List.length_nil, sI_len, cond_true, cond_false]; omega) | (simp only [List.length_append, List.length_cons, List.length_nil, sI_len, cond_eq_ite, apply_ite List.length]; split <;> simp only [List.length_append, List.length_cons, List.length_nil, sI_len] <;> omega) | grind), (by first | omega | (simp only [sS_len, sL_len]; omega) | (simp only [List.length_replicate, sI_len]; omega) | (simp only [List.length_append, List.length_cons, List.length_nil, sI_len, cond_true, cond_false]; omega) | (simp only [List.length_append, List.length_cons, List.length_nil, sI_len, cond_eq_ite, apply_ite List.length]; split <;> simp only [List.length_append, List.length_cons, List.length_nil, sI_len] <;> omega) | grind), (hE7.sub (L' := [(0, .int .i64 np), (1, .slice listA list.length listC), (5, .int .i64 0)]) ⟨rfl, rfl, rfl, trivial⟩), (St.pick (Γ' := [.rd 1 listA list.length listC list]) hS1 [0] (by decide) rfl)⟩
   ·
    clear hE7 hS1
    rintro r17 a9 w10 ⟨i5, hT13, hr14, hi15, hi16, hE11, hS12⟩
    obtain ⟨r17, rfl⟩ : ∃ r', r17 = r' + 1 := ⟨r17 - 1, by omega⟩
    refine c_seq ?_
    refine c_seq ?_
    refine c_reg ?_
    refine q_step (v := .int .i64 i5) hE11 (y_move rfl) rfl rfl rfl ?_; intro a18 hE19; clear hE11
    refine q_step (v := .slice listA list.length listC) hE19 (y_move rfl) rfl rfl rfl ?_; intro a20 hE21; clear hE19
    refine q_step (v := .int .i64 (list.length : Int)) hE21 (y_len (e := 2) (by kernel_rfl) rfl) rfl rfl rfl ?_; intro a22 hE23; clear hE21
    refine q_step (v := .bool (decide (i5 < (list.length : Int)))) hE23 (y_lss rfl rfl) rfl rfl rfl ?_; intro a24 hE25; clear hE23
    refine c_nil ?_
    have hE26 := hE25.sub (L' := [(0, .int .i64 np), (1, .slice listA list.length listC), (5, .int .i64 i5), (9, .bool (decide (i5 < (list.length : Int))))]) ⟨rfl, rfl, rfl, rfl, trivial⟩; clear hE25
    refine p_tn ?_
    refine c_cond hE26 rfl (fun ht27 => ?_) (fun ht27 => ?_)
    ·
     have hp28 := of_decide_eq_true ht27
     have hE29 := hE26; rw [ht27] at hE29; clear hE26
     refine wp_skip ?_
     refine p_tn ?_
     refine c_seq ?_
     refine wp_block ?_
     refine c_seq ?_
     refine d_start (fun w w' => (fun w' => w'.cell? (adr listA (Int.toNat i5)) = some (.int .i64 (gI list i5)) ∧ True) w → (fun w' => w'.cell? (adr listA (Int.toNat i5)) = some (.int .i64 (gI list i5)) ∧ True) w') [3] 8 (by kernel_rfl) rfl ?_
     intro w30 he31; have hS32 := St.go hS12 he31; clear hS12
     refine d_pure (fun _ h => h) (v := .slice listA list.length listC) 0 rfl hE29 (y_move rfl) rfl (by kernel_rfl) (by kernel_rfl) (by kernel_rfl) rfl rfl (fun _ _ _ h => h) ?_; intro a33 hE34; clear hE29
     refine d_pure (fun _ h => h) (v := .int .i64 i5) 1 rfl hE34 (y_move rfl) rfl (by kernel_rfl) (by kernel_rfl) (by kernel_rfl) rfl rfl (fun _ _ _ h => h) ?_; intro a35 hE36; clear hE34
     refine d_pure (fun _ h => h) (v := .pointer (some (adr listA (Int.toNat i5)))) 2 rfl hE36 (y_idx (by kernel_rfl) (fun _ => by kernel_rfl) rfl rfl (RdS.isS (m := i5) (St.rdR (i := 0) hS32 rfl) (by omega) (by omega)) (by omega) (by omega) (Nat.mul_one _).symm) rfl (by kernel_rfl) (by kernel_rfl) (by kernel_rfl) rfl rfl (fun _ _ _ h => h) ?_; intro a37 hE38; clear hE36
     refine d_take (fun _ h => h) (fun _ _ h k => h k) (v := .int .i64 (gI list i5)) 3 rfl hE38 (S := fun w' => w'.cell? (adr listA (Int.toNat i5)) = some (.int .i64 (gI list i5)) ∧ True) ⟨(RdS.elt (St.rdR (i := 0) hS32 rfl) (by omega) (by omega) _ (Ext.refl _)), trivial⟩ (y_load (fun _ => by kernel_rfl) rfl (fun _ h => h.1)) rfl rfl (by kernel_rfl) (by kernel_rfl) (by kernel_rfl) (by kernel_rfl) rfl rfl (fun _ _ _ h => h) ?_; intro a39 hE40; clear hE38
     refine d_pure (fun _ h => h) (v := .int .i64 np) 4 rfl hE40 (y_move rfl) rfl (by kernel_rfl) (by kernel_rfl) (by kernel_rfl) rfl rfl (fun _ _ _ h => h) ?_; intro a41 hE42; clear hE40
     refine d_only 5 (by kernel_rfl) rfl hE42 rfl (l_call (f := 172) (argv := [.int .i64 np]) hE42 (fun _ => cf_l01Full _ _) rfl rfl (d_l01Full np w30 (by omega) (by omega)) ?_)
     rintro _ _ ⟨rfl, rfl⟩ a45 hE46; clear hE42
     refine ⟨fun _ _ => ⟨(RdS.elt (St.rdR (i := 0) hS32 rfl) (by omega) (by omega) _ (Ext.refl _)), trivial⟩, ?_⟩
     refine d_only 6 (by kernel_rfl) rfl hE46 rfl (l_call (f := 85) (argv := [.int .i64 (gI list i5), .int .i64 0, .int .i64 (fullI np)]) hE46 (fun _ => cf_l01In _ _) rfl rfl (c_l01In (gI list i5) 0 (fullI np) w30) ?_)
     rintro _ _ ⟨rfl, rfl⟩ a51 hE52; clear hE46
     refine ⟨fun h => Bool.noConfusion (h.symm.trans (show exm _ _ _ = true by kernel_rfl)), ?_⟩
     refine d_pure (fun _ h => h) (v := .bool (!(F_l01In (gI list i5) 0 (fullI np)))) 7 rfl hE52 (y_not rfl) rfl (by kernel_rfl) (by kernel_rfl) (by kernel_rfl) rfl rfl (fun _ _ _ h => h) ?_; intro a55 hE56; clear hE52
     refine d_done (by kernel_rfl) ?_
     have hE57 := hE56.sub (L' := [(0, .int .i64 np), (1, .slice listA list.length listC), (5, .int .i64 i5), (19, .bool (!(F_l01In (gI list i5) 0 (fullI np))))]) ⟨rfl, rfl, rfl, rfl, trivial⟩; clear hE56
     refine p_tn ?_
     refine c_cond hE57 rfl (fun ht58 => ?_) (fun ht58 => ?_)
     ·
      have ht59 := bn_t ht58
      have hE60 := hE57; rw [ht58] at hE60; clear hE57
      refine c_seq ?_
      refine c_reg ?_
      refine q_step (v := .bool false) hE60 (y_assign rfl) rfl rfl rfl ?_; intro a61 hE62; clear hE60
      refine c_nil ?_
      have hE63 := hE62.sub (L' := [(4, .bool false)]) ⟨rfl, trivial⟩; clear hE62
      refine p_tn ?_
      refine wp_ret ?_
      refine p_br ?_
      refine p_tr ?_
      have hX64 : F_l01Masks_L1 np list (Int.toNat ((list.length : Int) - 0) + 1) 0 = .error false := hT13.symm.trans (show F_l01Masks_L1b np list (F_l01Masks_L1 np list r17) i5 = .error false by unfold F_l01Masks_L1b; rw [ht58, ht27]; first | done | rfl)
      refine p_tr (p_br (p_tr ?_))
      refine p_tr ?_
      have hF : F_l01Masks np list = false := by unfold F_l01Masks; rw [hX64]; first | done | rfl
      refine c_ret1 hE63 rfl rfl ?_
      exact ⟨(by rw [hF]; first | done | (dsimp only; done) | rfl), hS32.ext⟩
     ·
      have ht65 := bn_f ht58
      have hE66 := hE57; rw [ht58] at hE66; clear hE57
      refine wp_skip ?_
      refine p_bn ?_
      refine p_tn ?_
      refine c_reg ?_
      refine q_step (v := .int .i64 i5) hE66 (y_move rfl) rfl rfl rfl ?_; intro a67 hE68; clear hE66
      refine q_step (v := .int .i64 (i5 + 1)) hE68 (y_add rfl rfl ⟨(by omega), (by omega)⟩) rfl rfl rfl ?_; intro a69 hE70; clear hE68
      refine q_step (v := .int .i64 (i5 + 1)) hE70 (y_assign rfl) rfl rfl rfl ?_; intro a71 hE72; clear hE70
      refine c_nil ?_
      have hE73 := hE72.sub (L' := [(0, .int .i64 np), (1, .slice listA list.length listC), (5, .int .i64 (i5 + 1))]) ⟨rfl, rfl, rfl, trivial⟩; clear hE72
      refine p_tn ⟨r17, Nat.lt_succ_self _, i5 + 1, (hT13.symm.trans (show F_l01Masks_L1b np list (F_l01Masks_L1 np list r17) i5 = F_l01Masks_L1 np list r17 (i5 + 1) by unfold F_l01Masks_L1b; rw [ht58, ht27]; first | done | rfl)).symm, (by omega), (by first | omega | (simp only [sS_len, sL_len]; omega) | (simp only [List.length_replicate, sI_len]; omega) | (simp only [List.length_append, List.length_cons, List.length_nil, sI_len, cond_true, cond_false]; omega) | (simp only [List.length_append, List.length_cons, List.length_nil, sI_len, cond_eq_ite, apply_ite List.length]; split <;> simp only [List.length_append, List.length_cons, List.length_nil, sI_len] <;> omega) | grind), (by first | omega | (simp only [sS_len, sL_len]; omega) | (simp only [List.length_replicate, sI_len]; omega) | (simp only [List.length_append, List.length_cons, List.length_nil, sI_len, cond_true, cond_false]; omega) | (simp only [List.length_append, List.length_cons, List.length_nil, sI_len, cond_eq_ite, apply_ite List.length]; split <;> simp only [List.length_append, List.length_cons, List.length_nil, sI_len] <;> omega) | grind), (hE73.sub (L' := [(0, .int .i64 np), (1, .slice listA list.length listC), (5, .int .i64 (i5 + 1))]) ⟨rfl, rfl, rfl, trivial⟩), (St.pick (Γ' := [.rd 1 listA list.length listC list]) hS32 [0] (by decide) rfl)⟩
    ·
     have hp74 := of_decide_eq_false ht27
     have hE75 := hE26; rw [ht27] at hE75; clear hE26
     refine wp_exit ?_
     refine p_te ?_
     have hX76 : F_l01Masks_L1 np list (Int.toNat ((list.length : Int) - 0) + 1) 0 = .ok i5 := hT13.symm.trans (show F_l01Masks_L1b np list (F_l01Masks_L1 np list r17) i5 = .ok i5 by unfold F_l01Masks_L1b; rw [ht27]; first | done | rfl)
     refine p_te (p_be (p_tn ?_))
     exact ⟨(by rw [hX76]; rfl), (by rw [hX76]; exact (show 0 ≤ i5 from (by first | omega | (simp only [sS_len, sL_len]; omega) | (simp only [List.length_replicate, sI_len]; omega) | (simp only [List.length_append, List.length_cons, List.length_nil, sI_len, cond_true, cond_false]; omega) | (simp only [List.length_append, List.length_cons, List.length_nil, sI_len, cond_eq_ite, apply_ite List.length]; split <;> simp only [List.length_append, List.length_cons, List.length_nil, sI_len] <;> omega) | grind))), (by rw [hX76]; exact (show i5 ≤ (list.length : Int) from (by first | omega | (simp only [sS_len, sL_len]; omega) | (simp only [List.length_replicate, sI_len]; omega) | (simp only [List.length_append, List.length_cons, List.length_nil, sI_len, cond_true, cond_false]; omega) | (simp only [List.length_append, List.length_cons, List.length_nil, sI_len, cond_eq_ite, apply_ite List.length]; split <;> simp only [List.length_append, List.length_cons, List.length_nil, sI_len] <;> omega) | grind))), (by rw [hX76]; exact (hE75.sub (L' := [(0, .int .i64 np), (1, .slice listA list.length listC), (5, .int .i64 i5)]) ⟨rfl, rfl, rfl, trivial⟩)), (St.pick (Γ' := [.rd 1 listA list.length listC list]) hS12 [0] (by decide) rfl)⟩
  ·
   rintro a77 w78 ⟨hO81, hi82, hi83, hE79, hS80⟩; clear hE7 hS1
   refine p_tn ?_
   refine c_seq ?_
   refine c_reg ?_
   refine q_step (v := .bool true) hE79 (y_assign rfl) rfl rfl rfl ?_; intro a84 hE85; clear hE79
   refine c_nil ?_
   have hE86 := hE85.sub (L' := [(4, .bool true)]) ⟨rfl, trivial⟩; clear hE85
   refine p_tn ?_
   refine wp_ret ?_
   have hF : F_l01Masks np list = true := by unfold F_l01Masks; rw [hO81]; first | done | rfl
   refine c_ret1 hE86 rfl rfl ?_
   exact ⟨(by rw [hF]; first | done | (dsimp only; done) | rfl), hS80.ext⟩
theorem masks_eq (np : Int) (list : List Int) : F_l01Masks np list = list.all fun x => F_l01In x 0 (fullI np) := by
  unfold F_l01Masks
  have e : Int.toNat ((list.length : Int) - 0) = list.length := by omega
  rw [e, allLoop (F_l01Masks_L1 np list) list.length (fun i => !(F_l01In (gI list i) 0 (fullI np))) (fun _ _ => rfl) list.length 0 (by omega), ← range_all_gI]
  congr 1; funext j; simp
def F_l01Bit (mask : Int) (i : Int) : Bool :=
  decide ((andI (shrI mask i) 1) = 1)
theorem cf_l01Bit (args : Array Value) (w : World) : (callFunc 144 args).run Try.prog w = .ok (.enter 144 args) w := by kernel_rfl
set_option maxRecDepth 100000 in
theorem c_l01Bit (mask : Int) (i : Int) (w : World) (h0 : 0 ≤ i) (h1 : i < 64) :
    Calls Try.prog 144 #[.int .i64 mask, .int .i64 i] w (Ret fun v w' => v = .bool (F_l01Bit mask i) ∧ w = w') := by
  have hS := St.nil w
  refine enter (args := [.int .i64 mask, .int .i64 i]) Try.func144 rfl rfl ?_
  rw [Try.ntmps144]; intro a hE
  have hE := hE.sub (L' := [(0, .int .i64 mask), (1, .int .i64 i)]) ⟨rfl, rfl, trivial⟩
  refine c_seq ?_
  refine c_reg ?_
  refine q_step (v := .bool false) hE (y_assign rfl) rfl rfl rfl ?_; intro a1 hE2; clear hE
  refine c_nil ?_
  have hE3 := hE2.sub (L' := [(0, .int .i64 mask), (1, .int .i64 i)]) ⟨rfl, rfl, trivial⟩; clear hE2
  refine p_tn ?_
  refine c_seq ?_
  refine c_reg ?_
  refine q_step (v := .int .i64 mask) hE3 (y_move rfl) rfl rfl rfl ?_; intro a4 hE5; clear hE3
  refine q_step (v := .int .i64 i) hE5 (y_move rfl) rfl rfl rfl ?_; intro a6 hE7; clear hE5
  refine q_step (v := .int .u64 i) hE7 (y_conv (ds := .int .i64) (by kernel_rfl) (by kernel_rfl) rfl (wU64 (by omega) (by omega))) rfl rfl rfl ?_; intro a8 hE9; clear hE7
  refine q_step (v := .int .i64 (shrI mask i)) hE9 (y_shr rfl rfl (by omega)) rfl rfl rfl ?_; intro a10 hE11; clear hE9
  refine q_step (v := .int .i64 (andI (shrI mask i) 1)) hE11 (y_and rfl rfl) rfl rfl rfl ?_; intro a12 hE13; clear hE11
  refine q_step (v := .bool (decide ((andI (shrI mask i) 1) = 1))) hE13 (y_eql rfl rfl) rfl rfl rfl ?_; intro a14 hE15; clear hE13
  refine q_step (v := .bool (decide ((andI (shrI mask i) 1) = 1))) hE15 (y_assign rfl) rfl rfl rfl ?_; intro a16 hE17; clear hE15
  refine c_nil ?_
  have hE18 := hE17.sub (L' := [(4, .bool (decide ((andI (shrI mask i) 1) = 1)))]) ⟨rfl, trivial⟩; clear hE17
  refine p_tn ?_
  refine wp_ret ?_
  have hF : F_l01Bit mask i = decide ((andI (shrI mask i) 1) = 1) := by unfold F_l01Bit; rfl
  refine c_ret1 hE18 rfl rfl ?_
  exact ⟨(by rw [hF]; first | done | (dsimp only; done) | rfl), rfl⟩
def F_l01Image_L1b (ap : List Int) (mask : Int) (rec : Int → Int → Int × Int) (out5 : Int) (i6 : Int) : Int × Int :=
  bif (decide (i6 < (ap.length : Int))) then (rec (bif (F_l01Bit mask i6) then orI out5 (gI ap i6) else out5) (i6 + 1)) else (out5, i6)
def F_l01Image_L1 (ap : List Int) (mask : Int) : Nat → Int → Int → Int × Int
  | 0, out5, i6 => (out5, i6)
  | r + 1, out5, i6 => F_l01Image_L1b ap mask (F_l01Image_L1 ap mask r) out5 i6
def F_l01Image (ap : List Int) (mask : Int) : Int :=
  (F_l01Image_L1 ap mask (Int.toNat ((ap.length : Int) - 0) + 1) 0 0).1
theorem cf_l01Image (args : Array Value) (w : World) : (callFunc 121 args).run Try.prog w = .ok (.enter 121 args) w := by kernel_rfl
set_option maxRecDepth 100000 in
theorem c_l01Image (apA : Option Addr) (apN apC : Nat) (ap : List Int) (mask : Int) (w : World) (apR : RdS w 1 apA apN apC ap) (hl : ap.length ≤ 62) :
    Calls Try.prog 121 #[.slice apA apN apC, .int .i64 mask] w (Ret fun v w' => v = .int .i64 (F_l01Image ap mask) ∧ Ext w w') := by
  obtain rfl : apN = ap.length := apR.len1.symm
  have apLe := apR.le
  have hS := St.nil w
  have hS1 := St.rd0 hS rfl apR; clear hS
  refine enter (args := [.slice apA ap.length apC, .int .i64 mask]) Try.func121 rfl rfl ?_
  rw [Try.ntmps121]; intro a hE
  have hE := hE.sub (L' := [(0, .slice apA ap.length apC), (1, .int .i64 mask)]) ⟨rfl, rfl, trivial⟩
  refine c_seq ?_
  refine c_reg ?_
  refine q_step (v := .int .i64 0) hE (y_assign rfl) rfl rfl rfl ?_; intro a2 hE3; clear hE
  refine c_nil ?_
  have hE4 := hE3.sub (L' := [(0, .slice apA ap.length apC), (1, .int .i64 mask)]) ⟨rfl, rfl, trivial⟩; clear hE3
  refine p_tn ?_
  refine c_seq ?_
  refine c_reg ?_
  refine q_step (v := .int .i64 0) hE4 (y_assign rfl) rfl rfl rfl ?_; intro a5 hE6; clear hE4
  refine c_nil ?_
  have hE7 := hE6.sub (L' := [(0, .slice apA ap.length apC), (1, .int .i64 mask), (5, .int .i64 0)]) ⟨rfl, rfl, rfl, trivial⟩; clear hE6
  refine p_tn ?_
  refine c_seq ?_
  refine c_seq ?_
  refine c_reg ?_
  refine q_step (v := .int .i64 0) hE7 (y_assign rfl) rfl rfl rfl ?_; intro a8 hE9; clear hE7
  refine c_nil ?_
  have hE10 := hE9.sub (L' := [(0, .slice apA ap.length apC), (1, .int .i64 mask), (5, .int .i64 0), (6, .int .i64 0)]) ⟨rfl, rfl, rfl, rfl, trivial⟩; clear hE9
  refine p_tn ?_
  refine c_cut1 (fun a' w' => (0 ≤ ((F_l01Image_L1 ap mask (Int.toNat ((ap.length : Int) - 0) + 1) 0 0).2)) ∧ (((F_l01Image_L1 ap mask (Int.toNat ((ap.length : Int) - 0) + 1) 0 0).2) ≤ (ap.length : Int)) ∧ E a' 23 [(0, .slice apA ap.length apC), (1, .int .i64 mask), (5, .int .i64 ((F_l01Image_L1 ap mask (Int.toNat ((ap.length : Int) - 0) + 1) 0 0).1)), (6, .int .i64 ((F_l01Image_L1 ap mask (Int.toNat ((ap.length : Int) - 0) + 1) 0 0).2))] ∧ St w w' [.rd 1 apA ap.length apC ap]) ?_ ?_
  ·
   refine wp_block ?_
   refine c_loop (fun r a' w' => ∃ out5 : Int, ∃ i6 : Int, F_l01Image_L1 ap mask r out5 i6 = F_l01Image_L1 ap mask (Int.toNat ((ap.length : Int) - 0) + 1) 0 0 ∧ Int.toNat ((ap.length : Int) - i6) < r ∧ (0 ≤ i6) ∧ (i6 ≤ (ap.length : Int)) ∧ E a' 23 [(0, .slice apA ap.length apC), (1, .int .i64 mask), (5, .int .i64 out5), (6, .int .i64 i6)] ∧ St w w' [.rd 1 apA ap.length apC ap]) (r := (Int.toNat ((ap.length : Int) - 0) + 1)) ?_ ?_
   · exact ⟨0, 0, rfl, Nat.lt_succ_self _, (by first | omega | (simp only [sS_len, sL_len]; omega) | (simp only [List.length_replicate, sI_len]; omega) | (simp only [List.length_append, List.length_cons, List.length_nil, sI_len, cond_true, cond_false]; omega) | (simp only [List.length_append, List.length_cons, List.length_nil, sI_len, cond_eq_ite, apply_ite List.length]; split <;> simp only [List.length_append, List.length_cons, List.length_nil, sI_len] <;> omega) | grind), (by first | omega | (simp only [sS_len, sL_len]; omega) | (simp only [List.length_replicate, sI_len]; omega) | (simp only [List.length_append, List.length_cons, List.length_nil, sI_len, cond_true, cond_false]; omega) | (simp only [List.length_append, List.length_cons, List.length_nil, sI_len, cond_eq_ite, apply_ite List.length]; split <;> simp only [List.length_append, List.length_cons, List.length_nil, sI_len] <;> omega) | grind), (hE10.sub (L' := [(0, .slice apA ap.length apC), (1, .int .i64 mask), (5, .int .i64 0), (6, .int .i64 0)]) ⟨rfl, rfl, rfl, rfl, trivial⟩), (St.pick (Γ' := [.rd 1 apA ap.length apC ap]) hS1 [0] (by decide) rfl)⟩
   ·
    clear hE10 hS1
    rintro r20 a12 w13 ⟨out5, i6, hT16, hr17, hi18, hi19, hE14, hS15⟩
    obtain ⟨r20, rfl⟩ : ∃ r', r20 = r' + 1 := ⟨r20 - 1, by omega⟩
    refine c_seq ?_
    refine c_seq ?_
    refine c_reg ?_
    refine q_step (v := .int .i64 i6) hE14 (y_move rfl) rfl rfl rfl ?_; intro a21 hE22; clear hE14
    refine q_step (v := .slice apA ap.length apC) hE22 (y_move rfl) rfl rfl rfl ?_; intro a23 hE24; clear hE22
    refine q_step (v := .int .i64 (ap.length : Int)) hE24 (y_len (e := 2) (by kernel_rfl) rfl) rfl rfl rfl ?_; intro a25 hE26; clear hE24
    refine q_step (v := .bool (decide (i6 < (ap.length : Int)))) hE26 (y_lss rfl rfl) rfl rfl rfl ?_; intro a27 hE28; clear hE26
    refine c_nil ?_
    have hE29 := hE28.sub (L' := [(0, .slice apA ap.length apC), (1, .int .i64 mask), (5, .int .i64 out5), (6, .int .i64 i6), (10, .bool (decide (i6 < (ap.length : Int))))]) ⟨rfl, rfl, rfl, rfl, rfl, trivial⟩; clear hE28
    refine p_tn ?_
    refine c_cond hE29 rfl (fun ht30 => ?_) (fun ht30 => ?_)
    ·
     have hp31 := of_decide_eq_true ht30
     have hE32 := hE29; rw [ht30] at hE32; clear hE29
     refine wp_skip ?_
     refine p_tn ?_
     refine c_cut (fun a' w' => E a' 23 [(0, .slice apA ap.length apC), (1, .int .i64 mask), (5, .int .i64 (bif (F_l01Bit mask i6) then orI out5 (gI ap i6) else out5)), (6, .int .i64 i6)] ∧ St w w' [.rd 1 apA ap.length apC ap]) ?_ ?_
     ·
      refine wp_block ?_
      refine c_seq ?_
      refine c_reg ?_
      refine q_step (v := .int .i64 mask) hE32 (y_move rfl) rfl rfl rfl ?_; intro a33 hE34; clear hE32
      refine q_step (v := .int .i64 i6) hE34 (y_move rfl) rfl rfl rfl ?_; intro a35 hE36; clear hE34
      refine l_step hE36 rfl (l_call (f := 144) (argv := [.int .i64 mask, .int .i64 i6]) hE36 (fun _ => cf_l01Bit _ _) rfl rfl (c_l01Bit mask i6 w13 (by omega) (by omega)) ?_)
      rintro _ _ ⟨rfl, rfl⟩ a39 hE40; clear hE36
      refine c_nil ?_
      have hE43 := hE40.sub (L' := [(0, .slice apA ap.length apC), (1, .int .i64 mask), (5, .int .i64 out5), (6, .int .i64 i6), (15, .bool (F_l01Bit mask i6))]) ⟨rfl, rfl, rfl, rfl, rfl, trivial⟩; clear hE40
      refine p_tn ?_
      refine c_cond hE43 rfl (fun ht44 => ?_) (fun ht44 => ?_)
      ·
       have hE45 := hE43; rw [ht44] at hE45; clear hE43
       refine c_reg ?_
       refine q_step (v := .int .i64 out5) hE45 (y_move rfl) rfl rfl rfl ?_; intro a46 hE47; clear hE45
       refine q_step (v := .slice apA ap.length apC) hE47 (y_move rfl) rfl rfl rfl ?_; intro a48 hE49; clear hE47
       refine q_step (v := .int .i64 i6) hE49 (y_move rfl) rfl rfl rfl ?_; intro a50 hE51; clear hE49
       refine q_step (v := .pointer (some (adr apA (Int.toNat i6)))) hE51 (y_idx (by kernel_rfl) (fun _ => by kernel_rfl) rfl rfl (RdS.isS (m := i6) (St.rdR (i := 0) hS15 rfl) (by omega) (by omega)) (by omega) (by omega) (Nat.mul_one _).symm) rfl rfl rfl ?_; intro a52 hE53; clear hE51
       refine q_step (v := .int .i64 (gI ap i6)) hE53 (y_load (fun _ => by kernel_rfl) rfl (RdS.elt (St.rdR (i := 0) hS15 rfl) (by omega) (by omega))) rfl rfl rfl ?_; intro a54 hE55; clear hE53
       refine q_step (v := .int .i64 (orI out5 (gI ap i6))) hE55 (y_or rfl rfl) rfl rfl rfl ?_; intro a56 hE57; clear hE55
       refine q_step (v := .int .i64 (orI out5 (gI ap i6))) hE57 (y_assign rfl) rfl rfl rfl ?_; intro a58 hE59; clear hE57
       refine c_nil ?_
       have hE60 := hE59.sub (L' := [(0, .slice apA ap.length apC), (1, .int .i64 mask), (5, .int .i64 (orI out5 (gI ap i6))), (6, .int .i64 i6)]) ⟨rfl, rfl, rfl, rfl, trivial⟩; clear hE59
       refine p_bn ?_
       refine p_tn ?_
       have hE61 := hE60.sub (L' := [(0, .slice apA ap.length apC), (1, .int .i64 mask), (5, .int .i64 (orI out5 (gI ap i6))), (6, .int .i64 i6)]) ⟨rfl, rfl, rfl, rfl, trivial⟩
       have hS62 := (St.pick (Γ' := [.rd 1 apA ap.length apC ap]) hS15 [0] (by decide) rfl)
       exact ⟨(by rw [ht44]; exact hE61), hS62⟩
      ·
       have hE63 := hE43; rw [ht44] at hE63; clear hE43
       refine wp_skip ?_
       refine p_bn ?_
       refine p_tn ?_
       have hE64 := hE63.sub (L' := [(0, .slice apA ap.length apC), (1, .int .i64 mask), (5, .int .i64 out5), (6, .int .i64 i6)]) ⟨rfl, rfl, rfl, rfl, trivial⟩
       have hS65 := (St.pick (Γ' := [.rd 1 apA ap.length apC ap]) hS15 [0] (by decide) rfl)
       exact ⟨(by rw [ht44]; exact hE64), hS65⟩
     ·
      rintro a66 w67 ⟨hE68, hS69⟩; clear hE32 hS15
      refine c_reg ?_
      refine q_step (v := .int .i64 i6) hE68 (y_move rfl) rfl rfl rfl ?_; intro a71 hE72; clear hE68
      refine q_step (v := .int .i64 (i6 + 1)) hE72 (y_add rfl rfl ⟨(by omega), (by omega)⟩) rfl rfl rfl ?_; intro a73 hE74; clear hE72
      refine q_step (v := .int .i64 (i6 + 1)) hE74 (y_assign rfl) rfl rfl rfl ?_; intro a75 hE76; clear hE74
      refine c_nil ?_
      have hE77 := hE76.sub (L' := [(0, .slice apA ap.length apC), (1, .int .i64 mask), (5, .int .i64 (bif (F_l01Bit mask i6) then orI out5 (gI ap i6) else out5)), (6, .int .i64 (i6 + 1))]) ⟨rfl, rfl, rfl, rfl, trivial⟩; clear hE76
      refine p_tn ⟨r20, Nat.lt_succ_self _, bif (F_l01Bit mask i6) then orI out5 (gI ap i6) else out5, i6 + 1, (hT16.symm.trans (show F_l01Image_L1b ap mask (F_l01Image_L1 ap mask r20) out5 i6 = F_l01Image_L1 ap mask r20 (bif (F_l01Bit mask i6) then orI out5 (gI ap i6) else out5) (i6 + 1) by unfold F_l01Image_L1b; rw [ht30]; first | done | rfl)).symm, (by omega), (by first | omega | (simp only [sS_len, sL_len]; omega) | (simp only [List.length_replicate, sI_len]; omega) | (simp only [List.length_append, List.length_cons, List.length_nil, sI_len, cond_true, cond_false]; omega) | (simp only [List.length_append, List.length_cons, List.length_nil, sI_len, cond_eq_ite, apply_ite List.length]; split <;> simp only [List.length_append, List.length_cons, List.length_nil, sI_len] <;> omega) | grind), (by first | omega | (simp only [sS_len, sL_len]; omega) | (simp only [List.length_replicate, sI_len]; omega) | (simp only [List.length_append, List.length_cons, List.length_nil, sI_len, cond_true, cond_false]; omega) | (simp only [List.length_append, List.length_cons, List.length_nil, sI_len, cond_eq_ite, apply_ite List.length]; split <;> simp only [List.length_append, List.length_cons, List.length_nil, sI_len] <;> omega) | grind), (hE77.sub (L' := [(0, .slice apA ap.length apC), (1, .int .i64 mask), (5, .int .i64 (bif (F_l01Bit mask i6) then orI out5 (gI ap i6) else out5)), (6, .int .i64 (i6 + 1))]) ⟨rfl, rfl, rfl, rfl, trivial⟩), (St.pick (Γ' := [.rd 1 apA ap.length apC ap]) hS69 [0] (by decide) rfl)⟩
    ·
     have hp78 := of_decide_eq_false ht30
     have hE79 := hE29; rw [ht30] at hE79; clear hE29
     refine wp_exit ?_
     refine p_te ?_
     have hX80 : F_l01Image_L1 ap mask (Int.toNat ((ap.length : Int) - 0) + 1) 0 0 = (out5, i6) := hT16.symm.trans (show F_l01Image_L1b ap mask (F_l01Image_L1 ap mask r20) out5 i6 = (out5, i6) by unfold F_l01Image_L1b; rw [ht30]; first | done | rfl)
     refine p_te (p_be (p_tn ?_))
     exact ⟨(by rw [hX80]; exact (show 0 ≤ i6 from (by first | omega | (simp only [sS_len, sL_len]; omega) | (simp only [List.length_replicate, sI_len]; omega) | (simp only [List.length_append, List.length_cons, List.length_nil, sI_len, cond_true, cond_false]; omega) | (simp only [List.length_append, List.length_cons, List.length_nil, sI_len, cond_eq_ite, apply_ite List.length]; split <;> simp only [List.length_append, List.length_cons, List.length_nil, sI_len] <;> omega) | grind))), (by rw [hX80]; exact (show i6 ≤ (ap.length : Int) from (by first | omega | (simp only [sS_len, sL_len]; omega) | (simp only [List.length_replicate, sI_len]; omega) | (simp only [List.length_append, List.length_cons, List.length_nil, sI_len, cond_true, cond_false]; omega) | (simp only [List.length_append, List.length_cons, List.length_nil, sI_len, cond_eq_ite, apply_ite List.length]; split <;> simp only [List.length_append, List.length_cons, List.length_nil, sI_len] <;> omega) | grind))), (by rw [hX80]; exact (hE79.sub (L' := [(0, .slice apA ap.length apC), (1, .int .i64 mask), (5, .int .i64 out5), (6, .int .i64 i6)]) ⟨rfl, rfl, rfl, rfl, trivial⟩)), (St.pick (Γ' := [.rd 1 apA ap.length apC ap]) hS15 [0] (by decide) rfl)⟩
  ·
   rintro a81 w82 ⟨hi86, hi87, hE83, hS84⟩; clear hE10 hS1
   refine p_tn ?_
   refine c_seq ?_
   refine c_reg ?_
   refine q_step (v := .int .i64 ((F_l01Image_L1 ap mask (Int.toNat ((ap.length : Int) - 0) + 1) 0 0).1)) hE83 (y_move rfl) rfl rfl rfl ?_; intro a88 hE89; clear hE83
   refine q_step (v := .int .i64 ((F_l01Image_L1 ap mask (Int.toNat ((ap.length : Int) - 0) + 1) 0 0).1)) hE89 (y_assign rfl) rfl rfl rfl ?_; intro a90 hE91; clear hE89
   refine c_nil ?_
   have hE92 := hE91.sub (L' := [(4, .int .i64 ((F_l01Image_L1 ap mask (Int.toNat ((ap.length : Int) - 0) + 1) 0 0).1))]) ⟨rfl, trivial⟩; clear hE91
   refine p_tn ?_
   refine wp_ret ?_
   have hF : F_l01Image ap mask = (F_l01Image_L1 ap mask (Int.toNat ((ap.length : Int) - 0) + 1) 0 0).1 := by unfold F_l01Image; rfl
   refine c_ret1 hE92 rfl rfl ?_
   exact ⟨(by rw [hF]; first | done | (dsimp only; done) | rfl), hS84.ext⟩
end Go.Proofs.Ytlbonhloeefnmaa
