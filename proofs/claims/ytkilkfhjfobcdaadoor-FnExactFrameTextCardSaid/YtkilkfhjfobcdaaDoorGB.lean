/- GB: models and contracts, printed by wip/gen/gen.py -/
import Derived.Test.YtkilkfhjfobcdaaDoorLoud
import Derived.Test.YtkilkfhjfobcdaaDoorBits
set_option linter.unusedVariables false
set_option linter.unusedSimpArgs false
namespace Go.Proofs.YtkilkfhjfobcdaaDoor
open Go.RowKit

/-- A loop over a range that leaves with false. -/
theorem allLoop (L : Nat → Int → Except Bool Int) (n : Int) (p : Int → Bool) (hL : ∀ r i, L (r + 1) i = bif decide (i < n) then (bif p i then .error false else L r (i + 1)) else .ok i) :
    ∀ (k : Nat) (i : Int), n - i = (k : Int) → (bif isOk (L (k + 1) i) then true else errD (L (k + 1) i)) = (List.range k).all fun j => !p (i + (j : Int)) := by
  intro k
  induction k with
  | zero => intro i h; rw [hL, decide_eq_false (by omega)]; rfl
  | succ k ih =>
    intro i h
    rw [hL, decide_eq_true (by omega), List.range_succ_eq_map, List.all_cons, List.all_map]
    simp only [cond_true]
    cases hp : p i
    · simp only [cond_false]
      rw [ih (i + 1) (by omega)]
      simp only [Int.natCast_zero, Int.add_zero, hp, Bool.not_false, Bool.true_and, Function.comp_def]
      congr 1; funext j; congr 2; rw [Int.natCast_succ]; omega
    · simp [isOk, errD, hp]
theorem range_all_gI (xs : List Int) (q : Int → Bool) : (List.range xs.length).all (fun j => q (gI xs (0 + (j : Int)))) = xs.all q := by
  rw [Bool.eq_iff_iff, List.all_eq_true, List.all_eq_true]
  constructor
  · intro h x hx
    obtain ⟨j, hj, rfl⟩ := List.mem_iff_getElem.1 hx
    have := h j (List.mem_range.2 hj)
    unfold gI at this
    rwa [show ((0 : Int) + (j : Int)).toNat = j by omega, gi_get hj] at this
  · intro h j hj
    have hj' := List.mem_range.1 hj
    unfold gI
    rw [show ((0 : Int) + (j : Int)).toNat = j by omega, gi_get hj']
    exact h _ (List.getElem_mem hj')

theorem allE {ε : Type} (L : Nat → Int → Except ε Int) (e : ε) (n : Int) (p : Int → Bool) (h0 : 0 ≤ n) (hL : ∀ r i, 0 ≤ i → i ≤ n → L (r + 1) i = bif decide (i < n) then (bif p i then .error e else L r (i + 1)) else .ok i) :
    L (Int.toNat (n - 0) + 1) 0 = bif (List.range n.toNat).all (fun (j : Nat) => !p (j : Int)) then .ok n else .error e := by
  have key : ∀ (k : Nat) (i : Int), 0 ≤ i → n - i = (k : Int) → L (k + 1) i = bif (List.range k).all (fun (j : Nat) => !p (i + (j : Int))) then .ok n else .error e := by
    intro k
    induction k with
    | zero => intro i hi h; rw [hL _ _ hi (by omega), decide_eq_false (by omega), show i = n by omega]; rfl
    | succ k ih =>
      intro i hi h
      rw [hL _ _ hi (by omega), decide_eq_true (by omega), cond_true, List.range_succ_eq_map, List.all_cons, List.all_map, show i + ((0 : Nat) : Int) = i by omega]
      have e2 : ((fun j : Nat => !p (i + (j : Int))) ∘ Nat.succ) = fun j : Nat => !p (i + 1 + (j : Int)) := by
        funext j; show (!p (i + ((j + 1 : Nat) : Int))) = _; congr 2; omega
      rw [e2]
      cases hp : p i
      · rw [cond_false, Bool.not_false, Bool.true_and]; exact ih (i + 1) (by omega) (by omega)
      · rfl
  have := key n.toNat 0 (by omega) (by omega)
  rw [show Int.toNat (n - 0) = n.toNat by omega, this]
  simp only [Int.zero_add]
theorem isOk_bif {α β : Type} (b : Bool) (x : β) (e : α) : isOk (bif b then Except.ok x else Except.error e) = b := by cases b <;> rfl
theorem errD_bif {α β : Type} [Inhabited α] (x : β) (e : α) (b : Bool) (y : α) : (bif b then y else errD (bif b then Except.ok x else Except.error e)) = bif b then y else e := by cases b <;> rfl
theorem bif_tf (b : Bool) : (bif b then true else false) = b := by cases b <;> rfl
theorem all_gI (xs : List Int) (q : Int → Bool) : (List.range xs.length).all (fun (j : Nat) => q (gI xs (j : Int))) = xs.all q := by
  have := range_all_gI xs q
  simpa only [Int.zero_add] using this
theorem all_congr_range {n : Nat} {p q : Nat → Bool} (h : ∀ j, j < n → p j = q j) : (List.range n).all p = (List.range n).all q := by
  rw [Bool.eq_iff_iff, List.all_eq_true, List.all_eq_true]
  refine forall_congr' fun j => forall_congr' fun hj => ?_
  rw [h j (List.mem_range.1 hj)]

def F_l01In (np : Int) (low : Int) (high : Int) : Bool :=
  ((decide (low ≤ np)) && (decide (np ≤ high)))
theorem cf_l01In (args : Array Value) (w : World) : (callFunc 16 args).run Tryd.prog w = .ok (.enter 16 args) w := by kernel_rfl
set_option maxRecDepth 100000 in
theorem c_l01In (np : Int) (low : Int) (high : Int) (w : World) :
    Calls Tryd.prog 16 #[.int .i64 np, .int .i64 low, .int .i64 high] w (Ret fun v w' => v = .bool (F_l01In np low high) ∧ w = w') := by
  have hS := St.nil w
  refine enter (args := [.int .i64 np, .int .i64 low, .int .i64 high]) Tryd.func16 rfl rfl ?_
  rw [Tryd.ntmps16]; intro a hE
  have hE := hE.sub (L' := [(0, .int .i64 np), (1, .int .i64 low), (2, .int .i64 high)]) ⟨rfl, rfl, rfl, trivial⟩
  refine c_seq ?_
  refine c_reg ?_
  refine q_step (v := .bool false) hE (y_assign rfl) rfl rfl rfl ?_; intro a1 hE2; clear hE
  refine c_nil ?_
  have hE3 := hE2.sub (L' := [(0, .int .i64 np), (1, .int .i64 low), (2, .int .i64 high)]) ⟨rfl, rfl, rfl, trivial⟩; clear hE2
  refine p_tn ?_
  refine c_cut (fun a' w' => w = w' ∧ E a' 15 [(6, .bool ((decide (low ≤ np)) && (decide (np ≤ high))))]) ?_ ?_
  ·
   refine c_reg ?_
   refine q_step (v := .int .i64 np) hE3 (y_move rfl) rfl rfl rfl ?_; intro a4 hE5; clear hE3
   refine q_step (v := .int .i64 low) hE5 (y_move rfl) rfl rfl rfl ?_; intro a6 hE7; clear hE5
   refine q_step (v := .bool (decide (low ≤ np))) hE7 (y_geq rfl rfl) rfl rfl rfl ?_; intro a8 hE9; clear hE7
   refine q_step (v := .bool (decide (low ≤ np))) hE9 (y_move rfl) rfl rfl rfl ?_; intro a10 hE11; clear hE9
   rcases Bool.eq_false_or_eq_true (decide (low ≤ np)) with hb12 | hb12
   ·
    have hE13 := hE11; (try rw [hb12] at hE13); clear hE11
    have hp14 := of_decide_eq_true hb12
    refine q_step (v := .int .i64 np) hE13 (y_move rfl) rfl rfl rfl ?_; intro a15 hE16; clear hE13
    refine q_step (v := .int .i64 high) hE16 (y_move rfl) rfl rfl rfl ?_; intro a17 hE18; clear hE16
    refine q_step (v := .bool (decide (np ≤ high))) hE18 (y_leq rfl rfl) rfl rfl rfl ?_; intro a19 hE20; clear hE18
    refine q_step (v := .bool (decide (np ≤ high))) hE20 (y_pick (b := true) rfl rfl) rfl rfl rfl ?_; intro a21 hE22; clear hE20
    refine q_step (v := .bool (decide (np ≤ high))) hE22 (y_assign rfl) rfl rfl rfl ?_; intro a23 hE24; clear hE22
    refine c_nil ?_
    have hE25 := hE24.sub (L' := [(6, .bool (decide (np ≤ high)))]) ⟨rfl, trivial⟩; clear hE24
    refine p_tn ?_
    have hE26 := hE25.sub (L' := [(6, .bool (decide (np ≤ high)))]) ⟨rfl, trivial⟩
    exact ⟨rfl, (by rw [hb12]; exact hE26)⟩
   ·
    have hE27 := hE11; (try rw [hb12] at hE27); clear hE11
    have hp28 := of_decide_eq_false hb12
    refine q_skip hE27 rfl rfl rfl ?_; intro a29 hE30; clear hE27
    refine q_skip hE30 rfl rfl rfl ?_; intro a31 hE32; clear hE30
    refine q_skip hE32 rfl rfl rfl ?_; intro a33 hE34; clear hE32
    refine q_step (v := .bool false) hE34 (y_pick (b := false) rfl rfl) rfl rfl rfl ?_; intro a35 hE36; clear hE34
    refine q_step (v := .bool false) hE36 (y_assign rfl) rfl rfl rfl ?_; intro a37 hE38; clear hE36
    refine c_nil ?_
    have hE39 := hE38.sub (L' := [(6, .bool false)]) ⟨rfl, trivial⟩; clear hE38
    refine p_tn ?_
    have hE40 := hE39.sub (L' := [(6, .bool false)]) ⟨rfl, trivial⟩
    exact ⟨rfl, (by rw [hb12]; exact hE40)⟩
  ·
   rintro a41 _ ⟨rfl, hE43⟩; clear hE3
   refine wp_ret ?_
   have hF : F_l01In np low high = ((decide (low ≤ np)) && (decide (np ≤ high))) := by unfold F_l01In; rfl
   refine c_ret1 hE43 rfl rfl ?_
   exact ⟨(by rw [hF]; first | done | (dsimp only; done) | rfl), rfl⟩

theorem F_l01In_t {x low high : Int} (h : F_l01In x low high = true) : low ≤ x ∧ x ≤ high := by
  unfold F_l01In at h; simpa using h

def F_l01One (i : Int) : Int :=
  shlI 1 i
theorem cf_l01One (args : Array Value) (w : World) : (callFunc 34 args).run Tryd.prog w = .ok (.enter 34 args) w := by kernel_rfl
set_option maxRecDepth 100000 in
theorem c_l01One (i : Int) (w : World) (h0 : 0 ≤ i) (h1 : i < 64) :
    Calls Tryd.prog 34 #[.int .i64 i] w (Ret fun v w' => v = .int .i64 (F_l01One i) ∧ w = w') := by
  have hS := St.nil w
  refine enter (args := [.int .i64 i]) Tryd.func34 rfl rfl ?_
  rw [Tryd.ntmps34]; intro a hE
  have hE := hE.sub (L' := [(0, .int .i64 i)]) ⟨rfl, trivial⟩
  refine c_seq ?_
  refine c_reg ?_
  refine q_step (v := .int .i64 0) hE (y_assign rfl) rfl rfl rfl ?_; intro a1 hE2; clear hE
  refine c_nil ?_
  have hE3 := hE2.sub (L' := [(0, .int .i64 i)]) ⟨rfl, trivial⟩; clear hE2
  refine p_tn ?_
  refine c_seq ?_
  refine c_reg ?_
  refine q_step (v := .int .i64 i) hE3 (y_move rfl) rfl rfl rfl ?_; intro a4 hE5; clear hE3
  refine q_step (v := .int .u64 i) hE5 (y_conv (ds := .int .i64) (by kernel_rfl) (by kernel_rfl) rfl (wU64 (by omega) (by omega))) rfl rfl rfl ?_; intro a6 hE7; clear hE5
  refine q_step (v := .int .i64 (shlI 1 i)) hE7 (y_shl rfl rfl (by omega)) rfl rfl rfl ?_; intro a8 hE9; clear hE7
  refine q_step (v := .int .i64 (shlI 1 i)) hE9 (y_assign rfl) rfl rfl rfl ?_; intro a10 hE11; clear hE9
  refine c_nil ?_
  have hE12 := hE11.sub (L' := [(2, .int .i64 (shlI 1 i))]) ⟨rfl, trivial⟩; clear hE11
  refine p_tn ?_
  refine wp_ret ?_
  have hF : F_l01One i = shlI 1 i := by unfold F_l01One; rfl
  refine c_ret1 hE12 rfl rfl ?_
  exact ⟨(by rw [hF]; first | done | (dsimp only; done) | rfl), rfl⟩

theorem l01One_eq {i : Int} (h0 : 0 ≤ i) (h1 : i ≤ 62) : F_l01One i = powI i := shlI_one h0 h1
theorem d_l01One (i : Int) (w : World) (h0 : 0 ≤ i) (h1 : i ≤ 62) : Calls Tryd.prog 34 #[.int .i64 i] w (Ret fun v w' => v = .int .i64 (powI i) ∧ w = w') := by
  have := c_l01One i w h0 (by omega)
  rwa [l01One_eq h0 h1] at this

def F_l01Full (np : Int) : Int :=
  wI ((powI np) - 1)
theorem cf_l01Full (args : Array Value) (w : World) : (callFunc 27 args).run Tryd.prog w = .ok (.enter 27 args) w := by kernel_rfl
set_option maxRecDepth 100000 in
theorem c_l01Full (np : Int) (w : World) (h0 : 0 ≤ np) (h1 : np ≤ 62) :
    Calls Tryd.prog 27 #[.int .i64 np] w (Ret fun v w' => v = .int .i64 (F_l01Full np) ∧ w = w') := by
  have hS := St.nil w
  refine enter (args := [.int .i64 np]) Tryd.func27 rfl rfl ?_
  rw [Tryd.ntmps27]; intro a hE
  have hE := hE.sub (L' := [(0, .int .i64 np)]) ⟨rfl, trivial⟩
  refine c_seq ?_
  refine c_reg ?_
  refine q_step (v := .int .i64 0) hE (y_assign rfl) rfl rfl rfl ?_; intro a1 hE2; clear hE
  refine c_nil ?_
  have hE3 := hE2.sub (L' := [(0, .int .i64 np)]) ⟨rfl, trivial⟩; clear hE2
  refine p_tn ?_
  refine c_seq ?_
  refine c_reg ?_
  refine q_step (v := .int .i64 np) hE3 (y_move rfl) rfl rfl rfl ?_; intro a4 hE5; clear hE3
  refine l_step hE5 rfl (l_call (f := 34) (argv := [.int .i64 np]) hE5 (fun _ => cf_l01One _ _) rfl rfl (d_l01One np w (by omega) (by omega)) ?_)
  rintro _ _ ⟨rfl, rfl⟩ a8 hE9; clear hE5
  refine q_step (v := .int .i64 (wI ((powI np) - 1))) hE9 (y_subw rfl rfl) rfl rfl rfl ?_; intro a12 hE13; clear hE9
  refine q_step (v := .int .i64 (wI ((powI np) - 1))) hE13 (y_assign rfl) rfl rfl rfl ?_; intro a14 hE15; clear hE13
  refine c_nil ?_
  have hE16 := hE15.sub (L' := [(2, .int .i64 (wI ((powI np) - 1)))]) ⟨rfl, trivial⟩; clear hE15
  refine p_tn ?_
  refine wp_ret ?_
  have hF : F_l01Full np = wI ((powI np) - 1) := by unfold F_l01Full; rfl
  refine c_ret1 hE16 rfl rfl ?_
  exact ⟨(by rw [hF]; first | done | (dsimp only; done) | rfl), rfl⟩

theorem l01Full_eq {np : Int} (h0 : 0 ≤ np) (h1 : np ≤ 62) : F_l01Full np = fullI np := by
  unfold F_l01Full
  have := powI_bd h0 h1
  rw [fullI_pow]; exact wI_in ⟨by omega, by omega⟩
theorem d_l01Full (np : Int) (w : World) (h0 : 0 ≤ np) (h1 : np ≤ 62) : Calls Tryd.prog 27 #[.int .i64 np] w (Ret fun v w' => v = .int .i64 (fullI np) ∧ w = w') := by
  have := c_l01Full np w h0 h1
  rwa [l01Full_eq h0 h1] at this

def F_l01Masks_L1b (np : Int) (list : List Int) (rec : Int → Except (Bool) (Int)) (i5 : Int) : Except (Bool) (Int) :=
  bif (decide (i5 < (list.length : Int))) then (bif (!(F_l01In (gI list i5) 0 (fullI np))) then (.error false) else (rec (i5 + 1))) else (.ok i5)
def F_l01Masks_L1 (np : Int) (list : List Int) : Nat → Int → Except (Bool) (Int)
  | 0, i5 => .ok i5
  | r + 1, i5 => F_l01Masks_L1b np list (F_l01Masks_L1 np list r) i5
def F_l01Masks (np : Int) (list : List Int) : Bool :=
  bif (isOk (F_l01Masks_L1 np list (Int.toNat ((list.length : Int) - 0) + 1) 0)) then true else (errD (F_l01Masks_L1 np list (Int.toNat ((list.length : Int) - 0) + 1) 0))
theorem cf_l01Masks (args : Array Value) (w : World) : (callFunc 17 args).run Tryd.prog w = .ok (.enter 17 args) w := by kernel_rfl
set_option maxRecDepth 100000 in
theorem c_l01Masks (np : Int) (listA : Option Addr) (listN listC : Nat) (list : List Int) (w : World) (listR : RdS w 1 listA listN listC list) (h0 : 0 ≤ np) (h1 : np ≤ 62) :
    Calls Tryd.prog 17 #[.int .i64 np, .slice listA listN listC] w (Ret fun v w' => v = .bool (F_l01Masks np list) ∧ Ext w w') := by
  obtain rfl : listN = list.length := listR.len1.symm
  have listLe := listR.le
  have hS := St.nil w
  have hS1 := St.rd0 hS rfl listR; clear hS
  refine enter (args := [.int .i64 np, .slice listA list.length listC]) Tryd.func17 rfl rfl ?_
  rw [Tryd.ntmps17]; intro a hE
  have hE := hE.sub (L' := [(0, .int .i64 np), (1, .slice listA list.length listC)]) ⟨rfl, rfl, trivial⟩
  refine c_seq ?_
  refine c_reg ?_
  refine q_step (v := .bool false) hE (y_assign rfl) rfl rfl rfl ?_; intro a2 hE3; clear hE
  refine c_nil ?_
  have hE4 := hE3.sub (L' := [(0, .int .i64 np), (1, .slice listA list.length listC)]) ⟨rfl, rfl, trivial⟩; clear hE3
  refine p_tn ?_
  refine c_seq ?_
  refine c_seq ?_
  refine c_reg ?_
  refine q_step (v := .int .i64 0) hE4 (y_assign rfl) rfl rfl rfl ?_; intro a5 hE6; clear hE4
  refine c_nil ?_
  have hE7 := hE6.sub (L' := [(0, .int .i64 np), (1, .slice listA list.length listC), (5, .int .i64 0)]) ⟨rfl, rfl, rfl, trivial⟩; clear hE6
  refine p_tn ?_
  refine c_cut1 (fun a' w' => isOk (F_l01Masks_L1 np list (Int.toNat ((list.length : Int) - 0) + 1) 0) = true ∧ (0 ≤ (okD (F_l01Masks_L1 np list (Int.toNat ((list.length : Int) - 0) + 1) 0))) ∧ ((okD (F_l01Masks_L1 np list (Int.toNat ((list.length : Int) - 0) + 1) 0)) ≤ (list.length : Int)) ∧ E a' 20 [(0, .int .i64 np), (1, .slice listA list.length listC), (5, .int .i64 (okD (F_l01Masks_L1 np list (Int.toNat ((list.length : Int) - 0) + 1) 0)))] ∧ St w w' [.rd 1 listA list.length listC list]) ?_ ?_
  ·
   refine wp_block ?_
   refine c_loop (fun r a' w' => ∃ i5 : Int, F_l01Masks_L1 np list r i5 = F_l01Masks_L1 np list (Int.toNat ((list.length : Int) - 0) + 1) 0 ∧ Int.toNat ((list.length : Int) - i5) < r ∧ (0 ≤ i5) ∧ (i5 ≤ (list.length : Int)) ∧ E a' 20 [(0, .int .i64 np), (1, .slice listA list.length listC), (5, .int .i64 i5)] ∧ St w w' [.rd 1 listA list.length listC list]) (r := (Int.toNat ((list.length : Int) - 0) + 1)) ?_ ?_
   · exact ⟨0, rfl, Nat.lt_succ_self _, (by first | omega | (simp only [sS_len, sL_len]; omega) | (simp only [List.length_replicate, sI_len]; omega) | (simp only [List.length_append, List.length_cons, List.length_nil, sI_len, cond_true, cond_false]; omega) | (simp only [List.length_append, List.length_cons, List.length_nil, sI_len, cond_eq_ite, apply_ite List.length]; split <;> simp only [List.length_append, List.length_cons, List.length_nil, sI_len] <;> omega) | grind), (by first | omega | (simp only [sS_len, sL_len]; omega) | (simp only [List.length_replicate, sI_len]; omega) | (simp only [List.length_append, List.length_cons, List.length_nil, sI_len, cond_true, cond_false]; omega) | (simp only [List.length_append, List.length_cons, List.length_nil, sI_len, cond_eq_ite, apply_ite List.length]; split <;> simp only [List.length_append, List.length_cons, List.length_nil, sI_len] <;> omega) | grind), (hE7.sub (L' := [(0, .int .i64 np), (1, .slice listA list.length listC), (5, .int .i64 0)]) ⟨rfl, rfl, rfl, trivial⟩), (St.pick (Γ' := [.rd 1 listA list.length listC list]) hS1 [0] (by decide) rfl)⟩
   ·
    clear hE7 hS1
    rintro r17 a9 w10 ⟨i5, hT13, hr14, hi15, hi16, hE11, hS12⟩
    obtain ⟨r17, rfl⟩ : ∃ r', r17 = r' + 1 := ⟨r17 - 1, by omega⟩
    refine c_seq ?_
    refine c_seq ?_
    refine c_reg ?_
    refine q_step (v := .int .i64 i5) hE11 (y_move rfl) rfl rfl rfl ?_; intro a18 hE19; clear hE11
    refine q_step (v := .slice listA list.length listC) hE19 (y_move rfl) rfl rfl rfl ?_; intro a20 hE21; clear hE19
    refine q_step (v := .int .i64 (list.length : Int)) hE21 (y_len (e := 2) (by kernel_rfl) rfl) rfl rfl rfl ?_; intro a22 hE23; clear hE21
    refine q_step (v := .bool (decide (i5 < (list.length : Int)))) hE23 (y_lss rfl rfl) rfl rfl rfl ?_; intro a24 hE25; clear hE23
    refine c_nil ?_
    have hE26 := hE25.sub (L' := [(0, .int .i64 np), (1, .slice listA list.length listC), (5, .int .i64 i5), (9, .bool (decide (i5 < (list.length : Int))))]) ⟨rfl, rfl, rfl, rfl, trivial⟩; clear hE25
    refine p_tn ?_
    refine c_cond hE26 rfl (fun ht27 => ?_) (fun ht27 => ?_)
    ·
     have hp28 := of_decide_eq_true ht27
     have hE29 := hE26; rw [ht27] at hE29; clear hE26
     refine wp_skip ?_
     refine p_tn ?_
     refine c_seq ?_
     refine wp_block ?_
     refine c_seq ?_
     refine d_start (fun w w' => (fun w' => w'.cell? (adr listA (Int.toNat i5)) = some (.int .i64 (gI list i5)) ∧ True) w → (fun w' => w'.cell? (adr listA (Int.toNat i5)) = some (.int .i64 (gI list i5)) ∧ True) w') [3] 8 (by kernel_rfl) rfl ?_
     intro w30 he31; have hS32 := St.go hS12 he31; clear hS12
     refine d_pure (fun _ h => h) (v := .slice listA list.length listC) 0 rfl hE29 (y_move rfl) rfl (by kernel_rfl) (by kernel_rfl) (by kernel_rfl) rfl rfl (fun _ _ _ h => h) ?_; intro a33 hE34; clear hE29
     refine d_pure (fun _ h => h) (v := .int .i64 i5) 1 rfl hE34 (y_move rfl) rfl (by kernel_rfl) (by kernel_rfl) (by kernel_rfl) rfl rfl (fun _ _ _ h => h) ?_; intro a35 hE36; clear hE34
     refine d_pure (fun _ h => h) (v := .pointer (some (adr listA (Int.toNat i5)))) 2 rfl hE36 (y_idx (by kernel_rfl) (fun _ => by kernel_rfl) rfl rfl (RdS.isS (m := i5) (St.rdR (i := 0) hS32 rfl) (by omega) (by omega)) (by omega) (by omega) (Nat.mul_one _).symm) rfl (by kernel_rfl) (by kernel_rfl) (by kernel_rfl) rfl rfl (fun _ _ _ h => h) ?_; intro a37 hE38; clear hE36
     refine d_take (fun _ h => h) (fun _ _ h k => h k) (v := .int .i64 (gI list i5)) 3 rfl hE38 (S := fun w' => w'.cell? (adr listA (Int.toNat i5)) = some (.int .i64 (gI list i5)) ∧ True) ⟨(RdS.elt (St.rdR (i := 0) hS32 rfl) (by omega) (by omega) _ (Ext.refl _)), trivial⟩ (y_load (fun _ => by kernel_rfl) rfl (fun _ h => h.1)) rfl rfl (by kernel_rfl) (by kernel_rfl) (by kernel_rfl) (by kernel_rfl) rfl rfl (fun _ _ _ h => h) ?_; intro a39 hE40; clear hE38
     refine d_pure (fun _ h => h) (v := .int .i64 np) 4 rfl hE40 (y_move rfl) rfl (by kernel_rfl) (by kernel_rfl) (by kernel_rfl) rfl rfl (fun _ _ _ h => h) ?_; intro a41 hE42; clear hE40
     refine d_only 5 (by kernel_rfl) rfl hE42 rfl (l_call (f := 27) (argv := [.int .i64 np]) hE42 (fun _ => cf_l01Full _ _) rfl rfl (d_l01Full np w30 (by omega) (by omega)) ?_)
     rintro _ _ ⟨rfl, rfl⟩ a45 hE46; clear hE42
     refine ⟨fun _ _ => ⟨(RdS.elt (St.rdR (i := 0) hS32 rfl) (by omega) (by omega) _ (Ext.refl _)), trivial⟩, ?_⟩
     refine d_only 6 (by kernel_rfl) rfl hE46 rfl (l_call (f := 16) (argv := [.int .i64 (gI list i5), .int .i64 0, .int .i64 (fullI np)]) hE46 (fun _ => cf_l01In _ _) rfl rfl (c_l01In (gI list i5) 0 (fullI np) w30) ?_)
     rintro _ _ ⟨rfl, rfl⟩ a51 hE52; clear hE46
     refine ⟨fun h => Bool.noConfusion (h.symm.trans (show exm _ _ _ = true by kernel_rfl)), ?_⟩
     refine d_pure (fun _ h => h) (v := .bool (!(F_l01In (gI list i5) 0 (fullI np)))) 7 rfl hE52 (y_not rfl) rfl (by kernel_rfl) (by kernel_rfl) (by kernel_rfl) rfl rfl (fun _ _ _ h => h) ?_; intro a55 hE56; clear hE52
     refine d_done (by kernel_rfl) ?_
     have hE57 := hE56.sub (L' := [(0, .int .i64 np), (1, .slice listA list.length listC), (5, .int .i64 i5), (19, .bool (!(F_l01In (gI list i5) 0 (fullI np))))]) ⟨rfl, rfl, rfl, rfl, trivial⟩; clear hE56
     refine p_tn ?_
     refine c_cond hE57 rfl (fun ht58 => ?_) (fun ht58 => ?_)
     ·
      have ht59 := bn_t ht58
      have hE60 := hE57; rw [ht58] at hE60; clear hE57
      refine c_seq ?_
      refine c_reg ?_
      refine q_step (v := .bool false) hE60 (y_assign rfl) rfl rfl rfl ?_; intro a61 hE62; clear hE60
      refine c_nil ?_
      have hE63 := hE62.sub (L' := [(4, .bool false)]) ⟨rfl, trivial⟩; clear hE62
      refine p_tn ?_
      refine wp_ret ?_
      refine p_br ?_
      refine p_tr ?_
      have hX64 : F_l01Masks_L1 np list (Int.toNat ((list.length : Int) - 0) + 1) 0 = .error false := hT13.symm.trans (show F_l01Masks_L1b np list (F_l01Masks_L1 np list r17) i5 = .error false by unfold F_l01Masks_L1b; rw [ht58, ht27]; first | done | rfl)
      refine p_tr (p_br (p_tr ?_))
      refine p_tr ?_
      have hF : F_l01Masks np list = false := by unfold F_l01Masks; rw [hX64]; first | done | rfl
      refine c_ret1 hE63 rfl rfl ?_
      exact ⟨(by rw [hF]; first | done | (dsimp only; done) | rfl), hS32.ext⟩
     ·
      have ht65 := bn_f ht58
      have hE66 := hE57; rw [ht58] at hE66; clear hE57
      refine wp_skip ?_
      refine p_bn ?_
      refine p_tn ?_
      refine c_reg ?_
      refine q_step (v := .int .i64 i5) hE66 (y_move rfl) rfl rfl rfl ?_; intro a67 hE68; clear hE66
      refine q_step (v := .int .i64 (i5 + 1)) hE68 (y_add rfl rfl ⟨(by omega), (by omega)⟩) rfl rfl rfl ?_; intro a69 hE70; clear hE68
      refine q_step (v := .int .i64 (i5 + 1)) hE70 (y_assign rfl) rfl rfl rfl ?_; intro a71 hE72; clear hE70
      refine c_nil ?_
      have hE73 := hE72.sub (L' := [(0, .int .i64 np), (1, .slice listA list.length listC), (5, .int .i64 (i5 + 1))]) ⟨rfl, rfl, rfl, trivial⟩; clear hE72
      refine p_tn ⟨r17, Nat.lt_succ_self _, i5 + 1, (hT13.symm.trans (show F_l01Masks_L1b np list (F_l01Masks_L1 np list r17) i5 = F_l01Masks_L1 np list r17 (i5 + 1) by unfold F_l01Masks_L1b; rw [ht58, ht27]; first | done | rfl)).symm, (by omega), (by first | omega | (simp only [sS_len, sL_len]; omega) | (simp only [List.length_replicate, sI_len]; omega) | (simp only [List.length_append, List.length_cons, List.length_nil, sI_len, cond_true, cond_false]; omega) | (simp only [List.length_append, List.length_cons, List.length_nil, sI_len, cond_eq_ite, apply_ite List.length]; split <;> simp only [List.length_append, List.length_cons, List.length_nil, sI_len] <;> omega) | grind), (by first | omega | (simp only [sS_len, sL_len]; omega) | (simp only [List.length_replicate, sI_len]; omega) | (simp only [List.length_append, List.length_cons, List.length_nil, sI_len, cond_true, cond_false]; omega) | (simp only [List.length_append, List.length_cons, List.length_nil, sI_len, cond_eq_ite, apply_ite List.length]; split <;> simp only [List.length_append, List.length_cons, List.length_nil, sI_len] <;> omega) | grind), (hE73.sub (L' := [(0, .int .i64 np), (1, .slice listA list.length listC), (5, .int .i64 (i5 + 1))]) ⟨rfl, rfl, rfl, trivial⟩), (St.pick (Γ' := [.rd 1 listA list.length listC list]) hS32 [0] (by decide) rfl)⟩
    ·
     have hp74 := of_decide_eq_false ht27
     have hE75 := hE26; rw [ht27] at hE75; clear hE26
     refine wp_exit ?_
     refine p_te ?_
     have hX76 : F_l01Masks_L1 np list (Int.toNat ((list.length : Int) - 0) + 1) 0 = .ok i5 := hT13.symm.trans (show F_l01Masks_L1b np list (F_l01Masks_L1 np list r17) i5 = .ok i5 by unfold F_l01Masks_L1b; rw [ht27]; first | done | rfl)
     refine p_te (p_be (p_tn ?_))
     exact ⟨(by rw [hX76]; rfl), (by rw [hX76]; exact (show 0 ≤ i5 from (by first | omega | (simp only [sS_len, sL_len]; omega) | (simp only [List.length_replicate, sI_len]; omega) | (simp only [List.length_append, List.length_cons, List.length_nil, sI_len, cond_true, cond_false]; omega) | (simp only [List.length_append, List.length_cons, List.length_nil, sI_len, cond_eq_ite, apply_ite List.length]; split <;> simp only [List.length_append, List.length_cons, List.length_nil, sI_len] <;> omega) | grind))), (by rw [hX76]; exact (show i5 ≤ (list.length : Int) from (by first | omega | (simp only [sS_len, sL_len]; omega) | (simp only [List.length_replicate, sI_len]; omega) | (simp only [List.length_append, List.length_cons, List.length_nil, sI_len, cond_true, cond_false]; omega) | (simp only [List.length_append, List.length_cons, List.length_nil, sI_len, cond_eq_ite, apply_ite List.length]; split <;> simp only [List.length_append, List.length_cons, List.length_nil, sI_len] <;> omega) | grind))), (by rw [hX76]; exact (hE75.sub (L' := [(0, .int .i64 np), (1, .slice listA list.length listC), (5, .int .i64 i5)]) ⟨rfl, rfl, rfl, trivial⟩)), (St.pick (Γ' := [.rd 1 listA list.length listC list]) hS12 [0] (by decide) rfl)⟩
  ·
   rintro a77 w78 ⟨hO81, hi82, hi83, hE79, hS80⟩; clear hE7 hS1
   refine p_tn ?_
   refine c_seq ?_
   refine c_reg ?_
   refine q_step (v := .bool true) hE79 (y_assign rfl) rfl rfl rfl ?_; intro a84 hE85; clear hE79
   refine c_nil ?_
   have hE86 := hE85.sub (L' := [(4, .bool true)]) ⟨rfl, trivial⟩; clear hE85
   refine p_tn ?_
   refine wp_ret ?_
   have hF : F_l01Masks np list = true := by unfold F_l01Masks; rw [hO81]; first | done | rfl
   refine c_ret1 hE86 rfl rfl ?_
   exact ⟨(by rw [hF]; first | done | (dsimp only; done) | rfl), hS80.ext⟩

theorem masks_eq (np : Int) (list : List Int) : F_l01Masks np list = list.all fun x => F_l01In x 0 (fullI np) := by
  unfold F_l01Masks
  have e : Int.toNat ((list.length : Int) - 0) = list.length := by omega
  rw [e, allLoop (F_l01Masks_L1 np list) list.length (fun i => !(F_l01In (gI list i) 0 (fullI np))) (fun _ _ => rfl) list.length 0 (by omega), ← range_all_gI]
  congr 1; funext j; simp

end Go.Proofs.YtkilkfhjfobcdaaDoor
