/- GB: models and contracts, printed by wip/gen/gen.py -/
import Derived.Test.YtkilkfhjfobcdaaKFBLoud
import Derived.Test.YtkilkfhjfobcdaaKFBBits
set_option linter.unusedVariables false
set_option linter.unusedSimpArgs false
namespace Go.Proofs.Ytkilkfhjfobcdaa
open Go.RowKit
theorem allE {ε : Type} (L : Nat → Int → Except ε Int) (e : ε) (n : Int) (p : Int → Bool) (h0 : 0 ≤ n) (hL : ∀ r i, 0 ≤ i → i ≤ n → L (r + 1) i = bif decide (i < n) then (bif p i then .error e else L r (i + 1)) else .ok i) :
    L (Int.toNat (n - 0) + 1) 0 = bif (List.range n.toNat).all (fun (j : Nat) => !p (j : Int)) then .ok n else .error e := by
  have key : ∀ (k : Nat) (i : Int), 0 ≤ i → n - i = (k : Int) → L (k + 1) i = bif (List.range k).all (fun (j : Nat) => !p (i + (j : Int))) then .ok n else .error e := by
    intro k
    induction k with
    | zero => intro i hi h; rw [hL _ _ hi (by omega), decide_eq_false (by omega), show i = n by omega]; rfl
    | succ k ih =>
      intro i hi h
      rw [hL _ _ hi (by omega), decide_eq_true (by omega), cond_true, List.range_succ_eq_map, List.all_cons, List.all_map, show i + ((0 : Nat) : Int) = i by omega]
      have e2 : ((fun j : Nat => !p (i + (j : Int))) ∘ Nat.succ) = fun j : Nat => !p (i + 1 + (j : Int)) := by
        funext j; show (!p (i + ((j + 1 : Nat) : Int))) = _; congr 2; omega
      rw [e2]
      cases hp : p i
      · rw [cond_false, Bool.not_false, Bool.true_and]; exact ih (i + 1) (by omega) (by omega)
      · rfl
  have := key n.toNat 0 (by omega) (by omega)
  rw [show Int.toNat (n - 0) = n.toNat by omega, this]
  simp only [Int.zero_add]
theorem isOk_bif {α β : Type} (b : Bool) (x : β) (e : α) : isOk (bif b then Except.ok x else Except.error e) = b := by cases b <;> rfl
def F_l01In (np : Int) (low : Int) (high : Int) : Bool :=
  ((decide (low ≤ np)) && (decide (np ≤ high)))
theorem cf_l01In (args : Array Value) (w : World) : (callFunc 71 args).run Try.prog w = .ok (.enter 71 args) w := by kernel_rfl
set_option maxRecDepth 100000 in
theorem c_l01In (np : Int) (low : Int) (high : Int) (w : World) :
    Calls Try.prog 71 #[.int .i64 np, .int .i64 low, .int .i64 high] w (Ret fun v w' => v = .bool (F_l01In np low high) ∧ w = w') := by
  have hS := St.nil w
  refine enter (args := [.int .i64 np, .int .i64 low, .int .i64 high]) Try.func71 rfl rfl ?_
  rw [Try.ntmps71]; intro a hE
  have hE := hE.sub (L' := [(0, .int .i64 np), (1, .int .i64 low), (2, .int .i64 high)]) ⟨rfl, rfl, rfl, trivial⟩
  refine c_seq ?_
  refine c_reg ?_
  refine q_step (v := .bool false) hE (y_assign rfl) rfl rfl rfl ?_; intro a1 hE2; clear hE
  refine c_nil ?_
  have hE3 := hE2.sub (L' := [(0, .int .i64 np), (1, .int .i64 low), (2, .int .i64 high)]) ⟨rfl, rfl, rfl, trivial⟩; clear hE2
  refine p_tn ?_
  refine c_cut (fun a' w' => w = w' ∧ E a' 15 [(6, .bool ((decide (low ≤ np)) && (decide (np ≤ high))))]) ?_ ?_
  ·
   refine c_reg ?_
   refine q_step (v := .int .i64 np) hE3 (y_move rfl) rfl rfl rfl ?_; intro a4 hE5; clear hE3
   refine q_step (v := .int .i64 low) hE5 (y_move rfl) rfl rfl rfl ?_; intro a6 hE7; clear hE5
   refine q_step (v := .bool (decide (low ≤ np))) hE7 (y_geq rfl rfl) rfl rfl rfl ?_; intro a8 hE9; clear hE7
   refine q_step (v := .bool (decide (low ≤ np))) hE9 (y_move rfl) rfl rfl rfl ?_; intro a10 hE11; clear hE9
   rcases Bool.eq_false_or_eq_true (decide (low ≤ np)) with hb12 | hb12
   ·
    have hE13 := hE11; (try rw [hb12] at hE13); clear hE11
    have hp14 := of_decide_eq_true hb12
    refine q_step (v := .int .i64 np) hE13 (y_move rfl) rfl rfl rfl ?_; intro a15 hE16; clear hE13
    refine q_step (v := .int .i64 high) hE16 (y_move rfl) rfl rfl rfl ?_; intro a17 hE18; clear hE16
    refine q_step (v := .bool (decide (np ≤ high))) hE18 (y_leq rfl rfl) rfl rfl rfl ?_; intro a19 hE20; clear hE18
    refine q_step (v := .bool (decide (np ≤ high))) hE20 (y_pick (b := true) rfl rfl) rfl rfl rfl ?_; intro a21 hE22; clear hE20
    refine q_step (v := .bool (decide (np ≤ high))) hE22 (y_assign rfl) rfl rfl rfl ?_; intro a23 hE24; clear hE22
    refine c_nil ?_
    have hE25 := hE24.sub (L' := [(6, .bool (decide (np ≤ high)))]) ⟨rfl, trivial⟩; clear hE24
    refine p_tn ?_
    have hE26 := hE25.sub (L' := [(6, .bool (decide (np ≤ high)))]) ⟨rfl, trivial⟩
    exact ⟨rfl, (by rw [hb12]; exact hE26)⟩
   ·
    have hE27 := hE11; (try rw [hb12] at hE27); clear hE11
    have hp28 := of_decide_eq_false hb12
    refine q_skip hE27 rfl rfl rfl ?_; intro a29 hE30; clear hE27
    refine q_skip hE30 rfl rfl rfl ?_; intro a31 hE32; clear hE30
    refine q_skip hE32 rfl rfl rfl ?_; intro a33 hE34; clear hE32
    refine q_step (v := .bool false) hE34 (y_pick (b := false) rfl rfl) rfl rfl rfl ?_; intro a35 hE36; clear hE34
    refine q_step (v := .bool false) hE36 (y_assign rfl) rfl rfl rfl ?_; intro a37 hE38; clear hE36
    refine c_nil ?_
    have hE39 := hE38.sub (L' := [(6, .bool false)]) ⟨rfl, trivial⟩; clear hE38
    refine p_tn ?_
    have hE40 := hE39.sub (L' := [(6, .bool false)]) ⟨rfl, trivial⟩
    exact ⟨rfl, (by rw [hb12]; exact hE40)⟩
  ·
   rintro a41 _ ⟨rfl, hE43⟩; clear hE3
   refine wp_ret ?_
   have hF : F_l01In np low high = ((decide (low ≤ np)) && (decide (np ≤ high))) := by unfold F_l01In; rfl
   refine c_ret1 hE43 rfl rfl ?_
   exact ⟨(by rw [hF]; first | done | (dsimp only; done) | rfl), rfl⟩
theorem F_l01In_t {x low high : Int} (h : F_l01In x low high = true) : low ≤ x ∧ x ≤ high := by
  unfold F_l01In at h; simpa using h
end Go.Proofs.Ytkilkfhjfobcdaa
