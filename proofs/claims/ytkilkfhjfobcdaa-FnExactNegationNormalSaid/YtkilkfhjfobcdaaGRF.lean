/- GRF: models and contracts, printed by wip/gen/gen.py -/
import Derived.Test.YtkilkfhjfobcdaaGRE
set_option linter.unusedVariables false
set_option linter.unusedSimpArgs false
namespace Go.Proofs.Ytkilkfhjfobcdaa
open Go.RowKit

theorem isFm_t {ap : List Int} (he : ap.length = ap.length / 2 * 2) (h : F_l02Is ap = true) : IsFm ap ∧ ap.length ≤ 80 := ⟨IsFm.of he h, by have := l02Is_t h; omega⟩
theorem isFm_f {ap : List Int} (he : ap.length = ap.length / 2 * 2) (h : F_isFormula ap = true) : IsFm ap ∧ ap.length ≤ 80 := isFm_t he (by rw [← isFormula_eq]; exact h)


def F_s_NegationNormal (ap : List Int) (positive : Bool) : (List Int) × (Int) :=
  bif (!(F_l02Is ap)) then ([], 1) else (bif (decide (40 < (((F_l03Normal ap positive).length / 2 : Nat) : Int))) then ([], 3) else (F_l03Normal ap positive, 0))
theorem cf_s_NegationNormal (args : Array Value) (w : World) : (callFunc 33 args).run Try.prog w = .ok (.enter 33 args) w := by kernel_rfl
set_option maxRecDepth 100000 in
theorem c_s_NegationNormal (apA : Option Addr) (apN apC : Nat) (ap : List Int) (positive : Bool) (w : World) (apR : RdS w 2 apA apN apC ap) (hl : ap.length ≤ 4194304) :
    Calls Try.prog 33 #[.slice apA apN apC, .bool positive] w (Ret fun v w' => ∃ b1 : Option Addr, ∃ c1 : Nat, v = .tuple #[.slice b1 (((F_s_NegationNormal ap positive).1).length / 2 : Nat) c1, .int .i64 ((F_s_NegationNormal ap positive).2)] ∧ OwnS w' w.heap.size 94 2 b1 (((F_s_NegationNormal ap positive).1).length / 2 : Nat) c1 ((F_s_NegationNormal ap positive).1) ∧ Ext w w') := by
  obtain rfl : apN = ap.length / 2 := (apR.lenD (by decide)).symm
  have apEv := apR.ev (by decide)
  have apLe := apR.le
  have hS := St.nil w
  have hS1 := St.rd0 hS rfl apR; clear hS
  refine enter (args := [.slice apA ((ap).length / 2 : Nat) apC, .bool positive]) Try.func33 rfl rfl ?_
  rw [Try.ntmps33]; intro a hE
  have hE := hE.sub (L' := [(0, .slice apA ((ap).length / 2 : Nat) apC), (1, .bool positive)]) ⟨rfl, rfl, trivial⟩
  refine c_seq ?_
  refine c_reg ?_
  refine q_step (v := .slice none 0 0) hE (y_assign rfl) rfl rfl rfl ?_; intro a2 hE3; clear hE
  refine q_step (v := .int .i64 0) hE3 (y_assign rfl) rfl rfl rfl ?_; intro a4 hE5; clear hE3
  refine c_nil ?_
  have hE6 := hE5.sub (L' := [(0, .slice apA ((ap).length / 2 : Nat) apC), (1, .bool positive)]) ⟨rfl, rfl, trivial⟩; clear hE5
  refine p_tn ?_
  refine c_seq ?_
  refine c_seq ?_
  refine c_reg ?_
  refine q_step (v := .slice apA ((ap).length / 2 : Nat) apC) hE6 (y_move rfl) rfl rfl rfl ?_; intro a7 hE8; clear hE6
  refine l_step hE8 rfl (l_call (f := 70) (argv := [.slice apA ((ap).length / 2 : Nat) apC]) hE8 (fun _ => cf_l02Is _ _) rfl rfl (c_l02Is apA ((ap).length / 2 : Nat) apC ap w (St.rdR (i := 0) hS1 rfl) (by omega)) ?_)
  rintro _ w10 ⟨rfl, he14⟩ a11 hE12; clear hE8
  have hS13 := St.go hS1 he14; clear hS1
  refine q_step (v := .bool (!(F_l02Is ap))) hE12 (y_not rfl) rfl rfl rfl ?_; intro a15 hE16; clear hE12
  refine c_nil ?_
  have hE17 := hE16.sub (L' := [(0, .slice apA ((ap).length / 2 : Nat) apC), (1, .bool positive), (10, .bool (!(F_l02Is ap)))]) ⟨rfl, rfl, rfl, trivial⟩; clear hE16
  refine p_tn ?_
  refine c_cond hE17 rfl (fun ht18 => ?_) (fun ht18 => ?_)
  ·
   have ht19 := bn_t ht18
   have hE20 := hE17; rw [ht18] at hE20; clear hE17
   refine c_seq ?_
   refine c_reg ?_
   refine q_step (v := .slice none 0 0) hE20 (y_assign rfl) rfl rfl rfl ?_; intro a21 hE22; clear hE20
   refine q_step (v := .int .i64 1) hE22 (y_assign rfl) rfl rfl rfl ?_; intro a23 hE24; clear hE22
   refine c_nil ?_
   have hE25 := hE24.sub (L' := [(4, .slice none 0 0), (5, .int .i64 1)]) ⟨rfl, rfl, trivial⟩; clear hE24
   refine p_tn ?_
   refine wp_ret ?_
   refine p_tr ?_
   have hF : F_s_NegationNormal ap positive = ([], 1) := by unfold F_s_NegationNormal; rw [ht18]; first | done | rfl
   refine c_ret2 hE25 rfl rfl rfl ?_
   exact ⟨none, 0, (by rw [hF]; first | done | (dsimp only; done) | rfl), (by rw [hF]; (try dsimp only); exact OwnS.nilS _ _ _ _), hS13.ext⟩
  ·
   have ht26 := bn_f ht18
   have hp27 := isFm_t apEv ht26
   have hE28 := hE17; rw [ht18] at hE28; clear hE17
   refine wp_skip ?_
   refine p_tn ?_
   refine c_seq ?_
   refine c_reg ?_
   refine q_step (v := .slice apA ((ap).length / 2 : Nat) apC) hE28 (y_move rfl) rfl rfl rfl ?_; intro a29 hE30; clear hE28
   refine q_step (v := .bool positive) hE30 (y_move rfl) rfl rfl rfl ?_; intro a31 hE32; clear hE30
   refine l_step hE32 rfl (l_call (f := 88) (argv := [.slice apA ((ap).length / 2 : Nat) apC, .bool positive]) hE32 (fun _ => cf_l03Normal _ _) rfl rfl (c_l03Normal apA ((ap).length / 2 : Nat) apC ap positive w10 (St.rdR (i := 0) hS13 rfl) (by omega) (isFm_t apEv (by assumption)).1) ?_)
   rintro _ w34 ⟨b39, c40, rfl, ho41, he38⟩ a35 hE36; clear hE32
   have hS37 := St.own hS13 he38 ho41; clear hS13
   rcases Bool.eq_false_or_eq_true (decide (40 < (((F_l03Normal ap positive).length / 2 : Nat) : Int))) with hb42 | hb42
   ·
    have hE43 := hE36; (try rw [hb42] at hE43); clear hE36
    have hp44 := of_decide_eq_true hb42
    refine l_step hE43 rfl (l_call (f := 81) (argv := [.slice b39 ((F_l03Normal ap positive).length / 2 : Nat) c40]) hE43 (fun _ => cf_l02Made_f _ _) rfl rfl (d_l02Made_t b39 ((F_l03Normal ap positive).length / 2 : Nat) c40 (F_l03Normal ap positive) w34 (St.rdO (i := 0) hS37 rfl) hb42) ?_)
    rintro _ _ ⟨rfl, rfl⟩ a47 hE48; clear hE43
    refine q_step (v := .tuple #[.slice none 0 0, .int .i64 3]) hE48 (y_move rfl) rfl rfl rfl ?_; intro a51 hE52; clear hE48
    refine q_step (v := .slice none 0 0) hE52 (y_extract rfl rfl) rfl rfl rfl ?_; intro a53 hE54; clear hE52
    refine q_step (v := .int .i64 3) hE54 (y_extract rfl rfl) rfl rfl rfl ?_; intro a55 hE56; clear hE54
    refine q_step (v := .slice none 0 0) hE56 (y_assign rfl) rfl rfl rfl ?_; intro a57 hE58; clear hE56
    refine q_step (v := .int .i64 3) hE58 (y_assign rfl) rfl rfl rfl ?_; intro a59 hE60; clear hE58
    refine c_nil ?_
    have hE61 := hE60.sub (L' := [(6, .slice none 0 0), (7, .int .i64 3)]) ⟨rfl, rfl, trivial⟩; clear hE60
    refine p_tn ?_
    refine c_seq ?_
    refine c_reg ?_
    refine q_step (v := .slice none 0 0) hE61 (y_move rfl) rfl rfl rfl ?_; intro a62 hE63; clear hE61
    refine q_step (v := .int .i64 3) hE63 (y_move rfl) rfl rfl rfl ?_; intro a64 hE65; clear hE63
    refine q_step (v := .slice none 0 0) hE65 (y_assign rfl) rfl rfl rfl ?_; intro a66 hE67; clear hE65
    refine q_step (v := .int .i64 3) hE67 (y_assign rfl) rfl rfl rfl ?_; intro a68 hE69; clear hE67
    refine c_nil ?_
    have hE70 := hE69.sub (L' := [(4, .slice none 0 0), (5, .int .i64 3)]) ⟨rfl, rfl, trivial⟩; clear hE69
    refine p_tn ?_
    refine wp_ret ?_
    have hF : F_s_NegationNormal ap positive = ([], 3) := by unfold F_s_NegationNormal; rw [hb42, ht18]; first | done | rfl
    refine c_ret2 hE70 rfl rfl rfl ?_
    exact ⟨none, 0, (by rw [hF]; first | done | (dsimp only; done) | rfl), (by rw [hF]; (try dsimp only); exact OwnS.nilS _ _ _ _), hS37.ext⟩
   ·
    have hE71 := hE36; (try rw [hb42] at hE71); clear hE36
    have hp72 := of_decide_eq_false hb42
    refine l_step hE71 rfl (l_call (f := 81) (argv := [.slice b39 ((F_l03Normal ap positive).length / 2 : Nat) c40]) hE71 (fun _ => cf_l02Made_f _ _) rfl rfl (d_l02Made_f b39 ((F_l03Normal ap positive).length / 2 : Nat) c40 (F_l03Normal ap positive) w34 (St.rdO (i := 0) hS37 rfl) hb42) ?_)
    rintro _ _ ⟨rfl, rfl⟩ a75 hE76; clear hE71
    refine q_step (v := .tuple #[.slice b39 ((F_l03Normal ap positive).length / 2 : Nat) c40, .int .i64 0]) hE76 (y_move rfl) rfl rfl rfl ?_; intro a79 hE80; clear hE76
    refine q_step (v := .slice b39 ((F_l03Normal ap positive).length / 2 : Nat) c40) hE80 (y_extract rfl rfl) rfl rfl rfl ?_; intro a81 hE82; clear hE80
    refine q_step (v := .int .i64 0) hE82 (y_extract rfl rfl) rfl rfl rfl ?_; intro a83 hE84; clear hE82
    refine q_step (v := .slice b39 ((F_l03Normal ap positive).length / 2 : Nat) c40) hE84 (y_assign rfl) rfl rfl rfl ?_; intro a85 hE86; clear hE84
    refine q_step (v := .int .i64 0) hE86 (y_assign rfl) rfl rfl rfl ?_; intro a87 hE88; clear hE86
    refine c_nil ?_
    have hE89 := hE88.sub (L' := [(6, .slice b39 ((F_l03Normal ap positive).length / 2 : Nat) c40), (7, .int .i64 0)]) ⟨rfl, rfl, trivial⟩; clear hE88
    refine p_tn ?_
    refine c_seq ?_
    refine c_reg ?_
    refine q_step (v := .slice b39 ((F_l03Normal ap positive).length / 2 : Nat) c40) hE89 (y_move rfl) rfl rfl rfl ?_; intro a90 hE91; clear hE89
    refine q_step (v := .int .i64 0) hE91 (y_move rfl) rfl rfl rfl ?_; intro a92 hE93; clear hE91
    refine q_step (v := .slice b39 ((F_l03Normal ap positive).length / 2 : Nat) c40) hE93 (y_assign rfl) rfl rfl rfl ?_; intro a94 hE95; clear hE93
    refine q_step (v := .int .i64 0) hE95 (y_assign rfl) rfl rfl rfl ?_; intro a96 hE97; clear hE95
    refine c_nil ?_
    have hE98 := hE97.sub (L' := [(4, .slice b39 ((F_l03Normal ap positive).length / 2 : Nat) c40), (5, .int .i64 0)]) ⟨rfl, rfl, trivial⟩; clear hE97
    refine p_tn ?_
    refine wp_ret ?_
    have hF : F_s_NegationNormal ap positive = (F_l03Normal ap positive, 0) := by unfold F_s_NegationNormal; rw [hb42, ht18]; first | done | rfl
    refine c_ret2 hE98 rfl rfl rfl ?_
    exact ⟨b39, c40, (by rw [hF]; first | done | (dsimp only; done) | rfl), (by rw [hF]; (try dsimp only); exact hS37.ok 0 _ rfl), hS37.ext⟩

def F_NegationNormal (ap : List Int) (positive : Bool) : (List Int) × (Int) :=
  bif (!(F_isFormula ap)) then ([], 1) else (bif (decide (40 < (((F_negationNormal ap positive).length / 2 : Nat) : Int))) then ([], 3) else (F_negationNormal ap positive, 0))
theorem cf_NegationNormal (args : Array Value) (w : World) : (callFunc 34 args).run Try.prog w = .ok (.enter 34 args) w := by kernel_rfl
set_option maxRecDepth 100000 in
theorem c_NegationNormal (apA : Option Addr) (apN apC : Nat) (ap : List Int) (positive : Bool) (w : World) (apR : RdS w 2 apA apN apC ap) (hl : ap.length ≤ 4194304) :
    Calls Try.prog 34 #[.slice apA apN apC, .bool positive] w (Ret fun v w' => ∃ b1 : Option Addr, ∃ c1 : Nat, v = .tuple #[.slice b1 (((F_NegationNormal ap positive).1).length / 2 : Nat) c1, .int .i64 ((F_NegationNormal ap positive).2)] ∧ OwnS w' w.heap.size 94 2 b1 (((F_NegationNormal ap positive).1).length / 2 : Nat) c1 ((F_NegationNormal ap positive).1) ∧ Ext w w') := by
  obtain rfl : apN = ap.length / 2 := (apR.lenD (by decide)).symm
  have apEv := apR.ev (by decide)
  have apLe := apR.le
  have hS := St.nil w
  have hS1 := St.rd0 hS rfl apR; clear hS
  refine enter (args := [.slice apA ((ap).length / 2 : Nat) apC, .bool positive]) Try.func34 rfl rfl ?_
  rw [Try.ntmps34]; intro a hE
  have hE := hE.sub (L' := [(0, .slice apA ((ap).length / 2 : Nat) apC), (1, .bool positive)]) ⟨rfl, rfl, trivial⟩
  refine c_seq ?_
  refine c_reg ?_
  refine q_step (v := .slice none 0 0) hE (y_assign rfl) rfl rfl rfl ?_; intro a2 hE3; clear hE
  refine q_step (v := .int .i64 0) hE3 (y_assign rfl) rfl rfl rfl ?_; intro a4 hE5; clear hE3
  refine c_nil ?_
  have hE6 := hE5.sub (L' := [(0, .slice apA ((ap).length / 2 : Nat) apC), (1, .bool positive)]) ⟨rfl, rfl, trivial⟩; clear hE5
  refine p_tn ?_
  refine c_seq ?_
  refine c_seq ?_
  refine c_reg ?_
  refine q_step (v := .slice apA ((ap).length / 2 : Nat) apC) hE6 (y_move rfl) rfl rfl rfl ?_; intro a7 hE8; clear hE6
  refine l_step hE8 rfl (l_call (f := 74) (argv := [.slice apA ((ap).length / 2 : Nat) apC]) hE8 (fun _ => cf_isFormula _ _) rfl rfl (c_isFormula apA ((ap).length / 2 : Nat) apC ap w (St.rdR (i := 0) hS1 rfl) (by omega)) ?_)
  rintro _ w10 ⟨rfl, he14⟩ a11 hE12; clear hE8
  have hS13 := St.go hS1 he14; clear hS1
  refine q_step (v := .bool (!(F_isFormula ap))) hE12 (y_not rfl) rfl rfl rfl ?_; intro a15 hE16; clear hE12
  refine c_nil ?_
  have hE17 := hE16.sub (L' := [(0, .slice apA ((ap).length / 2 : Nat) apC), (1, .bool positive), (8, .bool (!(F_isFormula ap)))]) ⟨rfl, rfl, rfl, trivial⟩; clear hE16
  refine p_tn ?_
  refine c_cond hE17 rfl (fun ht18 => ?_) (fun ht18 => ?_)
  ·
   have ht19 := bn_t ht18
   have hE20 := hE17; rw [ht18] at hE20; clear hE17
   refine c_seq ?_
   refine c_reg ?_
   refine q_step (v := .slice none 0 0) hE20 (y_assign rfl) rfl rfl rfl ?_; intro a21 hE22; clear hE20
   refine q_step (v := .int .i64 1) hE22 (y_assign rfl) rfl rfl rfl ?_; intro a23 hE24; clear hE22
   refine c_nil ?_
   have hE25 := hE24.sub (L' := [(4, .slice none 0 0), (5, .int .i64 1)]) ⟨rfl, rfl, trivial⟩; clear hE24
   refine p_tn ?_
   refine wp_ret ?_
   refine p_tr ?_
   have hF : F_NegationNormal ap positive = ([], 1) := by unfold F_NegationNormal; rw [ht18]; first | done | rfl
   refine c_ret2 hE25 rfl rfl rfl ?_
   exact ⟨none, 0, (by rw [hF]; first | done | (dsimp only; done) | rfl), (by rw [hF]; (try dsimp only); exact OwnS.nilS _ _ _ _), hS13.ext⟩
  ·
   have ht26 := bn_f ht18
   have hp27 := isFm_f apEv ht26
   have hE28 := hE17; rw [ht18] at hE28; clear hE17
   refine wp_skip ?_
   refine p_tn ?_
   refine c_seq ?_
   refine c_reg ?_
   refine q_step (v := .slice apA ((ap).length / 2 : Nat) apC) hE28 (y_move rfl) rfl rfl rfl ?_; intro a29 hE30; clear hE28
   refine q_step (v := .bool positive) hE30 (y_move rfl) rfl rfl rfl ?_; intro a31 hE32; clear hE30
   refine l_step hE32 rfl (l_call (f := 89) (argv := [.slice apA ((ap).length / 2 : Nat) apC, .bool positive]) hE32 (fun _ => cf_negationNormal _ _) rfl rfl (c_negationNormal apA ((ap).length / 2 : Nat) apC ap positive w10 (St.rdR (i := 0) hS13 rfl) (by omega) (isFm_f apEv (by assumption)).1) ?_)
   rintro _ w34 ⟨b39, c40, rfl, ho41, he38⟩ a35 hE36; clear hE32
   have hS37 := St.own hS13 he38 ho41; clear hS13
   rcases Bool.eq_false_or_eq_true (decide (40 < (((F_negationNormal ap positive).length / 2 : Nat) : Int))) with hb42 | hb42
   ·
    have hE43 := hE36; (try rw [hb42] at hE43); clear hE36
    have hp44 := of_decide_eq_true hb42
    refine l_step hE43 rfl (l_call (f := 83) (argv := [.slice b39 ((F_negationNormal ap positive).length / 2 : Nat) c40]) hE43 (fun _ => cf_limited_f _ _) rfl rfl (d_limited_t b39 ((F_negationNormal ap positive).length / 2 : Nat) c40 (F_negationNormal ap positive) w34 (St.rdO (i := 0) hS37 rfl) hb42) ?_)
    rintro _ _ ⟨rfl, rfl⟩ a47 hE48; clear hE43
    refine q_step (v := .slice none 0 0) hE48 (y_extract rfl rfl) rfl rfl rfl ?_; intro a51 hE52; clear hE48
    refine q_step (v := .int .i64 3) hE52 (y_extract rfl rfl) rfl rfl rfl ?_; intro a53 hE54; clear hE52
    refine q_step (v := .slice none 0 0) hE54 (y_assign rfl) rfl rfl rfl ?_; intro a55 hE56; clear hE54
    refine q_step (v := .int .i64 3) hE56 (y_assign rfl) rfl rfl rfl ?_; intro a57 hE58; clear hE56
    refine c_nil ?_
    have hE59 := hE58.sub (L' := [(4, .slice none 0 0), (5, .int .i64 3)]) ⟨rfl, rfl, trivial⟩; clear hE58
    refine p_tn ?_
    refine wp_ret ?_
    have hF : F_NegationNormal ap positive = ([], 3) := by unfold F_NegationNormal; rw [hb42, ht18]; first | done | rfl
    refine c_ret2 hE59 rfl rfl rfl ?_
    exact ⟨none, 0, (by rw [hF]; first | done | (dsimp only; done) | rfl), (by rw [hF]; (try dsimp only); exact OwnS.nilS _ _ _ _), hS37.ext⟩
   ·
    have hE60 := hE36; (try rw [hb42] at hE60); clear hE36
    have hp61 := of_decide_eq_false hb42
    refine l_step hE60 rfl (l_call (f := 83) (argv := [.slice b39 ((F_negationNormal ap positive).length / 2 : Nat) c40]) hE60 (fun _ => cf_limited_f _ _) rfl rfl (d_limited_f b39 ((F_negationNormal ap positive).length / 2 : Nat) c40 (F_negationNormal ap positive) w34 (St.rdO (i := 0) hS37 rfl) hb42) ?_)
    rintro _ _ ⟨rfl, rfl⟩ a64 hE65; clear hE60
    refine q_step (v := .slice b39 ((F_negationNormal ap positive).length / 2 : Nat) c40) hE65 (y_extract rfl rfl) rfl rfl rfl ?_; intro a68 hE69; clear hE65
    refine q_step (v := .int .i64 0) hE69 (y_extract rfl rfl) rfl rfl rfl ?_; intro a70 hE71; clear hE69
    refine q_step (v := .slice b39 ((F_negationNormal ap positive).length / 2 : Nat) c40) hE71 (y_assign rfl) rfl rfl rfl ?_; intro a72 hE73; clear hE71
    refine q_step (v := .int .i64 0) hE73 (y_assign rfl) rfl rfl rfl ?_; intro a74 hE75; clear hE73
    refine c_nil ?_
    have hE76 := hE75.sub (L' := [(4, .slice b39 ((F_negationNormal ap positive).length / 2 : Nat) c40), (5, .int .i64 0)]) ⟨rfl, rfl, trivial⟩; clear hE75
    refine p_tn ?_
    refine wp_ret ?_
    have hF : F_NegationNormal ap positive = (F_negationNormal ap positive, 0) := by unfold F_NegationNormal; rw [hb42, ht18]; first | done | rfl
    refine c_ret2 hE76 rfl rfl rfl ?_
    exact ⟨b39, c40, (by rw [hF]; first | done | (dsimp only; done) | rfl), (by rw [hF]; (try dsimp only); exact hS37.ok 0 _ rfl), hS37.ext⟩

theorem NegationNormal_eq (ap : List Int) (p : Bool) (he : ap.length = ap.length / 2 * 2) : F_NegationNormal ap p = F_s_NegationNormal ap p := by
  unfold F_NegationNormal F_s_NegationNormal
  rw [isFormula_eq]
  cases h : F_l02Is ap
  · rfl
  · rw [negationNormal_eq (IsFm.of he h)]
theorem NegationNormal_len (ap : List Int) (p : Bool) : (F_NegationNormal ap p).1.length ≤ 81 := by
  unfold F_NegationNormal
  by_cases h : 40 < (((F_negationNormal ap p).length / 2 : Nat) : Int)
  · cases F_isFormula ap <;> simp only [decide_eq_true h, Bool.not_true, Bool.not_false, cond_true, cond_false, List.length_nil] <;> omega
  · cases F_isFormula ap <;> simp only [decide_eq_false h, Bool.not_true, Bool.not_false, cond_true, cond_false, List.length_nil] <;> omega


end Go.Proofs.Ytkilkfhjfobcdaa
