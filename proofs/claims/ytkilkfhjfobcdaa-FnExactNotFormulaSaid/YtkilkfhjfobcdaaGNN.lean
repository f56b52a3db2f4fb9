/- GNN: models and contracts, printed by wip/gen/gen.py -/
import Derived.Test.YtkilkfhjfobcdaaGNC
set_option linter.unusedVariables false
set_option linter.unusedSimpArgs false
namespace Go.Proofs.Ytkilkfhjfobcdaa
open Go.RowKit

def F_s_NotFormula (ap : List Int) : (List Int) × (Int) :=
  bif (!(F_l02Is ap)) then ([], 1) else (bif (decide (40 < (((F_l02Not ap).length / 2 : Nat) : Int))) then ([], 3) else (F_l02Not ap, 0))
theorem cf_s_NotFormula (args : Array Value) (w : World) : (callFunc 27 args).run Try.prog w = .ok (.enter 27 args) w := by kernel_rfl
set_option maxRecDepth 100000 in
theorem c_s_NotFormula (apA : Option Addr) (apN apC : Nat) (ap : List Int) (w : World) (apR : RdS w 2 apA apN apC ap) (hl : ap.length ≤ 4194304) :
    Calls Try.prog 27 #[.slice apA apN apC] w (Ret fun v w' => ∃ b1 : Option Addr, ∃ c1 : Nat, v = .tuple #[.slice b1 (((F_s_NotFormula ap).1).length / 2 : Nat) c1, .int .i64 ((F_s_NotFormula ap).2)] ∧ OwnS w' w.heap.size 94 2 b1 (((F_s_NotFormula ap).1).length / 2 : Nat) c1 ((F_s_NotFormula ap).1) ∧ Ext w w') := by
  obtain rfl : apN = ap.length / 2 := (apR.lenD (by decide)).symm
  have apEv := apR.ev (by decide)
  have apLe := apR.le
  have hS := St.nil w
  have hS1 := St.rd0 hS rfl apR; clear hS
  refine enter (args := [.slice apA ((ap).length / 2 : Nat) apC]) Try.func27 rfl rfl ?_
  rw [Try.ntmps27]; intro a hE
  have hE := hE.sub (L' := [(0, .slice apA ((ap).length / 2 : Nat) apC)]) ⟨rfl, trivial⟩
  refine c_seq ?_
  refine c_reg ?_
  refine q_step (v := .slice none 0 0) hE (y_assign rfl) rfl rfl rfl ?_; intro a2 hE3; clear hE
  refine q_step (v := .int .i64 0) hE3 (y_assign rfl) rfl rfl rfl ?_; intro a4 hE5; clear hE3
  refine c_nil ?_
  have hE6 := hE5.sub (L' := [(0, .slice apA ((ap).length / 2 : Nat) apC)]) ⟨rfl, trivial⟩; clear hE5
  refine p_tn ?_
  refine c_seq ?_
  refine c_seq ?_
  refine c_reg ?_
  refine q_step (v := .slice apA ((ap).length / 2 : Nat) apC) hE6 (y_move rfl) rfl rfl rfl ?_; intro a7 hE8; clear hE6
  refine l_step hE8 rfl (l_call (f := 70) (argv := [.slice apA ((ap).length / 2 : Nat) apC]) hE8 (fun _ => cf_l02Is _ _) rfl rfl (c_l02Is apA ((ap).length / 2 : Nat) apC ap w (St.rdR (i := 0) hS1 rfl) (by omega)) ?_)
  rintro _ w10 ⟨rfl, he14⟩ a11 hE12; clear hE8
  have hS13 := St.go hS1 he14; clear hS1
  refine q_step (v := .bool (!(F_l02Is ap))) hE12 (y_not rfl) rfl rfl rfl ?_; intro a15 hE16; clear hE12
  refine c_nil ?_
  have hE17 := hE16.sub (L' := [(0, .slice apA ((ap).length / 2 : Nat) apC), (8, .bool (!(F_l02Is ap)))]) ⟨rfl, rfl, trivial⟩; clear hE16
  refine p_tn ?_
  refine c_cond hE17 rfl (fun ht18 => ?_) (fun ht18 => ?_)
  ·
    have ht19 := bn_t ht18
    have hE20 := hE17; rw [ht18] at hE20; clear hE17
    refine c_seq ?_
    refine c_reg ?_
    refine q_step (v := .slice none 0 0) hE20 (y_assign rfl) rfl rfl rfl ?_; intro a21 hE22; clear hE20
    refine q_step (v := .int .i64 1) hE22 (y_assign rfl) rfl rfl rfl ?_; intro a23 hE24; clear hE22
    refine c_nil ?_
    have hE25 := hE24.sub (L' := [(2, .slice none 0 0), (3, .int .i64 1)]) ⟨rfl, rfl, trivial⟩; clear hE24
    refine p_tn ?_
    refine wp_ret ?_
    refine p_tr ?_
    have hF : F_s_NotFormula ap = ([], 1) := by unfold F_s_NotFormula; rw [ht18]; first | done | rfl
    refine c_ret2 hE25 rfl rfl rfl ?_
    exact ⟨none, 0, (by rw [hF]; first | done | rfl), (by rw [hF]; exact OwnS.nilS _ _ _ _), hS13.ext⟩
  ·
    have ht26 := bn_f ht18
    have hp27 := l02Is_t ht26
    have hE28 := hE17; rw [ht18] at hE28; clear hE17
    refine wp_skip ?_
    refine p_tn ?_
    refine c_seq ?_
    refine c_reg ?_
    refine q_step (v := .slice apA ((ap).length / 2 : Nat) apC) hE28 (y_move rfl) rfl rfl rfl ?_; intro a29 hE30; clear hE28
    refine l_step hE30 rfl (l_call (f := 82) (argv := [.slice apA ((ap).length / 2 : Nat) apC]) hE30 (fun _ => cf_l02Not _ _) rfl rfl (c_l02Not apA ((ap).length / 2 : Nat) apC ap w10 (St.rdR (i := 0) hS13 rfl) (by omega)) ?_)
    rintro _ w32 ⟨b37, c38, rfl, ho39, he36⟩ a33 hE34; clear hE30
    have hf40 := l02Not_len ap
    have hS35 := St.own hS13 he36 ho39; clear hS13
    rcases Bool.eq_false_or_eq_true (decide (40 < (((F_l02Not ap).length / 2 : Nat) : Int))) with hb41 | hb41
    ·
      have hE42 := hE34; (try rw [hb41] at hE42); clear hE34
      have hp43 := of_decide_eq_true hb41
      refine l_step hE42 rfl (l_call (f := 81) (argv := [.slice b37 ((F_l02Not ap).length / 2 : Nat) c38]) hE42 (fun _ => cf_l02Made_f _ _) rfl rfl (d_l02Made_t b37 ((F_l02Not ap).length / 2 : Nat) c38 (F_l02Not ap) w32 (St.rdO (i := 0) hS35 rfl) hb41) ?_)
      rintro _ _ ⟨rfl, rfl⟩ a46 hE47; clear hE42
      refine q_step (v := .tuple #[.slice none 0 0, .int .i64 3]) hE47 (y_move rfl) rfl rfl rfl ?_; intro a50 hE51; clear hE47
      refine q_step (v := .slice none 0 0) hE51 (y_extract rfl rfl) rfl rfl rfl ?_; intro a52 hE53; clear hE51
      refine q_step (v := .int .i64 3) hE53 (y_extract rfl rfl) rfl rfl rfl ?_; intro a54 hE55; clear hE53
      refine q_step (v := .slice none 0 0) hE55 (y_assign rfl) rfl rfl rfl ?_; intro a56 hE57; clear hE55
      refine q_step (v := .int .i64 3) hE57 (y_assign rfl) rfl rfl rfl ?_; intro a58 hE59; clear hE57
      refine c_nil ?_
      have hE60 := hE59.sub (L' := [(4, .slice none 0 0), (5, .int .i64 3)]) ⟨rfl, rfl, trivial⟩; clear hE59
      refine p_tn ?_
      refine c_seq ?_
      refine c_reg ?_
      refine q_step (v := .slice none 0 0) hE60 (y_move rfl) rfl rfl rfl ?_; intro a61 hE62; clear hE60
      refine q_step (v := .int .i64 3) hE62 (y_move rfl) rfl rfl rfl ?_; intro a63 hE64; clear hE62
      refine q_step (v := .slice none 0 0) hE64 (y_assign rfl) rfl rfl rfl ?_; intro a65 hE66; clear hE64
      refine q_step (v := .int .i64 3) hE66 (y_assign rfl) rfl rfl rfl ?_; intro a67 hE68; clear hE66
      refine c_nil ?_
      have hE69 := hE68.sub (L' := [(2, .slice none 0 0), (3, .int .i64 3)]) ⟨rfl, rfl, trivial⟩; clear hE68
      refine p_tn ?_
      refine wp_ret ?_
      have hF : F_s_NotFormula ap = ([], 3) := by unfold F_s_NotFormula; rw [hb41, ht18]; first | done | rfl
      refine c_ret2 hE69 rfl rfl rfl ?_
      exact ⟨none, 0, (by rw [hF]; first | done | rfl), (by rw [hF]; exact OwnS.nilS _ _ _ _), hS35.ext⟩
    ·
      have hE70 := hE34; (try rw [hb41] at hE70); clear hE34
      have hp71 := of_decide_eq_false hb41
      refine l_step hE70 rfl (l_call (f := 81) (argv := [.slice b37 ((F_l02Not ap).length / 2 : Nat) c38]) hE70 (fun _ => cf_l02Made_f _ _) rfl rfl (d_l02Made_f b37 ((F_l02Not ap).length / 2 : Nat) c38 (F_l02Not ap) w32 (St.rdO (i := 0) hS35 rfl) hb41) ?_)
      rintro _ _ ⟨rfl, rfl⟩ a74 hE75; clear hE70
      refine q_step (v := .tuple #[.slice b37 ((F_l02Not ap).length / 2 : Nat) c38, .int .i64 0]) hE75 (y_move rfl) rfl rfl rfl ?_; intro a78 hE79; clear hE75
      refine q_step (v := .slice b37 ((F_l02Not ap).length / 2 : Nat) c38) hE79 (y_extract rfl rfl) rfl rfl rfl ?_; intro a80 hE81; clear hE79
      refine q_step (v := .int .i64 0) hE81 (y_extract rfl rfl) rfl rfl rfl ?_; intro a82 hE83; clear hE81
      refine q_step (v := .slice b37 ((F_l02Not ap).length / 2 : Nat) c38) hE83 (y_assign rfl) rfl rfl rfl ?_; intro a84 hE85; clear hE83
      refine q_step (v := .int .i64 0) hE85 (y_assign rfl) rfl rfl rfl ?_; intro a86 hE87; clear hE85
      refine c_nil ?_
      have hE88 := hE87.sub (L' := [(4, .slice b37 ((F_l02Not ap).length / 2 : Nat) c38), (5, .int .i64 0)]) ⟨rfl, rfl, trivial⟩; clear hE87
      refine p_tn ?_
      refine c_seq ?_
      refine c_reg ?_
      refine q_step (v := .slice b37 ((F_l02Not ap).length / 2 : Nat) c38) hE88 (y_move rfl) rfl rfl rfl ?_; intro a89 hE90; clear hE88
      refine q_step (v := .int .i64 0) hE90 (y_move rfl) rfl rfl rfl ?_; intro a91 hE92; clear hE90
      refine q_step (v := .slice b37 ((F_l02Not ap).length / 2 : Nat) c38) hE92 (y_assign rfl) rfl rfl rfl ?_; intro a93 hE94; clear hE92
      refine q_step (v := .int .i64 0) hE94 (y_assign rfl) rfl rfl rfl ?_; intro a95 hE96; clear hE94
      refine c_nil ?_
      have hE97 := hE96.sub (L' := [(2, .slice b37 ((F_l02Not ap).length / 2 : Nat) c38), (3, .int .i64 0)]) ⟨rfl, rfl, trivial⟩; clear hE96
      refine p_tn ?_
      refine wp_ret ?_
      have hF : F_s_NotFormula ap = (F_l02Not ap, 0) := by unfold F_s_NotFormula; rw [hb41, ht18]; first | done | rfl
      refine c_ret2 hE97 rfl rfl rfl ?_
      exact ⟨b37, c38, (by rw [hF]; first | done | rfl), (by rw [hF]; exact hS35.ok 0 _ rfl), hS35.ext⟩

def F_NotFormula (ap : List Int) : (List Int) × (Int) :=
  bif (!(F_isFormula ap)) then ([], 1) else (bif (decide (40 < (((F_negation ap).length / 2 : Nat) : Int))) then ([], 3) else (F_negation ap, 0))
theorem cf_NotFormula (args : Array Value) (w : World) : (callFunc 28 args).run Try.prog w = .ok (.enter 28 args) w := by kernel_rfl
set_option maxRecDepth 100000 in
theorem c_NotFormula (apA : Option Addr) (apN apC : Nat) (ap : List Int) (w : World) (apR : RdS w 2 apA apN apC ap) (hl : ap.length ≤ 4194304) :
    Calls Try.prog 28 #[.slice apA apN apC] w (Ret fun v w' => ∃ b1 : Option Addr, ∃ c1 : Nat, v = .tuple #[.slice b1 (((F_NotFormula ap).1).length / 2 : Nat) c1, .int .i64 ((F_NotFormula ap).2)] ∧ OwnS w' w.heap.size 94 2 b1 (((F_NotFormula ap).1).length / 2 : Nat) c1 ((F_NotFormula ap).1) ∧ Ext w w') := by
  obtain rfl : apN = ap.length / 2 := (apR.lenD (by decide)).symm
  have apEv := apR.ev (by decide)
  have apLe := apR.le
  have hS := St.nil w
  have hS1 := St.rd0 hS rfl apR; clear hS
  refine enter (args := [.slice apA ((ap).length / 2 : Nat) apC]) Try.func28 rfl rfl ?_
  rw [Try.ntmps28]; intro a hE
  have hE := hE.sub (L' := [(0, .slice apA ((ap).length / 2 : Nat) apC)]) ⟨rfl, trivial⟩
  refine c_seq ?_
  refine c_reg ?_
  refine q_step (v := .slice none 0 0) hE (y_assign rfl) rfl rfl rfl ?_; intro a2 hE3; clear hE
  refine q_step (v := .int .i64 0) hE3 (y_assign rfl) rfl rfl rfl ?_; intro a4 hE5; clear hE3
  refine c_nil ?_
  have hE6 := hE5.sub (L' := [(0, .slice apA ((ap).length / 2 : Nat) apC)]) ⟨rfl, trivial⟩; clear hE5
  refine p_tn ?_
  refine c_seq ?_
  refine c_seq ?_
  refine c_reg ?_
  refine q_step (v := .slice apA ((ap).length / 2 : Nat) apC) hE6 (y_move rfl) rfl rfl rfl ?_; intro a7 hE8; clear hE6
  refine l_step hE8 rfl (l_call (f := 74) (argv := [.slice apA ((ap).length / 2 : Nat) apC]) hE8 (fun _ => cf_isFormula _ _) rfl rfl (c_isFormula apA ((ap).length / 2 : Nat) apC ap w (St.rdR (i := 0) hS1 rfl) (by omega)) ?_)
  rintro _ w10 ⟨rfl, he14⟩ a11 hE12; clear hE8
  have hS13 := St.go hS1 he14; clear hS1
  refine q_step (v := .bool (!(F_isFormula ap))) hE12 (y_not rfl) rfl rfl rfl ?_; intro a15 hE16; clear hE12
  refine c_nil ?_
  have hE17 := hE16.sub (L' := [(0, .slice apA ((ap).length / 2 : Nat) apC), (6, .bool (!(F_isFormula ap)))]) ⟨rfl, rfl, trivial⟩; clear hE16
  refine p_tn ?_
  refine c_cond hE17 rfl (fun ht18 => ?_) (fun ht18 => ?_)
  ·
    have ht19 := bn_t ht18
    have hE20 := hE17; rw [ht18] at hE20; clear hE17
    refine c_seq ?_
    refine c_reg ?_
    refine q_step (v := .slice none 0 0) hE20 (y_assign rfl) rfl rfl rfl ?_; intro a21 hE22; clear hE20
    refine q_step (v := .int .i64 1) hE22 (y_assign rfl) rfl rfl rfl ?_; intro a23 hE24; clear hE22
    refine c_nil ?_
    have hE25 := hE24.sub (L' := [(2, .slice none 0 0), (3, .int .i64 1)]) ⟨rfl, rfl, trivial⟩; clear hE24
    refine p_tn ?_
    refine wp_ret ?_
    refine p_tr ?_
    have hF : F_NotFormula ap = ([], 1) := by unfold F_NotFormula; rw [ht18]; first | done | rfl
    refine c_ret2 hE25 rfl rfl rfl ?_
    exact ⟨none, 0, (by rw [hF]; first | done | rfl), (by rw [hF]; exact OwnS.nilS _ _ _ _), hS13.ext⟩
  ·
    have ht26 := bn_f ht18
    have hp27 := isFormula_t ht26
    have hE28 := hE17; rw [ht18] at hE28; clear hE17
    refine wp_skip ?_
    refine p_tn ?_
    refine c_seq ?_
    refine c_reg ?_
    refine q_step (v := .slice apA ((ap).length / 2 : Nat) apC) hE28 (y_move rfl) rfl rfl rfl ?_; intro a29 hE30; clear hE28
    refine l_step hE30 rfl (l_call (f := 84) (argv := [.slice apA ((ap).length / 2 : Nat) apC]) hE30 (fun _ => cf_negation _ _) rfl rfl (c_negation apA ((ap).length / 2 : Nat) apC ap w10 (St.rdR (i := 0) hS13 rfl) (by omega)) ?_)
    rintro _ w32 ⟨b37, c38, rfl, ho39, he36⟩ a33 hE34; clear hE30
    have hf40 := negation_len ap
    have hS35 := St.own hS13 he36 ho39; clear hS13
    rcases Bool.eq_false_or_eq_true (decide (40 < (((F_negation ap).length / 2 : Nat) : Int))) with hb41 | hb41
    ·
      have hE42 := hE34; (try rw [hb41] at hE42); clear hE34
      have hp43 := of_decide_eq_true hb41
      refine l_step hE42 rfl (l_call (f := 83) (argv := [.slice b37 ((F_negation ap).length / 2 : Nat) c38]) hE42 (fun _ => cf_limited_f _ _) rfl rfl (d_limited_t b37 ((F_negation ap).length / 2 : Nat) c38 (F_negation ap) w32 (St.rdO (i := 0) hS35 rfl) hb41) ?_)
      rintro _ _ ⟨rfl, rfl⟩ a46 hE47; clear hE42
      refine q_step (v := .slice none 0 0) hE47 (y_extract rfl rfl) rfl rfl rfl ?_; intro a50 hE51; clear hE47
      refine q_step (v := .int .i64 3) hE51 (y_extract rfl rfl) rfl rfl rfl ?_; intro a52 hE53; clear hE51
      refine q_step (v := .slice none 0 0) hE53 (y_assign rfl) rfl rfl rfl ?_; intro a54 hE55; clear hE53
      refine q_step (v := .int .i64 3) hE55 (y_assign rfl) rfl rfl rfl ?_; intro a56 hE57; clear hE55
      refine c_nil ?_
      have hE58 := hE57.sub (L' := [(2, .slice none 0 0), (3, .int .i64 3)]) ⟨rfl, rfl, trivial⟩; clear hE57
      refine p_tn ?_
      refine wp_ret ?_
      have hF : F_NotFormula ap = ([], 3) := by unfold F_NotFormula; rw [hb41, ht18]; first | done | rfl
      refine c_ret2 hE58 rfl rfl rfl ?_
      exact ⟨none, 0, (by rw [hF]; first | done | rfl), (by rw [hF]; exact OwnS.nilS _ _ _ _), hS35.ext⟩
    ·
      have hE59 := hE34; (try rw [hb41] at hE59); clear hE34
      have hp60 := of_decide_eq_false hb41
      refine l_step hE59 rfl (l_call (f := 83) (argv := [.slice b37 ((F_negation ap).length / 2 : Nat) c38]) hE59 (fun _ => cf_limited_f _ _) rfl rfl (d_limited_f b37 ((F_negation ap).length / 2 : Nat) c38 (F_negation ap) w32 (St.rdO (i := 0) hS35 rfl) hb41) ?_)
      rintro _ _ ⟨rfl, rfl⟩ a63 hE64; clear hE59
      refine q_step (v := .slice b37 ((F_negation ap).length / 2 : Nat) c38) hE64 (y_extract rfl rfl) rfl rfl rfl ?_; intro a67 hE68; clear hE64
      refine q_step (v := .int .i64 0) hE68 (y_extract rfl rfl) rfl rfl rfl ?_; intro a69 hE70; clear hE68
      refine q_step (v := .slice b37 ((F_negation ap).length / 2 : Nat) c38) hE70 (y_assign rfl) rfl rfl rfl ?_; intro a71 hE72; clear hE70
      refine q_step (v := .int .i64 0) hE72 (y_assign rfl) rfl rfl rfl ?_; intro a73 hE74; clear hE72
      refine c_nil ?_
      have hE75 := hE74.sub (L' := [(2, .slice b37 ((F_negation ap).length / 2 : Nat) c38), (3, .int .i64 0)]) ⟨rfl, rfl, trivial⟩; clear hE74
      refine p_tn ?_
      refine wp_ret ?_
      have hF : F_NotFormula ap = (F_negation ap, 0) := by unfold F_NotFormula; rw [hb41, ht18]; first | done | rfl
      refine c_ret2 hE75 rfl rfl rfl ?_
      exact ⟨b37, c38, (by rw [hF]; first | done | rfl), (by rw [hF]; exact hS35.ok 0 _ rfl), hS35.ext⟩

theorem NotFormula_eq (ap : List Int) : F_NotFormula ap = F_s_NotFormula ap := by
  unfold F_NotFormula F_s_NotFormula
  rw [isFormula_eq, negation_eq]
theorem NotFormula_len (ap : List Int) : (F_NotFormula ap).1.length ≤ 81 := by
  rw [NotFormula_eq]
  unfold F_s_NotFormula
  by_cases h : 40 < (((F_l02Not ap).length / 2 : Nat) : Int)
  · cases F_l02Is ap <;> simp only [decide_eq_true h, Bool.not_true, Bool.not_false, cond_true, cond_false, List.length_nil] <;> omega
  · cases F_l02Is ap <;> simp only [decide_eq_false h, Bool.not_true, Bool.not_false, cond_true, cond_false, List.length_nil] <;> omega


end Go.Proofs.Ytkilkfhjfobcdaa
