/- GLCC: models and contracts, printed by wip/gen/gen.py -/
import Derived.Test.YtkilkfhjfobcdaaGNA
import Derived.Test.YtkilkfhjfobcdaaGCC
set_option linter.unusedVariables false
set_option linter.unusedSimpArgs false
namespace Go.Proofs.Ytkilkfhjfobcdaa
open Go.RowKit

theorem rows_tot {ap : List (List Int)} {c : Nat} (h : totL ap ≤ c) : ∀ m : Int, 0 ≤ m → m < (ap.length : Int) → (gL ap m).length ≤ c := fun m h0 h1 => Nat.le_trans (row_le ap h0 h1) h


def F_l_FnExactClausesFormula (ap : List (List Int)) : Bool :=
  bif (decide ((F_l_szInt64SS ap 1048576) < 0)) then true else (bif ((!(decide (((F_ClausesFormula ap).1) = ((F_s_ClausesFormula ap).1)))) || (!decide (((F_ClausesFormula ap).2) = ((F_s_ClausesFormula ap).2)))) then false else (bif (!(decide (ap = ap))) then false else (bif ((decide ((1 + (totL ap : Int)) < 0)) || ((!(decide (((F_ClausesFormula ap).1) = ((F_s_ClausesFormula ap).1)))) || (!decide (((F_ClausesFormula ap).2) = ((F_s_ClausesFormula ap).2))))) then false else (bif (decide ((F_l_heldNodeS (marked ((F_ClausesFormula ap).1).length 1) 1) < 0)) then false else (bif (!decide ((F_l_heldNodeS (marked ((F_ClausesFormula ap).1).length 1) 1) = (1 + (((F_ClausesFormula ap).1).length : Int)))) then false else true)))))
theorem cf_l_FnExactClausesFormula (args : Array Value) (w : World) : (callFunc 9 args).run Try.prog w = .ok (.enter 9 args) w := by kernel_rfl
set_option maxRecDepth 100000 in
theorem c_l_FnExactClausesFormula (apA : Option Addr) (apN apC : Nat) (apQ : List Hd) (ap : List (List Int)) (w : World) (apR : RdN w 1 apA apN apC apQ ap) :
    Calls Try.prog 9 #[.slice apA apN apC] w (Ret fun v w' => v = .bool (F_l_FnExactClausesFormula ap) ∧ Ext w w') := by
  obtain rfl : apN = ap.length := apR.len
  have apLe := apR.le
  have hS := St.nil w
  have hS1 := St.rdn0 hS rfl apR; clear hS
  refine enter (args := [.slice apA ((ap).length) apC]) Try.func9 rfl rfl ?_
  rw [Try.ntmps9]; intro a hE
  have hE := hE.sub (L' := [(0, .slice apA ((ap).length) apC)]) ⟨rfl, trivial⟩
  refine c_seq ?_
  refine c_reg ?_
  refine q_step (v := .bool false) hE (y_assign rfl) rfl rfl rfl ?_; intro a2 hE3; clear hE
  refine c_nil ?_
  have hE4 := hE3.sub (L' := [(0, .slice apA ((ap).length) apC)]) ⟨rfl, trivial⟩; clear hE3
  refine p_tn ?_
  refine c_seq ?_
  refine c_reg ?_
  refine q_step (v := .int .i64 1048576) hE4 (y_assign rfl) rfl rfl rfl ?_; intro a5 hE6; clear hE4
  refine c_nil ?_
  have hE7 := hE6.sub (L' := [(0, .slice apA ((ap).length) apC), (3, .int .i64 1048576)]) ⟨rfl, rfl, trivial⟩; clear hE6
  refine p_tn ?_
  refine c_seq ?_
  refine c_reg ?_
  refine q_step (v := .slice apA ((ap).length) apC) hE7 (y_move rfl) rfl rfl rfl ?_; intro a8 hE9; clear hE7
  refine q_step (v := .int .i64 1048576) hE9 (y_move rfl) rfl rfl rfl ?_; intro a10 hE11; clear hE9
  refine l_step hE11 rfl (l_call (f := 35) (argv := [.slice apA ((ap).length) apC, .int .i64 1048576]) hE11 (fun _ => cf_l_szInt64SS _ _) rfl rfl (c_l_szInt64SS apA ((ap).length) apC apQ ap 1048576 w (St.rdNr (i := 0) hS1 rfl) (by first | omega | (simp only [marked_len]; omega) | (simp only [marked_len] at *; omega)) (by first | omega | (simp only [marked_len]; omega) | (simp only [marked_len] at *; omega))) ?_)
  rintro _ w13 ⟨rfl, he17⟩ a14 hE15; clear hE11
  have hS16 := St.go hS1 he17; clear hS1
  refine q_step (v := .int .i64 (F_l_szInt64SS ap 1048576)) hE15 (y_assign rfl) rfl rfl rfl ?_; intro a18 hE19; clear hE15
  refine c_nil ?_
  have hE20 := hE19.sub (L' := [(0, .slice apA ((ap).length) apC), (3, .int .i64 (F_l_szInt64SS ap 1048576))]) ⟨rfl, rfl, trivial⟩; clear hE19
  refine p_tn ?_
  refine c_seq ?_
  refine c_seq ?_
  refine c_reg ?_
  refine q_step (v := .int .i64 (F_l_szInt64SS ap 1048576)) hE20 (y_move rfl) rfl rfl rfl ?_; intro a21 hE22; clear hE20
  refine q_step (v := .bool (decide ((F_l_szInt64SS ap 1048576) < 0))) hE22 (y_lss rfl rfl) rfl rfl rfl ?_; intro a23 hE24; clear hE22
  refine c_nil ?_
  have hE25 := hE24.sub (L' := [(0, .slice apA ((ap).length) apC), (18, .bool (decide ((F_l_szInt64SS ap 1048576) < 0)))]) ⟨rfl, rfl, trivial⟩; clear hE24
  refine p_tn ?_
  refine c_cond hE25 rfl (fun ht26 => ?_) (fun ht26 => ?_)
  ·
   have hp27 := of_decide_eq_true ht26
   have hE28 := hE25; rw [ht26] at hE28; clear hE25
   refine c_seq ?_
   refine c_reg ?_
   refine q_step (v := .bool true) hE28 (y_assign rfl) rfl rfl rfl ?_; intro a29 hE30; clear hE28
   refine c_nil ?_
   have hE31 := hE30.sub (L' := [(2, .bool true)]) ⟨rfl, trivial⟩; clear hE30
   refine p_tn ?_
   refine wp_ret ?_
   refine p_tr ?_
   have hF : F_l_FnExactClausesFormula ap = true := by unfold F_l_FnExactClausesFormula; rw [ht26]; first | done | rfl
   refine c_ret1 hE31 rfl rfl ?_
   exact ⟨(by rw [hF]; first | done | (dsimp only; done) | rfl), hS16.ext⟩
  ·
   have hp32 := of_decide_eq_false ht26
   have hq33 := szSS_bound hp32
   have hE34 := hE25; rw [ht26] at hE34; clear hE25
   refine wp_skip ?_
   refine p_tn ?_
   refine c_seq ?_
   refine c_reg ?_
   refine q_step (v := .slice apA ((ap).length) apC) hE34 (y_move rfl) rfl rfl rfl ?_; intro a35 hE36; clear hE34
   refine l_step hE36 rfl (l_call (f := 37) (argv := [.slice apA ((ap).length) apC]) hE36 (fun _ => cf_l_toInt64SS _ _) rfl rfl (d_l_toInt64SS apA ((ap).length) apC apQ ap w13 (St.rdNr (i := 0) hS16 rfl) (by first | omega | (simp only [marked_len]; omega) | (simp only [marked_len] at *; omega)) (rows_tot (by omega))) ?_)
   rintro _ w38 ⟨b43, c44, h45, rfl, ho46, he42⟩ a39 hE40; clear hE36
   have hS41 := St.ownN hS16 he42 ho46; clear hS16
   refine l_step hE40 rfl (l_call (f := 36) (argv := [.slice b43 ((ap).length) c44]) hE40 (fun _ => cf_s_ClausesFormula _ _) rfl rfl (c_s_ClausesFormula b43 ((ap).length) c44 h45 ap w38 (St.rdNo (i := 0) hS41 rfl) (by first | omega | (simp only [marked_len]; omega) | (simp only [marked_len] at *; omega))) ?_)
   rintro _ w48 ⟨b53, c54, rfl, ho55, he52⟩ a49 hE50; clear hE40
   have hf56 := s_ClausesFormula_len ap
   have hS51 := St.own hS41 he52 ho55; clear hS41
   refine q_step (v := .tuple #[.slice b53 (((F_s_ClausesFormula ap).1).length / 2 : Nat) c54, .int .i64 ((F_s_ClausesFormula ap).2)]) hE50 (y_move rfl) rfl rfl rfl ?_; intro a57 hE58; clear hE50
   refine q_step (v := .slice b53 (((F_s_ClausesFormula ap).1).length / 2 : Nat) c54) hE58 (y_extract rfl rfl) rfl rfl rfl ?_; intro a59 hE60; clear hE58
   refine q_step (v := .int .i64 ((F_s_ClausesFormula ap).2)) hE60 (y_extract rfl rfl) rfl rfl rfl ?_; intro a61 hE62; clear hE60
   refine q_step (v := .slice b53 (((F_s_ClausesFormula ap).1).length / 2 : Nat) c54) hE62 (y_assign rfl) rfl rfl rfl ?_; intro a63 hE64; clear hE62
   refine q_step (v := .int .i64 ((F_s_ClausesFormula ap).2)) hE64 (y_assign rfl) rfl rfl rfl ?_; intro a65 hE66; clear hE64
   refine c_nil ?_
   have hE67 := hE66.sub (L' := [(0, .slice apA ((ap).length) apC), (4, .slice b53 (((F_s_ClausesFormula ap).1).length / 2 : Nat) c54), (5, .int .i64 ((F_s_ClausesFormula ap).2))]) ⟨rfl, rfl, rfl, trivial⟩; clear hE66
   refine p_tn ?_
   refine c_seq ?_
   refine c_reg ?_
   refine q_step (v := .slice apA ((ap).length) apC) hE67 (y_move rfl) rfl rfl rfl ?_; intro a68 hE69; clear hE67
   refine l_step hE69 rfl (l_call (f := 37) (argv := [.slice apA ((ap).length) apC]) hE69 (fun _ => cf_l_toInt64SS _ _) rfl rfl (d_l_toInt64SS apA ((ap).length) apC apQ ap w48 (St.rdNr (i := 2) hS51 rfl) (by first | omega | (simp only [marked_len]; omega) | (simp only [marked_len] at *; omega)) (rows_tot (by omega))) ?_)
   rintro _ w71 ⟨b76, c77, h78, rfl, ho79, he75⟩ a72 hE73; clear hE69
   have hS74 := St.ownN hS51 he75 ho79; clear hS51
   refine q_step (v := .slice b76 ((ap).length) c77) hE73 (y_assign rfl) rfl rfl rfl ?_; intro a80 hE81; clear hE73
   refine c_nil ?_
   have hE82 := hE81.sub (L' := [(0, .slice apA ((ap).length) apC), (4, .slice b53 (((F_s_ClausesFormula ap).1).length / 2 : Nat) c54), (5, .int .i64 ((F_s_ClausesFormula ap).2)), (6, .slice b76 ((ap).length) c77)]) ⟨rfl, rfl, rfl, rfl, trivial⟩; clear hE81
   refine p_tn ?_
   refine c_seq ?_
   refine c_reg ?_
   refine q_step (v := .slice b76 ((ap).length) c77) hE82 (y_move rfl) rfl rfl rfl ?_; intro a83 hE84; clear hE82
   refine l_step hE84 rfl (l_call (f := 38) (argv := [.slice b76 ((ap).length) c77]) hE84 (fun _ => cf_ClausesFormula _ _) rfl rfl (c_ClausesFormula b76 ((ap).length) c77 h78 ap w71 (St.rdNo (i := 0) hS74 rfl) (by first | omega | (simp only [marked_len]; omega) | (simp only [marked_len] at *; omega))) ?_)
   rintro _ w86 ⟨b91, c92, rfl, ho93, he90⟩ a87 hE88; clear hE84
   have hf94 := ClausesFormula_len ap
   have hS89 := St.own hS74 he90 ho93; clear hS74
   refine q_step (v := .tuple #[.slice b91 (((F_ClausesFormula ap).1).length / 2 : Nat) c92, .int .i64 ((F_ClausesFormula ap).2)]) hE88 (y_move rfl) rfl rfl rfl ?_; intro a95 hE96; clear hE88
   refine q_step (v := .slice b91 (((F_ClausesFormula ap).1).length / 2 : Nat) c92) hE96 (y_extract rfl rfl) rfl rfl rfl ?_; intro a97 hE98; clear hE96
   refine q_step (v := .int .i64 ((F_ClausesFormula ap).2)) hE98 (y_extract rfl rfl) rfl rfl rfl ?_; intro a99 hE100; clear hE98
   refine q_step (v := .slice b91 (((F_ClausesFormula ap).1).length / 2 : Nat) c92) hE100 (y_assign rfl) rfl rfl rfl ?_; intro a101 hE102; clear hE100
   refine q_step (v := .int .i64 ((F_ClausesFormula ap).2)) hE102 (y_assign rfl) rfl rfl rfl ?_; intro a103 hE104; clear hE102
   refine c_nil ?_
   have hE105 := hE104.sub (L' := [(0, .slice apA ((ap).length) apC), (4, .slice b53 (((F_s_ClausesFormula ap).1).length / 2 : Nat) c54), (5, .int .i64 ((F_s_ClausesFormula ap).2)), (6, .slice b76 ((ap).length) c77), (7, .slice b91 (((F_ClausesFormula ap).1).length / 2 : Nat) c92), (8, .int .i64 ((F_ClausesFormula ap).2))]) ⟨rfl, rfl, rfl, rfl, rfl, rfl, trivial⟩; clear hE104
   refine p_tn ?_
   refine c_seq ?_
   refine c_cut (fun a' w' => E a' 96 [(0, .slice apA ((ap).length) apC), (4, .slice b53 (((F_s_ClausesFormula ap).1).length / 2 : Nat) c54), (5, .int .i64 ((F_s_ClausesFormula ap).2)), (6, .slice b76 ((ap).length) c77), (7, .slice b91 (((F_ClausesFormula ap).1).length / 2 : Nat) c92), (8, .int .i64 ((F_ClausesFormula ap).2)), (40, .bool ((!(decide (((F_ClausesFormula ap).1) = ((F_s_ClausesFormula ap).1)))) || (!decide (((F_ClausesFormula ap).2) = ((F_s_ClausesFormula ap).2)))))] ∧ St w w' [.own 94 2 b91 (((F_ClausesFormula ap).1).length / 2 : Nat) c92 ((F_ClausesFormula ap).1), .nest 22 1 (some 2) b76 c77 h78 ap, .own 94 2 b53 (((F_s_ClausesFormula ap).1).length / 2 : Nat) c54 ((F_s_ClausesFormula ap).1), .nest 22 1 (some 2) b43 c44 h45 ap, .rdn 1 apA ((ap).length) apC apQ ap]) ?_ ?_
   ·
    refine c_reg ?_
    refine q_step (v := .slice b91 (((F_ClausesFormula ap).1).length / 2 : Nat) c92) hE105 (y_move rfl) rfl rfl rfl ?_; intro a106 hE107; clear hE105
    refine q_step (v := .slice b53 (((F_s_ClausesFormula ap).1).length / 2 : Nat) c54) hE107 (y_move rfl) rfl rfl rfl ?_; intro a108 hE109; clear hE107
    refine l_step hE109 rfl (l_call (f := 24) (argv := [.slice b91 (((F_ClausesFormula ap).1).length / 2 : Nat) c92, .slice b53 (((F_s_ClausesFormula ap).1).length / 2 : Nat) c54]) hE109 (fun _ => cf_l_eqNodeS _ _) rfl rfl (d_l_eqNodeS b91 (((F_ClausesFormula ap).1).length / 2 : Nat) c92 ((F_ClausesFormula ap).1) b53 (((F_s_ClausesFormula ap).1).length / 2 : Nat) c54 ((F_s_ClausesFormula ap).1) w86 (St.rdO (i := 0) hS89 rfl) (St.rdO (i := 2) hS89 rfl)) ?_)
    rintro _ w111 ⟨rfl, he115⟩ a112 hE113; clear hE109
    have hS114 := St.go hS89 he115; clear hS89
    refine q_step (v := .bool (!(decide (((F_ClausesFormula ap).1) = ((F_s_ClausesFormula ap).1))))) hE113 (y_not rfl) rfl rfl rfl ?_; intro a116 hE117; clear hE113
    refine q_step (v := .bool (!(decide (((F_ClausesFormula ap).1) = ((F_s_ClausesFormula ap).1))))) hE117 (y_move rfl) rfl rfl rfl ?_; intro a118 hE119; clear hE117
    rcases Bool.eq_false_or_eq_true (!(decide (((F_ClausesFormula ap).1) = ((F_s_ClausesFormula ap).1)))) with hb120 | hb120
    ·
     have hE121 := hE119; (try rw [hb120] at hE121); clear hE119
     have ht122 := bn_t hb120
     have hp123 := of_decide_eq_false ht122
     refine q_skip hE121 rfl rfl rfl ?_; intro a124 hE125; clear hE121
     refine q_skip hE125 rfl rfl rfl ?_; intro a126 hE127; clear hE125
     refine q_skip hE127 rfl rfl rfl ?_; intro a128 hE129; clear hE127
     refine q_step (v := .bool true) hE129 (y_pick (b := true) rfl rfl) rfl rfl rfl ?_; intro a130 hE131; clear hE129
     refine c_nil ?_
     have hE132 := hE131.sub (L' := [(0, .slice apA ((ap).length) apC), (4, .slice b53 (((F_s_ClausesFormula ap).1).length / 2 : Nat) c54), (5, .int .i64 ((F_s_ClausesFormula ap).2)), (6, .slice b76 ((ap).length) c77), (7, .slice b91 (((F_ClausesFormula ap).1).length / 2 : Nat) c92), (8, .int .i64 ((F_ClausesFormula ap).2)), (40, .bool true)]) ⟨rfl, rfl, rfl, rfl, rfl, rfl, rfl, trivial⟩; clear hE131
     refine p_tn ?_
     have hE133 := hE132.sub (L' := [(0, .slice apA ((ap).length) apC), (4, .slice b53 (((F_s_ClausesFormula ap).1).length / 2 : Nat) c54), (5, .int .i64 ((F_s_ClausesFormula ap).2)), (6, .slice b76 ((ap).length) c77), (7, .slice b91 (((F_ClausesFormula ap).1).length / 2 : Nat) c92), (8, .int .i64 ((F_ClausesFormula ap).2)), (40, .bool true)]) ⟨rfl, rfl, rfl, rfl, rfl, rfl, rfl, trivial⟩
     have hS134 := (St.pick (Γ' := [.own 94 2 b91 (((F_ClausesFormula ap).1).length / 2 : Nat) c92 ((F_ClausesFormula ap).1), .nest 22 1 (some 2) b76 c77 h78 ap, .own 94 2 b53 (((F_s_ClausesFormula ap).1).length / 2 : Nat) c54 ((F_s_ClausesFormula ap).1), .nest 22 1 (some 2) b43 c44 h45 ap, .rdn 1 apA ((ap).length) apC apQ ap]) hS114 [0, 1, 2, 3, 4] (by decide) rfl)
     exact ⟨(by rw [hb120]; exact hE133), hS134⟩
    ·
     have hE135 := hE119; (try rw [hb120] at hE135); clear hE119
     have ht136 := bn_f hb120
     have hp137 := of_decide_eq_true ht136
     refine q_step (v := .int .i64 ((F_ClausesFormula ap).2)) hE135 (y_move rfl) rfl rfl rfl ?_; intro a138 hE139; clear hE135
     refine q_step (v := .int .i64 ((F_s_ClausesFormula ap).2)) hE139 (y_move rfl) rfl rfl rfl ?_; intro a140 hE141; clear hE139
     refine q_step (v := .bool (!decide (((F_ClausesFormula ap).2) = ((F_s_ClausesFormula ap).2)))) hE141 (y_neq rfl rfl) rfl rfl rfl ?_; intro a142 hE143; clear hE141
     refine q_step (v := .bool (!decide (((F_ClausesFormula ap).2) = ((F_s_ClausesFormula ap).2)))) hE143 (y_pick (b := false) rfl rfl) rfl rfl rfl ?_; intro a144 hE145; clear hE143
     refine c_nil ?_
     have hE146 := hE145.sub (L' := [(0, .slice apA ((ap).length) apC), (4, .slice b53 (((F_s_ClausesFormula ap).1).length / 2 : Nat) c54), (5, .int .i64 ((F_s_ClausesFormula ap).2)), (6, .slice b76 ((ap).length) c77), (7, .slice b91 (((F_ClausesFormula ap).1).length / 2 : Nat) c92), (8, .int .i64 ((F_ClausesFormula ap).2)), (40, .bool (!decide (((F_ClausesFormula ap).2) = ((F_s_ClausesFormula ap).2))))]) ⟨rfl, rfl, rfl, rfl, rfl, rfl, rfl, trivial⟩; clear hE145
     refine p_tn ?_
     have hE147 := hE146.sub (L' := [(0, .slice apA ((ap).length) apC), (4, .slice b53 (((F_s_ClausesFormula ap).1).length / 2 : Nat) c54), (5, .int .i64 ((F_s_ClausesFormula ap).2)), (6, .slice b76 ((ap).length) c77), (7, .slice b91 (((F_ClausesFormula ap).1).length / 2 : Nat) c92), (8, .int .i64 ((F_ClausesFormula ap).2)), (40, .bool (!decide (((F_ClausesFormula ap).2) = ((F_s_ClausesFormula ap).2))))]) ⟨rfl, rfl, rfl, rfl, rfl, rfl, rfl, trivial⟩
     have hS148 := (St.pick (Γ' := [.own 94 2 b91 (((F_ClausesFormula ap).1).length / 2 : Nat) c92 ((F_ClausesFormula ap).1), .nest 22 1 (some 2) b76 c77 h78 ap, .own 94 2 b53 (((F_s_ClausesFormula ap).1).length / 2 : Nat) c54 ((F_s_ClausesFormula ap).1), .nest 22 1 (some 2) b43 c44 h45 ap, .rdn 1 apA ((ap).length) apC apQ ap]) hS114 [0, 1, 2, 3, 4] (by decide) rfl)
     exact ⟨(by rw [hb120]; exact hE147), hS148⟩
   ·
    rintro a149 w150 ⟨hE151, hS152⟩; clear hE105 hS89
    refine c_cond hE151 rfl (fun ht154 => ?_) (fun ht154 => ?_)
    ·
     have hE155 := hE151; rw [ht154] at hE155; clear hE151
     refine c_seq ?_
     refine c_reg ?_
     refine q_step (v := .bool false) hE155 (y_assign rfl) rfl rfl rfl ?_; intro a156 hE157; clear hE155
     refine c_nil ?_
     have hE158 := hE157.sub (L' := [(2, .bool false)]) ⟨rfl, trivial⟩; clear hE157
     refine p_tn ?_
     refine wp_ret ?_
     refine p_tr ?_
     have hF : F_l_FnExactClausesFormula ap = false := by unfold F_l_FnExactClausesFormula; rw [ht154, ht26]; first | done | rfl
     refine c_ret1 hE158 rfl rfl ?_
     exact ⟨(by rw [hF]; first | done | (dsimp only; done) | rfl), hS152.ext⟩
    ·
     obtain ⟨ht159, ht160⟩ := bor_f ht154
     have ht161 := bn_f ht159
     have hp162 := of_decide_eq_true ht161
     have ht163 := bn_f ht160
     have hp164 := of_decide_eq_true ht163
     have hE165 := hE151; rw [ht154] at hE165; clear hE151
     refine wp_skip ?_
     refine p_tn ?_
     refine c_seq ?_
     refine c_seq ?_
     refine c_reg ?_
     refine q_step (v := .slice b76 ((ap).length) c77) hE165 (y_move rfl) rfl rfl rfl ?_; intro a166 hE167; clear hE165
     refine q_step (v := .slice apA ((ap).length) apC) hE167 (y_move rfl) rfl rfl rfl ?_; intro a168 hE169; clear hE167
     refine l_step hE169 rfl (l_call (f := 37) (argv := [.slice apA ((ap).length) apC]) hE169 (fun _ => cf_l_toInt64SS _ _) rfl rfl (d_l_toInt64SS apA ((ap).length) apC apQ ap w150 (St.rdNr (i := 4) hS152 rfl) (by first | omega | (simp only [marked_len]; omega) | (simp only [marked_len] at *; omega)) (rows_tot (by omega))) ?_)
     rintro _ w171 ⟨b176, c177, h178, rfl, ho179, he175⟩ a172 hE173; clear hE169
     have hS174 := St.ownN hS152 he175 ho179; clear hS152
     refine l_step hE173 rfl (l_call (f := 39) (argv := [.slice b76 ((ap).length) c77, .slice b176 ((ap).length) c177]) hE173 (fun _ => cf_l_eqInt64SS _ _) rfl rfl (d_l_eqInt64SS b76 ((ap).length) c77 h78 ap b176 ((ap).length) c177 h178 ap w171 (St.rdNo (i := 2) hS174 rfl) (St.rdNo (i := 0) hS174 rfl)) ?_)
     rintro _ w181 ⟨rfl, he185⟩ a182 hE183; clear hE173
     have hS184 := St.go hS174 he185; clear hS174
     refine q_step (v := .bool (!(decide (ap = ap)))) hE183 (y_not rfl) rfl rfl rfl ?_; intro a186 hE187; clear hE183
     refine c_nil ?_
     have hE188 := hE187.sub (L' := [(0, .slice apA ((ap).length) apC), (4, .slice b53 (((F_s_ClausesFormula ap).1).length / 2 : Nat) c54), (5, .int .i64 ((F_s_ClausesFormula ap).2)), (6, .slice b76 ((ap).length) c77), (7, .slice b91 (((F_ClausesFormula ap).1).length / 2 : Nat) c92), (8, .int .i64 ((F_ClausesFormula ap).2)), (45, .bool (!(decide (ap = ap))))]) ⟨rfl, rfl, rfl, rfl, rfl, rfl, rfl, trivial⟩; clear hE187
     refine p_tn ?_
     refine c_cond hE188 rfl (fun ht189 => ?_) (fun ht189 => ?_)
     ·
      have ht190 := bn_t ht189
      have hp191 := of_decide_eq_false ht190
      have hE192 := hE188; rw [ht189] at hE192; clear hE188
      refine c_seq ?_
      refine c_reg ?_
      refine q_step (v := .bool false) hE192 (y_assign rfl) rfl rfl rfl ?_; intro a193 hE194; clear hE192
      refine c_nil ?_
      have hE195 := hE194.sub (L' := [(2, .bool false)]) ⟨rfl, trivial⟩; clear hE194
      refine p_tn ?_
      refine wp_ret ?_
      refine p_tr ?_
      have hF : F_l_FnExactClausesFormula ap = false := by unfold F_l_FnExactClausesFormula; rw [ht189, ht154, ht26]; first | done | rfl
      refine c_ret1 hE195 rfl rfl ?_
      exact ⟨(by rw [hF]; first | done | (dsimp only; done) | rfl), hS184.ext⟩
     ·
      have ht196 := bn_f ht189
      have hp197 := of_decide_eq_true ht196
      have hE198 := hE188; rw [ht189] at hE198; clear hE188
      refine wp_skip ?_
      refine p_tn ?_
      refine c_seq ?_
      refine c_reg ?_
      refine q_step (v := .int .i64 1) hE198 (y_assign rfl) rfl rfl rfl ?_; intro a199 hE200; clear hE198
      refine c_nil ?_
      have hE201 := hE200.sub (L' := [(0, .slice apA ((ap).length) apC), (4, .slice b53 (((F_s_ClausesFormula ap).1).length / 2 : Nat) c54), (5, .int .i64 ((F_s_ClausesFormula ap).2)), (6, .slice b76 ((ap).length) c77), (7, .slice b91 (((F_ClausesFormula ap).1).length / 2 : Nat) c92), (8, .int .i64 ((F_ClausesFormula ap).2)), (9, .int .i64 1)]) ⟨rfl, rfl, rfl, rfl, rfl, rfl, rfl, trivial⟩; clear hE200
      refine p_tn ?_
      refine c_seq ?_
      refine c_reg ?_
      refine q_step (v := .slice b76 ((ap).length) c77) hE201 (y_move rfl) rfl rfl rfl ?_; intro a202 hE203; clear hE201
      refine q_step (v := .int .i64 1) hE203 (y_move rfl) rfl rfl rfl ?_; intro a204 hE205; clear hE203
      have hS212 := (St.pick (Γ' := [.nest 22 1 (some 2) b76 c77 h78 ap, .nest 22 1 (some 2) b176 c177 h178 ap, .own 94 2 b91 (((F_ClausesFormula ap).1).length / 2 : Nat) c92 ((F_ClausesFormula ap).1), .own 94 2 b53 (((F_s_ClausesFormula ap).1).length / 2 : Nat) c54 ((F_s_ClausesFormula ap).1), .nest 22 1 (some 2) b43 c44 h45 ap, .rdn 1 apA ((ap).length) apC apQ ap]) hS184 [2, 0, 1, 3, 4, 5] (by decide) rfl); clear hS184
      refine l_step hE205 rfl (l_call (f := 40) (argv := [.slice b76 ((ap).length) c77, .int .i64 1]) hE205 (fun _ => cf_l_markInt64SS _ _) rfl rfl (d_l_markInt64SS b76 c77 h78 ap 1 w181 w [.nest 22 1 (some 2) b176 c177 h178 ap, .own 94 2 b91 (((F_ClausesFormula ap).1).length / 2 : Nat) c92 ((F_ClausesFormula ap).1), .own 94 2 b53 (((F_s_ClausesFormula ap).1).length / 2 : Nat) c54 ((F_s_ClausesFormula ap).1), .nest 22 1 (some 2) b43 c44 h45 ap, .rdn 1 apA ((ap).length) apC apQ ap] hS212 (by first | omega | (simp only [marked_len]; omega) | (simp only [marked_len] at *; omega)) (by first | omega | (simp only [marked_len]; omega) | (simp only [marked_len] at *; omega)) (by first | omega | (simp only [marked_len]; omega) | (simp only [marked_len] at *; omega))) ?_)
      rintro _ w207 ⟨rfl, hS210⟩ a208 hE209; clear hE205 hS212
      refine q_step (v := .int .i64 (1 + (totL ap : Int))) hE209 (y_assign rfl) rfl rfl rfl ?_; intro a213 hE214; clear hE209
      refine c_nil ?_
      have hE215 := hE214.sub (L' := [(0, .slice apA ((ap).length) apC), (4, .slice b53 (((F_s_ClausesFormula ap).1).length / 2 : Nat) c54), (5, .int .i64 ((F_s_ClausesFormula ap).2)), (7, .slice b91 (((F_ClausesFormula ap).1).length / 2 : Nat) c92), (8, .int .i64 ((F_ClausesFormula ap).2)), (9, .int .i64 (1 + (totL ap : Int)))]) ⟨rfl, rfl, rfl, rfl, rfl, rfl, trivial⟩; clear hE214
      refine p_tn ?_
      refine c_seq ?_
      refine c_cut (fun a' w' => E a' 96 [(0, .slice apA ((ap).length) apC), (4, .slice b53 (((F_s_ClausesFormula ap).1).length / 2 : Nat) c54), (5, .int .i64 ((F_s_ClausesFormula ap).2)), (7, .slice b91 (((F_ClausesFormula ap).1).length / 2 : Nat) c92), (61, .bool ((decide ((1 + (totL ap : Int)) < 0)) || ((!(decide (((F_ClausesFormula ap).1) = ((F_s_ClausesFormula ap).1)))) || (!decide (((F_ClausesFormula ap).2) = ((F_s_ClausesFormula ap).2))))))] ∧ St w w' [.nest 22 1 (some 2) b76 c77 h78 (markedL ap 1), .nest 22 1 (some 2) b176 c177 h178 ap, .own 94 2 b91 (((F_ClausesFormula ap).1).length / 2 : Nat) c92 ((F_ClausesFormula ap).1), .own 94 2 b53 (((F_s_ClausesFormula ap).1).length / 2 : Nat) c54 ((F_s_ClausesFormula ap).1), .nest 22 1 (some 2) b43 c44 h45 ap, .rdn 1 apA ((ap).length) apC apQ ap]) ?_ ?_
      ·
       refine c_reg ?_
       refine q_step (v := .int .i64 (1 + (totL ap : Int))) hE215 (y_move rfl) rfl rfl rfl ?_; intro a216 hE217; clear hE215
       refine q_step (v := .bool (decide ((1 + (totL ap : Int)) < 0))) hE217 (y_lss rfl rfl) rfl rfl rfl ?_; intro a218 hE219; clear hE217
       refine q_step (v := .bool (decide ((1 + (totL ap : Int)) < 0))) hE219 (y_move rfl) rfl rfl rfl ?_; intro a220 hE221; clear hE219
       rcases Bool.eq_false_or_eq_true (decide ((1 + (totL ap : Int)) < 0)) with hb222 | hb222
       ·
        have hE223 := hE221; (try rw [hb222] at hE223); clear hE221
        have hp224 := of_decide_eq_true hb222
        refine q_skip hE223 rfl rfl rfl ?_; intro a225 hE226; clear hE223
        refine q_skip hE226 rfl rfl rfl ?_; intro a227 hE228; clear hE226
        refine q_skip hE228 rfl rfl rfl ?_; intro a229 hE230; clear hE228
        refine q_skip hE230 rfl rfl rfl ?_; intro a231 hE232; clear hE230
        refine q_step (v := .bool true) hE232 (y_pick (b := true) rfl rfl) rfl rfl rfl ?_; intro a233 hE234; clear hE232
        refine q_step (v := .bool true) hE234 (y_move rfl) rfl rfl rfl ?_; intro a235 hE236; clear hE234
        refine q_skip hE236 rfl rfl rfl ?_; intro a237 hE238; clear hE236
        refine q_skip hE238 rfl rfl rfl ?_; intro a239 hE240; clear hE238
        refine q_skip hE240 rfl rfl rfl ?_; intro a241 hE242; clear hE240
        refine q_step (v := .bool true) hE242 (y_pick (b := true) rfl rfl) rfl rfl rfl ?_; intro a243 hE244; clear hE242
        refine c_nil ?_
        have hE245 := hE244.sub (L' := [(0, .slice apA ((ap).length) apC), (4, .slice b53 (((F_s_ClausesFormula ap).1).length / 2 : Nat) c54), (5, .int .i64 ((F_s_ClausesFormula ap).2)), (7, .slice b91 (((F_ClausesFormula ap).1).length / 2 : Nat) c92), (61, .bool true)]) ⟨rfl, rfl, rfl, rfl, rfl, trivial⟩; clear hE244
        refine p_tn ?_
        have hE246 := hE245.sub (L' := [(0, .slice apA ((ap).length) apC), (4, .slice b53 (((F_s_ClausesFormula ap).1).length / 2 : Nat) c54), (5, .int .i64 ((F_s_ClausesFormula ap).2)), (7, .slice b91 (((F_ClausesFormula ap).1).length / 2 : Nat) c92), (61, .bool true)]) ⟨rfl, rfl, rfl, rfl, rfl, trivial⟩
        have hS247 := (St.pick (Γ' := [.nest 22 1 (some 2) b76 c77 h78 (markedL ap 1), .nest 22 1 (some 2) b176 c177 h178 ap, .own 94 2 b91 (((F_ClausesFormula ap).1).length / 2 : Nat) c92 ((F_ClausesFormula ap).1), .own 94 2 b53 (((F_s_ClausesFormula ap).1).length / 2 : Nat) c54 ((F_s_ClausesFormula ap).1), .nest 22 1 (some 2) b43 c44 h45 ap, .rdn 1 apA ((ap).length) apC apQ ap]) hS210 [0, 1, 2, 3, 4, 5] (by decide) rfl)
        exact ⟨(by rw [hb222]; exact hE246), hS247⟩
       ·
        have hE248 := hE221; (try rw [hb222] at hE248); clear hE221
        have hp249 := of_decide_eq_false hb222
        refine q_step (v := .slice b91 (((F_ClausesFormula ap).1).length / 2 : Nat) c92) hE248 (y_move rfl) rfl rfl rfl ?_; intro a250 hE251; clear hE248
        refine q_step (v := .slice b53 (((F_s_ClausesFormula ap).1).length / 2 : Nat) c54) hE251 (y_move rfl) rfl rfl rfl ?_; intro a252 hE253; clear hE251
        refine l_step hE253 rfl (l_call (f := 24) (argv := [.slice b91 (((F_ClausesFormula ap).1).length / 2 : Nat) c92, .slice b53 (((F_s_ClausesFormula ap).1).length / 2 : Nat) c54]) hE253 (fun _ => cf_l_eqNodeS _ _) rfl rfl (d_l_eqNodeS b91 (((F_ClausesFormula ap).1).length / 2 : Nat) c92 ((F_ClausesFormula ap).1) b53 (((F_s_ClausesFormula ap).1).length / 2 : Nat) c54 ((F_s_ClausesFormula ap).1) w207 (St.rdO (i := 2) hS210 rfl) (St.rdO (i := 3) hS210 rfl)) ?_)
        rintro _ w255 ⟨rfl, he259⟩ a256 hE257; clear hE253
        have hS258 := St.go hS210 he259; clear hS210
        refine q_step (v := .bool (!(decide (((F_ClausesFormula ap).1) = ((F_s_ClausesFormula ap).1))))) hE257 (y_not rfl) rfl rfl rfl ?_; intro a260 hE261; clear hE257
        refine q_step (v := .bool (!(decide (((F_ClausesFormula ap).1) = ((F_s_ClausesFormula ap).1))))) hE261 (y_pick (b := false) rfl rfl) rfl rfl rfl ?_; intro a262 hE263; clear hE261
        refine q_step (v := .bool (!(decide (((F_ClausesFormula ap).1) = ((F_s_ClausesFormula ap).1))))) hE263 (y_move rfl) rfl rfl rfl ?_; intro a264 hE265; clear hE263
        rcases Bool.eq_false_or_eq_true (!(decide (((F_ClausesFormula ap).1) = ((F_s_ClausesFormula ap).1)))) with hb266 | hb266
        ·
         have hE267 := hE265; (try rw [hb266] at hE267); clear hE265
         have ht268 := bn_t hb266
         have hp269 := of_decide_eq_false ht268
         refine q_skip hE267 rfl rfl rfl ?_; intro a270 hE271; clear hE267
         refine q_skip hE271 rfl rfl rfl ?_; intro a272 hE273; clear hE271
         refine q_skip hE273 rfl rfl rfl ?_; intro a274 hE275; clear hE273
         refine q_step (v := .bool true) hE275 (y_pick (b := true) rfl rfl) rfl rfl rfl ?_; intro a276 hE277; clear hE275
         refine c_nil ?_
         have hE278 := hE277.sub (L' := [(0, .slice apA ((ap).length) apC), (4, .slice b53 (((F_s_ClausesFormula ap).1).length / 2 : Nat) c54), (5, .int .i64 ((F_s_ClausesFormula ap).2)), (7, .slice b91 (((F_ClausesFormula ap).1).length / 2 : Nat) c92), (61, .bool true)]) ⟨rfl, rfl, rfl, rfl, rfl, trivial⟩; clear hE277
         refine p_tn ?_
         have hE279 := hE278.sub (L' := [(0, .slice apA ((ap).length) apC), (4, .slice b53 (((F_s_ClausesFormula ap).1).length / 2 : Nat) c54), (5, .int .i64 ((F_s_ClausesFormula ap).2)), (7, .slice b91 (((F_ClausesFormula ap).1).length / 2 : Nat) c92), (61, .bool true)]) ⟨rfl, rfl, rfl, rfl, rfl, trivial⟩
         have hS280 := (St.pick (Γ' := [.nest 22 1 (some 2) b76 c77 h78 (markedL ap 1), .nest 22 1 (some 2) b176 c177 h178 ap, .own 94 2 b91 (((F_ClausesFormula ap).1).length / 2 : Nat) c92 ((F_ClausesFormula ap).1), .own 94 2 b53 (((F_s_ClausesFormula ap).1).length / 2 : Nat) c54 ((F_s_ClausesFormula ap).1), .nest 22 1 (some 2) b43 c44 h45 ap, .rdn 1 apA ((ap).length) apC apQ ap]) hS258 [0, 1, 2, 3, 4, 5] (by decide) rfl)
         exact ⟨(by rw [hb266, hb222]; exact hE279), hS280⟩
        ·
         have hE281 := hE265; (try rw [hb266] at hE281); clear hE265
         have ht282 := bn_f hb266
         have hp283 := of_decide_eq_true ht282
         refine q_step (v := .int .i64 ((F_ClausesFormula ap).2)) hE281 (y_move rfl) rfl rfl rfl ?_; intro a284 hE285; clear hE281
         refine q_step (v := .int .i64 ((F_s_ClausesFormula ap).2)) hE285 (y_move rfl) rfl rfl rfl ?_; intro a286 hE287; clear hE285
         refine q_step (v := .bool (!decide (((F_ClausesFormula ap).2) = ((F_s_ClausesFormula ap).2)))) hE287 (y_neq rfl rfl) rfl rfl rfl ?_; intro a288 hE289; clear hE287
         refine q_step (v := .bool (!decide (((F_ClausesFormula ap).2) = ((F_s_ClausesFormula ap).2)))) hE289 (y_pick (b := false) rfl rfl) rfl rfl rfl ?_; intro a290 hE291; clear hE289
         refine c_nil ?_
         have hE292 := hE291.sub (L' := [(0, .slice apA ((ap).length) apC), (4, .slice b53 (((F_s_ClausesFormula ap).1).length / 2 : Nat) c54), (5, .int .i64 ((F_s_ClausesFormula ap).2)), (7, .slice b91 (((F_ClausesFormula ap).1).length / 2 : Nat) c92), (61, .bool (!decide (((F_ClausesFormula ap).2) = ((F_s_ClausesFormula ap).2))))]) ⟨rfl, rfl, rfl, rfl, rfl, trivial⟩; clear hE291
         refine p_tn ?_
         have hE293 := hE292.sub (L' := [(0, .slice apA ((ap).length) apC), (4, .slice b53 (((F_s_ClausesFormula ap).1).length / 2 : Nat) c54), (5, .int .i64 ((F_s_ClausesFormula ap).2)), (7, .slice b91 (((F_ClausesFormula ap).1).length / 2 : Nat) c92), (61, .bool (!decide (((F_ClausesFormula ap).2) = ((F_s_ClausesFormula ap).2))))]) ⟨rfl, rfl, rfl, rfl, rfl, trivial⟩
         have hS294 := (St.pick (Γ' := [.nest 22 1 (some 2) b76 c77 h78 (markedL ap 1), .nest 22 1 (some 2) b176 c177 h178 ap, .own 94 2 b91 (((F_ClausesFormula ap).1).length / 2 : Nat) c92 ((F_ClausesFormula ap).1), .own 94 2 b53 (((F_s_ClausesFormula ap).1).length / 2 : Nat) c54 ((F_s_ClausesFormula ap).1), .nest 22 1 (some 2) b43 c44 h45 ap, .rdn 1 apA ((ap).length) apC apQ ap]) hS258 [0, 1, 2, 3, 4, 5] (by decide) rfl)
         exact ⟨(by rw [hb266, hb222]; exact hE293), hS294⟩
      ·
       rintro a295 w296 ⟨hE297, hS298⟩; clear hE215 hS210
       refine c_cond hE297 rfl (fun ht300 => ?_) (fun ht300 => ?_)
       ·
        have hE301 := hE297; rw [ht300] at hE301; clear hE297
        refine c_seq ?_
        refine c_reg ?_
        refine q_step (v := .bool false) hE301 (y_assign rfl) rfl rfl rfl ?_; intro a302 hE303; clear hE301
        refine c_nil ?_
        have hE304 := hE303.sub (L' := [(2, .bool false)]) ⟨rfl, trivial⟩; clear hE303
        refine p_tn ?_
        refine wp_ret ?_
        refine p_tr ?_
        have hF : F_l_FnExactClausesFormula ap = false := by unfold F_l_FnExactClausesFormula; rw [ht300, ht189, ht154, ht26]; first | done | rfl
        refine c_ret1 hE304 rfl rfl ?_
        exact ⟨(by rw [hF]; first | done | (dsimp only; done) | rfl), hS298.ext⟩
       ·
        obtain ⟨ht305, ht306⟩ := bor_f ht300
        have hp307 := of_decide_eq_false ht305
        obtain ⟨ht308, ht309⟩ := bor_f ht306
        have ht310 := bn_f ht308
        have hp311 := of_decide_eq_true ht310
        have ht312 := bn_f ht309
        have hp313 := of_decide_eq_true ht312
        have hE314 := hE297; rw [ht300] at hE314; clear hE297
        refine wp_skip ?_
        refine p_tn ?_
        refine c_seq ?_
        refine c_reg ?_
        refine q_step (v := .int .i64 1) hE314 (y_assign rfl) rfl rfl rfl ?_; intro a315 hE316; clear hE314
        refine c_nil ?_
        have hE317 := hE316.sub (L' := [(0, .slice apA ((ap).length) apC), (4, .slice b53 (((F_s_ClausesFormula ap).1).length / 2 : Nat) c54), (5, .int .i64 ((F_s_ClausesFormula ap).2)), (7, .slice b91 (((F_ClausesFormula ap).1).length / 2 : Nat) c92), (10, .int .i64 1)]) ⟨rfl, rfl, rfl, rfl, rfl, trivial⟩; clear hE316
        refine p_tn ?_
        refine c_seq ?_
        refine c_reg ?_
        refine q_step (v := .slice b91 (((F_ClausesFormula ap).1).length / 2 : Nat) c92) hE317 (y_move rfl) rfl rfl rfl ?_; intro a318 hE319; clear hE317
        refine q_step (v := .int .i64 1) hE319 (y_move rfl) rfl rfl rfl ?_; intro a320 hE321; clear hE319
        have hS328 := (St.pick (Γ' := [.own 94 2 b91 (((F_ClausesFormula ap).1).length / 2 : Nat) c92 ((F_ClausesFormula ap).1), .nest 22 1 (some 2) b76 c77 h78 (markedL ap 1), .nest 22 1 (some 2) b176 c177 h178 ap, .own 94 2 b53 (((F_s_ClausesFormula ap).1).length / 2 : Nat) c54 ((F_s_ClausesFormula ap).1), .nest 22 1 (some 2) b43 c44 h45 ap, .rdn 1 apA ((ap).length) apC apQ ap]) hS298 [2, 0, 1, 3, 4, 5] (by decide) rfl); clear hS298
        refine l_step hE321 rfl (l_call (f := 29) (argv := [.slice b91 (((F_ClausesFormula ap).1).length / 2 : Nat) c92, .int .i64 1]) hE321 (fun _ => cf_l_markNodeS _ _) rfl rfl (d_l_markNodeS b91 (((F_ClausesFormula ap).1).length / 2 : Nat) c92 ((F_ClausesFormula ap).1) 1 w296 w [.nest 22 1 (some 2) b76 c77 h78 (markedL ap 1), .nest 22 1 (some 2) b176 c177 h178 ap, .own 94 2 b53 (((F_s_ClausesFormula ap).1).length / 2 : Nat) c54 ((F_s_ClausesFormula ap).1), .nest 22 1 (some 2) b43 c44 h45 ap, .rdn 1 apA ((ap).length) apC apQ ap] hS328 (by first | omega | (simp only [marked_len]; omega) | (simp only [marked_len] at *; omega)) (by first | omega | (simp only [marked_len]; omega) | (simp only [marked_len] at *; omega)) (by first | omega | (simp only [marked_len]; omega) | (simp only [marked_len] at *; omega))) ?_)
        rintro _ w323 ⟨rfl, hS326⟩ a324 hE325; clear hE321 hS328
        refine q_step (v := .int .i64 (1 + (((F_ClausesFormula ap).1).length : Int))) hE325 (y_assign rfl) rfl rfl rfl ?_; intro a329 hE330; clear hE325
        refine c_nil ?_
        have hE331 := hE330.sub (L' := [(0, .slice apA ((ap).length) apC), (4, .slice b53 (((F_s_ClausesFormula ap).1).length / 2 : Nat) c54), (5, .int .i64 ((F_s_ClausesFormula ap).2)), (7, .slice b91 (((F_ClausesFormula ap).1).length / 2 : Nat) c92), (10, .int .i64 (1 + (((F_ClausesFormula ap).1).length : Int)))]) ⟨rfl, rfl, rfl, rfl, rfl, trivial⟩; clear hE330
        refine p_tn ?_
        refine c_seq ?_
        refine c_reg ?_
        refine q_step (v := .int .i64 1) hE331 (y_assign rfl) rfl rfl rfl ?_; intro a332 hE333; clear hE331
        refine c_nil ?_
        have hE334 := hE333.sub (L' := [(0, .slice apA ((ap).length) apC), (4, .slice b53 (((F_s_ClausesFormula ap).1).length / 2 : Nat) c54), (5, .int .i64 ((F_s_ClausesFormula ap).2)), (7, .slice b91 (((F_ClausesFormula ap).1).length / 2 : Nat) c92), (10, .int .i64 (1 + (((F_ClausesFormula ap).1).length : Int))), (11, .int .i64 1)]) ⟨rfl, rfl, rfl, rfl, rfl, rfl, trivial⟩; clear hE333
        refine p_tn ?_
        refine c_seq ?_
        refine c_reg ?_
        refine q_step (v := .slice b91 (((F_ClausesFormula ap).1).length / 2 : Nat) c92) hE334 (y_move rfl) rfl rfl rfl ?_; intro a335 hE336; clear hE334
        refine q_step (v := .int .i64 1) hE336 (y_move rfl) rfl rfl rfl ?_; intro a337 hE338; clear hE336
        refine l_step hE338 rfl (l_call (f := 30) (argv := [.slice b91 (((F_ClausesFormula ap).1).length / 2 : Nat) c92, .int .i64 1]) hE338 (fun _ => cf_l_heldNodeS _ _) rfl rfl (c_l_heldNodeS b91 (((F_ClausesFormula ap).1).length / 2 : Nat) c92 (marked ((F_ClausesFormula ap).1).length 1) 1 w323 (St.rdO (i := 0) hS326 rfl) (by first | omega | (simp only [marked_len]; omega) | (simp only [marked_len] at *; omega)) (by first | omega | (simp only [marked_len]; omega) | (simp only [marked_len] at *; omega)) (by first | omega | (simp only [marked_len]; omega) | (simp only [marked_len] at *; omega))) ?_)
        rintro _ w340 ⟨rfl, he344⟩ a341 hE342; clear hE338
        have hS343 := St.go hS326 he344; clear hS326
        refine q_step (v := .int .i64 (F_l_heldNodeS (marked ((F_ClausesFormula ap).1).length 1) 1)) hE342 (y_assign rfl) rfl rfl rfl ?_; intro a345 hE346; clear hE342
        refine c_nil ?_
        have hE347 := hE346.sub (L' := [(0, .slice apA ((ap).length) apC), (4, .slice b53 (((F_s_ClausesFormula ap).1).length / 2 : Nat) c54), (5, .int .i64 ((F_s_ClausesFormula ap).2)), (7, .slice b91 (((F_ClausesFormula ap).1).length / 2 : Nat) c92), (10, .int .i64 (1 + (((F_ClausesFormula ap).1).length : Int))), (11, .int .i64 (F_l_heldNodeS (marked ((F_ClausesFormula ap).1).length 1) 1))]) ⟨rfl, rfl, rfl, rfl, rfl, rfl, trivial⟩; clear hE346
        refine p_tn ?_
        refine c_seq ?_
        refine c_seq ?_
        refine c_reg ?_
        refine q_step (v := .int .i64 (F_l_heldNodeS (marked ((F_ClausesFormula ap).1).length 1) 1)) hE347 (y_move rfl) rfl rfl rfl ?_; intro a348 hE349; clear hE347
        refine q_step (v := .bool (decide ((F_l_heldNodeS (marked ((F_ClausesFormula ap).1).length 1) 1) < 0))) hE349 (y_lss rfl rfl) rfl rfl rfl ?_; intro a350 hE351; clear hE349
        refine c_nil ?_
        have hE352 := hE351.sub (L' := [(0, .slice apA ((ap).length) apC), (4, .slice b53 (((F_s_ClausesFormula ap).1).length / 2 : Nat) c54), (5, .int .i64 ((F_s_ClausesFormula ap).2)), (7, .slice b91 (((F_ClausesFormula ap).1).length / 2 : Nat) c92), (10, .int .i64 (1 + (((F_ClausesFormula ap).1).length : Int))), (11, .int .i64 (F_l_heldNodeS (marked ((F_ClausesFormula ap).1).length 1) 1)), (69, .bool (decide ((F_l_heldNodeS (marked ((F_ClausesFormula ap).1).length 1) 1) < 0)))]) ⟨rfl, rfl, rfl, rfl, rfl, rfl, rfl, trivial⟩; clear hE351
        refine p_tn ?_
        refine c_cond hE352 rfl (fun ht353 => ?_) (fun ht353 => ?_)
        ·
         have hp354 := of_decide_eq_true ht353
         have hE355 := hE352; rw [ht353] at hE355; clear hE352
         refine c_seq ?_
         refine c_reg ?_
         refine q_step (v := .bool false) hE355 (y_assign rfl) rfl rfl rfl ?_; intro a356 hE357; clear hE355
         refine c_nil ?_
         have hE358 := hE357.sub (L' := [(2, .bool false)]) ⟨rfl, trivial⟩; clear hE357
         refine p_tn ?_
         refine wp_ret ?_
         refine p_tr ?_
         have hF : F_l_FnExactClausesFormula ap = false := by unfold F_l_FnExactClausesFormula; rw [ht353, ht300, ht189, ht154, ht26]; first | done | rfl
         refine c_ret1 hE358 rfl rfl ?_
         exact ⟨(by rw [hF]; first | done | (dsimp only; done) | rfl), hS343.ext⟩
        ·
         have hp359 := of_decide_eq_false ht353
         have hE360 := hE352; rw [ht353] at hE360; clear hE352
         refine wp_skip ?_
         refine p_tn ?_
         refine c_seq ?_
         refine c_seq ?_
         refine c_reg ?_
         refine q_step (v := .int .i64 (F_l_heldNodeS (marked ((F_ClausesFormula ap).1).length 1) 1)) hE360 (y_move rfl) rfl rfl rfl ?_; intro a361 hE362; clear hE360
         refine q_step (v := .int .i64 (1 + (((F_ClausesFormula ap).1).length : Int))) hE362 (y_move rfl) rfl rfl rfl ?_; intro a363 hE364; clear hE362
         refine q_step (v := .bool (!decide ((F_l_heldNodeS (marked ((F_ClausesFormula ap).1).length 1) 1) = (1 + (((F_ClausesFormula ap).1).length : Int))))) hE364 (y_neq rfl rfl) rfl rfl rfl ?_; intro a365 hE366; clear hE364
         refine c_nil ?_
         have hE367 := hE366.sub (L' := [(0, .slice apA ((ap).length) apC), (4, .slice b53 (((F_s_ClausesFormula ap).1).length / 2 : Nat) c54), (5, .int .i64 ((F_s_ClausesFormula ap).2)), (7, .slice b91 (((F_ClausesFormula ap).1).length / 2 : Nat) c92), (10, .int .i64 (1 + (((F_ClausesFormula ap).1).length : Int))), (72, .bool (!decide ((F_l_heldNodeS (marked ((F_ClausesFormula ap).1).length 1) 1) = (1 + (((F_ClausesFormula ap).1).length : Int)))))]) ⟨rfl, rfl, rfl, rfl, rfl, rfl, trivial⟩; clear hE366
         refine p_tn ?_
         refine c_cond hE367 rfl (fun ht368 => ?_) (fun ht368 => ?_)
         ·
          have ht369 := bn_t ht368
          have hp370 := of_decide_eq_false ht369
          have hE371 := hE367; rw [ht368] at hE371; clear hE367
          refine c_seq ?_
          refine c_reg ?_
          refine q_step (v := .bool false) hE371 (y_assign rfl) rfl rfl rfl ?_; intro a372 hE373; clear hE371
          refine c_nil ?_
          have hE374 := hE373.sub (L' := [(2, .bool false)]) ⟨rfl, trivial⟩; clear hE373
          refine p_tn ?_
          refine wp_ret ?_
          refine p_tr ?_
          have hF : F_l_FnExactClausesFormula ap = false := by unfold F_l_FnExactClausesFormula; rw [ht368, ht353, ht300, ht189, ht154, ht26]; first | done | rfl
          refine c_ret1 hE374 rfl rfl ?_
          exact ⟨(by rw [hF]; first | done | (dsimp only; done) | rfl), hS343.ext⟩
         ·
          have ht375 := bn_f ht368
          have hp376 := of_decide_eq_true ht375
          have hE377 := hE367; rw [ht368] at hE377; clear hE367
          refine wp_skip ?_
          refine p_tn ?_
          refine c_seq ?_
          refine c_reg ?_
          refine q_step (v := .slice apA ((ap).length) apC) hE377 (y_move rfl) rfl rfl rfl ?_; intro a378 hE379; clear hE377
          refine l_step hE379 rfl (l_call (f := 37) (argv := [.slice apA ((ap).length) apC]) hE379 (fun _ => cf_l_toInt64SS _ _) rfl rfl (d_l_toInt64SS apA ((ap).length) apC apQ ap w340 (St.rdNr (i := 5) hS343 rfl) (by first | omega | (simp only [marked_len]; omega) | (simp only [marked_len] at *; omega)) (rows_tot (by omega))) ?_)
          rintro _ w381 ⟨b386, c387, h388, rfl, ho389, he385⟩ a382 hE383; clear hE379
          have hS384 := St.ownN hS343 he385 ho389; clear hS343
          refine l_step hE383 rfl (l_call (f := 38) (argv := [.slice b386 ((ap).length) c387]) hE383 (fun _ => cf_ClausesFormula _ _) rfl rfl (c_ClausesFormula b386 ((ap).length) c387 h388 ap w381 (St.rdNo (i := 0) hS384 rfl) (by first | omega | (simp only [marked_len]; omega) | (simp only [marked_len] at *; omega))) ?_)
          rintro _ w391 ⟨b396, c397, rfl, ho398, he395⟩ a392 hE393; clear hE383
          have hf399 := ClausesFormula_len ap
          have hS394 := St.own hS384 he395 ho398; clear hS384
          refine q_step (v := .tuple #[.slice b396 (((F_ClausesFormula ap).1).length / 2 : Nat) c397, .int .i64 ((F_ClausesFormula ap).2)]) hE393 (y_move rfl) rfl rfl rfl ?_; intro a400 hE401; clear hE393
          refine q_step (v := .slice b396 (((F_ClausesFormula ap).1).length / 2 : Nat) c397) hE401 (y_extract rfl rfl) rfl rfl rfl ?_; intro a402 hE403; clear hE401
          refine q_step (v := .int .i64 ((F_ClausesFormula ap).2)) hE403 (y_extract rfl rfl) rfl rfl rfl ?_; intro a404 hE405; clear hE403
          refine q_step (v := .slice b396 (((F_ClausesFormula ap).1).length / 2 : Nat) c397) hE405 (y_assign rfl) rfl rfl rfl ?_; intro a406 hE407; clear hE405
          refine q_step (v := .int .i64 ((F_ClausesFormula ap).2)) hE407 (y_assign rfl) rfl rfl rfl ?_; intro a408 hE409; clear hE407
          refine c_nil ?_
          have hE410 := hE409.sub (L' := [(4, .slice b53 (((F_s_ClausesFormula ap).1).length / 2 : Nat) c54), (5, .int .i64 ((F_s_ClausesFormula ap).2)), (7, .slice b91 (((F_ClausesFormula ap).1).length / 2 : Nat) c92), (10, .int .i64 (1 + (((F_ClausesFormula ap).1).length : Int))), (12, .slice b396 (((F_ClausesFormula ap).1).length / 2 : Nat) c397), (13, .int .i64 ((F_ClausesFormula ap).2))]) ⟨rfl, rfl, rfl, rfl, rfl, rfl, trivial⟩; clear hE409
          refine p_tn ?_
          refine c_seq ?_
          refine c_cut (fun a' w' => E a' 96 [(7, .slice b91 (((F_ClausesFormula ap).1).length / 2 : Nat) c92), (10, .int .i64 (1 + (((F_ClausesFormula ap).1).length : Int))), (87, .bool ((!(decide (((F_ClausesFormula ap).1) = ((F_s_ClausesFormula ap).1)))) || (!decide (((F_ClausesFormula ap).2) = ((F_s_ClausesFormula ap).2)))))] ∧ St w w' [.own 94 2 b396 (((F_ClausesFormula ap).1).length / 2 : Nat) c397 ((F_ClausesFormula ap).1), .nest 22 1 (some 2) b386 c387 h388 ap, .own 94 2 b91 (((F_ClausesFormula ap).1).length / 2 : Nat) c92 (marked ((F_ClausesFormula ap).1).length 1), .nest 22 1 (some 2) b76 c77 h78 (markedL ap 1), .nest 22 1 (some 2) b176 c177 h178 ap, .own 94 2 b53 (((F_s_ClausesFormula ap).1).length / 2 : Nat) c54 ((F_s_ClausesFormula ap).1), .nest 22 1 (some 2) b43 c44 h45 ap, .rdn 1 apA ((ap).length) apC apQ ap]) ?_ ?_
          ·
           refine c_reg ?_
           refine q_step (v := .slice b396 (((F_ClausesFormula ap).1).length / 2 : Nat) c397) hE410 (y_move rfl) rfl rfl rfl ?_; intro a411 hE412; clear hE410
           refine q_step (v := .slice b53 (((F_s_ClausesFormula ap).1).length / 2 : Nat) c54) hE412 (y_move rfl) rfl rfl rfl ?_; intro a413 hE414; clear hE412
           refine l_step hE414 rfl (l_call (f := 24) (argv := [.slice b396 (((F_ClausesFormula ap).1).length / 2 : Nat) c397, .slice b53 (((F_s_ClausesFormula ap).1).length / 2 : Nat) c54]) hE414 (fun _ => cf_l_eqNodeS _ _) rfl rfl (d_l_eqNodeS b396 (((F_ClausesFormula ap).1).length / 2 : Nat) c397 ((F_ClausesFormula ap).1) b53 (((F_s_ClausesFormula ap).1).length / 2 : Nat) c54 ((F_s_ClausesFormula ap).1) w391 (St.rdO (i := 0) hS394 rfl) (St.rdO (i := 5) hS394 rfl)) ?_)
           rintro _ w416 ⟨rfl, he420⟩ a417 hE418; clear hE414
           have hS419 := St.go hS394 he420; clear hS394
           refine q_step (v := .bool (!(decide (((F_ClausesFormula ap).1) = ((F_s_ClausesFormula ap).1))))) hE418 (y_not rfl) rfl rfl rfl ?_; intro a421 hE422; clear hE418
           refine q_step (v := .bool (!(decide (((F_ClausesFormula ap).1) = ((F_s_ClausesFormula ap).1))))) hE422 (y_move rfl) rfl rfl rfl ?_; intro a423 hE424; clear hE422
           rcases Bool.eq_false_or_eq_true (!(decide (((F_ClausesFormula ap).1) = ((F_s_ClausesFormula ap).1)))) with hb425 | hb425
           ·
            have hE426 := hE424; (try rw [hb425] at hE426); clear hE424
            have ht427 := bn_t hb425
            have hp428 := of_decide_eq_false ht427
            refine q_skip hE426 rfl rfl rfl ?_; intro a429 hE430; clear hE426
            refine q_skip hE430 rfl rfl rfl ?_; intro a431 hE432; clear hE430
            refine q_skip hE432 rfl rfl rfl ?_; intro a433 hE434; clear hE432
            refine q_step (v := .bool true) hE434 (y_pick (b := true) rfl rfl) rfl rfl rfl ?_; intro a435 hE436; clear hE434
            refine c_nil ?_
            have hE437 := hE436.sub (L' := [(7, .slice b91 (((F_ClausesFormula ap).1).length / 2 : Nat) c92), (10, .int .i64 (1 + (((F_ClausesFormula ap).1).length : Int))), (87, .bool true)]) ⟨rfl, rfl, rfl, trivial⟩; clear hE436
            refine p_tn ?_
            have hE438 := hE437.sub (L' := [(7, .slice b91 (((F_ClausesFormula ap).1).length / 2 : Nat) c92), (10, .int .i64 (1 + (((F_ClausesFormula ap).1).length : Int))), (87, .bool true)]) ⟨rfl, rfl, rfl, trivial⟩
            have hS439 := (St.pick (Γ' := [.own 94 2 b396 (((F_ClausesFormula ap).1).length / 2 : Nat) c397 ((F_ClausesFormula ap).1), .nest 22 1 (some 2) b386 c387 h388 ap, .own 94 2 b91 (((F_ClausesFormula ap).1).length / 2 : Nat) c92 (marked ((F_ClausesFormula ap).1).length 1), .nest 22 1 (some 2) b76 c77 h78 (markedL ap 1), .nest 22 1 (some 2) b176 c177 h178 ap, .own 94 2 b53 (((F_s_ClausesFormula ap).1).length / 2 : Nat) c54 ((F_s_ClausesFormula ap).1), .nest 22 1 (some 2) b43 c44 h45 ap, .rdn 1 apA ((ap).length) apC apQ ap]) hS419 [0, 1, 2, 3, 4, 5, 6, 7] (by decide) rfl)
            exact ⟨(by rw [hb425]; exact hE438), hS439⟩
           ·
            have hE440 := hE424; (try rw [hb425] at hE440); clear hE424
            have ht441 := bn_f hb425
            have hp442 := of_decide_eq_true ht441
            refine q_step (v := .int .i64 ((F_ClausesFormula ap).2)) hE440 (y_move rfl) rfl rfl rfl ?_; intro a443 hE444; clear hE440
            refine q_step (v := .int .i64 ((F_s_ClausesFormula ap).2)) hE444 (y_move rfl) rfl rfl rfl ?_; intro a445 hE446; clear hE444
            refine q_step (v := .bool (!decide (((F_ClausesFormula ap).2) = ((F_s_ClausesFormula ap).2)))) hE446 (y_neq rfl rfl) rfl rfl rfl ?_; intro a447 hE448; clear hE446
            refine q_step (v := .bool (!decide (((F_ClausesFormula ap).2) = ((F_s_ClausesFormula ap).2)))) hE448 (y_pick (b := false) rfl rfl) rfl rfl rfl ?_; intro a449 hE450; clear hE448
            refine c_nil ?_
            have hE451 := hE450.sub (L' := [(7, .slice b91 (((F_ClausesFormula ap).1).length / 2 : Nat) c92), (10, .int .i64 (1 + (((F_ClausesFormula ap).1).length : Int))), (87, .bool (!decide (((F_ClausesFormula ap).2) = ((F_s_ClausesFormula ap).2))))]) ⟨rfl, rfl, rfl, trivial⟩; clear hE450
            refine p_tn ?_
            have hE452 := hE451.sub (L' := [(7, .slice b91 (((F_ClausesFormula ap).1).length / 2 : Nat) c92), (10, .int .i64 (1 + (((F_ClausesFormula ap).1).length : Int))), (87, .bool (!decide (((F_ClausesFormula ap).2) = ((F_s_ClausesFormula ap).2))))]) ⟨rfl, rfl, rfl, trivial⟩
            have hS453 := (St.pick (Γ' := [.own 94 2 b396 (((F_ClausesFormula ap).1).length / 2 : Nat) c397 ((F_ClausesFormula ap).1), .nest 22 1 (some 2) b386 c387 h388 ap, .own 94 2 b91 (((F_ClausesFormula ap).1).length / 2 : Nat) c92 (marked ((F_ClausesFormula ap).1).length 1), .nest 22 1 (some 2) b76 c77 h78 (markedL ap 1), .nest 22 1 (some 2) b176 c177 h178 ap, .own 94 2 b53 (((F_s_ClausesFormula ap).1).length / 2 : Nat) c54 ((F_s_ClausesFormula ap).1), .nest 22 1 (some 2) b43 c44 h45 ap, .rdn 1 apA ((ap).length) apC apQ ap]) hS419 [0, 1, 2, 3, 4, 5, 6, 7] (by decide) rfl)
            exact ⟨(by rw [hb425]; exact hE452), hS453⟩
          ·
           rintro a454 w455 ⟨hE456, hS457⟩; clear hE410 hS394
           have hE459 := hE456; rw [ht154] at hE459; clear hE456
           refine c_false hE459 rfl ?_
           refine wp_skip ?_
           refine p_tn ?_
           refine c_seq ?_
           refine c_reg ?_
           refine q_step (v := .int .i64 1) hE459 (y_assign rfl) rfl rfl rfl ?_; intro a460 hE461; clear hE459
           refine c_nil ?_
           have hE462 := hE461.sub (L' := [(7, .slice b91 (((F_ClausesFormula ap).1).length / 2 : Nat) c92), (10, .int .i64 (1 + (((F_ClausesFormula ap).1).length : Int))), (11, .int .i64 1)]) ⟨rfl, rfl, rfl, trivial⟩; clear hE461
           refine p_tn ?_
           refine c_seq ?_
           refine c_reg ?_
           refine q_step (v := .slice b91 (((F_ClausesFormula ap).1).length / 2 : Nat) c92) hE462 (y_move rfl) rfl rfl rfl ?_; intro a463 hE464; clear hE462
           refine q_step (v := .int .i64 1) hE464 (y_move rfl) rfl rfl rfl ?_; intro a465 hE466; clear hE464
           refine l_step hE466 rfl (l_call (f := 30) (argv := [.slice b91 (((F_ClausesFormula ap).1).length / 2 : Nat) c92, .int .i64 1]) hE466 (fun _ => cf_l_heldNodeS _ _) rfl rfl (c_l_heldNodeS b91 (((F_ClausesFormula ap).1).length / 2 : Nat) c92 (marked ((F_ClausesFormula ap).1).length 1) 1 w455 (St.rdO (i := 2) hS457 rfl) (by first | omega | (simp only [marked_len]; omega) | (simp only [marked_len] at *; omega)) (by first | omega | (simp only [marked_len]; omega) | (simp only [marked_len] at *; omega)) (by first | omega | (simp only [marked_len]; omega) | (simp only [marked_len] at *; omega))) ?_)
           rintro _ w468 ⟨rfl, he472⟩ a469 hE470; clear hE466
           have hS471 := St.go hS457 he472; clear hS457
           refine q_step (v := .int .i64 (F_l_heldNodeS (marked ((F_ClausesFormula ap).1).length 1) 1)) hE470 (y_assign rfl) rfl rfl rfl ?_; intro a473 hE474; clear hE470
           refine c_nil ?_
           have hE475 := hE474.sub (L' := [(10, .int .i64 (1 + (((F_ClausesFormula ap).1).length : Int))), (11, .int .i64 (F_l_heldNodeS (marked ((F_ClausesFormula ap).1).length 1) 1))]) ⟨rfl, rfl, trivial⟩; clear hE474
           refine p_tn ?_
           refine c_seq ?_
           refine c_seq ?_
           refine c_reg ?_
           refine q_step (v := .int .i64 (F_l_heldNodeS (marked ((F_ClausesFormula ap).1).length 1) 1)) hE475 (y_move rfl) rfl rfl rfl ?_; intro a476 hE477; clear hE475
           refine q_step (v := .bool (decide ((F_l_heldNodeS (marked ((F_ClausesFormula ap).1).length 1) 1) < 0))) hE477 (y_lss rfl rfl) rfl rfl rfl ?_; intro a478 hE479; clear hE477
           refine c_nil ?_
           have hE480 := hE479.sub (L' := [(10, .int .i64 (1 + (((F_ClausesFormula ap).1).length : Int))), (11, .int .i64 (F_l_heldNodeS (marked ((F_ClausesFormula ap).1).length 1) 1)), (92, .bool (decide ((F_l_heldNodeS (marked ((F_ClausesFormula ap).1).length 1) 1) < 0)))]) ⟨rfl, rfl, rfl, trivial⟩; clear hE479
           refine p_tn ?_
           have hE481 := hE480; rw [ht353] at hE481; clear hE480
           refine c_false hE481 rfl ?_
           refine wp_skip ?_
           refine p_tn ?_
           refine c_seq ?_
           refine c_seq ?_
           refine c_reg ?_
           refine q_step (v := .int .i64 (F_l_heldNodeS (marked ((F_ClausesFormula ap).1).length 1) 1)) hE481 (y_move rfl) rfl rfl rfl ?_; intro a482 hE483; clear hE481
           refine q_step (v := .int .i64 (1 + (((F_ClausesFormula ap).1).length : Int))) hE483 (y_move rfl) rfl rfl rfl ?_; intro a484 hE485; clear hE483
           refine q_step (v := .bool (!decide ((F_l_heldNodeS (marked ((F_ClausesFormula ap).1).length 1) 1) = (1 + (((F_ClausesFormula ap).1).length : Int))))) hE485 (y_neq rfl rfl) rfl rfl rfl ?_; intro a486 hE487; clear hE485
           refine c_nil ?_
           have hE488 := hE487.sub (L' := [(95, .bool (!decide ((F_l_heldNodeS (marked ((F_ClausesFormula ap).1).length 1) 1) = (1 + (((F_ClausesFormula ap).1).length : Int)))))]) ⟨rfl, trivial⟩; clear hE487
           refine p_tn ?_
           have hE489 := hE488; rw [ht368] at hE489; clear hE488
           refine c_false hE489 rfl ?_
           refine wp_skip ?_
           refine p_tn ?_
           refine c_seq ?_
           refine c_reg ?_
           refine q_step (v := .bool true) hE489 (y_assign rfl) rfl rfl rfl ?_; intro a490 hE491; clear hE489
           refine c_nil ?_
           have hE492 := hE491.sub (L' := [(2, .bool true)]) ⟨rfl, trivial⟩; clear hE491
           refine p_tn ?_
           refine wp_ret ?_
           have hF : F_l_FnExactClausesFormula ap = true := by unfold F_l_FnExactClausesFormula; rw [ht368, ht353, ht300, ht189, ht154, ht26]; first | done | rfl
           refine c_ret1 hE492 rfl rfl ?_
           exact ⟨(by rw [hF]; first | done | (dsimp only; done) | rfl), hS471.ext⟩

theorem FnExactClausesFormula_true (ap : List (List Int)) : F_l_FnExactClausesFormula ap = true := by
  have hv := s_ClausesFormula_ev ap
  unfold F_l_FnExactClausesFormula
  rw [ClausesFormula_eq]
  rw [heldNodeS_eq _ _ hv]
  simp
  omega


end Go.Proofs.Ytkilkfhjfobcdaa
