/- GLThen: models and contracts, printed by wip/gen/gen.py -/
import Derived.Test.YtgcmfjliklcbdaaGA
import Derived.Test.YtgcmfjliklcbdaaGT
set_option linter.unusedVariables false
set_option linter.unusedSimpArgs false
namespace Go.Proofs.Ytgcmfjliklcbdaa
open Go.RowKit

def F_l_FnExactThenMorphisms (fp0 : Int) (fp1 : List Int) (gp0 : Int) (gp1 : List Int) (qp0 : Int) (qp1 : List Int) (first : List Int) (second : List Int) : Bool :=
  bif (decide (1048576 < (first.length : Int))) then true else (bif (decide (1048576 < (second.length : Int))) then true else (bif (decide ((F_l_szFrame fp0 fp1 1048576) < 0)) then true else (bif (decide ((F_l_szFrame gp0 gp1 (F_l_szFrame fp0 fp1 1048576)) < 0)) then true else (bif (decide ((F_l_szFrame qp0 qp1 (F_l_szFrame gp0 gp1 (F_l_szFrame fp0 fp1 1048576))) < 0)) then true else (bif ((!(decide (((F_ThenMorphisms fp0 fp1 gp0 gp1 qp0 qp1 first second).1) = ((F_s_ThenMorphisms fp0 fp1 gp0 gp1 qp0 qp1 first second).1)))) || (!decide (((F_ThenMorphisms fp0 fp1 gp0 gp1 qp0 qp1 first second).2) = ((F_s_ThenMorphisms fp0 fp1 gp0 gp1 qp0 qp1 first second).2)))) then false else (bif (!(decide ((fp0, fp1) = (fp0, fp1)))) then false else (bif (!(decide ((gp0, gp1) = (gp0, gp1)))) then false else (bif (!(decide ((qp0, qp1) = (qp0, qp1)))) then false else (bif (!(decide (first = first))) then false else (bif (!(decide (second = second))) then false else (bif ((decide ((((((1 + (fp1.length : Int)) + (gp1.length : Int)) + (qp1.length : Int)) + (first.length : Int)) + (second.length : Int)) < 0)) || ((!(decide (((F_ThenMorphisms fp0 fp1 gp0 gp1 qp0 qp1 first second).1) = ((F_s_ThenMorphisms fp0 fp1 gp0 gp1 qp0 qp1 first second).1)))) || (!decide (((F_ThenMorphisms fp0 fp1 gp0 gp1 qp0 qp1 first second).2) = ((F_s_ThenMorphisms fp0 fp1 gp0 gp1 qp0 qp1 first second).2))))) then false else (bif (decide ((F_l_heldInt64S (marked ((F_ThenMorphisms fp0 fp1 gp0 gp1 qp0 qp1 first second).1).length 1) 1) < 0)) then false else (bif (!decide ((F_l_heldInt64S (marked ((F_ThenMorphisms fp0 fp1 gp0 gp1 qp0 qp1 first second).1).length 1) 1) = (1 + (((F_ThenMorphisms fp0 fp1 gp0 gp1 qp0 qp1 first second).1).length : Int)))) then false else true)))))))))))))
theorem cf_l_FnExactThenMorphisms (args : Array Value) (w : World) : (callFunc 4 args).run Try.prog w = .ok (.enter 4 args) w := by kernel_rfl
set_option maxRecDepth 100000 in
theorem c_l_FnExactThenMorphisms (fp0 : Int) (fp1A : Option Addr) (fp1N fp1C : Nat) (fp1 : List Int) (gp0 : Int) (gp1A : Option Addr) (gp1N gp1C : Nat) (gp1 : List Int) (qp0 : Int) (qp1A : Option Addr) (qp1N qp1C : Nat) (qp1 : List Int) (firstA : Option Addr) (firstN firstC : Nat) (first : List Int) (secondA : Option Addr) (secondN secondC : Nat) (second : List Int) (w : World) (fp1R : RdS w 1 fp1A fp1N fp1C fp1) (gp1R : RdS w 1 gp1A gp1N gp1C gp1) (qp1R : RdS w 1 qp1A qp1N qp1C qp1) (firstR : RdS w 1 firstA firstN firstC first) (secondR : RdS w 1 secondA secondN secondC second) :
    Calls Try.prog 4 #[.agg #[.int .i64 fp0, .slice fp1A fp1N fp1C], .agg #[.int .i64 gp0, .slice gp1A gp1N gp1C], .agg #[.int .i64 qp0, .slice qp1A qp1N qp1C], .slice firstA firstN firstC, .slice secondA secondN secondC] w (Ret fun v w' => v = .bool (F_l_FnExactThenMorphisms fp0 fp1 gp0 gp1 qp0 qp1 first second) ∧ Ext w w') := by
  obtain rfl : fp1N = fp1.length := fp1R.len1.symm
  have fp1Le := fp1R.le
  obtain rfl : gp1N = gp1.length := gp1R.len1.symm
  have gp1Le := gp1R.le
  obtain rfl : qp1N = qp1.length := qp1R.len1.symm
  have qp1Le := qp1R.le
  obtain rfl : firstN = first.length := firstR.len1.symm
  have firstLe := firstR.le
  obtain rfl : secondN = second.length := secondR.len1.symm
  have secondLe := secondR.le
  have hS := St.nil w
  have hS1 := St.rd0 hS rfl fp1R; clear hS
  have hS2 := St.rd0 hS1 rfl gp1R; clear hS1
  have hS3 := St.rd0 hS2 rfl qp1R; clear hS2
  have hS4 := St.rd0 hS3 rfl firstR; clear hS3
  have hS5 := St.rd0 hS4 rfl secondR; clear hS4
  refine enter (args := [.agg #[.int .i64 fp0, .slice fp1A fp1.length fp1C], .agg #[.int .i64 gp0, .slice gp1A gp1.length gp1C], .agg #[.int .i64 qp0, .slice qp1A qp1.length qp1C], .slice firstA first.length firstC, .slice secondA second.length secondC]) Try.func4 rfl rfl ?_
  rw [Try.ntmps4]; intro a hE
  have hE := hE.sub (L' := [(0, .agg #[.int .i64 fp0, .slice fp1A fp1.length fp1C]), (1, .agg #[.int .i64 gp0, .slice gp1A gp1.length gp1C]), (2, .agg #[.int .i64 qp0, .slice qp1A qp1.length qp1C]), (3, .slice firstA first.length firstC), (4, .slice secondA second.length secondC)]) ⟨rfl, rfl, rfl, rfl, rfl, trivial⟩
  refine c_seq ?_
  refine c_reg ?_
  refine l_step hE rfl (l_box (v := .agg #[.int .i64 fp0, .slice fp1A fp1.length fp1C]) (cs := #[.int .i64 fp0, .slice fp1A fp1.length fp1C]) hS5 hE rfl rfl rfl ?_)
  intro b6 w7 hS10 he11 a8 hE9; clear hS5 hE
  refine l_step hE9 rfl (l_box (v := .agg #[.int .i64 gp0, .slice gp1A gp1.length gp1C]) (cs := #[.int .i64 gp0, .slice gp1A gp1.length gp1C]) hS10 hE9 rfl rfl rfl ?_)
  intro b12 w13 hS16 he17 a14 hE15; clear hS10 hE9
  refine l_step hE15 rfl (l_box (v := .agg #[.int .i64 qp0, .slice qp1A qp1.length qp1C]) (cs := #[.int .i64 qp0, .slice qp1A qp1.length qp1C]) hS16 hE15 rfl rfl rfl ?_)
  intro b18 w19 hS22 he23 a20 hE21; clear hS16 hE15
  refine q_step (v := .bool false) hE21 (y_assign rfl) rfl rfl rfl ?_; intro a24 hE25; clear hE21
  refine c_nil ?_
  have hE26 := hE25.sub (L' := [(3, .slice firstA first.length firstC), (4, .slice secondA second.length secondC), (5, .pointer (some ⟨b6, 0, none⟩)), (6, .pointer (some ⟨b12, 0, none⟩)), (7, .pointer (some ⟨b18, 0, none⟩))]) ⟨rfl, rfl, rfl, rfl, rfl, trivial⟩; clear hE25
  refine p_tn ?_
  refine c_seq ?_
  refine c_seq ?_
  refine c_reg ?_
  refine q_step (v := .slice firstA first.length firstC) hE26 (y_move rfl) rfl rfl rfl ?_; intro a27 hE28; clear hE26
  refine q_step (v := .int .i64 (first.length : Int)) hE28 (y_len (e := 2) (by kernel_rfl) rfl) rfl rfl rfl ?_; intro a29 hE30; clear hE28
  refine q_step (v := .bool (decide (1048576 < (first.length : Int)))) hE30 (y_gtr rfl rfl) rfl rfl rfl ?_; intro a31 hE32; clear hE30
  refine c_nil ?_
  have hE33 := hE32.sub (L' := [(3, .slice firstA first.length firstC), (4, .slice secondA second.length secondC), (5, .pointer (some ⟨b6, 0, none⟩)), (6, .pointer (some ⟨b12, 0, none⟩)), (7, .pointer (some ⟨b18, 0, none⟩)), (28, .bool (decide (1048576 < (first.length : Int))))]) ⟨rfl, rfl, rfl, rfl, rfl, rfl, trivial⟩; clear hE32
  refine p_tn ?_
  refine c_cond hE33 rfl (fun ht34 => ?_) (fun ht34 => ?_)
  ·
    have hp35 := of_decide_eq_true ht34
    have hE36 := hE33; rw [ht34] at hE36; clear hE33
    refine c_seq ?_
    refine c_reg ?_
    refine q_step (v := .bool true) hE36 (y_assign rfl) rfl rfl rfl ?_; intro a37 hE38; clear hE36
    refine c_nil ?_
    have hE39 := hE38.sub (L' := [(10, .bool true)]) ⟨rfl, trivial⟩; clear hE38
    refine p_tn ?_
    refine wp_ret ?_
    refine p_tr ?_
    have hF : F_l_FnExactThenMorphisms fp0 fp1 gp0 gp1 qp0 qp1 first second = true := by unfold F_l_FnExactThenMorphisms; rw [ht34]; first | done | rfl
    refine c_ret1 hE39 rfl rfl ?_
    exact ⟨(by rw [hF]; first | done | rfl), hS22.ext⟩
  ·
    have hp40 := of_decide_eq_false ht34
    have hE41 := hE33; rw [ht34] at hE41; clear hE33
    refine wp_skip ?_
    refine p_tn ?_
    refine c_seq ?_
    refine c_seq ?_
    refine c_reg ?_
    refine q_step (v := .slice secondA second.length secondC) hE41 (y_move rfl) rfl rfl rfl ?_; intro a42 hE43; clear hE41
    refine q_step (v := .int .i64 (second.length : Int)) hE43 (y_len (e := 2) (by kernel_rfl) rfl) rfl rfl rfl ?_; intro a44 hE45; clear hE43
    refine q_step (v := .bool (decide (1048576 < (second.length : Int)))) hE45 (y_gtr rfl rfl) rfl rfl rfl ?_; intro a46 hE47; clear hE45
    refine c_nil ?_
    have hE48 := hE47.sub (L' := [(3, .slice firstA first.length firstC), (4, .slice secondA second.length secondC), (5, .pointer (some ⟨b6, 0, none⟩)), (6, .pointer (some ⟨b12, 0, none⟩)), (7, .pointer (some ⟨b18, 0, none⟩)), (31, .bool (decide (1048576 < (second.length : Int))))]) ⟨rfl, rfl, rfl, rfl, rfl, rfl, trivial⟩; clear hE47
    refine p_tn ?_
    refine c_cond hE48 rfl (fun ht49 => ?_) (fun ht49 => ?_)
    ·
      have hp50 := of_decide_eq_true ht49
      have hE51 := hE48; rw [ht49] at hE51; clear hE48
      refine c_seq ?_
      refine c_reg ?_
      refine q_step (v := .bool true) hE51 (y_assign rfl) rfl rfl rfl ?_; intro a52 hE53; clear hE51
      refine c_nil ?_
      have hE54 := hE53.sub (L' := [(10, .bool true)]) ⟨rfl, trivial⟩; clear hE53
      refine p_tn ?_
      refine wp_ret ?_
      refine p_tr ?_
      have hF : F_l_FnExactThenMorphisms fp0 fp1 gp0 gp1 qp0 qp1 first second = true := by unfold F_l_FnExactThenMorphisms; rw [ht49, ht34]; first | done | rfl
      refine c_ret1 hE54 rfl rfl ?_
      exact ⟨(by rw [hF]; first | done | rfl), hS22.ext⟩
    ·
      have hp55 := of_decide_eq_false ht49
      have hE56 := hE48; rw [ht49] at hE56; clear hE48
      refine wp_skip ?_
      refine p_tn ?_
      refine c_seq ?_
      refine c_reg ?_
      refine q_step (v := .int .i64 1048576) hE56 (y_assign rfl) rfl rfl rfl ?_; intro a57 hE58; clear hE56
      refine c_nil ?_
      have hE59 := hE58.sub (L' := [(3, .slice firstA first.length firstC), (4, .slice secondA second.length secondC), (5, .pointer (some ⟨b6, 0, none⟩)), (6, .pointer (some ⟨b12, 0, none⟩)), (7, .pointer (some ⟨b18, 0, none⟩)), (11, .int .i64 1048576)]) ⟨rfl, rfl, rfl, rfl, rfl, rfl, trivial⟩; clear hE58
      refine p_tn ?_
      refine c_seq ?_
      refine c_reg ?_
      refine q_step (v := .agg #[.int .i64 fp0, .slice fp1A fp1.length fp1C]) hE59 (y_loadS Try.underlying24 rfl (by kernel_rfl) rfl (St.row (i := 2) hS22 rfl)) rfl rfl rfl ?_; intro a60 hE61; clear hE59
      refine q_step (v := .int .i64 1048576) hE61 (y_move rfl) rfl rfl rfl ?_; intro a62 hE63; clear hE61
      refine l_step hE63 rfl (l_call (f := 15) (argv := [.agg #[.int .i64 fp0, .slice fp1A fp1.length fp1C], .int .i64 1048576]) hE63 (fun _ => cf_l_szFrame _ _) rfl rfl (c_l_szFrame fp0 fp1A fp1.length fp1C fp1 1048576 w19 (St.rdR (i := 7) hS22 rfl) (by first | omega | (simp only [marked_len]; omega)) (by first | omega | (simp only [marked_len]; omega))) ?_)
      rintro _ w65 ⟨rfl, he69⟩ a66 hE67; clear hE63
      have hS68 := St.go hS22 he69; clear hS22
      refine q_step (v := .int .i64 (F_l_szFrame fp0 fp1 1048576)) hE67 (y_assign rfl) rfl rfl rfl ?_; intro a70 hE71; clear hE67
      refine c_nil ?_
      have hE72 := hE71.sub (L' := [(3, .slice firstA first.length firstC), (4, .slice secondA second.length secondC), (5, .pointer (some ⟨b6, 0, none⟩)), (6, .pointer (some ⟨b12, 0, none⟩)), (7, .pointer (some ⟨b18, 0, none⟩)), (11, .int .i64 (F_l_szFrame fp0 fp1 1048576))]) ⟨rfl, rfl, rfl, rfl, rfl, rfl, trivial⟩; clear hE71
      refine p_tn ?_
      refine c_seq ?_
      refine c_seq ?_
      refine c_reg ?_
      refine q_step (v := .int .i64 (F_l_szFrame fp0 fp1 1048576)) hE72 (y_move rfl) rfl rfl rfl ?_; intro a73 hE74; clear hE72
      refine q_step (v := .bool (decide ((F_l_szFrame fp0 fp1 1048576) < 0))) hE74 (y_lss rfl rfl) rfl rfl rfl ?_; intro a75 hE76; clear hE74
      refine c_nil ?_
      have hE77 := hE76.sub (L' := [(3, .slice firstA first.length firstC), (4, .slice secondA second.length secondC), (5, .pointer (some ⟨b6, 0, none⟩)), (6, .pointer (some ⟨b12, 0, none⟩)), (7, .pointer (some ⟨b18, 0, none⟩)), (11, .int .i64 (F_l_szFrame fp0 fp1 1048576)), (36, .bool (decide ((F_l_szFrame fp0 fp1 1048576) < 0)))]) ⟨rfl, rfl, rfl, rfl, rfl, rfl, rfl, trivial⟩; clear hE76
      refine p_tn ?_
      refine c_cond hE77 rfl (fun ht78 => ?_) (fun ht78 => ?_)
      ·
        have hp79 := of_decide_eq_true ht78
        have hE80 := hE77; rw [ht78] at hE80; clear hE77
        refine c_seq ?_
        refine c_reg ?_
        refine q_step (v := .bool true) hE80 (y_assign rfl) rfl rfl rfl ?_; intro a81 hE82; clear hE80
        refine c_nil ?_
        have hE83 := hE82.sub (L' := [(10, .bool true)]) ⟨rfl, trivial⟩; clear hE82
        refine p_tn ?_
        refine wp_ret ?_
        refine p_tr ?_
        have hF : F_l_FnExactThenMorphisms fp0 fp1 gp0 gp1 qp0 qp1 first second = true := by unfold F_l_FnExactThenMorphisms; rw [ht78, ht49, ht34]; first | done | rfl
        refine c_ret1 hE83 rfl rfl ?_
        exact ⟨(by rw [hF]; first | done | rfl), hS68.ext⟩
      ·
        have hp84 := of_decide_eq_false ht78
        have hq85 := szFrame_bound hp84
        have hE86 := hE77; rw [ht78] at hE86; clear hE77
        refine wp_skip ?_
        refine p_tn ?_
        refine c_seq ?_
        refine c_reg ?_
        refine q_step (v := .agg #[.int .i64 gp0, .slice gp1A gp1.length gp1C]) hE86 (y_loadS Try.underlying24 rfl (by kernel_rfl) rfl (St.row (i := 1) hS68 rfl)) rfl rfl rfl ?_; intro a87 hE88; clear hE86
        refine q_step (v := .int .i64 (F_l_szFrame fp0 fp1 1048576)) hE88 (y_move rfl) rfl rfl rfl ?_; intro a89 hE90; clear hE88
        refine l_step hE90 rfl (l_call (f := 15) (argv := [.agg #[.int .i64 gp0, .slice gp1A gp1.length gp1C], .int .i64 (F_l_szFrame fp0 fp1 1048576)]) hE90 (fun _ => cf_l_szFrame _ _) rfl rfl (c_l_szFrame gp0 gp1A gp1.length gp1C gp1 (F_l_szFrame fp0 fp1 1048576) w65 (St.rdR (i := 6) hS68 rfl) (by first | omega | (simp only [marked_len]; omega)) (by first | omega | (simp only [marked_len]; omega))) ?_)
        rintro _ w92 ⟨rfl, he96⟩ a93 hE94; clear hE90
        have hS95 := St.go hS68 he96; clear hS68
        refine q_step (v := .int .i64 (F_l_szFrame gp0 gp1 (F_l_szFrame fp0 fp1 1048576))) hE94 (y_assign rfl) rfl rfl rfl ?_; intro a97 hE98; clear hE94
        refine c_nil ?_
        have hE99 := hE98.sub (L' := [(3, .slice firstA first.length firstC), (4, .slice secondA second.length secondC), (5, .pointer (some ⟨b6, 0, none⟩)), (6, .pointer (some ⟨b12, 0, none⟩)), (7, .pointer (some ⟨b18, 0, none⟩)), (11, .int .i64 (F_l_szFrame gp0 gp1 (F_l_szFrame fp0 fp1 1048576)))]) ⟨rfl, rfl, rfl, rfl, rfl, rfl, trivial⟩; clear hE98
        refine p_tn ?_
        refine c_seq ?_
        refine c_seq ?_
        refine c_reg ?_
        refine q_step (v := .int .i64 (F_l_szFrame gp0 gp1 (F_l_szFrame fp0 fp1 1048576))) hE99 (y_move rfl) rfl rfl rfl ?_; intro a100 hE101; clear hE99
        refine q_step (v := .bool (decide ((F_l_szFrame gp0 gp1 (F_l_szFrame fp0 fp1 1048576)) < 0))) hE101 (y_lss rfl rfl) rfl rfl rfl ?_; intro a102 hE103; clear hE101
        refine c_nil ?_
        have hE104 := hE103.sub (L' := [(3, .slice firstA first.length firstC), (4, .slice secondA second.length secondC), (5, .pointer (some ⟨b6, 0, none⟩)), (6, .pointer (some ⟨b12, 0, none⟩)), (7, .pointer (some ⟨b18, 0, none⟩)), (11, .int .i64 (F_l_szFrame gp0 gp1 (F_l_szFrame fp0 fp1 1048576))), (41, .bool (decide ((F_l_szFrame gp0 gp1 (F_l_szFrame fp0 fp1 1048576)) < 0)))]) ⟨rfl, rfl, rfl, rfl, rfl, rfl, rfl, trivial⟩; clear hE103
        refine p_tn ?_
        refine c_cond hE104 rfl (fun ht105 => ?_) (fun ht105 => ?_)
        ·
          have hp106 := of_decide_eq_true ht105
          have hE107 := hE104; rw [ht105] at hE107; clear hE104
          refine c_seq ?_
          refine c_reg ?_
          refine q_step (v := .bool true) hE107 (y_assign rfl) rfl rfl rfl ?_; intro a108 hE109; clear hE107
          refine c_nil ?_
          have hE110 := hE109.sub (L' := [(10, .bool true)]) ⟨rfl, trivial⟩; clear hE109
          refine p_tn ?_
          refine wp_ret ?_
          refine p_tr ?_
          have hF : F_l_FnExactThenMorphisms fp0 fp1 gp0 gp1 qp0 qp1 first second = true := by unfold F_l_FnExactThenMorphisms; rw [ht105, ht78, ht49, ht34]; first | done | rfl
          refine c_ret1 hE110 rfl rfl ?_
          exact ⟨(by rw [hF]; first | done | rfl), hS95.ext⟩
        ·
          have hp111 := of_decide_eq_false ht105
          have hq112 := szFrame_bound hp111
          have hE113 := hE104; rw [ht105] at hE113; clear hE104
          refine wp_skip ?_
          refine p_tn ?_
          refine c_seq ?_
          refine c_reg ?_
          refine q_step (v := .agg #[.int .i64 qp0, .slice qp1A qp1.length qp1C]) hE113 (y_loadS Try.underlying24 rfl (by kernel_rfl) rfl (St.row (i := 0) hS95 rfl)) rfl rfl rfl ?_; intro a114 hE115; clear hE113
          refine q_step (v := .int .i64 (F_l_szFrame gp0 gp1 (F_l_szFrame fp0 fp1 1048576))) hE115 (y_move rfl) rfl rfl rfl ?_; intro a116 hE117; clear hE115
          refine l_step hE117 rfl (l_call (f := 15) (argv := [.agg #[.int .i64 qp0, .slice qp1A qp1.length qp1C], .int .i64 (F_l_szFrame gp0 gp1 (F_l_szFrame fp0 fp1 1048576))]) hE117 (fun _ => cf_l_szFrame _ _) rfl rfl (c_l_szFrame qp0 qp1A qp1.length qp1C qp1 (F_l_szFrame gp0 gp1 (F_l_szFrame fp0 fp1 1048576)) w92 (St.rdR (i := 5) hS95 rfl) (by first | omega | (simp only [marked_len]; omega)) (by first | omega | (simp only [marked_len]; omega))) ?_)
          rintro _ w119 ⟨rfl, he123⟩ a120 hE121; clear hE117
          have hS122 := St.go hS95 he123; clear hS95
          refine q_step (v := .int .i64 (F_l_szFrame qp0 qp1 (F_l_szFrame gp0 gp1 (F_l_szFrame fp0 fp1 1048576)))) hE121 (y_assign rfl) rfl rfl rfl ?_; intro a124 hE125; clear hE121
          refine c_nil ?_
          have hE126 := hE125.sub (L' := [(3, .slice firstA first.length firstC), (4, .slice secondA second.length secondC), (5, .pointer (some ⟨b6, 0, none⟩)), (6, .pointer (some ⟨b12, 0, none⟩)), (7, .pointer (some ⟨b18, 0, none⟩)), (11, .int .i64 (F_l_szFrame qp0 qp1 (F_l_szFrame gp0 gp1 (F_l_szFrame fp0 fp1 1048576))))]) ⟨rfl, rfl, rfl, rfl, rfl, rfl, trivial⟩; clear hE125
          refine p_tn ?_
          refine c_seq ?_
          refine c_seq ?_
          refine c_reg ?_
          refine q_step (v := .int .i64 (F_l_szFrame qp0 qp1 (F_l_szFrame gp0 gp1 (F_l_szFrame fp0 fp1 1048576)))) hE126 (y_move rfl) rfl rfl rfl ?_; intro a127 hE128; clear hE126
          refine q_step (v := .bool (decide ((F_l_szFrame qp0 qp1 (F_l_szFrame gp0 gp1 (F_l_szFrame fp0 fp1 1048576))) < 0))) hE128 (y_lss rfl rfl) rfl rfl rfl ?_; intro a129 hE130; clear hE128
          refine c_nil ?_
          have hE131 := hE130.sub (L' := [(3, .slice firstA first.length firstC), (4, .slice secondA second.length secondC), (5, .pointer (some ⟨b6, 0, none⟩)), (6, .pointer (some ⟨b12, 0, none⟩)), (7, .pointer (some ⟨b18, 0, none⟩)), (46, .bool (decide ((F_l_szFrame qp0 qp1 (F_l_szFrame gp0 gp1 (F_l_szFrame fp0 fp1 1048576))) < 0)))]) ⟨rfl, rfl, rfl, rfl, rfl, rfl, trivial⟩; clear hE130
          refine p_tn ?_
          refine c_cond hE131 rfl (fun ht132 => ?_) (fun ht132 => ?_)
          ·
            have hp133 := of_decide_eq_true ht132
            have hE134 := hE131; rw [ht132] at hE134; clear hE131
            refine c_seq ?_
            refine c_reg ?_
            refine q_step (v := .bool true) hE134 (y_assign rfl) rfl rfl rfl ?_; intro a135 hE136; clear hE134
            refine c_nil ?_
            have hE137 := hE136.sub (L' := [(10, .bool true)]) ⟨rfl, trivial⟩; clear hE136
            refine p_tn ?_
            refine wp_ret ?_
            refine p_tr ?_
            have hF : F_l_FnExactThenMorphisms fp0 fp1 gp0 gp1 qp0 qp1 first second = true := by unfold F_l_FnExactThenMorphisms; rw [ht132, ht105, ht78, ht49, ht34]; first | done | rfl
            refine c_ret1 hE137 rfl rfl ?_
            exact ⟨(by rw [hF]; first | done | rfl), hS122.ext⟩
          ·
            have hp138 := of_decide_eq_false ht132
            have hq139 := szFrame_bound hp138
            have hE140 := hE131; rw [ht132] at hE140; clear hE131
            refine wp_skip ?_
            refine p_tn ?_
            refine c_seq ?_
            refine d_start (fun w' => w'.heap[b6]? = some (.cells #[.int .i64 fp0, .slice fp1A fp1.length fp1C] 24 (0, 0)) ∧ w'.heap[b12]? = some (.cells #[.int .i64 gp0, .slice gp1A gp1.length gp1C] 24 (0, 0)) ∧ w'.heap[b18]? = some (.cells #[.int .i64 qp0, .slice qp1A qp1.length qp1C] 24 (0, 0)) ∧ True) [0, 2, 4] 16 (by kernel_rfl) rfl ?_
            intro w141 he142; have hS143 := St.go hS122 he142; clear hS122
            refine d_take (v := .agg #[.int .i64 fp0, .slice fp1A fp1.length fp1C]) 0 rfl hE140 ⟨(St.row (i := 2) hS143 rfl _ (Ext.refl _)), (St.row (i := 1) hS143 rfl _ (Ext.refl _)), (St.row (i := 0) hS143 rfl _ (Ext.refl _)), trivial⟩ (y_loadS Try.underlying24 rfl (by kernel_rfl) rfl (fun _ h => h.1)) rfl rfl (by kernel_rfl) (by kernel_rfl) (by kernel_rfl) rfl rfl (fun _ _ _ h => h) ?_; intro a144 hE145; clear hE140
            refine d_take (v := .agg #[.int .i64 gp0, .slice gp1A gp1.length gp1C]) 2 rfl hE145 ⟨(St.row (i := 2) hS143 rfl _ (Ext.refl _)), (St.row (i := 1) hS143 rfl _ (Ext.refl _)), (St.row (i := 0) hS143 rfl _ (Ext.refl _)), trivial⟩ (y_loadS Try.underlying24 rfl (by kernel_rfl) rfl (fun _ h => h.2.1)) rfl rfl (by kernel_rfl) (by kernel_rfl) (by kernel_rfl) rfl rfl (fun _ _ _ h => h) ?_; intro a146 hE147; clear hE145
            refine d_take (v := .agg #[.int .i64 qp0, .slice qp1A qp1.length qp1C]) 4 rfl hE147 ⟨(St.row (i := 2) hS143 rfl _ (Ext.refl _)), (St.row (i := 1) hS143 rfl _ (Ext.refl _)), (St.row (i := 0) hS143 rfl _ (Ext.refl _)), trivial⟩ (y_loadS Try.underlying24 rfl (by kernel_rfl) rfl (fun _ h => h.2.2.1)) rfl rfl (by kernel_rfl) (by kernel_rfl) (by kernel_rfl) rfl rfl (fun _ _ _ h => h) ?_; intro a148 hE149; clear hE147
            refine d_pure (v := .slice firstA first.length firstC) 6 rfl hE149 (y_move rfl) rfl (by kernel_rfl) (by kernel_rfl) (by kernel_rfl) rfl rfl (fun _ _ _ h => h) ?_; intro a150 hE151; clear hE149
            refine d_pure (v := .slice secondA second.length secondC) 8 rfl hE151 (y_move rfl) rfl (by kernel_rfl) (by kernel_rfl) (by kernel_rfl) rfl rfl (fun _ _ _ h => h) ?_; intro a152 hE153; clear hE151
            refine d_only 1 (by kernel_rfl) rfl hE153 rfl (l_call (f := 17) (argv := [.agg #[.int .i64 fp0, .slice fp1A fp1.length fp1C]]) hE153 (fun _ => cf_l_toFrame _ _) rfl rfl (d_l_toFrame fp0 fp1A fp1.length fp1C fp1 w141 (St.rdR (i := 7) hS143 rfl) (by first | omega | (simp only [marked_len]; omega))) ?_)
            rintro _ w155 ⟨b160, c161, rfl, ho162, he159⟩ a156 hE157; clear hE153
            have hS158 := St.own hS143 he159 ho162; clear hS143
            refine ⟨fun _ _ => ⟨(St.row (i := 3) hS158 rfl _ (Ext.refl _)), (St.row (i := 2) hS158 rfl _ (Ext.refl _)), (St.row (i := 1) hS158 rfl _ (Ext.refl _)), trivial⟩, ?_⟩
            refine d_only 3 (by kernel_rfl) rfl hE157 rfl (l_call (f := 17) (argv := [.agg #[.int .i64 gp0, .slice gp1A gp1.length gp1C]]) hE157 (fun _ => cf_l_toFrame _ _) rfl rfl (d_l_toFrame gp0 gp1A gp1.length gp1C gp1 w155 (St.rdR (i := 7) hS158 rfl) (by first | omega | (simp only [marked_len]; omega))) ?_)
            rintro _ w164 ⟨b169, c170, rfl, ho171, he168⟩ a165 hE166; clear hE157
            have hS167 := St.own hS158 he168 ho171; clear hS158
            refine ⟨fun _ _ => ⟨(St.row (i := 4) hS167 rfl _ (Ext.refl _)), (St.row (i := 3) hS167 rfl _ (Ext.refl _)), (St.row (i := 2) hS167 rfl _ (Ext.refl _)), trivial⟩, ?_⟩
            refine d_only 5 (by kernel_rfl) rfl hE166 rfl (l_call (f := 17) (argv := [.agg #[.int .i64 qp0, .slice qp1A qp1.length qp1C]]) hE166 (fun _ => cf_l_toFrame _ _) rfl rfl (d_l_toFrame qp0 qp1A qp1.length qp1C qp1 w164 (St.rdR (i := 7) hS167 rfl) (by first | omega | (simp only [marked_len]; omega))) ?_)
            rintro _ w173 ⟨b178, c179, rfl, ho180, he177⟩ a174 hE175; clear hE166
            have hS176 := St.own hS167 he177 ho180; clear hS167
            refine ⟨fun _ _ => ⟨(St.row (i := 5) hS176 rfl _ (Ext.refl _)), (St.row (i := 4) hS176 rfl _ (Ext.refl _)), (St.row (i := 3) hS176 rfl _ (Ext.refl _)), trivial⟩, ?_⟩
            refine d_only 7 (by kernel_rfl) rfl hE175 rfl (l_call (f := 23) (argv := [.slice firstA first.length firstC]) hE175 (fun _ => cf_l_toInt64S _ _) rfl rfl (d_l_toInt64S firstA first.length firstC first w173 (St.rdR (i := 7) hS176 rfl) (by first | omega | (simp only [marked_len]; omega))) ?_)
            rintro _ w182 ⟨b187, c188, rfl, ho189, he186⟩ a183 hE184; clear hE175
            have hS185 := St.own hS176 he186 ho189; clear hS176
            refine ⟨fun _ _ => ⟨(St.row (i := 6) hS185 rfl _ (Ext.refl _)), (St.row (i := 5) hS185 rfl _ (Ext.refl _)), (St.row (i := 4) hS185 rfl _ (Ext.refl _)), trivial⟩, ?_⟩
            refine d_only 9 (by kernel_rfl) rfl hE184 rfl (l_call (f := 23) (argv := [.slice secondA second.length secondC]) hE184 (fun _ => cf_l_toInt64S _ _) rfl rfl (d_l_toInt64S secondA second.length secondC second w182 (St.rdR (i := 7) hS185 rfl) (by first | omega | (simp only [marked_len]; omega))) ?_)
            rintro _ w191 ⟨b196, c197, rfl, ho198, he195⟩ a192 hE193; clear hE184
            have hS194 := St.own hS185 he195 ho198; clear hS185
            refine ⟨fun _ _ => ⟨(St.row (i := 7) hS194 rfl _ (Ext.refl _)), (St.row (i := 6) hS194 rfl _ (Ext.refl _)), (St.row (i := 5) hS194 rfl _ (Ext.refl _)), trivial⟩, ?_⟩
            refine d_only 10 (by kernel_rfl) rfl hE193 rfl (l_call (f := 22) (argv := [.agg #[.int .i64 fp0, .slice b160 ((fp1).length) c161], .agg #[.int .i64 gp0, .slice b169 ((gp1).length) c170], .agg #[.int .i64 qp0, .slice b178 ((qp1).length) c179], .slice b187 ((first).length) c188, .slice b196 ((second).length) c197]) hE193 (fun _ => cf_s_ThenMorphisms _ _) rfl rfl (c_s_ThenMorphisms fp0 b160 ((fp1).length) c161 fp1 gp0 b169 ((gp1).length) c170 gp1 qp0 b178 ((qp1).length) c179 qp1 b187 ((first).length) c188 first b196 ((second).length) c197 second w191 (St.rdO (i := 4) hS194 rfl) (St.rdO (i := 3) hS194 rfl) (St.rdO (i := 2) hS194 rfl) (St.rdO (i := 1) hS194 rfl) (St.rdO (i := 0) hS194 rfl)) ?_)
            rintro _ w200 ⟨b205, c206, rfl, ho207, he204⟩ a201 hE202; clear hE193
            have hS203 := St.own hS194 he204 ho207; clear hS194
            refine ⟨fun _ _ => ⟨(St.row (i := 8) hS203 rfl _ (Ext.refl _)), (St.row (i := 7) hS203 rfl _ (Ext.refl _)), (St.row (i := 6) hS203 rfl _ (Ext.refl _)), trivial⟩, ?_⟩
            refine d_pure (v := .tuple #[.slice b205 (((F_s_ThenMorphisms fp0 fp1 gp0 gp1 qp0 qp1 first second).1).length) c206, .int .i64 ((F_s_ThenMorphisms fp0 fp1 gp0 gp1 qp0 qp1 first second).2)]) 11 rfl hE202 (y_move rfl) rfl (by kernel_rfl) (by kernel_rfl) (by kernel_rfl) rfl rfl (fun _ _ _ h => h) ?_; intro a208 hE209; clear hE202
            refine d_pure (v := .slice b205 (((F_s_ThenMorphisms fp0 fp1 gp0 gp1 qp0 qp1 first second).1).length) c206) 12 rfl hE209 (y_extract rfl rfl) rfl (by kernel_rfl) (by kernel_rfl) (by kernel_rfl) rfl rfl (fun _ _ _ h => h) ?_; intro a210 hE211; clear hE209
            refine d_pure (v := .int .i64 ((F_s_ThenMorphisms fp0 fp1 gp0 gp1 qp0 qp1 first second).2)) 13 rfl hE211 (y_extract rfl rfl) rfl (by kernel_rfl) (by kernel_rfl) (by kernel_rfl) rfl rfl (fun _ _ _ h => h) ?_; intro a212 hE213; clear hE211
            refine d_pure (v := .slice b205 (((F_s_ThenMorphisms fp0 fp1 gp0 gp1 qp0 qp1 first second).1).length) c206) 14 rfl hE213 (y_assign rfl) rfl (by kernel_rfl) (by kernel_rfl) (by kernel_rfl) rfl rfl (fun _ _ _ h => h) ?_; intro a214 hE215; clear hE213
            refine d_pure (v := .int .i64 ((F_s_ThenMorphisms fp0 fp1 gp0 gp1 qp0 qp1 first second).2)) 15 rfl hE215 (y_assign rfl) rfl (by kernel_rfl) (by kernel_rfl) (by kernel_rfl) rfl rfl (fun _ _ _ h => h) ?_; intro a216 hE217; clear hE215
            refine d_done (by kernel_rfl) ?_
            have hE218 := hE217.sub (L' := [(3, .slice firstA first.length firstC), (4, .slice secondA second.length secondC), (5, .pointer (some ⟨b6, 0, none⟩)), (6, .pointer (some ⟨b12, 0, none⟩)), (7, .pointer (some ⟨b18, 0, none⟩)), (12, .slice b205 (((F_s_ThenMorphisms fp0 fp1 gp0 gp1 qp0 qp1 first second).1).length) c206), (13, .int .i64 ((F_s_ThenMorphisms fp0 fp1 gp0 gp1 qp0 qp1 first second).2))]) ⟨rfl, rfl, rfl, rfl, rfl, rfl, rfl, trivial⟩; clear hE217
            refine p_tn ?_
            refine c_seq ?_
            refine c_reg ?_
            refine q_step (v := .agg #[.int .i64 fp0, .slice fp1A fp1.length fp1C]) hE218 (y_loadS Try.underlying24 rfl (by kernel_rfl) rfl (St.row (i := 8) hS203 rfl)) rfl rfl rfl ?_; intro a219 hE220; clear hE218
            refine l_step hE220 rfl (l_call (f := 17) (argv := [.agg #[.int .i64 fp0, .slice fp1A fp1.length fp1C]]) hE220 (fun _ => cf_l_toFrame _ _) rfl rfl (d_l_toFrame fp0 fp1A fp1.length fp1C fp1 w200 (St.rdR (i := 13) hS203 rfl) (by first | omega | (simp only [marked_len]; omega))) ?_)
            rintro _ w222 ⟨b227, c228, rfl, ho229, he226⟩ a223 hE224; clear hE220
            have hS225 := St.own hS203 he226 ho229; clear hS203
            refine l_step hE224 rfl (l_alloc (z := .agg #[.int .i64 0, .slice none 0 0]) (cs := #[.int .i64 0, .slice none 0 0]) hS225 hE224 (fun _ => by kernel_rfl) rfl rfl ?_)
            intro b230 w231 hS234 he235 a232 hE233; clear hS225 hE224
            refine l_step hE233 rfl (l_storeS (k := 0) (cs' := #[.int .i64 fp0, .slice b227 ((fp1).length) c228]) hS234 hE233 (by kernel_rfl) rfl rfl (by kernel_rfl) rfl rfl ?_)
            intro w237 hS240 a238 hE239; clear hS234 hE233
            refine c_nil ?_
            have hE242 := hE239.sub (L' := [(3, .slice firstA first.length firstC), (4, .slice secondA second.length secondC), (5, .pointer (some ⟨b6, 0, none⟩)), (6, .pointer (some ⟨b12, 0, none⟩)), (7, .pointer (some ⟨b18, 0, none⟩)), (12, .slice b205 (((F_s_ThenMorphisms fp0 fp1 gp0 gp1 qp0 qp1 first second).1).length) c206), (13, .int .i64 ((F_s_ThenMorphisms fp0 fp1 gp0 gp1 qp0 qp1 first second).2)), (14, .pointer (some ⟨b230, 0, none⟩))]) ⟨rfl, rfl, rfl, rfl, rfl, rfl, rfl, rfl, trivial⟩; clear hE239
            refine p_tn ?_
            refine c_seq ?_
            refine c_reg ?_
            refine q_step (v := .agg #[.int .i64 gp0, .slice gp1A gp1.length gp1C]) hE242 (y_loadS Try.underlying24 rfl (by kernel_rfl) rfl (St.row (i := 9) hS240 rfl)) rfl rfl rfl ?_; intro a243 hE244; clear hE242
            refine l_step hE244 rfl (l_call (f := 17) (argv := [.agg #[.int .i64 gp0, .slice gp1A gp1.length gp1C]]) hE244 (fun _ => cf_l_toFrame _ _) rfl rfl (d_l_toFrame gp0 gp1A gp1.length gp1C gp1 w237 (St.rdR (i := 14) hS240 rfl) (by first | omega | (simp only [marked_len]; omega))) ?_)
            rintro _ w246 ⟨b251, c252, rfl, ho253, he250⟩ a247 hE248; clear hE244
            have hS249 := St.own hS240 he250 ho253; clear hS240
            refine l_step hE248 rfl (l_alloc (z := .agg #[.int .i64 0, .slice none 0 0]) (cs := #[.int .i64 0, .slice none 0 0]) hS249 hE248 (fun _ => by kernel_rfl) rfl rfl ?_)
            intro b254 w255 hS258 he259 a256 hE257; clear hS249 hE248
            refine l_step hE257 rfl (l_storeS (k := 0) (cs' := #[.int .i64 gp0, .slice b251 ((gp1).length) c252]) hS258 hE257 (by kernel_rfl) rfl rfl (by kernel_rfl) rfl rfl ?_)
            intro w261 hS264 a262 hE263; clear hS258 hE257
            refine c_nil ?_
            have hE266 := hE263.sub (L' := [(3, .slice firstA first.length firstC), (4, .slice secondA second.length secondC), (5, .pointer (some ⟨b6, 0, none⟩)), (6, .pointer (some ⟨b12, 0, none⟩)), (7, .pointer (some ⟨b18, 0, none⟩)), (12, .slice b205 (((F_s_ThenMorphisms fp0 fp1 gp0 gp1 qp0 qp1 first second).1).length) c206), (13, .int .i64 ((F_s_ThenMorphisms fp0 fp1 gp0 gp1 qp0 qp1 first second).2)), (14, .pointer (some ⟨b230, 0, none⟩)), (15, .pointer (some ⟨b254, 0, none⟩))]) ⟨rfl, rfl, rfl, rfl, rfl, rfl, rfl, rfl, rfl, trivial⟩; clear hE263
            refine p_tn ?_
            refine c_seq ?_
            refine c_reg ?_
            refine q_step (v := .agg #[.int .i64 qp0, .slice qp1A qp1.length qp1C]) hE266 (y_loadS Try.underlying24 rfl (by kernel_rfl) rfl (St.row (i := 10) hS264 rfl)) rfl rfl rfl ?_; intro a267 hE268; clear hE266
            refine l_step hE268 rfl (l_call (f := 17) (argv := [.agg #[.int .i64 qp0, .slice qp1A qp1.length qp1C]]) hE268 (fun _ => cf_l_toFrame _ _) rfl rfl (d_l_toFrame qp0 qp1A qp1.length qp1C qp1 w261 (St.rdR (i := 15) hS264 rfl) (by first | omega | (simp only [marked_len]; omega))) ?_)
            rintro _ w270 ⟨b275, c276, rfl, ho277, he274⟩ a271 hE272; clear hE268
            have hS273 := St.own hS264 he274 ho277; clear hS264
            refine l_step hE272 rfl (l_alloc (z := .agg #[.int .i64 0, .slice none 0 0]) (cs := #[.int .i64 0, .slice none 0 0]) hS273 hE272 (fun _ => by kernel_rfl) rfl rfl ?_)
            intro b278 w279 hS282 he283 a280 hE281; clear hS273 hE272
            refine l_step hE281 rfl (l_storeS (k := 0) (cs' := #[.int .i64 qp0, .slice b275 ((qp1).length) c276]) hS282 hE281 (by kernel_rfl) rfl rfl (by kernel_rfl) rfl rfl ?_)
            intro w285 hS288 a286 hE287; clear hS282 hE281
            refine c_nil ?_
            have hE290 := hE287.sub (L' := [(3, .slice firstA first.length firstC), (4, .slice secondA second.length secondC), (5, .pointer (some ⟨b6, 0, none⟩)), (6, .pointer (some ⟨b12, 0, none⟩)), (7, .pointer (some ⟨b18, 0, none⟩)), (12, .slice b205 (((F_s_ThenMorphisms fp0 fp1 gp0 gp1 qp0 qp1 first second).1).length) c206), (13, .int .i64 ((F_s_ThenMorphisms fp0 fp1 gp0 gp1 qp0 qp1 first second).2)), (14, .pointer (some ⟨b230, 0, none⟩)), (15, .pointer (some ⟨b254, 0, none⟩)), (16, .pointer (some ⟨b278, 0, none⟩))]) ⟨rfl, rfl, rfl, rfl, rfl, rfl, rfl, rfl, rfl, rfl, trivial⟩; clear hE287
            refine p_tn ?_
            refine c_seq ?_
            refine c_reg ?_
            refine q_step (v := .slice firstA first.length firstC) hE290 (y_move rfl) rfl rfl rfl ?_; intro a291 hE292; clear hE290
            refine l_step hE292 rfl (l_call (f := 23) (argv := [.slice firstA first.length firstC]) hE292 (fun _ => cf_l_toInt64S _ _) rfl rfl (d_l_toInt64S firstA first.length firstC first w285 (St.rdR (i := 16) hS288 rfl) (by first | omega | (simp only [marked_len]; omega))) ?_)
            rintro _ w294 ⟨b299, c300, rfl, ho301, he298⟩ a295 hE296; clear hE292
            have hS297 := St.own hS288 he298 ho301; clear hS288
            refine q_step (v := .slice b299 ((first).length) c300) hE296 (y_assign rfl) rfl rfl rfl ?_; intro a302 hE303; clear hE296
            refine c_nil ?_
            have hE304 := hE303.sub (L' := [(3, .slice firstA first.length firstC), (4, .slice secondA second.length secondC), (5, .pointer (some ⟨b6, 0, none⟩)), (6, .pointer (some ⟨b12, 0, none⟩)), (7, .pointer (some ⟨b18, 0, none⟩)), (12, .slice b205 (((F_s_ThenMorphisms fp0 fp1 gp0 gp1 qp0 qp1 first second).1).length) c206), (13, .int .i64 ((F_s_ThenMorphisms fp0 fp1 gp0 gp1 qp0 qp1 first second).2)), (14, .pointer (some ⟨b230, 0, none⟩)), (15, .pointer (some ⟨b254, 0, none⟩)), (16, .pointer (some ⟨b278, 0, none⟩)), (17, .slice b299 ((first).length) c300)]) ⟨rfl, rfl, rfl, rfl, rfl, rfl, rfl, rfl, rfl, rfl, rfl, trivial⟩; clear hE303
            refine p_tn ?_
            refine c_seq ?_
            refine c_reg ?_
            refine q_step (v := .slice secondA second.length secondC) hE304 (y_move rfl) rfl rfl rfl ?_; intro a305 hE306; clear hE304
            refine l_step hE306 rfl (l_call (f := 23) (argv := [.slice secondA second.length secondC]) hE306 (fun _ => cf_l_toInt64S _ _) rfl rfl (d_l_toInt64S secondA second.length secondC second w294 (St.rdR (i := 16) hS297 rfl) (by first | omega | (simp only [marked_len]; omega))) ?_)
            rintro _ w308 ⟨b313, c314, rfl, ho315, he312⟩ a309 hE310; clear hE306
            have hS311 := St.own hS297 he312 ho315; clear hS297
            refine q_step (v := .slice b313 ((second).length) c314) hE310 (y_assign rfl) rfl rfl rfl ?_; intro a316 hE317; clear hE310
            refine c_nil ?_
            have hE318 := hE317.sub (L' := [(3, .slice firstA first.length firstC), (4, .slice secondA second.length secondC), (5, .pointer (some ⟨b6, 0, none⟩)), (6, .pointer (some ⟨b12, 0, none⟩)), (7, .pointer (some ⟨b18, 0, none⟩)), (12, .slice b205 (((F_s_ThenMorphisms fp0 fp1 gp0 gp1 qp0 qp1 first second).1).length) c206), (13, .int .i64 ((F_s_ThenMorphisms fp0 fp1 gp0 gp1 qp0 qp1 first second).2)), (14, .pointer (some ⟨b230, 0, none⟩)), (15, .pointer (some ⟨b254, 0, none⟩)), (16, .pointer (some ⟨b278, 0, none⟩)), (17, .slice b299 ((first).length) c300), (18, .slice b313 ((second).length) c314)]) ⟨rfl, rfl, rfl, rfl, rfl, rfl, rfl, rfl, rfl, rfl, rfl, rfl, trivial⟩; clear hE317
            refine p_tn ?_
            refine c_seq ?_
            refine c_reg ?_
            refine q_step (v := .agg #[.int .i64 fp0, .slice b227 ((fp1).length) c228]) hE318 (y_loadS Try.underlying26 rfl (by kernel_rfl) rfl (St.row (i := 6) hS311 rfl)) rfl rfl rfl ?_; intro a319 hE320; clear hE318
            refine q_step (v := .agg #[.int .i64 gp0, .slice b251 ((gp1).length) c252]) hE320 (y_loadS Try.underlying26 rfl (by kernel_rfl) rfl (St.row (i := 4) hS311 rfl)) rfl rfl rfl ?_; intro a321 hE322; clear hE320
            refine q_step (v := .agg #[.int .i64 qp0, .slice b275 ((qp1).length) c276]) hE322 (y_loadS Try.underlying26 rfl (by kernel_rfl) rfl (St.row (i := 2) hS311 rfl)) rfl rfl rfl ?_; intro a323 hE324; clear hE322
            refine q_step (v := .slice b299 ((first).length) c300) hE324 (y_move rfl) rfl rfl rfl ?_; intro a325 hE326; clear hE324
            refine q_step (v := .slice b313 ((second).length) c314) hE326 (y_move rfl) rfl rfl rfl ?_; intro a327 hE328; clear hE326
            refine l_step hE328 rfl (l_call (f := 24) (argv := [.agg #[.int .i64 fp0, .slice b227 ((fp1).length) c228], .agg #[.int .i64 gp0, .slice b251 ((gp1).length) c252], .agg #[.int .i64 qp0, .slice b275 ((qp1).length) c276], .slice b299 ((first).length) c300, .slice b313 ((second).length) c314]) hE328 (fun _ => cf_ThenMorphisms _ _) rfl rfl (c_ThenMorphisms fp0 b227 ((fp1).length) c228 fp1 gp0 b251 ((gp1).length) c252 gp1 qp0 b275 ((qp1).length) c276 qp1 b299 ((first).length) c300 first b313 ((second).length) c314 second w308 (St.rdO (i := 7) hS311 rfl) (St.rdO (i := 5) hS311 rfl) (St.rdO (i := 3) hS311 rfl) (St.rdO (i := 1) hS311 rfl) (St.rdO (i := 0) hS311 rfl)) ?_)
            rintro _ w330 ⟨b335, c336, rfl, ho337, he334⟩ a331 hE332; clear hE328
            have hf338 := ThenMorphisms_len fp0 fp1 gp0 gp1 qp0 qp1 first second
            have hS333 := St.own hS311 he334 ho337; clear hS311
            refine q_step (v := .tuple #[.slice b335 (((F_ThenMorphisms fp0 fp1 gp0 gp1 qp0 qp1 first second).1).length) c336, .int .i64 ((F_ThenMorphisms fp0 fp1 gp0 gp1 qp0 qp1 first second).2)]) hE332 (y_move rfl) rfl rfl rfl ?_; intro a339 hE340; clear hE332
            refine q_step (v := .slice b335 (((F_ThenMorphisms fp0 fp1 gp0 gp1 qp0 qp1 first second).1).length) c336) hE340 (y_extract rfl rfl) rfl rfl rfl ?_; intro a341 hE342; clear hE340
            refine q_step (v := .int .i64 ((F_ThenMorphisms fp0 fp1 gp0 gp1 qp0 qp1 first second).2)) hE342 (y_extract rfl rfl) rfl rfl rfl ?_; intro a343 hE344; clear hE342
            refine q_step (v := .slice b335 (((F_ThenMorphisms fp0 fp1 gp0 gp1 qp0 qp1 first second).1).length) c336) hE344 (y_assign rfl) rfl rfl rfl ?_; intro a345 hE346; clear hE344
            refine q_step (v := .int .i64 ((F_ThenMorphisms fp0 fp1 gp0 gp1 qp0 qp1 first second).2)) hE346 (y_assign rfl) rfl rfl rfl ?_; intro a347 hE348; clear hE346
            refine c_nil ?_
            have hE349 := hE348.sub (L' := [(3, .slice firstA first.length firstC), (4, .slice secondA second.length secondC), (5, .pointer (some ⟨b6, 0, none⟩)), (6, .pointer (some ⟨b12, 0, none⟩)), (7, .pointer (some ⟨b18, 0, none⟩)), (12, .slice b205 (((F_s_ThenMorphisms fp0 fp1 gp0 gp1 qp0 qp1 first second).1).length) c206), (13, .int .i64 ((F_s_ThenMorphisms fp0 fp1 gp0 gp1 qp0 qp1 first second).2)), (14, .pointer (some ⟨b230, 0, none⟩)), (15, .pointer (some ⟨b254, 0, none⟩)), (16, .pointer (some ⟨b278, 0, none⟩)), (17, .slice b299 ((first).length) c300), (18, .slice b313 ((second).length) c314), (19, .slice b335 (((F_ThenMorphisms fp0 fp1 gp0 gp1 qp0 qp1 first second).1).length) c336), (20, .int .i64 ((F_ThenMorphisms fp0 fp1 gp0 gp1 qp0 qp1 first second).2))]) ⟨rfl, rfl, rfl, rfl, rfl, rfl, rfl, rfl, rfl, rfl, rfl, rfl, rfl, rfl, trivial⟩; clear hE348
            refine p_tn ?_
            refine c_seq ?_
            refine c_cut (fun a' w' => E a' 184 [(3, .slice firstA first.length firstC), (4, .slice secondA second.length secondC), (5, .pointer (some ⟨b6, 0, none⟩)), (6, .pointer (some ⟨b12, 0, none⟩)), (7, .pointer (some ⟨b18, 0, none⟩)), (12, .slice b205 (((F_s_ThenMorphisms fp0 fp1 gp0 gp1 qp0 qp1 first second).1).length) c206), (13, .int .i64 ((F_s_ThenMorphisms fp0 fp1 gp0 gp1 qp0 qp1 first second).2)), (14, .pointer (some ⟨b230, 0, none⟩)), (15, .pointer (some ⟨b254, 0, none⟩)), (16, .pointer (some ⟨b278, 0, none⟩)), (17, .slice b299 ((first).length) c300), (18, .slice b313 ((second).length) c314), (19, .slice b335 (((F_ThenMorphisms fp0 fp1 gp0 gp1 qp0 qp1 first second).1).length) c336), (20, .int .i64 ((F_ThenMorphisms fp0 fp1 gp0 gp1 qp0 qp1 first second).2)), (88, .bool ((!(decide (((F_ThenMorphisms fp0 fp1 gp0 gp1 qp0 qp1 first second).1) = ((F_s_ThenMorphisms fp0 fp1 gp0 gp1 qp0 qp1 first second).1)))) || (!decide (((F_ThenMorphisms fp0 fp1 gp0 gp1 qp0 qp1 first second).2) = ((F_s_ThenMorphisms fp0 fp1 gp0 gp1 qp0 qp1 first second).2)))))] ∧ St w w' [.own 2 1 b335 (((F_ThenMorphisms fp0 fp1 gp0 gp1 qp0 qp1 first second).1).length) c336 ((F_ThenMorphisms fp0 fp1 gp0 gp1 qp0 qp1 first second).1), .own 2 1 b313 ((second).length) c314 second, .own 2 1 b299 ((first).length) c300 first, .own 2 1 b275 ((qp1).length) c276 qp1, .blk b278 #[.int .i64 qp0, .slice b275 ((qp1).length) c276] 26, .own 2 1 b251 ((gp1).length) c252 gp1, .blk b254 #[.int .i64 gp0, .slice b251 ((gp1).length) c252] 26, .own 2 1 b227 ((fp1).length) c228 fp1, .blk b230 #[.int .i64 fp0, .slice b227 ((fp1).length) c228] 26, .own 2 1 b205 (((F_s_ThenMorphisms fp0 fp1 gp0 gp1 qp0 qp1 first second).1).length) c206 ((F_s_ThenMorphisms fp0 fp1 gp0 gp1 qp0 qp1 first second).1), .own 2 1 b196 ((second).length) c197 second, .own 2 1 b187 ((first).length) c188 first, .own 2 1 b178 ((qp1).length) c179 qp1, .own 2 1 b169 ((gp1).length) c170 gp1, .own 2 1 b160 ((fp1).length) c161 fp1, .rd 1 qp1A qp1.length qp1C qp1, .blk b18 #[.int .i64 qp0, .slice qp1A qp1.length qp1C] 24, .rd 1 gp1A gp1.length gp1C gp1, .blk b12 #[.int .i64 gp0, .slice gp1A gp1.length gp1C] 24, .rd 1 fp1A fp1.length fp1C fp1, .blk b6 #[.int .i64 fp0, .slice fp1A fp1.length fp1C] 24, .rd 1 secondA second.length secondC second, .rd 1 firstA first.length firstC first]) ?_ ?_
            ·
              refine c_reg ?_
              refine q_step (v := .slice b335 (((F_ThenMorphisms fp0 fp1 gp0 gp1 qp0 qp1 first second).1).length) c336) hE349 (y_move rfl) rfl rfl rfl ?_; intro a350 hE351; clear hE349
              refine q_step (v := .slice b205 (((F_s_ThenMorphisms fp0 fp1 gp0 gp1 qp0 qp1 first second).1).length) c206) hE351 (y_move rfl) rfl rfl rfl ?_; intro a352 hE353; clear hE351
              refine l_step hE353 rfl (l_call (f := 25) (argv := [.slice b335 (((F_ThenMorphisms fp0 fp1 gp0 gp1 qp0 qp1 first second).1).length) c336, .slice b205 (((F_s_ThenMorphisms fp0 fp1 gp0 gp1 qp0 qp1 first second).1).length) c206]) hE353 (fun _ => cf_l_eqInt64S _ _) rfl rfl (d_l_eqInt64S b335 (((F_ThenMorphisms fp0 fp1 gp0 gp1 qp0 qp1 first second).1).length) c336 ((F_ThenMorphisms fp0 fp1 gp0 gp1 qp0 qp1 first second).1) b205 (((F_s_ThenMorphisms fp0 fp1 gp0 gp1 qp0 qp1 first second).1).length) c206 ((F_s_ThenMorphisms fp0 fp1 gp0 gp1 qp0 qp1 first second).1) w330 (St.rdO (i := 0) hS333 rfl) (St.rdO (i := 9) hS333 rfl)) ?_)
              rintro _ w355 ⟨rfl, he359⟩ a356 hE357; clear hE353
              have hS358 := St.go hS333 he359; clear hS333
              refine q_step (v := .bool (!(decide (((F_ThenMorphisms fp0 fp1 gp0 gp1 qp0 qp1 first second).1) = ((F_s_ThenMorphisms fp0 fp1 gp0 gp1 qp0 qp1 first second).1))))) hE357 (y_not rfl) rfl rfl rfl ?_; intro a360 hE361; clear hE357
              refine q_step (v := .bool (!(decide (((F_ThenMorphisms fp0 fp1 gp0 gp1 qp0 qp1 first second).1) = ((F_s_ThenMorphisms fp0 fp1 gp0 gp1 qp0 qp1 first second).1))))) hE361 (y_move rfl) rfl rfl rfl ?_; intro a362 hE363; clear hE361
              rcases Bool.eq_false_or_eq_true (!(decide (((F_ThenMorphisms fp0 fp1 gp0 gp1 qp0 qp1 first second).1) = ((F_s_ThenMorphisms fp0 fp1 gp0 gp1 qp0 qp1 first second).1)))) with hb364 | hb364
              ·
                have hE365 := hE363; rw [hb364] at hE365; clear hE363
                have ht366 := bn_t hb364
                have hp367 := of_decide_eq_false ht366
                refine q_skip hE365 rfl rfl rfl ?_; intro a368 hE369; clear hE365
                refine q_skip hE369 rfl rfl rfl ?_; intro a370 hE371; clear hE369
                refine q_skip hE371 rfl rfl rfl ?_; intro a372 hE373; clear hE371
                refine q_step (v := .bool true) hE373 (y_pick (b := true) rfl rfl) rfl rfl rfl ?_; intro a374 hE375; clear hE373
                refine c_nil ?_
                have hE376 := hE375.sub (L' := [(3, .slice firstA first.length firstC), (4, .slice secondA second.length secondC), (5, .pointer (some ⟨b6, 0, none⟩)), (6, .pointer (some ⟨b12, 0, none⟩)), (7, .pointer (some ⟨b18, 0, none⟩)), (12, .slice b205 (((F_s_ThenMorphisms fp0 fp1 gp0 gp1 qp0 qp1 first second).1).length) c206), (13, .int .i64 ((F_s_ThenMorphisms fp0 fp1 gp0 gp1 qp0 qp1 first second).2)), (14, .pointer (some ⟨b230, 0, none⟩)), (15, .pointer (some ⟨b254, 0, none⟩)), (16, .pointer (some ⟨b278, 0, none⟩)), (17, .slice b299 ((first).length) c300), (18, .slice b313 ((second).length) c314), (19, .slice b335 (((F_ThenMorphisms fp0 fp1 gp0 gp1 qp0 qp1 first second).1).length) c336), (20, .int .i64 ((F_ThenMorphisms fp0 fp1 gp0 gp1 qp0 qp1 first second).2)), (88, .bool true)]) ⟨rfl, rfl, rfl, rfl, rfl, rfl, rfl, rfl, rfl, rfl, rfl, rfl, rfl, rfl, rfl, trivial⟩; clear hE375
                refine p_tn ?_
                have hE377 := hE376.sub (L' := [(3, .slice firstA first.length firstC), (4, .slice secondA second.length secondC), (5, .pointer (some ⟨b6, 0, none⟩)), (6, .pointer (some ⟨b12, 0, none⟩)), (7, .pointer (some ⟨b18, 0, none⟩)), (12, .slice b205 (((F_s_ThenMorphisms fp0 fp1 gp0 gp1 qp0 qp1 first second).1).length) c206), (13, .int .i64 ((F_s_ThenMorphisms fp0 fp1 gp0 gp1 qp0 qp1 first second).2)), (14, .pointer (some ⟨b230, 0, none⟩)), (15, .pointer (some ⟨b254, 0, none⟩)), (16, .pointer (some ⟨b278, 0, none⟩)), (17, .slice b299 ((first).length) c300), (18, .slice b313 ((second).length) c314), (19, .slice b335 (((F_ThenMorphisms fp0 fp1 gp0 gp1 qp0 qp1 first second).1).length) c336), (20, .int .i64 ((F_ThenMorphisms fp0 fp1 gp0 gp1 qp0 qp1 first second).2)), (88, .bool true)]) ⟨rfl, rfl, rfl, rfl, rfl, rfl, rfl, rfl, rfl, rfl, rfl, rfl, rfl, rfl, rfl, trivial⟩
                have hS378 := (St.pick (Γ' := [.own 2 1 b335 (((F_ThenMorphisms fp0 fp1 gp0 gp1 qp0 qp1 first second).1).length) c336 ((F_ThenMorphisms fp0 fp1 gp0 gp1 qp0 qp1 first second).1), .own 2 1 b313 ((second).length) c314 second, .own 2 1 b299 ((first).length) c300 first, .own 2 1 b275 ((qp1).length) c276 qp1, .blk b278 #[.int .i64 qp0, .slice b275 ((qp1).length) c276] 26, .own 2 1 b251 ((gp1).length) c252 gp1, .blk b254 #[.int .i64 gp0, .slice b251 ((gp1).length) c252] 26, .own 2 1 b227 ((fp1).length) c228 fp1, .blk b230 #[.int .i64 fp0, .slice b227 ((fp1).length) c228] 26, .own 2 1 b205 (((F_s_ThenMorphisms fp0 fp1 gp0 gp1 qp0 qp1 first second).1).length) c206 ((F_s_ThenMorphisms fp0 fp1 gp0 gp1 qp0 qp1 first second).1), .own 2 1 b196 ((second).length) c197 second, .own 2 1 b187 ((first).length) c188 first, .own 2 1 b178 ((qp1).length) c179 qp1, .own 2 1 b169 ((gp1).length) c170 gp1, .own 2 1 b160 ((fp1).length) c161 fp1, .rd 1 qp1A qp1.length qp1C qp1, .blk b18 #[.int .i64 qp0, .slice qp1A qp1.length qp1C] 24, .rd 1 gp1A gp1.length gp1C gp1, .blk b12 #[.int .i64 gp0, .slice gp1A gp1.length gp1C] 24, .rd 1 fp1A fp1.length fp1C fp1, .blk b6 #[.int .i64 fp0, .slice fp1A fp1.length fp1C] 24, .rd 1 secondA second.length secondC second, .rd 1 firstA first.length firstC first]) hS358 [0, 1, 2, 4, 3, 6, 5, 8, 7, 9, 10, 11, 12, 13, 14, 20, 15, 21, 16, 22, 17, 18, 19] (by decide) rfl)
                exact ⟨(by rw [hb364]; exact hE377), hS378⟩
              ·
                have hE379 := hE363; rw [hb364] at hE379; clear hE363
                have ht380 := bn_f hb364
                have hp381 := of_decide_eq_true ht380
                refine q_step (v := .int .i64 ((F_ThenMorphisms fp0 fp1 gp0 gp1 qp0 qp1 first second).2)) hE379 (y_move rfl) rfl rfl rfl ?_; intro a382 hE383; clear hE379
                refine q_step (v := .int .i64 ((F_s_ThenMorphisms fp0 fp1 gp0 gp1 qp0 qp1 first second).2)) hE383 (y_move rfl) rfl rfl rfl ?_; intro a384 hE385; clear hE383
                refine q_step (v := .bool (!decide (((F_ThenMorphisms fp0 fp1 gp0 gp1 qp0 qp1 first second).2) = ((F_s_ThenMorphisms fp0 fp1 gp0 gp1 qp0 qp1 first second).2)))) hE385 (y_neq rfl rfl) rfl rfl rfl ?_; intro a386 hE387; clear hE385
                refine q_step (v := .bool (!decide (((F_ThenMorphisms fp0 fp1 gp0 gp1 qp0 qp1 first second).2) = ((F_s_ThenMorphisms fp0 fp1 gp0 gp1 qp0 qp1 first second).2)))) hE387 (y_pick (b := false) rfl rfl) rfl rfl rfl ?_; intro a388 hE389; clear hE387
                refine c_nil ?_
                have hE390 := hE389.sub (L' := [(3, .slice firstA first.length firstC), (4, .slice secondA second.length secondC), (5, .pointer (some ⟨b6, 0, none⟩)), (6, .pointer (some ⟨b12, 0, none⟩)), (7, .pointer (some ⟨b18, 0, none⟩)), (12, .slice b205 (((F_s_ThenMorphisms fp0 fp1 gp0 gp1 qp0 qp1 first second).1).length) c206), (13, .int .i64 ((F_s_ThenMorphisms fp0 fp1 gp0 gp1 qp0 qp1 first second).2)), (14, .pointer (some ⟨b230, 0, none⟩)), (15, .pointer (some ⟨b254, 0, none⟩)), (16, .pointer (some ⟨b278, 0, none⟩)), (17, .slice b299 ((first).length) c300), (18, .slice b313 ((second).length) c314), (19, .slice b335 (((F_ThenMorphisms fp0 fp1 gp0 gp1 qp0 qp1 first second).1).length) c336), (20, .int .i64 ((F_ThenMorphisms fp0 fp1 gp0 gp1 qp0 qp1 first second).2)), (88, .bool (!decide (((F_ThenMorphisms fp0 fp1 gp0 gp1 qp0 qp1 first second).2) = ((F_s_ThenMorphisms fp0 fp1 gp0 gp1 qp0 qp1 first second).2))))]) ⟨rfl, rfl, rfl, rfl, rfl, rfl, rfl, rfl, rfl, rfl, rfl, rfl, rfl, rfl, rfl, trivial⟩; clear hE389
                refine p_tn ?_
                have hE391 := hE390.sub (L' := [(3, .slice firstA first.length firstC), (4, .slice secondA second.length secondC), (5, .pointer (some ⟨b6, 0, none⟩)), (6, .pointer (some ⟨b12, 0, none⟩)), (7, .pointer (some ⟨b18, 0, none⟩)), (12, .slice b205 (((F_s_ThenMorphisms fp0 fp1 gp0 gp1 qp0 qp1 first second).1).length) c206), (13, .int .i64 ((F_s_ThenMorphisms fp0 fp1 gp0 gp1 qp0 qp1 first second).2)), (14, .pointer (some ⟨b230, 0, none⟩)), (15, .pointer (some ⟨b254, 0, none⟩)), (16, .pointer (some ⟨b278, 0, none⟩)), (17, .slice b299 ((first).length) c300), (18, .slice b313 ((second).length) c314), (19, .slice b335 (((F_ThenMorphisms fp0 fp1 gp0 gp1 qp0 qp1 first second).1).length) c336), (20, .int .i64 ((F_ThenMorphisms fp0 fp1 gp0 gp1 qp0 qp1 first second).2)), (88, .bool (!decide (((F_ThenMorphisms fp0 fp1 gp0 gp1 qp0 qp1 first second).2) = ((F_s_ThenMorphisms fp0 fp1 gp0 gp1 qp0 qp1 first second).2))))]) ⟨rfl, rfl, rfl, rfl, rfl, rfl, rfl, rfl, rfl, rfl, rfl, rfl, rfl, rfl, rfl, trivial⟩
                have hS392 := (St.pick (Γ' := [.own 2 1 b335 (((F_ThenMorphisms fp0 fp1 gp0 gp1 qp0 qp1 first second).1).length) c336 ((F_ThenMorphisms fp0 fp1 gp0 gp1 qp0 qp1 first second).1), .own 2 1 b313 ((second).length) c314 second, .own 2 1 b299 ((first).length) c300 first, .own 2 1 b275 ((qp1).length) c276 qp1, .blk b278 #[.int .i64 qp0, .slice b275 ((qp1).length) c276] 26, .own 2 1 b251 ((gp1).length) c252 gp1, .blk b254 #[.int .i64 gp0, .slice b251 ((gp1).length) c252] 26, .own 2 1 b227 ((fp1).length) c228 fp1, .blk b230 #[.int .i64 fp0, .slice b227 ((fp1).length) c228] 26, .own 2 1 b205 (((F_s_ThenMorphisms fp0 fp1 gp0 gp1 qp0 qp1 first second).1).length) c206 ((F_s_ThenMorphisms fp0 fp1 gp0 gp1 qp0 qp1 first second).1), .own 2 1 b196 ((second).length) c197 second, .own 2 1 b187 ((first).length) c188 first, .own 2 1 b178 ((qp1).length) c179 qp1, .own 2 1 b169 ((gp1).length) c170 gp1, .own 2 1 b160 ((fp1).length) c161 fp1, .rd 1 qp1A qp1.length qp1C qp1, .blk b18 #[.int .i64 qp0, .slice qp1A qp1.length qp1C] 24, .rd 1 gp1A gp1.length gp1C gp1, .blk b12 #[.int .i64 gp0, .slice gp1A gp1.length gp1C] 24, .rd 1 fp1A fp1.length fp1C fp1, .blk b6 #[.int .i64 fp0, .slice fp1A fp1.length fp1C] 24, .rd 1 secondA second.length secondC second, .rd 1 firstA first.length firstC first]) hS358 [0, 1, 2, 4, 3, 6, 5, 8, 7, 9, 10, 11, 12, 13, 14, 20, 15, 21, 16, 22, 17, 18, 19] (by decide) rfl)
                exact ⟨(by rw [hb364]; exact hE391), hS392⟩
            ·
              rintro a393 w394 ⟨hE395, hS396⟩; clear hE349 hS333
              refine c_cond hE395 rfl (fun ht397 => ?_) (fun ht397 => ?_)
              ·
                have hE398 := hE395; rw [ht397] at hE398; clear hE395
                refine c_seq ?_
                refine c_reg ?_
                refine q_step (v := .bool false) hE398 (y_assign rfl) rfl rfl rfl ?_; intro a399 hE400; clear hE398
                refine c_nil ?_
                have hE401 := hE400.sub (L' := [(10, .bool false)]) ⟨rfl, trivial⟩; clear hE400
                refine p_tn ?_
                refine wp_ret ?_
                refine p_tr ?_
                have hF : F_l_FnExactThenMorphisms fp0 fp1 gp0 gp1 qp0 qp1 first second = false := by unfold F_l_FnExactThenMorphisms; rw [ht397, ht132, ht105, ht78, ht49, ht34]; first | done | rfl
                refine c_ret1 hE401 rfl rfl ?_
                exact ⟨(by rw [hF]; first | done | rfl), hS396.ext⟩
              ·
                obtain ⟨ht402, ht403⟩ := bor_f ht397
                have ht404 := bn_f ht402
                have hp405 := of_decide_eq_true ht404
                have ht406 := bn_f ht403
                have hp407 := of_decide_eq_true ht406
                have hE408 := hE395; rw [ht397] at hE408; clear hE395
                refine wp_skip ?_
                refine p_tn ?_
                refine c_seq ?_
                refine c_seq ?_
                refine d_start (fun w' => w'.heap[b230]? = some (.cells #[.int .i64 fp0, .slice b227 ((fp1).length) c228] 26 (0, 0)) ∧ w'.heap[b6]? = some (.cells #[.int .i64 fp0, .slice fp1A fp1.length fp1C] 24 (0, 0)) ∧ True) [0, 1] 5 (by kernel_rfl) rfl ?_
                intro w409 he410; have hS411 := St.go hS396 he410; clear hS396
                refine d_take (v := .agg #[.int .i64 fp0, .slice b227 ((fp1).length) c228]) 0 rfl hE408 ⟨(St.row (i := 8) hS411 rfl _ (Ext.refl _)), (St.row (i := 20) hS411 rfl _ (Ext.refl _)), trivial⟩ (y_loadS Try.underlying26 rfl (by kernel_rfl) rfl (fun _ h => h.1)) rfl rfl (by kernel_rfl) (by kernel_rfl) (by kernel_rfl) rfl rfl (fun _ _ _ h => h) ?_; intro a412 hE413; clear hE408
                refine d_take (v := .agg #[.int .i64 fp0, .slice fp1A fp1.length fp1C]) 1 rfl hE413 ⟨(St.row (i := 8) hS411 rfl _ (Ext.refl _)), (St.row (i := 20) hS411 rfl _ (Ext.refl _)), trivial⟩ (y_loadS Try.underlying24 rfl (by kernel_rfl) rfl (fun _ h => h.2.1)) rfl rfl (by kernel_rfl) (by kernel_rfl) (by kernel_rfl) rfl rfl (fun _ _ _ h => h) ?_; intro a414 hE415; clear hE413
                refine d_only 2 (by kernel_rfl) rfl hE415 rfl (l_call (f := 17) (argv := [.agg #[.int .i64 fp0, .slice fp1A fp1.length fp1C]]) hE415 (fun _ => cf_l_toFrame _ _) rfl rfl (d_l_toFrame fp0 fp1A fp1.length fp1C fp1 w409 (St.rdR (i := 19) hS411 rfl) (by first | omega | (simp only [marked_len]; omega))) ?_)
                rintro _ w417 ⟨b422, c423, rfl, ho424, he421⟩ a418 hE419; clear hE415
                have hS420 := St.own hS411 he421 ho424; clear hS411
                refine ⟨fun _ _ => ⟨(St.row (i := 9) hS420 rfl _ (Ext.refl _)), (St.row (i := 21) hS420 rfl _ (Ext.refl _)), trivial⟩, ?_⟩
                refine d_only 3 (by kernel_rfl) rfl hE419 rfl (l_call (f := 19) (argv := [.agg #[.int .i64 fp0, .slice b227 ((fp1).length) c228], .agg #[.int .i64 fp0, .slice b422 ((fp1).length) c423]]) hE419 (fun _ => cf_l_eqFrame _ _) rfl rfl (d_l_eqFrame fp0 b227 ((fp1).length) c228 fp1 fp0 b422 ((fp1).length) c423 fp1 w417 (St.rdO (i := 8) hS420 rfl) (St.rdO (i := 0) hS420 rfl)) ?_)
                rintro _ w426 ⟨rfl, he430⟩ a427 hE428; clear hE419
                have hS429 := St.go hS420 he430; clear hS420
                refine ⟨fun _ _ => ⟨(St.row (i := 9) hS429 rfl _ (Ext.refl _)), (St.row (i := 21) hS429 rfl _ (Ext.refl _)), trivial⟩, ?_⟩
                refine d_pure (v := .bool (!(decide ((fp0, fp1) = (fp0, fp1))))) 4 rfl hE428 (y_not rfl) rfl (by kernel_rfl) (by kernel_rfl) (by kernel_rfl) rfl rfl (fun _ _ _ h => h) ?_; intro a431 hE432; clear hE428
                refine d_done (by kernel_rfl) ?_
                have hE433 := hE432.sub (L' := [(3, .slice firstA first.length firstC), (4, .slice secondA second.length secondC), (5, .pointer (some ⟨b6, 0, none⟩)), (6, .pointer (some ⟨b12, 0, none⟩)), (7, .pointer (some ⟨b18, 0, none⟩)), (12, .slice b205 (((F_s_ThenMorphisms fp0 fp1 gp0 gp1 qp0 qp1 first second).1).length) c206), (13, .int .i64 ((F_s_ThenMorphisms fp0 fp1 gp0 gp1 qp0 qp1 first second).2)), (14, .pointer (some ⟨b230, 0, none⟩)), (15, .pointer (some ⟨b254, 0, none⟩)), (16, .pointer (some ⟨b278, 0, none⟩)), (17, .slice b299 ((first).length) c300), (18, .slice b313 ((second).length) c314), (19, .slice b335 (((F_ThenMorphisms fp0 fp1 gp0 gp1 qp0 qp1 first second).1).length) c336), (20, .int .i64 ((F_ThenMorphisms fp0 fp1 gp0 gp1 qp0 qp1 first second).2)), (93, .bool (!(decide ((fp0, fp1) = (fp0, fp1)))))]) ⟨rfl, rfl, rfl, rfl, rfl, rfl, rfl, rfl, rfl, rfl, rfl, rfl, rfl, rfl, rfl, trivial⟩; clear hE432
                refine p_tn ?_
                refine c_cond hE433 rfl (fun ht434 => ?_) (fun ht434 => ?_)
                ·
                  have ht435 := bn_t ht434
                  have hp436 := of_decide_eq_false ht435
                  have hE437 := hE433; rw [ht434] at hE437; clear hE433
                  refine c_seq ?_
                  refine c_reg ?_
                  refine q_step (v := .bool false) hE437 (y_assign rfl) rfl rfl rfl ?_; intro a438 hE439; clear hE437
                  refine c_nil ?_
                  have hE440 := hE439.sub (L' := [(10, .bool false)]) ⟨rfl, trivial⟩; clear hE439
                  refine p_tn ?_
                  refine wp_ret ?_
                  refine p_tr ?_
                  have hF : F_l_FnExactThenMorphisms fp0 fp1 gp0 gp1 qp0 qp1 first second = false := by unfold F_l_FnExactThenMorphisms; rw [ht434, ht397, ht132, ht105, ht78, ht49, ht34]; first | done | rfl
                  refine c_ret1 hE440 rfl rfl ?_
                  exact ⟨(by rw [hF]; first | done | rfl), hS429.ext⟩
                ·
                  have ht441 := bn_f ht434
                  have hp442 := of_decide_eq_true ht441
                  have hE443 := hE433; rw [ht434] at hE443; clear hE433
                  refine wp_skip ?_
                  refine p_tn ?_
                  refine c_seq ?_
                  refine c_seq ?_
                  refine d_start (fun w' => w'.heap[b254]? = some (.cells #[.int .i64 gp0, .slice b251 ((gp1).length) c252] 26 (0, 0)) ∧ w'.heap[b12]? = some (.cells #[.int .i64 gp0, .slice gp1A gp1.length gp1C] 24 (0, 0)) ∧ True) [0, 1] 5 (by kernel_rfl) rfl ?_
                  intro w444 he445; have hS446 := St.go hS429 he445; clear hS429
                  refine d_take (v := .agg #[.int .i64 gp0, .slice b251 ((gp1).length) c252]) 0 rfl hE443 ⟨(St.row (i := 7) hS446 rfl _ (Ext.refl _)), (St.row (i := 19) hS446 rfl _ (Ext.refl _)), trivial⟩ (y_loadS Try.underlying26 rfl (by kernel_rfl) rfl (fun _ h => h.1)) rfl rfl (by kernel_rfl) (by kernel_rfl) (by kernel_rfl) rfl rfl (fun _ _ _ h => h) ?_; intro a447 hE448; clear hE443
                  refine d_take (v := .agg #[.int .i64 gp0, .slice gp1A gp1.length gp1C]) 1 rfl hE448 ⟨(St.row (i := 7) hS446 rfl _ (Ext.refl _)), (St.row (i := 19) hS446 rfl _ (Ext.refl _)), trivial⟩ (y_loadS Try.underlying24 rfl (by kernel_rfl) rfl (fun _ h => h.2.1)) rfl rfl (by kernel_rfl) (by kernel_rfl) (by kernel_rfl) rfl rfl (fun _ _ _ h => h) ?_; intro a449 hE450; clear hE448
                  refine d_only 2 (by kernel_rfl) rfl hE450 rfl (l_call (f := 17) (argv := [.agg #[.int .i64 gp0, .slice gp1A gp1.length gp1C]]) hE450 (fun _ => cf_l_toFrame _ _) rfl rfl (d_l_toFrame gp0 gp1A gp1.length gp1C gp1 w444 (St.rdR (i := 18) hS446 rfl) (by first | omega | (simp only [marked_len]; omega))) ?_)
                  rintro _ w452 ⟨b457, c458, rfl, ho459, he456⟩ a453 hE454; clear hE450
                  have hS455 := St.own hS446 he456 ho459; clear hS446
                  refine ⟨fun _ _ => ⟨(St.row (i := 8) hS455 rfl _ (Ext.refl _)), (St.row (i := 20) hS455 rfl _ (Ext.refl _)), trivial⟩, ?_⟩
                  refine d_only 3 (by kernel_rfl) rfl hE454 rfl (l_call (f := 19) (argv := [.agg #[.int .i64 gp0, .slice b251 ((gp1).length) c252], .agg #[.int .i64 gp0, .slice b457 ((gp1).length) c458]]) hE454 (fun _ => cf_l_eqFrame _ _) rfl rfl (d_l_eqFrame gp0 b251 ((gp1).length) c252 gp1 gp0 b457 ((gp1).length) c458 gp1 w452 (St.rdO (i := 7) hS455 rfl) (St.rdO (i := 0) hS455 rfl)) ?_)
                  rintro _ w461 ⟨rfl, he465⟩ a462 hE463; clear hE454
                  have hS464 := St.go hS455 he465; clear hS455
                  refine ⟨fun _ _ => ⟨(St.row (i := 8) hS464 rfl _ (Ext.refl _)), (St.row (i := 20) hS464 rfl _ (Ext.refl _)), trivial⟩, ?_⟩
                  refine d_pure (v := .bool (!(decide ((gp0, gp1) = (gp0, gp1))))) 4 rfl hE463 (y_not rfl) rfl (by kernel_rfl) (by kernel_rfl) (by kernel_rfl) rfl rfl (fun _ _ _ h => h) ?_; intro a466 hE467; clear hE463
                  refine d_done (by kernel_rfl) ?_
                  have hE468 := hE467.sub (L' := [(3, .slice firstA first.length firstC), (4, .slice secondA second.length secondC), (5, .pointer (some ⟨b6, 0, none⟩)), (6, .pointer (some ⟨b12, 0, none⟩)), (7, .pointer (some ⟨b18, 0, none⟩)), (12, .slice b205 (((F_s_ThenMorphisms fp0 fp1 gp0 gp1 qp0 qp1 first second).1).length) c206), (13, .int .i64 ((F_s_ThenMorphisms fp0 fp1 gp0 gp1 qp0 qp1 first second).2)), (14, .pointer (some ⟨b230, 0, none⟩)), (15, .pointer (some ⟨b254, 0, none⟩)), (16, .pointer (some ⟨b278, 0, none⟩)), (17, .slice b299 ((first).length) c300), (18, .slice b313 ((second).length) c314), (19, .slice b335 (((F_ThenMorphisms fp0 fp1 gp0 gp1 qp0 qp1 first second).1).length) c336), (20, .int .i64 ((F_ThenMorphisms fp0 fp1 gp0 gp1 qp0 qp1 first second).2)), (98, .bool (!(decide ((gp0, gp1) = (gp0, gp1)))))]) ⟨rfl, rfl, rfl, rfl, rfl, rfl, rfl, rfl, rfl, rfl, rfl, rfl, rfl, rfl, rfl, trivial⟩; clear hE467
                  refine p_tn ?_
                  refine c_cond hE468 rfl (fun ht469 => ?_) (fun ht469 => ?_)
                  ·
                    have ht470 := bn_t ht469
                    have hp471 := of_decide_eq_false ht470
                    have hE472 := hE468; rw [ht469] at hE472; clear hE468
                    refine c_seq ?_
                    refine c_reg ?_
                    refine q_step (v := .bool false) hE472 (y_assign rfl) rfl rfl rfl ?_; intro a473 hE474; clear hE472
                    refine c_nil ?_
                    have hE475 := hE474.sub (L' := [(10, .bool false)]) ⟨rfl, trivial⟩; clear hE474
                    refine p_tn ?_
                    refine wp_ret ?_
                    refine p_tr ?_
                    have hF : F_l_FnExactThenMorphisms fp0 fp1 gp0 gp1 qp0 qp1 first second = false := by unfold F_l_FnExactThenMorphisms; rw [ht469, ht434, ht397, ht132, ht105, ht78, ht49, ht34]; first | done | rfl
                    refine c_ret1 hE475 rfl rfl ?_
                    exact ⟨(by rw [hF]; first | done | rfl), hS464.ext⟩
                  ·
                    have ht476 := bn_f ht469
                    have hp477 := of_decide_eq_true ht476
                    have hE478 := hE468; rw [ht469] at hE478; clear hE468
                    refine wp_skip ?_
                    refine p_tn ?_
                    refine c_seq ?_
                    refine c_seq ?_
                    refine d_start (fun w' => w'.heap[b278]? = some (.cells #[.int .i64 qp0, .slice b275 ((qp1).length) c276] 26 (0, 0)) ∧ w'.heap[b18]? = some (.cells #[.int .i64 qp0, .slice qp1A qp1.length qp1C] 24 (0, 0)) ∧ True) [0, 1] 5 (by kernel_rfl) rfl ?_
                    intro w479 he480; have hS481 := St.go hS464 he480; clear hS464
                    refine d_take (v := .agg #[.int .i64 qp0, .slice b275 ((qp1).length) c276]) 0 rfl hE478 ⟨(St.row (i := 6) hS481 rfl _ (Ext.refl _)), (St.row (i := 18) hS481 rfl _ (Ext.refl _)), trivial⟩ (y_loadS Try.underlying26 rfl (by kernel_rfl) rfl (fun _ h => h.1)) rfl rfl (by kernel_rfl) (by kernel_rfl) (by kernel_rfl) rfl rfl (fun _ _ _ h => h) ?_; intro a482 hE483; clear hE478
                    refine d_take (v := .agg #[.int .i64 qp0, .slice qp1A qp1.length qp1C]) 1 rfl hE483 ⟨(St.row (i := 6) hS481 rfl _ (Ext.refl _)), (St.row (i := 18) hS481 rfl _ (Ext.refl _)), trivial⟩ (y_loadS Try.underlying24 rfl (by kernel_rfl) rfl (fun _ h => h.2.1)) rfl rfl (by kernel_rfl) (by kernel_rfl) (by kernel_rfl) rfl rfl (fun _ _ _ h => h) ?_; intro a484 hE485; clear hE483
                    refine d_only 2 (by kernel_rfl) rfl hE485 rfl (l_call (f := 17) (argv := [.agg #[.int .i64 qp0, .slice qp1A qp1.length qp1C]]) hE485 (fun _ => cf_l_toFrame _ _) rfl rfl (d_l_toFrame qp0 qp1A qp1.length qp1C qp1 w479 (St.rdR (i := 17) hS481 rfl) (by first | omega | (simp only [marked_len]; omega))) ?_)
                    rintro _ w487 ⟨b492, c493, rfl, ho494, he491⟩ a488 hE489; clear hE485
                    have hS490 := St.own hS481 he491 ho494; clear hS481
                    refine ⟨fun _ _ => ⟨(St.row (i := 7) hS490 rfl _ (Ext.refl _)), (St.row (i := 19) hS490 rfl _ (Ext.refl _)), trivial⟩, ?_⟩
                    refine d_only 3 (by kernel_rfl) rfl hE489 rfl (l_call (f := 19) (argv := [.agg #[.int .i64 qp0, .slice b275 ((qp1).length) c276], .agg #[.int .i64 qp0, .slice b492 ((qp1).length) c493]]) hE489 (fun _ => cf_l_eqFrame _ _) rfl rfl (d_l_eqFrame qp0 b275 ((qp1).length) c276 qp1 qp0 b492 ((qp1).length) c493 qp1 w487 (St.rdO (i := 6) hS490 rfl) (St.rdO (i := 0) hS490 rfl)) ?_)
                    rintro _ w496 ⟨rfl, he500⟩ a497 hE498; clear hE489
                    have hS499 := St.go hS490 he500; clear hS490
                    refine ⟨fun _ _ => ⟨(St.row (i := 7) hS499 rfl _ (Ext.refl _)), (St.row (i := 19) hS499 rfl _ (Ext.refl _)), trivial⟩, ?_⟩
                    refine d_pure (v := .bool (!(decide ((qp0, qp1) = (qp0, qp1))))) 4 rfl hE498 (y_not rfl) rfl (by kernel_rfl) (by kernel_rfl) (by kernel_rfl) rfl rfl (fun _ _ _ h => h) ?_; intro a501 hE502; clear hE498
                    refine d_done (by kernel_rfl) ?_
                    have hE503 := hE502.sub (L' := [(3, .slice firstA first.length firstC), (4, .slice secondA second.length secondC), (5, .pointer (some ⟨b6, 0, none⟩)), (6, .pointer (some ⟨b12, 0, none⟩)), (7, .pointer (some ⟨b18, 0, none⟩)), (12, .slice b205 (((F_s_ThenMorphisms fp0 fp1 gp0 gp1 qp0 qp1 first second).1).length) c206), (13, .int .i64 ((F_s_ThenMorphisms fp0 fp1 gp0 gp1 qp0 qp1 first second).2)), (14, .pointer (some ⟨b230, 0, none⟩)), (15, .pointer (some ⟨b254, 0, none⟩)), (16, .pointer (some ⟨b278, 0, none⟩)), (17, .slice b299 ((first).length) c300), (18, .slice b313 ((second).length) c314), (19, .slice b335 (((F_ThenMorphisms fp0 fp1 gp0 gp1 qp0 qp1 first second).1).length) c336), (20, .int .i64 ((F_ThenMorphisms fp0 fp1 gp0 gp1 qp0 qp1 first second).2)), (103, .bool (!(decide ((qp0, qp1) = (qp0, qp1)))))]) ⟨rfl, rfl, rfl, rfl, rfl, rfl, rfl, rfl, rfl, rfl, rfl, rfl, rfl, rfl, rfl, trivial⟩; clear hE502
                    refine p_tn ?_
                    refine c_cond hE503 rfl (fun ht504 => ?_) (fun ht504 => ?_)
                    ·
                      have ht505 := bn_t ht504
                      have hp506 := of_decide_eq_false ht505
                      have hE507 := hE503; rw [ht504] at hE507; clear hE503
                      refine c_seq ?_
                      refine c_reg ?_
                      refine q_step (v := .bool false) hE507 (y_assign rfl) rfl rfl rfl ?_; intro a508 hE509; clear hE507
                      refine c_nil ?_
                      have hE510 := hE509.sub (L' := [(10, .bool false)]) ⟨rfl, trivial⟩; clear hE509
                      refine p_tn ?_
                      refine wp_ret ?_
                      refine p_tr ?_
                      have hF : F_l_FnExactThenMorphisms fp0 fp1 gp0 gp1 qp0 qp1 first second = false := by unfold F_l_FnExactThenMorphisms; rw [ht504, ht469, ht434, ht397, ht132, ht105, ht78, ht49, ht34]; first | done | rfl
                      refine c_ret1 hE510 rfl rfl ?_
                      exact ⟨(by rw [hF]; first | done | rfl), hS499.ext⟩
                    ·
                      have ht511 := bn_f ht504
                      have hp512 := of_decide_eq_true ht511
                      have hE513 := hE503; rw [ht504] at hE513; clear hE503
                      refine wp_skip ?_
                      refine p_tn ?_
                      refine c_seq ?_
                      refine c_seq ?_
                      refine c_reg ?_
                      refine q_step (v := .slice b299 ((first).length) c300) hE513 (y_move rfl) rfl rfl rfl ?_; intro a514 hE515; clear hE513
                      refine q_step (v := .slice firstA first.length firstC) hE515 (y_move rfl) rfl rfl rfl ?_; intro a516 hE517; clear hE515
                      refine l_step hE517 rfl (l_call (f := 23) (argv := [.slice firstA first.length firstC]) hE517 (fun _ => cf_l_toInt64S _ _) rfl rfl (d_l_toInt64S firstA first.length firstC first w496 (St.rdR (i := 25) hS499 rfl) (by first | omega | (simp only [marked_len]; omega))) ?_)
                      rintro _ w519 ⟨b524, c525, rfl, ho526, he523⟩ a520 hE521; clear hE517
                      have hS522 := St.own hS499 he523 ho526; clear hS499
                      refine l_step hE521 rfl (l_call (f := 25) (argv := [.slice b299 ((first).length) c300, .slice b524 ((first).length) c525]) hE521 (fun _ => cf_l_eqInt64S _ _) rfl rfl (d_l_eqInt64S b299 ((first).length) c300 first b524 ((first).length) c525 first w519 (St.rdO (i := 6) hS522 rfl) (St.rdO (i := 0) hS522 rfl)) ?_)
                      rintro _ w528 ⟨rfl, he532⟩ a529 hE530; clear hE521
                      have hS531 := St.go hS522 he532; clear hS522
                      refine q_step (v := .bool (!(decide (first = first)))) hE530 (y_not rfl) rfl rfl rfl ?_; intro a533 hE534; clear hE530
                      refine c_nil ?_
                      have hE535 := hE534.sub (L' := [(3, .slice firstA first.length firstC), (4, .slice secondA second.length secondC), (5, .pointer (some ⟨b6, 0, none⟩)), (6, .pointer (some ⟨b12, 0, none⟩)), (7, .pointer (some ⟨b18, 0, none⟩)), (12, .slice b205 (((F_s_ThenMorphisms fp0 fp1 gp0 gp1 qp0 qp1 first second).1).length) c206), (13, .int .i64 ((F_s_ThenMorphisms fp0 fp1 gp0 gp1 qp0 qp1 first second).2)), (14, .pointer (some ⟨b230, 0, none⟩)), (15, .pointer (some ⟨b254, 0, none⟩)), (16, .pointer (some ⟨b278, 0, none⟩)), (17, .slice b299 ((first).length) c300), (18, .slice b313 ((second).length) c314), (19, .slice b335 (((F_ThenMorphisms fp0 fp1 gp0 gp1 qp0 qp1 first second).1).length) c336), (20, .int .i64 ((F_ThenMorphisms fp0 fp1 gp0 gp1 qp0 qp1 first second).2)), (108, .bool (!(decide (first = first))))]) ⟨rfl, rfl, rfl, rfl, rfl, rfl, rfl, rfl, rfl, rfl, rfl, rfl, rfl, rfl, rfl, trivial⟩; clear hE534
                      refine p_tn ?_
                      refine c_cond hE535 rfl (fun ht536 => ?_) (fun ht536 => ?_)
                      ·
                        have ht537 := bn_t ht536
                        have hp538 := of_decide_eq_false ht537
                        have hE539 := hE535; rw [ht536] at hE539; clear hE535
                        refine c_seq ?_
                        refine c_reg ?_
                        refine q_step (v := .bool false) hE539 (y_assign rfl) rfl rfl rfl ?_; intro a540 hE541; clear hE539
                        refine c_nil ?_
                        have hE542 := hE541.sub (L' := [(10, .bool false)]) ⟨rfl, trivial⟩; clear hE541
                        refine p_tn ?_
                        refine wp_ret ?_
                        refine p_tr ?_
                        have hF : F_l_FnExactThenMorphisms fp0 fp1 gp0 gp1 qp0 qp1 first second = false := by unfold F_l_FnExactThenMorphisms; rw [ht536, ht504, ht469, ht434, ht397, ht132, ht105, ht78, ht49, ht34]; first | done | rfl
                        refine c_ret1 hE542 rfl rfl ?_
                        exact ⟨(by rw [hF]; first | done | rfl), hS531.ext⟩
                      ·
                        have ht543 := bn_f ht536
                        have hp544 := of_decide_eq_true ht543
                        have hE545 := hE535; rw [ht536] at hE545; clear hE535
                        refine wp_skip ?_
                        refine p_tn ?_
                        refine c_seq ?_
                        refine c_seq ?_
                        refine c_reg ?_
                        refine q_step (v := .slice b313 ((second).length) c314) hE545 (y_move rfl) rfl rfl rfl ?_; intro a546 hE547; clear hE545
                        refine q_step (v := .slice secondA second.length secondC) hE547 (y_move rfl) rfl rfl rfl ?_; intro a548 hE549; clear hE547
                        refine l_step hE549 rfl (l_call (f := 23) (argv := [.slice secondA second.length secondC]) hE549 (fun _ => cf_l_toInt64S _ _) rfl rfl (d_l_toInt64S secondA second.length secondC second w528 (St.rdR (i := 25) hS531 rfl) (by first | omega | (simp only [marked_len]; omega))) ?_)
                        rintro _ w551 ⟨b556, c557, rfl, ho558, he555⟩ a552 hE553; clear hE549
                        have hS554 := St.own hS531 he555 ho558; clear hS531
                        refine l_step hE553 rfl (l_call (f := 25) (argv := [.slice b313 ((second).length) c314, .slice b556 ((second).length) c557]) hE553 (fun _ => cf_l_eqInt64S _ _) rfl rfl (d_l_eqInt64S b313 ((second).length) c314 second b556 ((second).length) c557 second w551 (St.rdO (i := 6) hS554 rfl) (St.rdO (i := 0) hS554 rfl)) ?_)
                        rintro _ w560 ⟨rfl, he564⟩ a561 hE562; clear hE553
                        have hS563 := St.go hS554 he564; clear hS554
                        refine q_step (v := .bool (!(decide (second = second)))) hE562 (y_not rfl) rfl rfl rfl ?_; intro a565 hE566; clear hE562
                        refine c_nil ?_
                        have hE567 := hE566.sub (L' := [(3, .slice firstA first.length firstC), (4, .slice secondA second.length secondC), (5, .pointer (some ⟨b6, 0, none⟩)), (6, .pointer (some ⟨b12, 0, none⟩)), (7, .pointer (some ⟨b18, 0, none⟩)), (12, .slice b205 (((F_s_ThenMorphisms fp0 fp1 gp0 gp1 qp0 qp1 first second).1).length) c206), (13, .int .i64 ((F_s_ThenMorphisms fp0 fp1 gp0 gp1 qp0 qp1 first second).2)), (14, .pointer (some ⟨b230, 0, none⟩)), (15, .pointer (some ⟨b254, 0, none⟩)), (16, .pointer (some ⟨b278, 0, none⟩)), (17, .slice b299 ((first).length) c300), (18, .slice b313 ((second).length) c314), (19, .slice b335 (((F_ThenMorphisms fp0 fp1 gp0 gp1 qp0 qp1 first second).1).length) c336), (20, .int .i64 ((F_ThenMorphisms fp0 fp1 gp0 gp1 qp0 qp1 first second).2)), (113, .bool (!(decide (second = second))))]) ⟨rfl, rfl, rfl, rfl, rfl, rfl, rfl, rfl, rfl, rfl, rfl, rfl, rfl, rfl, rfl, trivial⟩; clear hE566
                        refine p_tn ?_
                        refine c_cond hE567 rfl (fun ht568 => ?_) (fun ht568 => ?_)
                        ·
                          have ht569 := bn_t ht568
                          have hp570 := of_decide_eq_false ht569
                          have hE571 := hE567; rw [ht568] at hE571; clear hE567
                          refine c_seq ?_
                          refine c_reg ?_
                          refine q_step (v := .bool false) hE571 (y_assign rfl) rfl rfl rfl ?_; intro a572 hE573; clear hE571
                          refine c_nil ?_
                          have hE574 := hE573.sub (L' := [(10, .bool false)]) ⟨rfl, trivial⟩; clear hE573
                          refine p_tn ?_
                          refine wp_ret ?_
                          refine p_tr ?_
                          have hF : F_l_FnExactThenMorphisms fp0 fp1 gp0 gp1 qp0 qp1 first second = false := by unfold F_l_FnExactThenMorphisms; rw [ht568, ht536, ht504, ht469, ht434, ht397, ht132, ht105, ht78, ht49, ht34]; first | done | rfl
                          refine c_ret1 hE574 rfl rfl ?_
                          exact ⟨(by rw [hF]; first | done | rfl), hS563.ext⟩
                        ·
                          have ht575 := bn_f ht568
                          have hp576 := of_decide_eq_true ht575
                          have hE577 := hE567; rw [ht568] at hE577; clear hE567
                          refine wp_skip ?_
                          refine p_tn ?_
                          refine c_seq ?_
                          refine c_reg ?_
                          refine q_step (v := .int .i64 1) hE577 (y_assign rfl) rfl rfl rfl ?_; intro a578 hE579; clear hE577
                          refine c_nil ?_
                          have hE580 := hE579.sub (L' := [(3, .slice firstA first.length firstC), (4, .slice secondA second.length secondC), (5, .pointer (some ⟨b6, 0, none⟩)), (6, .pointer (some ⟨b12, 0, none⟩)), (7, .pointer (some ⟨b18, 0, none⟩)), (12, .slice b205 (((F_s_ThenMorphisms fp0 fp1 gp0 gp1 qp0 qp1 first second).1).length) c206), (13, .int .i64 ((F_s_ThenMorphisms fp0 fp1 gp0 gp1 qp0 qp1 first second).2)), (14, .pointer (some ⟨b230, 0, none⟩)), (15, .pointer (some ⟨b254, 0, none⟩)), (16, .pointer (some ⟨b278, 0, none⟩)), (17, .slice b299 ((first).length) c300), (18, .slice b313 ((second).length) c314), (19, .slice b335 (((F_ThenMorphisms fp0 fp1 gp0 gp1 qp0 qp1 first second).1).length) c336), (20, .int .i64 ((F_ThenMorphisms fp0 fp1 gp0 gp1 qp0 qp1 first second).2)), (21, .int .i64 1)]) ⟨rfl, rfl, rfl, rfl, rfl, rfl, rfl, rfl, rfl, rfl, rfl, rfl, rfl, rfl, rfl, trivial⟩; clear hE579
                          refine p_tn ?_
                          refine c_seq ?_
                          refine c_reg ?_
                          refine q_step (v := .agg #[.int .i64 fp0, .slice b227 ((fp1).length) c228]) hE580 (y_loadS Try.underlying26 rfl (by kernel_rfl) rfl (St.row (i := 13) hS563 rfl)) rfl rfl rfl ?_; intro a581 hE582; clear hE580
                          refine q_step (v := .int .i64 1) hE582 (y_move rfl) rfl rfl rfl ?_; intro a583 hE584; clear hE582
                          have hS591 := (St.pick (Γ' := [.own 2 1 b227 ((fp1).length) c228 fp1, .own 2 1 b556 ((second).length) c557 second, .own 2 1 b524 ((first).length) c525 first, .own 2 1 b492 ((qp1).length) c493 qp1, .own 2 1 b457 ((gp1).length) c458 gp1, .own 2 1 b422 ((fp1).length) c423 fp1, .own 2 1 b335 (((F_ThenMorphisms fp0 fp1 gp0 gp1 qp0 qp1 first second).1).length) c336 ((F_ThenMorphisms fp0 fp1 gp0 gp1 qp0 qp1 first second).1), .own 2 1 b313 ((second).length) c314 second, .own 2 1 b299 ((first).length) c300 first, .own 2 1 b275 ((qp1).length) c276 qp1, .blk b278 #[.int .i64 qp0, .slice b275 ((qp1).length) c276] 26, .own 2 1 b251 ((gp1).length) c252 gp1, .blk b254 #[.int .i64 gp0, .slice b251 ((gp1).length) c252] 26, .blk b230 #[.int .i64 fp0, .slice b227 ((fp1).length) c228] 26, .own 2 1 b205 (((F_s_ThenMorphisms fp0 fp1 gp0 gp1 qp0 qp1 first second).1).length) c206 ((F_s_ThenMorphisms fp0 fp1 gp0 gp1 qp0 qp1 first second).1), .own 2 1 b196 ((second).length) c197 second, .own 2 1 b187 ((first).length) c188 first, .own 2 1 b178 ((qp1).length) c179 qp1, .own 2 1 b169 ((gp1).length) c170 gp1, .own 2 1 b160 ((fp1).length) c161 fp1, .rd 1 qp1A qp1.length qp1C qp1, .blk b18 #[.int .i64 qp0, .slice qp1A qp1.length qp1C] 24, .rd 1 gp1A gp1.length gp1C gp1, .blk b12 #[.int .i64 gp0, .slice gp1A gp1.length gp1C] 24, .rd 1 fp1A fp1.length fp1C fp1, .blk b6 #[.int .i64 fp0, .slice fp1A fp1.length fp1C] 24, .rd 1 secondA second.length secondC second, .rd 1 firstA first.length firstC first]) hS563 [12, 0, 1, 2, 3, 4, 5, 6, 7, 8, 9, 10, 11, 13, 14, 15, 16, 17, 18, 19, 20, 21, 22, 23, 24, 25, 26, 27] (by decide) rfl); clear hS563
                          refine l_step hE584 rfl (l_call (f := 20) (argv := [.agg #[.int .i64 fp0, .slice b227 ((fp1).length) c228], .int .i64 1]) hE584 (fun _ => cf_l_markFrame _ _) rfl rfl (d_l_markFrame fp0 b227 ((fp1).length) c228 fp1 1 w560 w [.own 2 1 b556 ((second).length) c557 second, .own 2 1 b524 ((first).length) c525 first, .own 2 1 b492 ((qp1).length) c493 qp1, .own 2 1 b457 ((gp1).length) c458 gp1, .own 2 1 b422 ((fp1).length) c423 fp1, .own 2 1 b335 (((F_ThenMorphisms fp0 fp1 gp0 gp1 qp0 qp1 first second).1).length) c336 ((F_ThenMorphisms fp0 fp1 gp0 gp1 qp0 qp1 first second).1), .own 2 1 b313 ((second).length) c314 second, .own 2 1 b299 ((first).length) c300 first, .own 2 1 b275 ((qp1).length) c276 qp1, .blk b278 #[.int .i64 qp0, .slice b275 ((qp1).length) c276] 26, .own 2 1 b251 ((gp1).length) c252 gp1, .blk b254 #[.int .i64 gp0, .slice b251 ((gp1).length) c252] 26, .blk b230 #[.int .i64 fp0, .slice b227 ((fp1).length) c228] 26, .own 2 1 b205 (((F_s_ThenMorphisms fp0 fp1 gp0 gp1 qp0 qp1 first second).1).length) c206 ((F_s_ThenMorphisms fp0 fp1 gp0 gp1 qp0 qp1 first second).1), .own 2 1 b196 ((second).length) c197 second, .own 2 1 b187 ((first).length) c188 first, .own 2 1 b178 ((qp1).length) c179 qp1, .own 2 1 b169 ((gp1).length) c170 gp1, .own 2 1 b160 ((fp1).length) c161 fp1, .rd 1 qp1A qp1.length qp1C qp1, .blk b18 #[.int .i64 qp0, .slice qp1A qp1.length qp1C] 24, .rd 1 gp1A gp1.length gp1C gp1, .blk b12 #[.int .i64 gp0, .slice gp1A gp1.length gp1C] 24, .rd 1 fp1A fp1.length fp1C fp1, .blk b6 #[.int .i64 fp0, .slice fp1A fp1.length fp1C] 24, .rd 1 secondA second.length secondC second, .rd 1 firstA first.length firstC first] hS591 (by first | omega | (simp only [marked_len]; omega)) (by first | omega | (simp only [marked_len]; omega)) (by first | omega | (simp only [marked_len]; omega))) ?_)
                          rintro _ w586 ⟨rfl, hS589⟩ a587 hE588; clear hE584 hS591
                          refine q_step (v := .int .i64 (1 + (fp1.length : Int))) hE588 (y_assign rfl) rfl rfl rfl ?_; intro a592 hE593; clear hE588
                          refine c_nil ?_
                          have hE594 := hE593.sub (L' := [(3, .slice firstA first.length firstC), (4, .slice secondA second.length secondC), (5, .pointer (some ⟨b6, 0, none⟩)), (6, .pointer (some ⟨b12, 0, none⟩)), (7, .pointer (some ⟨b18, 0, none⟩)), (12, .slice b205 (((F_s_ThenMorphisms fp0 fp1 gp0 gp1 qp0 qp1 first second).1).length) c206), (13, .int .i64 ((F_s_ThenMorphisms fp0 fp1 gp0 gp1 qp0 qp1 first second).2)), (15, .pointer (some ⟨b254, 0, none⟩)), (16, .pointer (some ⟨b278, 0, none⟩)), (17, .slice b299 ((first).length) c300), (18, .slice b313 ((second).length) c314), (19, .slice b335 (((F_ThenMorphisms fp0 fp1 gp0 gp1 qp0 qp1 first second).1).length) c336), (20, .int .i64 ((F_ThenMorphisms fp0 fp1 gp0 gp1 qp0 qp1 first second).2)), (21, .int .i64 (1 + (fp1.length : Int)))]) ⟨rfl, rfl, rfl, rfl, rfl, rfl, rfl, rfl, rfl, rfl, rfl, rfl, rfl, rfl, trivial⟩; clear hE593
                          refine p_tn ?_
                          refine c_seq ?_
                          refine c_reg ?_
                          refine q_step (v := .agg #[.int .i64 gp0, .slice b251 ((gp1).length) c252]) hE594 (y_loadS Try.underlying26 rfl (by kernel_rfl) rfl (St.row (i := 12) hS589 rfl)) rfl rfl rfl ?_; intro a595 hE596; clear hE594
                          refine q_step (v := .int .i64 (1 + (fp1.length : Int))) hE596 (y_move rfl) rfl rfl rfl ?_; intro a597 hE598; clear hE596
                          have hS605 := (St.pick (Γ' := [.own 2 1 b251 ((gp1).length) c252 gp1, .own 2 1 b227 ((fp1).length) c228 (marked fp1.length 1), .own 2 1 b556 ((second).length) c557 second, .own 2 1 b524 ((first).length) c525 first, .own 2 1 b492 ((qp1).length) c493 qp1, .own 2 1 b457 ((gp1).length) c458 gp1, .own 2 1 b422 ((fp1).length) c423 fp1, .own 2 1 b335 (((F_ThenMorphisms fp0 fp1 gp0 gp1 qp0 qp1 first second).1).length) c336 ((F_ThenMorphisms fp0 fp1 gp0 gp1 qp0 qp1 first second).1), .own 2 1 b313 ((second).length) c314 second, .own 2 1 b299 ((first).length) c300 first, .own 2 1 b275 ((qp1).length) c276 qp1, .blk b278 #[.int .i64 qp0, .slice b275 ((qp1).length) c276] 26, .blk b254 #[.int .i64 gp0, .slice b251 ((gp1).length) c252] 26, .blk b230 #[.int .i64 fp0, .slice b227 ((fp1).length) c228] 26, .own 2 1 b205 (((F_s_ThenMorphisms fp0 fp1 gp0 gp1 qp0 qp1 first second).1).length) c206 ((F_s_ThenMorphisms fp0 fp1 gp0 gp1 qp0 qp1 first second).1), .own 2 1 b196 ((second).length) c197 second, .own 2 1 b187 ((first).length) c188 first, .own 2 1 b178 ((qp1).length) c179 qp1, .own 2 1 b169 ((gp1).length) c170 gp1, .own 2 1 b160 ((fp1).length) c161 fp1, .rd 1 qp1A qp1.length qp1C qp1, .blk b18 #[.int .i64 qp0, .slice qp1A qp1.length qp1C] 24, .rd 1 gp1A gp1.length gp1C gp1, .blk b12 #[.int .i64 gp0, .slice gp1A gp1.length gp1C] 24, .rd 1 fp1A fp1.length fp1C fp1, .blk b6 #[.int .i64 fp0, .slice fp1A fp1.length fp1C] 24, .rd 1 secondA second.length secondC second, .rd 1 firstA first.length firstC first]) hS589 [11, 0, 1, 2, 3, 4, 5, 6, 7, 8, 9, 10, 12, 13, 14, 15, 16, 17, 18, 19, 20, 21, 22, 23, 24, 25, 26, 27] (by decide) rfl); clear hS589
                          refine l_step hE598 rfl (l_call (f := 20) (argv := [.agg #[.int .i64 gp0, .slice b251 ((gp1).length) c252], .int .i64 (1 + (fp1.length : Int))]) hE598 (fun _ => cf_l_markFrame _ _) rfl rfl (d_l_markFrame gp0 b251 ((gp1).length) c252 gp1 (1 + (fp1.length : Int)) w586 w [.own 2 1 b227 ((fp1).length) c228 (marked fp1.length 1), .own 2 1 b556 ((second).length) c557 second, .own 2 1 b524 ((first).length) c525 first, .own 2 1 b492 ((qp1).length) c493 qp1, .own 2 1 b457 ((gp1).length) c458 gp1, .own 2 1 b422 ((fp1).length) c423 fp1, .own 2 1 b335 (((F_ThenMorphisms fp0 fp1 gp0 gp1 qp0 qp1 first second).1).length) c336 ((F_ThenMorphisms fp0 fp1 gp0 gp1 qp0 qp1 first second).1), .own 2 1 b313 ((second).length) c314 second, .own 2 1 b299 ((first).length) c300 first, .own 2 1 b275 ((qp1).length) c276 qp1, .blk b278 #[.int .i64 qp0, .slice b275 ((qp1).length) c276] 26, .blk b254 #[.int .i64 gp0, .slice b251 ((gp1).length) c252] 26, .blk b230 #[.int .i64 fp0, .slice b227 ((fp1).length) c228] 26, .own 2 1 b205 (((F_s_ThenMorphisms fp0 fp1 gp0 gp1 qp0 qp1 first second).1).length) c206 ((F_s_ThenMorphisms fp0 fp1 gp0 gp1 qp0 qp1 first second).1), .own 2 1 b196 ((second).length) c197 second, .own 2 1 b187 ((first).length) c188 first, .own 2 1 b178 ((qp1).length) c179 qp1, .own 2 1 b169 ((gp1).length) c170 gp1, .own 2 1 b160 ((fp1).length) c161 fp1, .rd 1 qp1A qp1.length qp1C qp1, .blk b18 #[.int .i64 qp0, .slice qp1A qp1.length qp1C] 24, .rd 1 gp1A gp1.length gp1C gp1, .blk b12 #[.int .i64 gp0, .slice gp1A gp1.length gp1C] 24, .rd 1 fp1A fp1.length fp1C fp1, .blk b6 #[.int .i64 fp0, .slice fp1A fp1.length fp1C] 24, .rd 1 secondA second.length secondC second, .rd 1 firstA first.length firstC first] hS605 (by first | omega | (simp only [marked_len]; omega)) (by first | omega | (simp only [marked_len]; omega)) (by first | omega | (simp only [marked_len]; omega))) ?_)
                          rintro _ w600 ⟨rfl, hS603⟩ a601 hE602; clear hE598 hS605
                          refine q_step (v := .int .i64 ((1 + (fp1.length : Int)) + (gp1.length : Int))) hE602 (y_assign rfl) rfl rfl rfl ?_; intro a606 hE607; clear hE602
                          refine c_nil ?_
                          have hE608 := hE607.sub (L' := [(3, .slice firstA first.length firstC), (4, .slice secondA second.length secondC), (5, .pointer (some ⟨b6, 0, none⟩)), (6, .pointer (some ⟨b12, 0, none⟩)), (7, .pointer (some ⟨b18, 0, none⟩)), (12, .slice b205 (((F_s_ThenMorphisms fp0 fp1 gp0 gp1 qp0 qp1 first second).1).length) c206), (13, .int .i64 ((F_s_ThenMorphisms fp0 fp1 gp0 gp1 qp0 qp1 first second).2)), (16, .pointer (some ⟨b278, 0, none⟩)), (17, .slice b299 ((first).length) c300), (18, .slice b313 ((second).length) c314), (19, .slice b335 (((F_ThenMorphisms fp0 fp1 gp0 gp1 qp0 qp1 first second).1).length) c336), (20, .int .i64 ((F_ThenMorphisms fp0 fp1 gp0 gp1 qp0 qp1 first second).2)), (21, .int .i64 ((1 + (fp1.length : Int)) + (gp1.length : Int)))]) ⟨rfl, rfl, rfl, rfl, rfl, rfl, rfl, rfl, rfl, rfl, rfl, rfl, rfl, trivial⟩; clear hE607
                          refine p_tn ?_
                          refine c_seq ?_
                          refine c_reg ?_
                          refine q_step (v := .agg #[.int .i64 qp0, .slice b275 ((qp1).length) c276]) hE608 (y_loadS Try.underlying26 rfl (by kernel_rfl) rfl (St.row (i := 11) hS603 rfl)) rfl rfl rfl ?_; intro a609 hE610; clear hE608
                          refine q_step (v := .int .i64 ((1 + (fp1.length : Int)) + (gp1.length : Int))) hE610 (y_move rfl) rfl rfl rfl ?_; intro a611 hE612; clear hE610
                          have hS619 := (St.pick (Γ' := [.own 2 1 b275 ((qp1).length) c276 qp1, .own 2 1 b251 ((gp1).length) c252 (marked gp1.length (1 + (fp1.length : Int))), .own 2 1 b227 ((fp1).length) c228 (marked fp1.length 1), .own 2 1 b556 ((second).length) c557 second, .own 2 1 b524 ((first).length) c525 first, .own 2 1 b492 ((qp1).length) c493 qp1, .own 2 1 b457 ((gp1).length) c458 gp1, .own 2 1 b422 ((fp1).length) c423 fp1, .own 2 1 b335 (((F_ThenMorphisms fp0 fp1 gp0 gp1 qp0 qp1 first second).1).length) c336 ((F_ThenMorphisms fp0 fp1 gp0 gp1 qp0 qp1 first second).1), .own 2 1 b313 ((second).length) c314 second, .own 2 1 b299 ((first).length) c300 first, .blk b278 #[.int .i64 qp0, .slice b275 ((qp1).length) c276] 26, .blk b254 #[.int .i64 gp0, .slice b251 ((gp1).length) c252] 26, .blk b230 #[.int .i64 fp0, .slice b227 ((fp1).length) c228] 26, .own 2 1 b205 (((F_s_ThenMorphisms fp0 fp1 gp0 gp1 qp0 qp1 first second).1).length) c206 ((F_s_ThenMorphisms fp0 fp1 gp0 gp1 qp0 qp1 first second).1), .own 2 1 b196 ((second).length) c197 second, .own 2 1 b187 ((first).length) c188 first, .own 2 1 b178 ((qp1).length) c179 qp1, .own 2 1 b169 ((gp1).length) c170 gp1, .own 2 1 b160 ((fp1).length) c161 fp1, .rd 1 qp1A qp1.length qp1C qp1, .blk b18 #[.int .i64 qp0, .slice qp1A qp1.length qp1C] 24, .rd 1 gp1A gp1.length gp1C gp1, .blk b12 #[.int .i64 gp0, .slice gp1A gp1.length gp1C] 24, .rd 1 fp1A fp1.length fp1C fp1, .blk b6 #[.int .i64 fp0, .slice fp1A fp1.length fp1C] 24, .rd 1 secondA second.length secondC second, .rd 1 firstA first.length firstC first]) hS603 [10, 0, 1, 2, 3, 4, 5, 6, 7, 8, 9, 11, 12, 13, 14, 15, 16, 17, 18, 19, 20, 21, 22, 23, 24, 25, 26, 27] (by decide) rfl); clear hS603
                          refine l_step hE612 rfl (l_call (f := 20) (argv := [.agg #[.int .i64 qp0, .slice b275 ((qp1).length) c276], .int .i64 ((1 + (fp1.length : Int)) + (gp1.length : Int))]) hE612 (fun _ => cf_l_markFrame _ _) rfl rfl (d_l_markFrame qp0 b275 ((qp1).length) c276 qp1 ((1 + (fp1.length : Int)) + (gp1.length : Int)) w600 w [.own 2 1 b251 ((gp1).length) c252 (marked gp1.length (1 + (fp1.length : Int))), .own 2 1 b227 ((fp1).length) c228 (marked fp1.length 1), .own 2 1 b556 ((second).length) c557 second, .own 2 1 b524 ((first).length) c525 first, .own 2 1 b492 ((qp1).length) c493 qp1, .own 2 1 b457 ((gp1).length) c458 gp1, .own 2 1 b422 ((fp1).length) c423 fp1, .own 2 1 b335 (((F_ThenMorphisms fp0 fp1 gp0 gp1 qp0 qp1 first second).1).length) c336 ((F_ThenMorphisms fp0 fp1 gp0 gp1 qp0 qp1 first second).1), .own 2 1 b313 ((second).length) c314 second, .own 2 1 b299 ((first).length) c300 first, .blk b278 #[.int .i64 qp0, .slice b275 ((qp1).length) c276] 26, .blk b254 #[.int .i64 gp0, .slice b251 ((gp1).length) c252] 26, .blk b230 #[.int .i64 fp0, .slice b227 ((fp1).length) c228] 26, .own 2 1 b205 (((F_s_ThenMorphisms fp0 fp1 gp0 gp1 qp0 qp1 first second).1).length) c206 ((F_s_ThenMorphisms fp0 fp1 gp0 gp1 qp0 qp1 first second).1), .own 2 1 b196 ((second).length) c197 second, .own 2 1 b187 ((first).length) c188 first, .own 2 1 b178 ((qp1).length) c179 qp1, .own 2 1 b169 ((gp1).length) c170 gp1, .own 2 1 b160 ((fp1).length) c161 fp1, .rd 1 qp1A qp1.length qp1C qp1, .blk b18 #[.int .i64 qp0, .slice qp1A qp1.length qp1C] 24, .rd 1 gp1A gp1.length gp1C gp1, .blk b12 #[.int .i64 gp0, .slice gp1A gp1.length gp1C] 24, .rd 1 fp1A fp1.length fp1C fp1, .blk b6 #[.int .i64 fp0, .slice fp1A fp1.length fp1C] 24, .rd 1 secondA second.length secondC second, .rd 1 firstA first.length firstC first] hS619 (by first | omega | (simp only [marked_len]; omega)) (by first | omega | (simp only [marked_len]; omega)) (by first | omega | (simp only [marked_len]; omega))) ?_)
                          rintro _ w614 ⟨rfl, hS617⟩ a615 hE616; clear hE612 hS619
                          refine q_step (v := .int .i64 (((1 + (fp1.length : Int)) + (gp1.length : Int)) + (qp1.length : Int))) hE616 (y_assign rfl) rfl rfl rfl ?_; intro a620 hE621; clear hE616
                          refine c_nil ?_
                          have hE622 := hE621.sub (L' := [(3, .slice firstA first.length firstC), (4, .slice secondA second.length secondC), (5, .pointer (some ⟨b6, 0, none⟩)), (6, .pointer (some ⟨b12, 0, none⟩)), (7, .pointer (some ⟨b18, 0, none⟩)), (12, .slice b205 (((F_s_ThenMorphisms fp0 fp1 gp0 gp1 qp0 qp1 first second).1).length) c206), (13, .int .i64 ((F_s_ThenMorphisms fp0 fp1 gp0 gp1 qp0 qp1 first second).2)), (17, .slice b299 ((first).length) c300), (18, .slice b313 ((second).length) c314), (19, .slice b335 (((F_ThenMorphisms fp0 fp1 gp0 gp1 qp0 qp1 first second).1).length) c336), (20, .int .i64 ((F_ThenMorphisms fp0 fp1 gp0 gp1 qp0 qp1 first second).2)), (21, .int .i64 (((1 + (fp1.length : Int)) + (gp1.length : Int)) + (qp1.length : Int)))]) ⟨rfl, rfl, rfl, rfl, rfl, rfl, rfl, rfl, rfl, rfl, rfl, rfl, trivial⟩; clear hE621
                          refine p_tn ?_
                          refine c_seq ?_
                          refine c_reg ?_
                          refine q_step (v := .slice b299 ((first).length) c300) hE622 (y_move rfl) rfl rfl rfl ?_; intro a623 hE624; clear hE622
                          refine q_step (v := .int .i64 (((1 + (fp1.length : Int)) + (gp1.length : Int)) + (qp1.length : Int))) hE624 (y_move rfl) rfl rfl rfl ?_; intro a625 hE626; clear hE624
                          have hS633 := (St.pick (Γ' := [.own 2 1 b299 ((first).length) c300 first, .own 2 1 b275 ((qp1).length) c276 (marked qp1.length ((1 + (fp1.length : Int)) + (gp1.length : Int))), .own 2 1 b251 ((gp1).length) c252 (marked gp1.length (1 + (fp1.length : Int))), .own 2 1 b227 ((fp1).length) c228 (marked fp1.length 1), .own 2 1 b556 ((second).length) c557 second, .own 2 1 b524 ((first).length) c525 first, .own 2 1 b492 ((qp1).length) c493 qp1, .own 2 1 b457 ((gp1).length) c458 gp1, .own 2 1 b422 ((fp1).length) c423 fp1, .own 2 1 b335 (((F_ThenMorphisms fp0 fp1 gp0 gp1 qp0 qp1 first second).1).length) c336 ((F_ThenMorphisms fp0 fp1 gp0 gp1 qp0 qp1 first second).1), .own 2 1 b313 ((second).length) c314 second, .blk b278 #[.int .i64 qp0, .slice b275 ((qp1).length) c276] 26, .blk b254 #[.int .i64 gp0, .slice b251 ((gp1).length) c252] 26, .blk b230 #[.int .i64 fp0, .slice b227 ((fp1).length) c228] 26, .own 2 1 b205 (((F_s_ThenMorphisms fp0 fp1 gp0 gp1 qp0 qp1 first second).1).length) c206 ((F_s_ThenMorphisms fp0 fp1 gp0 gp1 qp0 qp1 first second).1), .own 2 1 b196 ((second).length) c197 second, .own 2 1 b187 ((first).length) c188 first, .own 2 1 b178 ((qp1).length) c179 qp1, .own 2 1 b169 ((gp1).length) c170 gp1, .own 2 1 b160 ((fp1).length) c161 fp1, .rd 1 qp1A qp1.length qp1C qp1, .blk b18 #[.int .i64 qp0, .slice qp1A qp1.length qp1C] 24, .rd 1 gp1A gp1.length gp1C gp1, .blk b12 #[.int .i64 gp0, .slice gp1A gp1.length gp1C] 24, .rd 1 fp1A fp1.length fp1C fp1, .blk b6 #[.int .i64 fp0, .slice fp1A fp1.length fp1C] 24, .rd 1 secondA second.length secondC second, .rd 1 firstA first.length firstC first]) hS617 [10, 0, 1, 2, 3, 4, 5, 6, 7, 8, 9, 11, 12, 13, 14, 15, 16, 17, 18, 19, 20, 21, 22, 23, 24, 25, 26, 27] (by decide) rfl); clear hS617
                          refine l_step hE626 rfl (l_call (f := 26) (argv := [.slice b299 ((first).length) c300, .int .i64 (((1 + (fp1.length : Int)) + (gp1.length : Int)) + (qp1.length : Int))]) hE626 (fun _ => cf_l_markInt64S _ _) rfl rfl (d_l_markInt64S b299 ((first).length) c300 first (((1 + (fp1.length : Int)) + (gp1.length : Int)) + (qp1.length : Int)) w614 w [.own 2 1 b275 ((qp1).length) c276 (marked qp1.length ((1 + (fp1.length : Int)) + (gp1.length : Int))), .own 2 1 b251 ((gp1).length) c252 (marked gp1.length (1 + (fp1.length : Int))), .own 2 1 b227 ((fp1).length) c228 (marked fp1.length 1), .own 2 1 b556 ((second).length) c557 second, .own 2 1 b524 ((first).length) c525 first, .own 2 1 b492 ((qp1).length) c493 qp1, .own 2 1 b457 ((gp1).length) c458 gp1, .own 2 1 b422 ((fp1).length) c423 fp1, .own 2 1 b335 (((F_ThenMorphisms fp0 fp1 gp0 gp1 qp0 qp1 first second).1).length) c336 ((F_ThenMorphisms fp0 fp1 gp0 gp1 qp0 qp1 first second).1), .own 2 1 b313 ((second).length) c314 second, .blk b278 #[.int .i64 qp0, .slice b275 ((qp1).length) c276] 26, .blk b254 #[.int .i64 gp0, .slice b251 ((gp1).length) c252] 26, .blk b230 #[.int .i64 fp0, .slice b227 ((fp1).length) c228] 26, .own 2 1 b205 (((F_s_ThenMorphisms fp0 fp1 gp0 gp1 qp0 qp1 first second).1).length) c206 ((F_s_ThenMorphisms fp0 fp1 gp0 gp1 qp0 qp1 first second).1), .own 2 1 b196 ((second).length) c197 second, .own 2 1 b187 ((first).length) c188 first, .own 2 1 b178 ((qp1).length) c179 qp1, .own 2 1 b169 ((gp1).length) c170 gp1, .own 2 1 b160 ((fp1).length) c161 fp1, .rd 1 qp1A qp1.length qp1C qp1, .blk b18 #[.int .i64 qp0, .slice qp1A qp1.length qp1C] 24, .rd 1 gp1A gp1.length gp1C gp1, .blk b12 #[.int .i64 gp0, .slice gp1A gp1.length gp1C] 24, .rd 1 fp1A fp1.length fp1C fp1, .blk b6 #[.int .i64 fp0, .slice fp1A fp1.length fp1C] 24, .rd 1 secondA second.length secondC second, .rd 1 firstA first.length firstC first] hS633 (by first | omega | (simp only [marked_len]; omega)) (by first | omega | (simp only [marked_len]; omega)) (by first | omega | (simp only [marked_len]; omega))) ?_)
                          rintro _ w628 ⟨rfl, hS631⟩ a629 hE630; clear hE626 hS633
                          refine q_step (v := .int .i64 ((((1 + (fp1.length : Int)) + (gp1.length : Int)) + (qp1.length : Int)) + (first.length : Int))) hE630 (y_assign rfl) rfl rfl rfl ?_; intro a634 hE635; clear hE630
                          refine c_nil ?_
                          have hE636 := hE635.sub (L' := [(3, .slice firstA first.length firstC), (4, .slice secondA second.length secondC), (5, .pointer (some ⟨b6, 0, none⟩)), (6, .pointer (some ⟨b12, 0, none⟩)), (7, .pointer (some ⟨b18, 0, none⟩)), (12, .slice b205 (((F_s_ThenMorphisms fp0 fp1 gp0 gp1 qp0 qp1 first second).1).length) c206), (13, .int .i64 ((F_s_ThenMorphisms fp0 fp1 gp0 gp1 qp0 qp1 first second).2)), (18, .slice b313 ((second).length) c314), (19, .slice b335 (((F_ThenMorphisms fp0 fp1 gp0 gp1 qp0 qp1 first second).1).length) c336), (20, .int .i64 ((F_ThenMorphisms fp0 fp1 gp0 gp1 qp0 qp1 first second).2)), (21, .int .i64 ((((1 + (fp1.length : Int)) + (gp1.length : Int)) + (qp1.length : Int)) + (first.length : Int)))]) ⟨rfl, rfl, rfl, rfl, rfl, rfl, rfl, rfl, rfl, rfl, rfl, trivial⟩; clear hE635
                          refine p_tn ?_
                          refine c_seq ?_
                          refine c_reg ?_
                          refine q_step (v := .slice b313 ((second).length) c314) hE636 (y_move rfl) rfl rfl rfl ?_; intro a637 hE638; clear hE636
                          refine q_step (v := .int .i64 ((((1 + (fp1.length : Int)) + (gp1.length : Int)) + (qp1.length : Int)) + (first.length : Int))) hE638 (y_move rfl) rfl rfl rfl ?_; intro a639 hE640; clear hE638
                          have hS647 := (St.pick (Γ' := [.own 2 1 b313 ((second).length) c314 second, .own 2 1 b299 ((first).length) c300 (marked first.length (((1 + (fp1.length : Int)) + (gp1.length : Int)) + (qp1.length : Int))), .own 2 1 b275 ((qp1).length) c276 (marked qp1.length ((1 + (fp1.length : Int)) + (gp1.length : Int))), .own 2 1 b251 ((gp1).length) c252 (marked gp1.length (1 + (fp1.length : Int))), .own 2 1 b227 ((fp1).length) c228 (marked fp1.length 1), .own 2 1 b556 ((second).length) c557 second, .own 2 1 b524 ((first).length) c525 first, .own 2 1 b492 ((qp1).length) c493 qp1, .own 2 1 b457 ((gp1).length) c458 gp1, .own 2 1 b422 ((fp1).length) c423 fp1, .own 2 1 b335 (((F_ThenMorphisms fp0 fp1 gp0 gp1 qp0 qp1 first second).1).length) c336 ((F_ThenMorphisms fp0 fp1 gp0 gp1 qp0 qp1 first second).1), .blk b278 #[.int .i64 qp0, .slice b275 ((qp1).length) c276] 26, .blk b254 #[.int .i64 gp0, .slice b251 ((gp1).length) c252] 26, .blk b230 #[.int .i64 fp0, .slice b227 ((fp1).length) c228] 26, .own 2 1 b205 (((F_s_ThenMorphisms fp0 fp1 gp0 gp1 qp0 qp1 first second).1).length) c206 ((F_s_ThenMorphisms fp0 fp1 gp0 gp1 qp0 qp1 first second).1), .own 2 1 b196 ((second).length) c197 second, .own 2 1 b187 ((first).length) c188 first, .own 2 1 b178 ((qp1).length) c179 qp1, .own 2 1 b169 ((gp1).length) c170 gp1, .own 2 1 b160 ((fp1).length) c161 fp1, .rd 1 qp1A qp1.length qp1C qp1, .blk b18 #[.int .i64 qp0, .slice qp1A qp1.length qp1C] 24, .rd 1 gp1A gp1.length gp1C gp1, .blk b12 #[.int .i64 gp0, .slice gp1A gp1.length gp1C] 24, .rd 1 fp1A fp1.length fp1C fp1, .blk b6 #[.int .i64 fp0, .slice fp1A fp1.length fp1C] 24, .rd 1 secondA second.length secondC second, .rd 1 firstA first.length firstC first]) hS631 [10, 0, 1, 2, 3, 4, 5, 6, 7, 8, 9, 11, 12, 13, 14, 15, 16, 17, 18, 19, 20, 21, 22, 23, 24, 25, 26, 27] (by decide) rfl); clear hS631
                          refine l_step hE640 rfl (l_call (f := 26) (argv := [.slice b313 ((second).length) c314, .int .i64 ((((1 + (fp1.length : Int)) + (gp1.length : Int)) + (qp1.length : Int)) + (first.length : Int))]) hE640 (fun _ => cf_l_markInt64S _ _) rfl rfl (d_l_markInt64S b313 ((second).length) c314 second ((((1 + (fp1.length : Int)) + (gp1.length : Int)) + (qp1.length : Int)) + (first.length : Int)) w628 w [.own 2 1 b299 ((first).length) c300 (marked first.length (((1 + (fp1.length : Int)) + (gp1.length : Int)) + (qp1.length : Int))), .own 2 1 b275 ((qp1).length) c276 (marked qp1.length ((1 + (fp1.length : Int)) + (gp1.length : Int))), .own 2 1 b251 ((gp1).length) c252 (marked gp1.length (1 + (fp1.length : Int))), .own 2 1 b227 ((fp1).length) c228 (marked fp1.length 1), .own 2 1 b556 ((second).length) c557 second, .own 2 1 b524 ((first).length) c525 first, .own 2 1 b492 ((qp1).length) c493 qp1, .own 2 1 b457 ((gp1).length) c458 gp1, .own 2 1 b422 ((fp1).length) c423 fp1, .own 2 1 b335 (((F_ThenMorphisms fp0 fp1 gp0 gp1 qp0 qp1 first second).1).length) c336 ((F_ThenMorphisms fp0 fp1 gp0 gp1 qp0 qp1 first second).1), .blk b278 #[.int .i64 qp0, .slice b275 ((qp1).length) c276] 26, .blk b254 #[.int .i64 gp0, .slice b251 ((gp1).length) c252] 26, .blk b230 #[.int .i64 fp0, .slice b227 ((fp1).length) c228] 26, .own 2 1 b205 (((F_s_ThenMorphisms fp0 fp1 gp0 gp1 qp0 qp1 first second).1).length) c206 ((F_s_ThenMorphisms fp0 fp1 gp0 gp1 qp0 qp1 first second).1), .own 2 1 b196 ((second).length) c197 second, .own 2 1 b187 ((first).length) c188 first, .own 2 1 b178 ((qp1).length) c179 qp1, .own 2 1 b169 ((gp1).length) c170 gp1, .own 2 1 b160 ((fp1).length) c161 fp1, .rd 1 qp1A qp1.length qp1C qp1, .blk b18 #[.int .i64 qp0, .slice qp1A qp1.length qp1C] 24, .rd 1 gp1A gp1.length gp1C gp1, .blk b12 #[.int .i64 gp0, .slice gp1A gp1.length gp1C] 24, .rd 1 fp1A fp1.length fp1C fp1, .blk b6 #[.int .i64 fp0, .slice fp1A fp1.length fp1C] 24, .rd 1 secondA second.length secondC second, .rd 1 firstA first.length firstC first] hS647 (by first | omega | (simp only [marked_len]; omega)) (by first | omega | (simp only [marked_len]; omega)) (by first | omega | (simp only [marked_len]; omega))) ?_)
                          rintro _ w642 ⟨rfl, hS645⟩ a643 hE644; clear hE640 hS647
                          refine q_step (v := .int .i64 (((((1 + (fp1.length : Int)) + (gp1.length : Int)) + (qp1.length : Int)) + (first.length : Int)) + (second.length : Int))) hE644 (y_assign rfl) rfl rfl rfl ?_; intro a648 hE649; clear hE644
                          refine c_nil ?_
                          have hE650 := hE649.sub (L' := [(3, .slice firstA first.length firstC), (4, .slice secondA second.length secondC), (5, .pointer (some ⟨b6, 0, none⟩)), (6, .pointer (some ⟨b12, 0, none⟩)), (7, .pointer (some ⟨b18, 0, none⟩)), (12, .slice b205 (((F_s_ThenMorphisms fp0 fp1 gp0 gp1 qp0 qp1 first second).1).length) c206), (13, .int .i64 ((F_s_ThenMorphisms fp0 fp1 gp0 gp1 qp0 qp1 first second).2)), (19, .slice b335 (((F_ThenMorphisms fp0 fp1 gp0 gp1 qp0 qp1 first second).1).length) c336), (20, .int .i64 ((F_ThenMorphisms fp0 fp1 gp0 gp1 qp0 qp1 first second).2)), (21, .int .i64 (((((1 + (fp1.length : Int)) + (gp1.length : Int)) + (qp1.length : Int)) + (first.length : Int)) + (second.length : Int)))]) ⟨rfl, rfl, rfl, rfl, rfl, rfl, rfl, rfl, rfl, rfl, trivial⟩; clear hE649
                          refine p_tn ?_
                          refine c_seq ?_
                          refine c_cut (fun a' w' => E a' 184 [(3, .slice firstA first.length firstC), (4, .slice secondA second.length secondC), (5, .pointer (some ⟨b6, 0, none⟩)), (6, .pointer (some ⟨b12, 0, none⟩)), (7, .pointer (some ⟨b18, 0, none⟩)), (12, .slice b205 (((F_s_ThenMorphisms fp0 fp1 gp0 gp1 qp0 qp1 first second).1).length) c206), (13, .int .i64 ((F_s_ThenMorphisms fp0 fp1 gp0 gp1 qp0 qp1 first second).2)), (19, .slice b335 (((F_ThenMorphisms fp0 fp1 gp0 gp1 qp0 qp1 first second).1).length) c336), (141, .bool ((decide ((((((1 + (fp1.length : Int)) + (gp1.length : Int)) + (qp1.length : Int)) + (first.length : Int)) + (second.length : Int)) < 0)) || ((!(decide (((F_ThenMorphisms fp0 fp1 gp0 gp1 qp0 qp1 first second).1) = ((F_s_ThenMorphisms fp0 fp1 gp0 gp1 qp0 qp1 first second).1)))) || (!decide (((F_ThenMorphisms fp0 fp1 gp0 gp1 qp0 qp1 first second).2) = ((F_s_ThenMorphisms fp0 fp1 gp0 gp1 qp0 qp1 first second).2))))))] ∧ St w w' [.own 2 1 b313 ((second).length) c314 (marked second.length ((((1 + (fp1.length : Int)) + (gp1.length : Int)) + (qp1.length : Int)) + (first.length : Int))), .own 2 1 b299 ((first).length) c300 (marked first.length (((1 + (fp1.length : Int)) + (gp1.length : Int)) + (qp1.length : Int))), .own 2 1 b275 ((qp1).length) c276 (marked qp1.length ((1 + (fp1.length : Int)) + (gp1.length : Int))), .own 2 1 b251 ((gp1).length) c252 (marked gp1.length (1 + (fp1.length : Int))), .own 2 1 b227 ((fp1).length) c228 (marked fp1.length 1), .own 2 1 b556 ((second).length) c557 second, .own 2 1 b524 ((first).length) c525 first, .own 2 1 b492 ((qp1).length) c493 qp1, .own 2 1 b457 ((gp1).length) c458 gp1, .own 2 1 b422 ((fp1).length) c423 fp1, .own 2 1 b335 (((F_ThenMorphisms fp0 fp1 gp0 gp1 qp0 qp1 first second).1).length) c336 ((F_ThenMorphisms fp0 fp1 gp0 gp1 qp0 qp1 first second).1), .blk b278 #[.int .i64 qp0, .slice b275 ((qp1).length) c276] 26, .blk b254 #[.int .i64 gp0, .slice b251 ((gp1).length) c252] 26, .blk b230 #[.int .i64 fp0, .slice b227 ((fp1).length) c228] 26, .own 2 1 b205 (((F_s_ThenMorphisms fp0 fp1 gp0 gp1 qp0 qp1 first second).1).length) c206 ((F_s_ThenMorphisms fp0 fp1 gp0 gp1 qp0 qp1 first second).1), .own 2 1 b196 ((second).length) c197 second, .own 2 1 b187 ((first).length) c188 first, .own 2 1 b178 ((qp1).length) c179 qp1, .own 2 1 b169 ((gp1).length) c170 gp1, .own 2 1 b160 ((fp1).length) c161 fp1, .rd 1 qp1A qp1.length qp1C qp1, .blk b18 #[.int .i64 qp0, .slice qp1A qp1.length qp1C] 24, .rd 1 gp1A gp1.length gp1C gp1, .blk b12 #[.int .i64 gp0, .slice gp1A gp1.length gp1C] 24, .rd 1 fp1A fp1.length fp1C fp1, .blk b6 #[.int .i64 fp0, .slice fp1A fp1.length fp1C] 24, .rd 1 secondA second.length secondC second, .rd 1 firstA first.length firstC first]) ?_ ?_
                          ·
                            refine c_reg ?_
                            refine q_step (v := .int .i64 (((((1 + (fp1.length : Int)) + (gp1.length : Int)) + (qp1.length : Int)) + (first.length : Int)) + (second.length : Int))) hE650 (y_move rfl) rfl rfl rfl ?_; intro a651 hE652; clear hE650
                            refine q_step (v := .bool (decide ((((((1 + (fp1.length : Int)) + (gp1.length : Int)) + (qp1.length : Int)) + (first.length : Int)) + (second.length : Int)) < 0))) hE652 (y_lss rfl rfl) rfl rfl rfl ?_; intro a653 hE654; clear hE652
                            refine q_step (v := .bool (decide ((((((1 + (fp1.length : Int)) + (gp1.length : Int)) + (qp1.length : Int)) + (first.length : Int)) + (second.length : Int)) < 0))) hE654 (y_move rfl) rfl rfl rfl ?_; intro a655 hE656; clear hE654
                            rcases Bool.eq_false_or_eq_true (decide ((((((1 + (fp1.length : Int)) + (gp1.length : Int)) + (qp1.length : Int)) + (first.length : Int)) + (second.length : Int)) < 0)) with hb657 | hb657
                            ·
                              have hE658 := hE656; rw [hb657] at hE658; clear hE656
                              have hp659 := of_decide_eq_true hb657
                              refine q_skip hE658 rfl rfl rfl ?_; intro a660 hE661; clear hE658
                              refine q_skip hE661 rfl rfl rfl ?_; intro a662 hE663; clear hE661
                              refine q_skip hE663 rfl rfl rfl ?_; intro a664 hE665; clear hE663
                              refine q_skip hE665 rfl rfl rfl ?_; intro a666 hE667; clear hE665
                              refine q_step (v := .bool true) hE667 (y_pick (b := true) rfl rfl) rfl rfl rfl ?_; intro a668 hE669; clear hE667
                              refine q_step (v := .bool true) hE669 (y_move rfl) rfl rfl rfl ?_; intro a670 hE671; clear hE669
                              refine q_skip hE671 rfl rfl rfl ?_; intro a672 hE673; clear hE671
                              refine q_skip hE673 rfl rfl rfl ?_; intro a674 hE675; clear hE673
                              refine q_skip hE675 rfl rfl rfl ?_; intro a676 hE677; clear hE675
                              refine q_step (v := .bool true) hE677 (y_pick (b := true) rfl rfl) rfl rfl rfl ?_; intro a678 hE679; clear hE677
                              refine c_nil ?_
                              have hE680 := hE679.sub (L' := [(3, .slice firstA first.length firstC), (4, .slice secondA second.length secondC), (5, .pointer (some ⟨b6, 0, none⟩)), (6, .pointer (some ⟨b12, 0, none⟩)), (7, .pointer (some ⟨b18, 0, none⟩)), (12, .slice b205 (((F_s_ThenMorphisms fp0 fp1 gp0 gp1 qp0 qp1 first second).1).length) c206), (13, .int .i64 ((F_s_ThenMorphisms fp0 fp1 gp0 gp1 qp0 qp1 first second).2)), (19, .slice b335 (((F_ThenMorphisms fp0 fp1 gp0 gp1 qp0 qp1 first second).1).length) c336), (141, .bool true)]) ⟨rfl, rfl, rfl, rfl, rfl, rfl, rfl, rfl, rfl, trivial⟩; clear hE679
                              refine p_tn ?_
                              have hE681 := hE680.sub (L' := [(3, .slice firstA first.length firstC), (4, .slice secondA second.length secondC), (5, .pointer (some ⟨b6, 0, none⟩)), (6, .pointer (some ⟨b12, 0, none⟩)), (7, .pointer (some ⟨b18, 0, none⟩)), (12, .slice b205 (((F_s_ThenMorphisms fp0 fp1 gp0 gp1 qp0 qp1 first second).1).length) c206), (13, .int .i64 ((F_s_ThenMorphisms fp0 fp1 gp0 gp1 qp0 qp1 first second).2)), (19, .slice b335 (((F_ThenMorphisms fp0 fp1 gp0 gp1 qp0 qp1 first second).1).length) c336), (141, .bool true)]) ⟨rfl, rfl, rfl, rfl, rfl, rfl, rfl, rfl, rfl, trivial⟩
                              have hS682 := (St.pick (Γ' := [.own 2 1 b313 ((second).length) c314 (marked second.length ((((1 + (fp1.length : Int)) + (gp1.length : Int)) + (qp1.length : Int)) + (first.length : Int))), .own 2 1 b299 ((first).length) c300 (marked first.length (((1 + (fp1.length : Int)) + (gp1.length : Int)) + (qp1.length : Int))), .own 2 1 b275 ((qp1).length) c276 (marked qp1.length ((1 + (fp1.length : Int)) + (gp1.length : Int))), .own 2 1 b251 ((gp1).length) c252 (marked gp1.length (1 + (fp1.length : Int))), .own 2 1 b227 ((fp1).length) c228 (marked fp1.length 1), .own 2 1 b556 ((second).length) c557 second, .own 2 1 b524 ((first).length) c525 first, .own 2 1 b492 ((qp1).length) c493 qp1, .own 2 1 b457 ((gp1).length) c458 gp1, .own 2 1 b422 ((fp1).length) c423 fp1, .own 2 1 b335 (((F_ThenMorphisms fp0 fp1 gp0 gp1 qp0 qp1 first second).1).length) c336 ((F_ThenMorphisms fp0 fp1 gp0 gp1 qp0 qp1 first second).1), .blk b278 #[.int .i64 qp0, .slice b275 ((qp1).length) c276] 26, .blk b254 #[.int .i64 gp0, .slice b251 ((gp1).length) c252] 26, .blk b230 #[.int .i64 fp0, .slice b227 ((fp1).length) c228] 26, .own 2 1 b205 (((F_s_ThenMorphisms fp0 fp1 gp0 gp1 qp0 qp1 first second).1).length) c206 ((F_s_ThenMorphisms fp0 fp1 gp0 gp1 qp0 qp1 first second).1), .own 2 1 b196 ((second).length) c197 second, .own 2 1 b187 ((first).length) c188 first, .own 2 1 b178 ((qp1).length) c179 qp1, .own 2 1 b169 ((gp1).length) c170 gp1, .own 2 1 b160 ((fp1).length) c161 fp1, .rd 1 qp1A qp1.length qp1C qp1, .blk b18 #[.int .i64 qp0, .slice qp1A qp1.length qp1C] 24, .rd 1 gp1A gp1.length gp1C gp1, .blk b12 #[.int .i64 gp0, .slice gp1A gp1.length gp1C] 24, .rd 1 fp1A fp1.length fp1C fp1, .blk b6 #[.int .i64 fp0, .slice fp1A fp1.length fp1C] 24, .rd 1 secondA second.length secondC second, .rd 1 firstA first.length firstC first]) hS645 [0, 1, 2, 3, 4, 5, 6, 7, 8, 9, 10, 11, 12, 13, 14, 15, 16, 17, 18, 19, 20, 21, 22, 23, 24, 25, 26, 27] (by decide) rfl)
                              exact ⟨(by rw [hb657]; exact hE681), hS682⟩
                            ·
                              have hE683 := hE656; rw [hb657] at hE683; clear hE656
                              have hp684 := of_decide_eq_false hb657
                              refine q_step (v := .slice b335 (((F_ThenMorphisms fp0 fp1 gp0 gp1 qp0 qp1 first second).1).length) c336) hE683 (y_move rfl) rfl rfl rfl ?_; intro a685 hE686; clear hE683
                              refine q_step (v := .slice b205 (((F_s_ThenMorphisms fp0 fp1 gp0 gp1 qp0 qp1 first second).1).length) c206) hE686 (y_move rfl) rfl rfl rfl ?_; intro a687 hE688; clear hE686
                              refine l_step hE688 rfl (l_call (f := 25) (argv := [.slice b335 (((F_ThenMorphisms fp0 fp1 gp0 gp1 qp0 qp1 first second).1).length) c336, .slice b205 (((F_s_ThenMorphisms fp0 fp1 gp0 gp1 qp0 qp1 first second).1).length) c206]) hE688 (fun _ => cf_l_eqInt64S _ _) rfl rfl (d_l_eqInt64S b335 (((F_ThenMorphisms fp0 fp1 gp0 gp1 qp0 qp1 first second).1).length) c336 ((F_ThenMorphisms fp0 fp1 gp0 gp1 qp0 qp1 first second).1) b205 (((F_s_ThenMorphisms fp0 fp1 gp0 gp1 qp0 qp1 first second).1).length) c206 ((F_s_ThenMorphisms fp0 fp1 gp0 gp1 qp0 qp1 first second).1) w642 (St.rdO (i := 10) hS645 rfl) (St.rdO (i := 14) hS645 rfl)) ?_)
                              rintro _ w690 ⟨rfl, he694⟩ a691 hE692; clear hE688
                              have hS693 := St.go hS645 he694; clear hS645
                              refine q_step (v := .bool (!(decide (((F_ThenMorphisms fp0 fp1 gp0 gp1 qp0 qp1 first second).1) = ((F_s_ThenMorphisms fp0 fp1 gp0 gp1 qp0 qp1 first second).1))))) hE692 (y_not rfl) rfl rfl rfl ?_; intro a695 hE696; clear hE692
                              refine q_step (v := .bool (!(decide (((F_ThenMorphisms fp0 fp1 gp0 gp1 qp0 qp1 first second).1) = ((F_s_ThenMorphisms fp0 fp1 gp0 gp1 qp0 qp1 first second).1))))) hE696 (y_pick (b := false) rfl rfl) rfl rfl rfl ?_; intro a697 hE698; clear hE696
                              refine q_step (v := .bool (!(decide (((F_ThenMorphisms fp0 fp1 gp0 gp1 qp0 qp1 first second).1) = ((F_s_ThenMorphisms fp0 fp1 gp0 gp1 qp0 qp1 first second).1))))) hE698 (y_move rfl) rfl rfl rfl ?_; intro a699 hE700; clear hE698
                              rcases Bool.eq_false_or_eq_true (!(decide (((F_ThenMorphisms fp0 fp1 gp0 gp1 qp0 qp1 first second).1) = ((F_s_ThenMorphisms fp0 fp1 gp0 gp1 qp0 qp1 first second).1)))) with hb701 | hb701
                              ·
                                have hE702 := hE700; rw [hb701] at hE702; clear hE700
                                have ht703 := bn_t hb701
                                have hp704 := of_decide_eq_false ht703
                                refine q_skip hE702 rfl rfl rfl ?_; intro a705 hE706; clear hE702
                                refine q_skip hE706 rfl rfl rfl ?_; intro a707 hE708; clear hE706
                                refine q_skip hE708 rfl rfl rfl ?_; intro a709 hE710; clear hE708
                                refine q_step (v := .bool true) hE710 (y_pick (b := true) rfl rfl) rfl rfl rfl ?_; intro a711 hE712; clear hE710
                                refine c_nil ?_
                                have hE713 := hE712.sub (L' := [(3, .slice firstA first.length firstC), (4, .slice secondA second.length secondC), (5, .pointer (some ⟨b6, 0, none⟩)), (6, .pointer (some ⟨b12, 0, none⟩)), (7, .pointer (some ⟨b18, 0, none⟩)), (12, .slice b205 (((F_s_ThenMorphisms fp0 fp1 gp0 gp1 qp0 qp1 first second).1).length) c206), (13, .int .i64 ((F_s_ThenMorphisms fp0 fp1 gp0 gp1 qp0 qp1 first second).2)), (19, .slice b335 (((F_ThenMorphisms fp0 fp1 gp0 gp1 qp0 qp1 first second).1).length) c336), (141, .bool true)]) ⟨rfl, rfl, rfl, rfl, rfl, rfl, rfl, rfl, rfl, trivial⟩; clear hE712
                                refine p_tn ?_
                                have hE714 := hE713.sub (L' := [(3, .slice firstA first.length firstC), (4, .slice secondA second.length secondC), (5, .pointer (some ⟨b6, 0, none⟩)), (6, .pointer (some ⟨b12, 0, none⟩)), (7, .pointer (some ⟨b18, 0, none⟩)), (12, .slice b205 (((F_s_ThenMorphisms fp0 fp1 gp0 gp1 qp0 qp1 first second).1).length) c206), (13, .int .i64 ((F_s_ThenMorphisms fp0 fp1 gp0 gp1 qp0 qp1 first second).2)), (19, .slice b335 (((F_ThenMorphisms fp0 fp1 gp0 gp1 qp0 qp1 first second).1).length) c336), (141, .bool true)]) ⟨rfl, rfl, rfl, rfl, rfl, rfl, rfl, rfl, rfl, trivial⟩
                                have hS715 := (St.pick (Γ' := [.own 2 1 b313 ((second).length) c314 (marked second.length ((((1 + (fp1.length : Int)) + (gp1.length : Int)) + (qp1.length : Int)) + (first.length : Int))), .own 2 1 b299 ((first).length) c300 (marked first.length (((1 + (fp1.length : Int)) + (gp1.length : Int)) + (qp1.length : Int))), .own 2 1 b275 ((qp1).length) c276 (marked qp1.length ((1 + (fp1.length : Int)) + (gp1.length : Int))), .own 2 1 b251 ((gp1).length) c252 (marked gp1.length (1 + (fp1.length : Int))), .own 2 1 b227 ((fp1).length) c228 (marked fp1.length 1), .own 2 1 b556 ((second).length) c557 second, .own 2 1 b524 ((first).length) c525 first, .own 2 1 b492 ((qp1).length) c493 qp1, .own 2 1 b457 ((gp1).length) c458 gp1, .own 2 1 b422 ((fp1).length) c423 fp1, .own 2 1 b335 (((F_ThenMorphisms fp0 fp1 gp0 gp1 qp0 qp1 first second).1).length) c336 ((F_ThenMorphisms fp0 fp1 gp0 gp1 qp0 qp1 first second).1), .blk b278 #[.int .i64 qp0, .slice b275 ((qp1).length) c276] 26, .blk b254 #[.int .i64 gp0, .slice b251 ((gp1).length) c252] 26, .blk b230 #[.int .i64 fp0, .slice b227 ((fp1).length) c228] 26, .own 2 1 b205 (((F_s_ThenMorphisms fp0 fp1 gp0 gp1 qp0 qp1 first second).1).length) c206 ((F_s_ThenMorphisms fp0 fp1 gp0 gp1 qp0 qp1 first second).1), .own 2 1 b196 ((second).length) c197 second, .own 2 1 b187 ((first).length) c188 first, .own 2 1 b178 ((qp1).length) c179 qp1, .own 2 1 b169 ((gp1).length) c170 gp1, .own 2 1 b160 ((fp1).length) c161 fp1, .rd 1 qp1A qp1.length qp1C qp1, .blk b18 #[.int .i64 qp0, .slice qp1A qp1.length qp1C] 24, .rd 1 gp1A gp1.length gp1C gp1, .blk b12 #[.int .i64 gp0, .slice gp1A gp1.length gp1C] 24, .rd 1 fp1A fp1.length fp1C fp1, .blk b6 #[.int .i64 fp0, .slice fp1A fp1.length fp1C] 24, .rd 1 secondA second.length secondC second, .rd 1 firstA first.length firstC first]) hS693 [0, 1, 2, 3, 4, 5, 6, 7, 8, 9, 10, 11, 12, 13, 14, 15, 16, 17, 18, 19, 20, 21, 22, 23, 24, 25, 26, 27] (by decide) rfl)
                                exact ⟨(by rw [hb701, hb657]; exact hE714), hS715⟩
                              ·
                                have hE716 := hE700; rw [hb701] at hE716; clear hE700
                                have ht717 := bn_f hb701
                                have hp718 := of_decide_eq_true ht717
                                refine q_step (v := .int .i64 ((F_ThenMorphisms fp0 fp1 gp0 gp1 qp0 qp1 first second).2)) hE716 (y_move rfl) rfl rfl rfl ?_; intro a719 hE720; clear hE716
                                refine q_step (v := .int .i64 ((F_s_ThenMorphisms fp0 fp1 gp0 gp1 qp0 qp1 first second).2)) hE720 (y_move rfl) rfl rfl rfl ?_; intro a721 hE722; clear hE720
                                refine q_step (v := .bool (!decide (((F_ThenMorphisms fp0 fp1 gp0 gp1 qp0 qp1 first second).2) = ((F_s_ThenMorphisms fp0 fp1 gp0 gp1 qp0 qp1 first second).2)))) hE722 (y_neq rfl rfl) rfl rfl rfl ?_; intro a723 hE724; clear hE722
                                refine q_step (v := .bool (!decide (((F_ThenMorphisms fp0 fp1 gp0 gp1 qp0 qp1 first second).2) = ((F_s_ThenMorphisms fp0 fp1 gp0 gp1 qp0 qp1 first second).2)))) hE724 (y_pick (b := false) rfl rfl) rfl rfl rfl ?_; intro a725 hE726; clear hE724
                                refine c_nil ?_
                                have hE727 := hE726.sub (L' := [(3, .slice firstA first.length firstC), (4, .slice secondA second.length secondC), (5, .pointer (some ⟨b6, 0, none⟩)), (6, .pointer (some ⟨b12, 0, none⟩)), (7, .pointer (some ⟨b18, 0, none⟩)), (12, .slice b205 (((F_s_ThenMorphisms fp0 fp1 gp0 gp1 qp0 qp1 first second).1).length) c206), (13, .int .i64 ((F_s_ThenMorphisms fp0 fp1 gp0 gp1 qp0 qp1 first second).2)), (19, .slice b335 (((F_ThenMorphisms fp0 fp1 gp0 gp1 qp0 qp1 first second).1).length) c336), (141, .bool (!decide (((F_ThenMorphisms fp0 fp1 gp0 gp1 qp0 qp1 first second).2) = ((F_s_ThenMorphisms fp0 fp1 gp0 gp1 qp0 qp1 first second).2))))]) ⟨rfl, rfl, rfl, rfl, rfl, rfl, rfl, rfl, rfl, trivial⟩; clear hE726
                                refine p_tn ?_
                                have hE728 := hE727.sub (L' := [(3, .slice firstA first.length firstC), (4, .slice secondA second.length secondC), (5, .pointer (some ⟨b6, 0, none⟩)), (6, .pointer (some ⟨b12, 0, none⟩)), (7, .pointer (some ⟨b18, 0, none⟩)), (12, .slice b205 (((F_s_ThenMorphisms fp0 fp1 gp0 gp1 qp0 qp1 first second).1).length) c206), (13, .int .i64 ((F_s_ThenMorphisms fp0 fp1 gp0 gp1 qp0 qp1 first second).2)), (19, .slice b335 (((F_ThenMorphisms fp0 fp1 gp0 gp1 qp0 qp1 first second).1).length) c336), (141, .bool (!decide (((F_ThenMorphisms fp0 fp1 gp0 gp1 qp0 qp1 first second).2) = ((F_s_ThenMorphisms fp0 fp1 gp0 gp1 qp0 qp1 first second).2))))]) ⟨rfl, rfl, rfl, rfl, rfl, rfl, rfl, rfl, rfl, trivial⟩
                                have hS729 := (St.pick (Γ' := [.own 2 1 b313 ((second).length) c314 (marked second.length ((((1 + (fp1.length : Int)) + (gp1.length : Int)) + (qp1.length : Int)) + (first.length : Int))), .own 2 1 b299 ((first).length) c300 (marked first.length (((1 + (fp1.length : Int)) + (gp1.length : Int)) + (qp1.length : Int))), .own 2 1 b275 ((qp1).length) c276 (marked qp1.length ((1 + (fp1.length : Int)) + (gp1.length : Int))), .own 2 1 b251 ((gp1).length) c252 (marked gp1.length (1 + (fp1.length : Int))), .own 2 1 b227 ((fp1).length) c228 (marked fp1.length 1), .own 2 1 b556 ((second).length) c557 second, .own 2 1 b524 ((first).length) c525 first, .own 2 1 b492 ((qp1).length) c493 qp1, .own 2 1 b457 ((gp1).length) c458 gp1, .own 2 1 b422 ((fp1).length) c423 fp1, .own 2 1 b335 (((F_ThenMorphisms fp0 fp1 gp0 gp1 qp0 qp1 first second).1).length) c336 ((F_ThenMorphisms fp0 fp1 gp0 gp1 qp0 qp1 first second).1), .blk b278 #[.int .i64 qp0, .slice b275 ((qp1).length) c276] 26, .blk b254 #[.int .i64 gp0, .slice b251 ((gp1).length) c252] 26, .blk b230 #[.int .i64 fp0, .slice b227 ((fp1).length) c228] 26, .own 2 1 b205 (((F_s_ThenMorphisms fp0 fp1 gp0 gp1 qp0 qp1 first second).1).length) c206 ((F_s_ThenMorphisms fp0 fp1 gp0 gp1 qp0 qp1 first second).1), .own 2 1 b196 ((second).length) c197 second, .own 2 1 b187 ((first).length) c188 first, .own 2 1 b178 ((qp1).length) c179 qp1, .own 2 1 b169 ((gp1).length) c170 gp1, .own 2 1 b160 ((fp1).length) c161 fp1, .rd 1 qp1A qp1.length qp1C qp1, .blk b18 #[.int .i64 qp0, .slice qp1A qp1.length qp1C] 24, .rd 1 gp1A gp1.length gp1C gp1, .blk b12 #[.int .i64 gp0, .slice gp1A gp1.length gp1C] 24, .rd 1 fp1A fp1.length fp1C fp1, .blk b6 #[.int .i64 fp0, .slice fp1A fp1.length fp1C] 24, .rd 1 secondA second.length secondC second, .rd 1 firstA first.length firstC first]) hS693 [0, 1, 2, 3, 4, 5, 6, 7, 8, 9, 10, 11, 12, 13, 14, 15, 16, 17, 18, 19, 20, 21, 22, 23, 24, 25, 26, 27] (by decide) rfl)
                                exact ⟨(by rw [hb701, hb657]; exact hE728), hS729⟩
                          ·
                            rintro a730 w731 ⟨hE732, hS733⟩; clear hE650 hS645
                            refine c_cond hE732 rfl (fun ht734 => ?_) (fun ht734 => ?_)
                            ·
                              have hE735 := hE732; rw [ht734] at hE735; clear hE732
                              refine c_seq ?_
                              refine c_reg ?_
                              refine q_step (v := .bool false) hE735 (y_assign rfl) rfl rfl rfl ?_; intro a736 hE737; clear hE735
                              refine c_nil ?_
                              have hE738 := hE737.sub (L' := [(10, .bool false)]) ⟨rfl, trivial⟩; clear hE737
                              refine p_tn ?_
                              refine wp_ret ?_
                              refine p_tr ?_
                              have hF : F_l_FnExactThenMorphisms fp0 fp1 gp0 gp1 qp0 qp1 first second = false := by unfold F_l_FnExactThenMorphisms; rw [ht734, ht568, ht536, ht504, ht469, ht434, ht397, ht132, ht105, ht78, ht49, ht34]; first | done | rfl
                              refine c_ret1 hE738 rfl rfl ?_
                              exact ⟨(by rw [hF]; first | done | rfl), hS733.ext⟩
                            ·
                              obtain ⟨ht739, ht740⟩ := bor_f ht734
                              have hp741 := of_decide_eq_false ht739
                              obtain ⟨ht742, ht743⟩ := bor_f ht740
                              have ht744 := bn_f ht742
                              have hp745 := of_decide_eq_true ht744
                              have ht746 := bn_f ht743
                              have hp747 := of_decide_eq_true ht746
                              have hE748 := hE732; rw [ht734] at hE748; clear hE732
                              refine wp_skip ?_
                              refine p_tn ?_
                              refine c_seq ?_
                              refine c_reg ?_
                              refine q_step (v := .int .i64 1) hE748 (y_assign rfl) rfl rfl rfl ?_; intro a749 hE750; clear hE748
                              refine c_nil ?_
                              have hE751 := hE750.sub (L' := [(3, .slice firstA first.length firstC), (4, .slice secondA second.length secondC), (5, .pointer (some ⟨b6, 0, none⟩)), (6, .pointer (some ⟨b12, 0, none⟩)), (7, .pointer (some ⟨b18, 0, none⟩)), (12, .slice b205 (((F_s_ThenMorphisms fp0 fp1 gp0 gp1 qp0 qp1 first second).1).length) c206), (13, .int .i64 ((F_s_ThenMorphisms fp0 fp1 gp0 gp1 qp0 qp1 first second).2)), (19, .slice b335 (((F_ThenMorphisms fp0 fp1 gp0 gp1 qp0 qp1 first second).1).length) c336), (22, .int .i64 1)]) ⟨rfl, rfl, rfl, rfl, rfl, rfl, rfl, rfl, rfl, trivial⟩; clear hE750
                              refine p_tn ?_
                              refine c_seq ?_
                              refine c_reg ?_
                              refine q_step (v := .slice b335 (((F_ThenMorphisms fp0 fp1 gp0 gp1 qp0 qp1 first second).1).length) c336) hE751 (y_move rfl) rfl rfl rfl ?_; intro a752 hE753; clear hE751
                              refine q_step (v := .int .i64 1) hE753 (y_move rfl) rfl rfl rfl ?_; intro a754 hE755; clear hE753
                              have hS762 := (St.pick (Γ' := [.own 2 1 b335 (((F_ThenMorphisms fp0 fp1 gp0 gp1 qp0 qp1 first second).1).length) c336 ((F_ThenMorphisms fp0 fp1 gp0 gp1 qp0 qp1 first second).1), .own 2 1 b313 ((second).length) c314 (marked second.length ((((1 + (fp1.length : Int)) + (gp1.length : Int)) + (qp1.length : Int)) + (first.length : Int))), .own 2 1 b299 ((first).length) c300 (marked first.length (((1 + (fp1.length : Int)) + (gp1.length : Int)) + (qp1.length : Int))), .own 2 1 b275 ((qp1).length) c276 (marked qp1.length ((1 + (fp1.length : Int)) + (gp1.length : Int))), .own 2 1 b251 ((gp1).length) c252 (marked gp1.length (1 + (fp1.length : Int))), .own 2 1 b227 ((fp1).length) c228 (marked fp1.length 1), .own 2 1 b556 ((second).length) c557 second, .own 2 1 b524 ((first).length) c525 first, .own 2 1 b492 ((qp1).length) c493 qp1, .own 2 1 b457 ((gp1).length) c458 gp1, .own 2 1 b422 ((fp1).length) c423 fp1, .blk b278 #[.int .i64 qp0, .slice b275 ((qp1).length) c276] 26, .blk b254 #[.int .i64 gp0, .slice b251 ((gp1).length) c252] 26, .blk b230 #[.int .i64 fp0, .slice b227 ((fp1).length) c228] 26, .own 2 1 b205 (((F_s_ThenMorphisms fp0 fp1 gp0 gp1 qp0 qp1 first second).1).length) c206 ((F_s_ThenMorphisms fp0 fp1 gp0 gp1 qp0 qp1 first second).1), .own 2 1 b196 ((second).length) c197 second, .own 2 1 b187 ((first).length) c188 first, .own 2 1 b178 ((qp1).length) c179 qp1, .own 2 1 b169 ((gp1).length) c170 gp1, .own 2 1 b160 ((fp1).length) c161 fp1, .rd 1 qp1A qp1.length qp1C qp1, .blk b18 #[.int .i64 qp0, .slice qp1A qp1.length qp1C] 24, .rd 1 gp1A gp1.length gp1C gp1, .blk b12 #[.int .i64 gp0, .slice gp1A gp1.length gp1C] 24, .rd 1 fp1A fp1.length fp1C fp1, .blk b6 #[.int .i64 fp0, .slice fp1A fp1.length fp1C] 24, .rd 1 secondA second.length secondC second, .rd 1 firstA first.length firstC first]) hS733 [10, 0, 1, 2, 3, 4, 5, 6, 7, 8, 9, 11, 12, 13, 14, 15, 16, 17, 18, 19, 20, 21, 22, 23, 24, 25, 26, 27] (by decide) rfl); clear hS733
                              refine l_step hE755 rfl (l_call (f := 26) (argv := [.slice b335 (((F_ThenMorphisms fp0 fp1 gp0 gp1 qp0 qp1 first second).1).length) c336, .int .i64 1]) hE755 (fun _ => cf_l_markInt64S _ _) rfl rfl (d_l_markInt64S b335 (((F_ThenMorphisms fp0 fp1 gp0 gp1 qp0 qp1 first second).1).length) c336 ((F_ThenMorphisms fp0 fp1 gp0 gp1 qp0 qp1 first second).1) 1 w731 w [.own 2 1 b313 ((second).length) c314 (marked second.length ((((1 + (fp1.length : Int)) + (gp1.length : Int)) + (qp1.length : Int)) + (first.length : Int))), .own 2 1 b299 ((first).length) c300 (marked first.length (((1 + (fp1.length : Int)) + (gp1.length : Int)) + (qp1.length : Int))), .own 2 1 b275 ((qp1).length) c276 (marked qp1.length ((1 + (fp1.length : Int)) + (gp1.length : Int))), .own 2 1 b251 ((gp1).length) c252 (marked gp1.length (1 + (fp1.length : Int))), .own 2 1 b227 ((fp1).length) c228 (marked fp1.length 1), .own 2 1 b556 ((second).length) c557 second, .own 2 1 b524 ((first).length) c525 first, .own 2 1 b492 ((qp1).length) c493 qp1, .own 2 1 b457 ((gp1).length) c458 gp1, .own 2 1 b422 ((fp1).length) c423 fp1, .blk b278 #[.int .i64 qp0, .slice b275 ((qp1).length) c276] 26, .blk b254 #[.int .i64 gp0, .slice b251 ((gp1).length) c252] 26, .blk b230 #[.int .i64 fp0, .slice b227 ((fp1).length) c228] 26, .own 2 1 b205 (((F_s_ThenMorphisms fp0 fp1 gp0 gp1 qp0 qp1 first second).1).length) c206 ((F_s_ThenMorphisms fp0 fp1 gp0 gp1 qp0 qp1 first second).1), .own 2 1 b196 ((second).length) c197 second, .own 2 1 b187 ((first).length) c188 first, .own 2 1 b178 ((qp1).length) c179 qp1, .own 2 1 b169 ((gp1).length) c170 gp1, .own 2 1 b160 ((fp1).length) c161 fp1, .rd 1 qp1A qp1.length qp1C qp1, .blk b18 #[.int .i64 qp0, .slice qp1A qp1.length qp1C] 24, .rd 1 gp1A gp1.length gp1C gp1, .blk b12 #[.int .i64 gp0, .slice gp1A gp1.length gp1C] 24, .rd 1 fp1A fp1.length fp1C fp1, .blk b6 #[.int .i64 fp0, .slice fp1A fp1.length fp1C] 24, .rd 1 secondA second.length secondC second, .rd 1 firstA first.length firstC first] hS762 (by first | omega | (simp only [marked_len]; omega)) (by first | omega | (simp only [marked_len]; omega)) (by first | omega | (simp only [marked_len]; omega))) ?_)
                              rintro _ w757 ⟨rfl, hS760⟩ a758 hE759; clear hE755 hS762
                              refine q_step (v := .int .i64 (1 + (((F_ThenMorphisms fp0 fp1 gp0 gp1 qp0 qp1 first second).1).length : Int))) hE759 (y_assign rfl) rfl rfl rfl ?_; intro a763 hE764; clear hE759
                              refine c_nil ?_
                              have hE765 := hE764.sub (L' := [(3, .slice firstA first.length firstC), (4, .slice secondA second.length secondC), (5, .pointer (some ⟨b6, 0, none⟩)), (6, .pointer (some ⟨b12, 0, none⟩)), (7, .pointer (some ⟨b18, 0, none⟩)), (12, .slice b205 (((F_s_ThenMorphisms fp0 fp1 gp0 gp1 qp0 qp1 first second).1).length) c206), (13, .int .i64 ((F_s_ThenMorphisms fp0 fp1 gp0 gp1 qp0 qp1 first second).2)), (19, .slice b335 (((F_ThenMorphisms fp0 fp1 gp0 gp1 qp0 qp1 first second).1).length) c336), (22, .int .i64 (1 + (((F_ThenMorphisms fp0 fp1 gp0 gp1 qp0 qp1 first second).1).length : Int)))]) ⟨rfl, rfl, rfl, rfl, rfl, rfl, rfl, rfl, rfl, trivial⟩; clear hE764
                              refine p_tn ?_
                              refine c_seq ?_
                              refine c_reg ?_
                              refine q_step (v := .int .i64 1) hE765 (y_assign rfl) rfl rfl rfl ?_; intro a766 hE767; clear hE765
                              refine c_nil ?_
                              have hE768 := hE767.sub (L' := [(3, .slice firstA first.length firstC), (4, .slice secondA second.length secondC), (5, .pointer (some ⟨b6, 0, none⟩)), (6, .pointer (some ⟨b12, 0, none⟩)), (7, .pointer (some ⟨b18, 0, none⟩)), (12, .slice b205 (((F_s_ThenMorphisms fp0 fp1 gp0 gp1 qp0 qp1 first second).1).length) c206), (13, .int .i64 ((F_s_ThenMorphisms fp0 fp1 gp0 gp1 qp0 qp1 first second).2)), (19, .slice b335 (((F_ThenMorphisms fp0 fp1 gp0 gp1 qp0 qp1 first second).1).length) c336), (22, .int .i64 (1 + (((F_ThenMorphisms fp0 fp1 gp0 gp1 qp0 qp1 first second).1).length : Int))), (23, .int .i64 1)]) ⟨rfl, rfl, rfl, rfl, rfl, rfl, rfl, rfl, rfl, rfl, trivial⟩; clear hE767
                              refine p_tn ?_
                              refine c_seq ?_
                              refine c_reg ?_
                              refine q_step (v := .slice b335 (((F_ThenMorphisms fp0 fp1 gp0 gp1 qp0 qp1 first second).1).length) c336) hE768 (y_move rfl) rfl rfl rfl ?_; intro a769 hE770; clear hE768
                              refine q_step (v := .int .i64 1) hE770 (y_move rfl) rfl rfl rfl ?_; intro a771 hE772; clear hE770
                              refine l_step hE772 rfl (l_call (f := 27) (argv := [.slice b335 (((F_ThenMorphisms fp0 fp1 gp0 gp1 qp0 qp1 first second).1).length) c336, .int .i64 1]) hE772 (fun _ => cf_l_heldInt64S _ _) rfl rfl (c_l_heldInt64S b335 (((F_ThenMorphisms fp0 fp1 gp0 gp1 qp0 qp1 first second).1).length) c336 (marked ((F_ThenMorphisms fp0 fp1 gp0 gp1 qp0 qp1 first second).1).length 1) 1 w757 (St.rdO (i := 0) hS760 rfl) (by first | omega | (simp only [marked_len]; omega)) (by first | omega | (simp only [marked_len]; omega)) (by first | omega | (simp only [marked_len]; omega))) ?_)
                              rintro _ w774 ⟨rfl, he778⟩ a775 hE776; clear hE772
                              have hS777 := St.go hS760 he778; clear hS760
                              refine q_step (v := .int .i64 (F_l_heldInt64S (marked ((F_ThenMorphisms fp0 fp1 gp0 gp1 qp0 qp1 first second).1).length 1) 1)) hE776 (y_assign rfl) rfl rfl rfl ?_; intro a779 hE780; clear hE776
                              refine c_nil ?_
                              have hE781 := hE780.sub (L' := [(3, .slice firstA first.length firstC), (4, .slice secondA second.length secondC), (5, .pointer (some ⟨b6, 0, none⟩)), (6, .pointer (some ⟨b12, 0, none⟩)), (7, .pointer (some ⟨b18, 0, none⟩)), (12, .slice b205 (((F_s_ThenMorphisms fp0 fp1 gp0 gp1 qp0 qp1 first second).1).length) c206), (13, .int .i64 ((F_s_ThenMorphisms fp0 fp1 gp0 gp1 qp0 qp1 first second).2)), (19, .slice b335 (((F_ThenMorphisms fp0 fp1 gp0 gp1 qp0 qp1 first second).1).length) c336), (22, .int .i64 (1 + (((F_ThenMorphisms fp0 fp1 gp0 gp1 qp0 qp1 first second).1).length : Int))), (23, .int .i64 (F_l_heldInt64S (marked ((F_ThenMorphisms fp0 fp1 gp0 gp1 qp0 qp1 first second).1).length 1) 1))]) ⟨rfl, rfl, rfl, rfl, rfl, rfl, rfl, rfl, rfl, rfl, trivial⟩; clear hE780
                              refine p_tn ?_
                              refine c_seq ?_
                              refine c_seq ?_
                              refine c_reg ?_
                              refine q_step (v := .int .i64 (F_l_heldInt64S (marked ((F_ThenMorphisms fp0 fp1 gp0 gp1 qp0 qp1 first second).1).length 1) 1)) hE781 (y_move rfl) rfl rfl rfl ?_; intro a782 hE783; clear hE781
                              refine q_step (v := .bool (decide ((F_l_heldInt64S (marked ((F_ThenMorphisms fp0 fp1 gp0 gp1 qp0 qp1 first second).1).length 1) 1) < 0))) hE783 (y_lss rfl rfl) rfl rfl rfl ?_; intro a784 hE785; clear hE783
                              refine c_nil ?_
                              have hE786 := hE785.sub (L' := [(3, .slice firstA first.length firstC), (4, .slice secondA second.length secondC), (5, .pointer (some ⟨b6, 0, none⟩)), (6, .pointer (some ⟨b12, 0, none⟩)), (7, .pointer (some ⟨b18, 0, none⟩)), (12, .slice b205 (((F_s_ThenMorphisms fp0 fp1 gp0 gp1 qp0 qp1 first second).1).length) c206), (13, .int .i64 ((F_s_ThenMorphisms fp0 fp1 gp0 gp1 qp0 qp1 first second).2)), (19, .slice b335 (((F_ThenMorphisms fp0 fp1 gp0 gp1 qp0 qp1 first second).1).length) c336), (22, .int .i64 (1 + (((F_ThenMorphisms fp0 fp1 gp0 gp1 qp0 qp1 first second).1).length : Int))), (23, .int .i64 (F_l_heldInt64S (marked ((F_ThenMorphisms fp0 fp1 gp0 gp1 qp0 qp1 first second).1).length 1) 1)), (149, .bool (decide ((F_l_heldInt64S (marked ((F_ThenMorphisms fp0 fp1 gp0 gp1 qp0 qp1 first second).1).length 1) 1) < 0)))]) ⟨rfl, rfl, rfl, rfl, rfl, rfl, rfl, rfl, rfl, rfl, rfl, trivial⟩; clear hE785
                              refine p_tn ?_
                              refine c_cond hE786 rfl (fun ht787 => ?_) (fun ht787 => ?_)
                              ·
                                have hp788 := of_decide_eq_true ht787
                                have hE789 := hE786; rw [ht787] at hE789; clear hE786
                                refine c_seq ?_
                                refine c_reg ?_
                                refine q_step (v := .bool false) hE789 (y_assign rfl) rfl rfl rfl ?_; intro a790 hE791; clear hE789
                                refine c_nil ?_
                                have hE792 := hE791.sub (L' := [(10, .bool false)]) ⟨rfl, trivial⟩; clear hE791
                                refine p_tn ?_
                                refine wp_ret ?_
                                refine p_tr ?_
                                have hF : F_l_FnExactThenMorphisms fp0 fp1 gp0 gp1 qp0 qp1 first second = false := by unfold F_l_FnExactThenMorphisms; rw [ht787, ht734, ht568, ht536, ht504, ht469, ht434, ht397, ht132, ht105, ht78, ht49, ht34]; first | done | rfl
                                refine c_ret1 hE792 rfl rfl ?_
                                exact ⟨(by rw [hF]; first | done | rfl), hS777.ext⟩
                              ·
                                have hp793 := of_decide_eq_false ht787
                                have hE794 := hE786; rw [ht787] at hE794; clear hE786
                                refine wp_skip ?_
                                refine p_tn ?_
                                refine c_seq ?_
                                refine c_seq ?_
                                refine c_reg ?_
                                refine q_step (v := .int .i64 (F_l_heldInt64S (marked ((F_ThenMorphisms fp0 fp1 gp0 gp1 qp0 qp1 first second).1).length 1) 1)) hE794 (y_move rfl) rfl rfl rfl ?_; intro a795 hE796; clear hE794
                                refine q_step (v := .int .i64 (1 + (((F_ThenMorphisms fp0 fp1 gp0 gp1 qp0 qp1 first second).1).length : Int))) hE796 (y_move rfl) rfl rfl rfl ?_; intro a797 hE798; clear hE796
                                refine q_step (v := .bool (!decide ((F_l_heldInt64S (marked ((F_ThenMorphisms fp0 fp1 gp0 gp1 qp0 qp1 first second).1).length 1) 1) = (1 + (((F_ThenMorphisms fp0 fp1 gp0 gp1 qp0 qp1 first second).1).length : Int))))) hE798 (y_neq rfl rfl) rfl rfl rfl ?_; intro a799 hE800; clear hE798
                                refine c_nil ?_
                                have hE801 := hE800.sub (L' := [(3, .slice firstA first.length firstC), (4, .slice secondA second.length secondC), (5, .pointer (some ⟨b6, 0, none⟩)), (6, .pointer (some ⟨b12, 0, none⟩)), (7, .pointer (some ⟨b18, 0, none⟩)), (12, .slice b205 (((F_s_ThenMorphisms fp0 fp1 gp0 gp1 qp0 qp1 first second).1).length) c206), (13, .int .i64 ((F_s_ThenMorphisms fp0 fp1 gp0 gp1 qp0 qp1 first second).2)), (19, .slice b335 (((F_ThenMorphisms fp0 fp1 gp0 gp1 qp0 qp1 first second).1).length) c336), (22, .int .i64 (1 + (((F_ThenMorphisms fp0 fp1 gp0 gp1 qp0 qp1 first second).1).length : Int))), (152, .bool (!decide ((F_l_heldInt64S (marked ((F_ThenMorphisms fp0 fp1 gp0 gp1 qp0 qp1 first second).1).length 1) 1) = (1 + (((F_ThenMorphisms fp0 fp1 gp0 gp1 qp0 qp1 first second).1).length : Int)))))]) ⟨rfl, rfl, rfl, rfl, rfl, rfl, rfl, rfl, rfl, rfl, trivial⟩; clear hE800
                                refine p_tn ?_
                                refine c_cond hE801 rfl (fun ht802 => ?_) (fun ht802 => ?_)
                                ·
                                  have ht803 := bn_t ht802
                                  have hp804 := of_decide_eq_false ht803
                                  have hE805 := hE801; rw [ht802] at hE805; clear hE801
                                  refine c_seq ?_
                                  refine c_reg ?_
                                  refine q_step (v := .bool false) hE805 (y_assign rfl) rfl rfl rfl ?_; intro a806 hE807; clear hE805
                                  refine c_nil ?_
                                  have hE808 := hE807.sub (L' := [(10, .bool false)]) ⟨rfl, trivial⟩; clear hE807
                                  refine p_tn ?_
                                  refine wp_ret ?_
                                  refine p_tr ?_
                                  have hF : F_l_FnExactThenMorphisms fp0 fp1 gp0 gp1 qp0 qp1 first second = false := by unfold F_l_FnExactThenMorphisms; rw [ht802, ht787, ht734, ht568, ht536, ht504, ht469, ht434, ht397, ht132, ht105, ht78, ht49, ht34]; first | done | rfl
                                  refine c_ret1 hE808 rfl rfl ?_
                                  exact ⟨(by rw [hF]; first | done | rfl), hS777.ext⟩
                                ·
                                  have ht809 := bn_f ht802
                                  have hp810 := of_decide_eq_true ht809
                                  have hE811 := hE801; rw [ht802] at hE811; clear hE801
                                  refine wp_skip ?_
                                  refine p_tn ?_
                                  refine c_seq ?_
                                  refine d_start (fun w' => w'.heap[b6]? = some (.cells #[.int .i64 fp0, .slice fp1A fp1.length fp1C] 24 (0, 0)) ∧ w'.heap[b12]? = some (.cells #[.int .i64 gp0, .slice gp1A gp1.length gp1C] 24 (0, 0)) ∧ w'.heap[b18]? = some (.cells #[.int .i64 qp0, .slice qp1A qp1.length qp1C] 24 (0, 0)) ∧ True) [0, 2, 4] 16 (by kernel_rfl) rfl ?_
                                  intro w812 he813; have hS814 := St.go hS777 he813; clear hS777
                                  refine d_take (v := .agg #[.int .i64 fp0, .slice fp1A fp1.length fp1C]) 0 rfl hE811 ⟨(St.row (i := 25) hS814 rfl _ (Ext.refl _)), (St.row (i := 23) hS814 rfl _ (Ext.refl _)), (St.row (i := 21) hS814 rfl _ (Ext.refl _)), trivial⟩ (y_loadS Try.underlying24 rfl (by kernel_rfl) rfl (fun _ h => h.1)) rfl rfl (by kernel_rfl) (by kernel_rfl) (by kernel_rfl) rfl rfl (fun _ _ _ h => h) ?_; intro a815 hE816; clear hE811
                                  refine d_take (v := .agg #[.int .i64 gp0, .slice gp1A gp1.length gp1C]) 2 rfl hE816 ⟨(St.row (i := 25) hS814 rfl _ (Ext.refl _)), (St.row (i := 23) hS814 rfl _ (Ext.refl _)), (St.row (i := 21) hS814 rfl _ (Ext.refl _)), trivial⟩ (y_loadS Try.underlying24 rfl (by kernel_rfl) rfl (fun _ h => h.2.1)) rfl rfl (by kernel_rfl) (by kernel_rfl) (by kernel_rfl) rfl rfl (fun _ _ _ h => h) ?_; intro a817 hE818; clear hE816
                                  refine d_take (v := .agg #[.int .i64 qp0, .slice qp1A qp1.length qp1C]) 4 rfl hE818 ⟨(St.row (i := 25) hS814 rfl _ (Ext.refl _)), (St.row (i := 23) hS814 rfl _ (Ext.refl _)), (St.row (i := 21) hS814 rfl _ (Ext.refl _)), trivial⟩ (y_loadS Try.underlying24 rfl (by kernel_rfl) rfl (fun _ h => h.2.2.1)) rfl rfl (by kernel_rfl) (by kernel_rfl) (by kernel_rfl) rfl rfl (fun _ _ _ h => h) ?_; intro a819 hE820; clear hE818
                                  refine d_pure (v := .slice firstA first.length firstC) 6 rfl hE820 (y_move rfl) rfl (by kernel_rfl) (by kernel_rfl) (by kernel_rfl) rfl rfl (fun _ _ _ h => h) ?_; intro a821 hE822; clear hE820
                                  refine d_pure (v := .slice secondA second.length secondC) 8 rfl hE822 (y_move rfl) rfl (by kernel_rfl) (by kernel_rfl) (by kernel_rfl) rfl rfl (fun _ _ _ h => h) ?_; intro a823 hE824; clear hE822
                                  refine d_only 1 (by kernel_rfl) rfl hE824 rfl (l_call (f := 17) (argv := [.agg #[.int .i64 fp0, .slice fp1A fp1.length fp1C]]) hE824 (fun _ => cf_l_toFrame _ _) rfl rfl (d_l_toFrame fp0 fp1A fp1.length fp1C fp1 w812 (St.rdR (i := 24) hS814 rfl) (by first | omega | (simp only [marked_len]; omega))) ?_)
                                  rintro _ w826 ⟨b831, c832, rfl, ho833, he830⟩ a827 hE828; clear hE824
                                  have hS829 := St.own hS814 he830 ho833; clear hS814
                                  refine ⟨fun _ _ => ⟨(St.row (i := 26) hS829 rfl _ (Ext.refl _)), (St.row (i := 24) hS829 rfl _ (Ext.refl _)), (St.row (i := 22) hS829 rfl _ (Ext.refl _)), trivial⟩, ?_⟩
                                  refine d_only 3 (by kernel_rfl) rfl hE828 rfl (l_call (f := 17) (argv := [.agg #[.int .i64 gp0, .slice gp1A gp1.length gp1C]]) hE828 (fun _ => cf_l_toFrame _ _) rfl rfl (d_l_toFrame gp0 gp1A gp1.length gp1C gp1 w826 (St.rdR (i := 23) hS829 rfl) (by first | omega | (simp only [marked_len]; omega))) ?_)
                                  rintro _ w835 ⟨b840, c841, rfl, ho842, he839⟩ a836 hE837; clear hE828
                                  have hS838 := St.own hS829 he839 ho842; clear hS829
                                  refine ⟨fun _ _ => ⟨(St.row (i := 27) hS838 rfl _ (Ext.refl _)), (St.row (i := 25) hS838 rfl _ (Ext.refl _)), (St.row (i := 23) hS838 rfl _ (Ext.refl _)), trivial⟩, ?_⟩
                                  refine d_only 5 (by kernel_rfl) rfl hE837 rfl (l_call (f := 17) (argv := [.agg #[.int .i64 qp0, .slice qp1A qp1.length qp1C]]) hE837 (fun _ => cf_l_toFrame _ _) rfl rfl (d_l_toFrame qp0 qp1A qp1.length qp1C qp1 w835 (St.rdR (i := 22) hS838 rfl) (by first | omega | (simp only [marked_len]; omega))) ?_)
                                  rintro _ w844 ⟨b849, c850, rfl, ho851, he848⟩ a845 hE846; clear hE837
                                  have hS847 := St.own hS838 he848 ho851; clear hS838
                                  refine ⟨fun _ _ => ⟨(St.row (i := 28) hS847 rfl _ (Ext.refl _)), (St.row (i := 26) hS847 rfl _ (Ext.refl _)), (St.row (i := 24) hS847 rfl _ (Ext.refl _)), trivial⟩, ?_⟩
                                  refine d_only 7 (by kernel_rfl) rfl hE846 rfl (l_call (f := 23) (argv := [.slice firstA first.length firstC]) hE846 (fun _ => cf_l_toInt64S _ _) rfl rfl (d_l_toInt64S firstA first.length firstC first w844 (St.rdR (i := 30) hS847 rfl) (by first | omega | (simp only [marked_len]; omega))) ?_)
                                  rintro _ w853 ⟨b858, c859, rfl, ho860, he857⟩ a854 hE855; clear hE846
                                  have hS856 := St.own hS847 he857 ho860; clear hS847
                                  refine ⟨fun _ _ => ⟨(St.row (i := 29) hS856 rfl _ (Ext.refl _)), (St.row (i := 27) hS856 rfl _ (Ext.refl _)), (St.row (i := 25) hS856 rfl _ (Ext.refl _)), trivial⟩, ?_⟩
                                  refine d_only 9 (by kernel_rfl) rfl hE855 rfl (l_call (f := 23) (argv := [.slice secondA second.length secondC]) hE855 (fun _ => cf_l_toInt64S _ _) rfl rfl (d_l_toInt64S secondA second.length secondC second w853 (St.rdR (i := 30) hS856 rfl) (by first | omega | (simp only [marked_len]; omega))) ?_)
                                  rintro _ w862 ⟨b867, c868, rfl, ho869, he866⟩ a863 hE864; clear hE855
                                  have hS865 := St.own hS856 he866 ho869; clear hS856
                                  refine ⟨fun _ _ => ⟨(St.row (i := 30) hS865 rfl _ (Ext.refl _)), (St.row (i := 28) hS865 rfl _ (Ext.refl _)), (St.row (i := 26) hS865 rfl _ (Ext.refl _)), trivial⟩, ?_⟩
                                  refine d_only 10 (by kernel_rfl) rfl hE864 rfl (l_call (f := 24) (argv := [.agg #[.int .i64 fp0, .slice b831 ((fp1).length) c832], .agg #[.int .i64 gp0, .slice b840 ((gp1).length) c841], .agg #[.int .i64 qp0, .slice b849 ((qp1).length) c850], .slice b858 ((first).length) c859, .slice b867 ((second).length) c868]) hE864 (fun _ => cf_ThenMorphisms _ _) rfl rfl (c_ThenMorphisms fp0 b831 ((fp1).length) c832 fp1 gp0 b840 ((gp1).length) c841 gp1 qp0 b849 ((qp1).length) c850 qp1 b858 ((first).length) c859 first b867 ((second).length) c868 second w862 (St.rdO (i := 4) hS865 rfl) (St.rdO (i := 3) hS865 rfl) (St.rdO (i := 2) hS865 rfl) (St.rdO (i := 1) hS865 rfl) (St.rdO (i := 0) hS865 rfl)) ?_)
                                  rintro _ w871 ⟨b876, c877, rfl, ho878, he875⟩ a872 hE873; clear hE864
                                  have hf879 := ThenMorphisms_len fp0 fp1 gp0 gp1 qp0 qp1 first second
                                  have hS874 := St.own hS865 he875 ho878; clear hS865
                                  refine ⟨fun _ _ => ⟨(St.row (i := 31) hS874 rfl _ (Ext.refl _)), (St.row (i := 29) hS874 rfl _ (Ext.refl _)), (St.row (i := 27) hS874 rfl _ (Ext.refl _)), trivial⟩, ?_⟩
                                  refine d_pure (v := .tuple #[.slice b876 (((F_ThenMorphisms fp0 fp1 gp0 gp1 qp0 qp1 first second).1).length) c877, .int .i64 ((F_ThenMorphisms fp0 fp1 gp0 gp1 qp0 qp1 first second).2)]) 11 rfl hE873 (y_move rfl) rfl (by kernel_rfl) (by kernel_rfl) (by kernel_rfl) rfl rfl (fun _ _ _ h => h) ?_; intro a880 hE881; clear hE873
                                  refine d_pure (v := .slice b876 (((F_ThenMorphisms fp0 fp1 gp0 gp1 qp0 qp1 first second).1).length) c877) 12 rfl hE881 (y_extract rfl rfl) rfl (by kernel_rfl) (by kernel_rfl) (by kernel_rfl) rfl rfl (fun _ _ _ h => h) ?_; intro a882 hE883; clear hE881
                                  refine d_pure (v := .int .i64 ((F_ThenMorphisms fp0 fp1 gp0 gp1 qp0 qp1 first second).2)) 13 rfl hE883 (y_extract rfl rfl) rfl (by kernel_rfl) (by kernel_rfl) (by kernel_rfl) rfl rfl (fun _ _ _ h => h) ?_; intro a884 hE885; clear hE883
                                  refine d_pure (v := .slice b876 (((F_ThenMorphisms fp0 fp1 gp0 gp1 qp0 qp1 first second).1).length) c877) 14 rfl hE885 (y_assign rfl) rfl (by kernel_rfl) (by kernel_rfl) (by kernel_rfl) rfl rfl (fun _ _ _ h => h) ?_; intro a886 hE887; clear hE885
                                  refine d_pure (v := .int .i64 ((F_ThenMorphisms fp0 fp1 gp0 gp1 qp0 qp1 first second).2)) 15 rfl hE887 (y_assign rfl) rfl (by kernel_rfl) (by kernel_rfl) (by kernel_rfl) rfl rfl (fun _ _ _ h => h) ?_; intro a888 hE889; clear hE887
                                  refine d_done (by kernel_rfl) ?_
                                  have hE890 := hE889.sub (L' := [(12, .slice b205 (((F_s_ThenMorphisms fp0 fp1 gp0 gp1 qp0 qp1 first second).1).length) c206), (13, .int .i64 ((F_s_ThenMorphisms fp0 fp1 gp0 gp1 qp0 qp1 first second).2)), (19, .slice b335 (((F_ThenMorphisms fp0 fp1 gp0 gp1 qp0 qp1 first second).1).length) c336), (22, .int .i64 (1 + (((F_ThenMorphisms fp0 fp1 gp0 gp1 qp0 qp1 first second).1).length : Int))), (24, .slice b876 (((F_ThenMorphisms fp0 fp1 gp0 gp1 qp0 qp1 first second).1).length) c877), (25, .int .i64 ((F_ThenMorphisms fp0 fp1 gp0 gp1 qp0 qp1 first second).2))]) ⟨rfl, rfl, rfl, rfl, rfl, rfl, trivial⟩; clear hE889
                                  refine p_tn ?_
                                  refine c_seq ?_
                                  refine c_cut (fun a' w' => E a' 184 [(19, .slice b335 (((F_ThenMorphisms fp0 fp1 gp0 gp1 qp0 qp1 first second).1).length) c336), (22, .int .i64 (1 + (((F_ThenMorphisms fp0 fp1 gp0 gp1 qp0 qp1 first second).1).length : Int))), (175, .bool ((!(decide (((F_ThenMorphisms fp0 fp1 gp0 gp1 qp0 qp1 first second).1) = ((F_s_ThenMorphisms fp0 fp1 gp0 gp1 qp0 qp1 first second).1)))) || (!decide (((F_ThenMorphisms fp0 fp1 gp0 gp1 qp0 qp1 first second).2) = ((F_s_ThenMorphisms fp0 fp1 gp0 gp1 qp0 qp1 first second).2)))))] ∧ St w w' [.own 2 1 b876 (((F_ThenMorphisms fp0 fp1 gp0 gp1 qp0 qp1 first second).1).length) c877 ((F_ThenMorphisms fp0 fp1 gp0 gp1 qp0 qp1 first second).1), .own 2 1 b867 ((second).length) c868 second, .own 2 1 b858 ((first).length) c859 first, .own 2 1 b849 ((qp1).length) c850 qp1, .own 2 1 b840 ((gp1).length) c841 gp1, .own 2 1 b831 ((fp1).length) c832 fp1, .own 2 1 b335 (((F_ThenMorphisms fp0 fp1 gp0 gp1 qp0 qp1 first second).1).length) c336 (marked ((F_ThenMorphisms fp0 fp1 gp0 gp1 qp0 qp1 first second).1).length 1), .own 2 1 b313 ((second).length) c314 (marked second.length ((((1 + (fp1.length : Int)) + (gp1.length : Int)) + (qp1.length : Int)) + (first.length : Int))), .own 2 1 b299 ((first).length) c300 (marked first.length (((1 + (fp1.length : Int)) + (gp1.length : Int)) + (qp1.length : Int))), .own 2 1 b275 ((qp1).length) c276 (marked qp1.length ((1 + (fp1.length : Int)) + (gp1.length : Int))), .own 2 1 b251 ((gp1).length) c252 (marked gp1.length (1 + (fp1.length : Int))), .own 2 1 b227 ((fp1).length) c228 (marked fp1.length 1), .own 2 1 b556 ((second).length) c557 second, .own 2 1 b524 ((first).length) c525 first, .own 2 1 b492 ((qp1).length) c493 qp1, .own 2 1 b457 ((gp1).length) c458 gp1, .own 2 1 b422 ((fp1).length) c423 fp1, .blk b278 #[.int .i64 qp0, .slice b275 ((qp1).length) c276] 26, .blk b254 #[.int .i64 gp0, .slice b251 ((gp1).length) c252] 26, .blk b230 #[.int .i64 fp0, .slice b227 ((fp1).length) c228] 26, .own 2 1 b205 (((F_s_ThenMorphisms fp0 fp1 gp0 gp1 qp0 qp1 first second).1).length) c206 ((F_s_ThenMorphisms fp0 fp1 gp0 gp1 qp0 qp1 first second).1), .own 2 1 b196 ((second).length) c197 second, .own 2 1 b187 ((first).length) c188 first, .own 2 1 b178 ((qp1).length) c179 qp1, .own 2 1 b169 ((gp1).length) c170 gp1, .own 2 1 b160 ((fp1).length) c161 fp1, .rd 1 qp1A qp1.length qp1C qp1, .blk b18 #[.int .i64 qp0, .slice qp1A qp1.length qp1C] 24, .rd 1 gp1A gp1.length gp1C gp1, .blk b12 #[.int .i64 gp0, .slice gp1A gp1.length gp1C] 24, .rd 1 fp1A fp1.length fp1C fp1, .blk b6 #[.int .i64 fp0, .slice fp1A fp1.length fp1C] 24, .rd 1 secondA second.length secondC second, .rd 1 firstA first.length firstC first]) ?_ ?_
                                  ·
                                    refine c_reg ?_
                                    refine q_step (v := .slice b876 (((F_ThenMorphisms fp0 fp1 gp0 gp1 qp0 qp1 first second).1).length) c877) hE890 (y_move rfl) rfl rfl rfl ?_; intro a891 hE892; clear hE890
                                    refine q_step (v := .slice b205 (((F_s_ThenMorphisms fp0 fp1 gp0 gp1 qp0 qp1 first second).1).length) c206) hE892 (y_move rfl) rfl rfl rfl ?_; intro a893 hE894; clear hE892
                                    refine l_step hE894 rfl (l_call (f := 25) (argv := [.slice b876 (((F_ThenMorphisms fp0 fp1 gp0 gp1 qp0 qp1 first second).1).length) c877, .slice b205 (((F_s_ThenMorphisms fp0 fp1 gp0 gp1 qp0 qp1 first second).1).length) c206]) hE894 (fun _ => cf_l_eqInt64S _ _) rfl rfl (d_l_eqInt64S b876 (((F_ThenMorphisms fp0 fp1 gp0 gp1 qp0 qp1 first second).1).length) c877 ((F_ThenMorphisms fp0 fp1 gp0 gp1 qp0 qp1 first second).1) b205 (((F_s_ThenMorphisms fp0 fp1 gp0 gp1 qp0 qp1 first second).1).length) c206 ((F_s_ThenMorphisms fp0 fp1 gp0 gp1 qp0 qp1 first second).1) w871 (St.rdO (i := 0) hS874 rfl) (St.rdO (i := 20) hS874 rfl)) ?_)
                                    rintro _ w896 ⟨rfl, he900⟩ a897 hE898; clear hE894
                                    have hS899 := St.go hS874 he900; clear hS874
                                    refine q_step (v := .bool (!(decide (((F_ThenMorphisms fp0 fp1 gp0 gp1 qp0 qp1 first second).1) = ((F_s_ThenMorphisms fp0 fp1 gp0 gp1 qp0 qp1 first second).1))))) hE898 (y_not rfl) rfl rfl rfl ?_; intro a901 hE902; clear hE898
                                    refine q_step (v := .bool (!(decide (((F_ThenMorphisms fp0 fp1 gp0 gp1 qp0 qp1 first second).1) = ((F_s_ThenMorphisms fp0 fp1 gp0 gp1 qp0 qp1 first second).1))))) hE902 (y_move rfl) rfl rfl rfl ?_; intro a903 hE904; clear hE902
                                    rcases Bool.eq_false_or_eq_true (!(decide (((F_ThenMorphisms fp0 fp1 gp0 gp1 qp0 qp1 first second).1) = ((F_s_ThenMorphisms fp0 fp1 gp0 gp1 qp0 qp1 first second).1)))) with hb905 | hb905
                                    ·
                                      have hE906 := hE904; rw [hb905] at hE906; clear hE904
                                      have ht907 := bn_t hb905
                                      have hp908 := of_decide_eq_false ht907
                                      refine q_skip hE906 rfl rfl rfl ?_; intro a909 hE910; clear hE906
                                      refine q_skip hE910 rfl rfl rfl ?_; intro a911 hE912; clear hE910
                                      refine q_skip hE912 rfl rfl rfl ?_; intro a913 hE914; clear hE912
                                      refine q_step (v := .bool true) hE914 (y_pick (b := true) rfl rfl) rfl rfl rfl ?_; intro a915 hE916; clear hE914
                                      refine c_nil ?_
                                      have hE917 := hE916.sub (L' := [(19, .slice b335 (((F_ThenMorphisms fp0 fp1 gp0 gp1 qp0 qp1 first second).1).length) c336), (22, .int .i64 (1 + (((F_ThenMorphisms fp0 fp1 gp0 gp1 qp0 qp1 first second).1).length : Int))), (175, .bool true)]) ⟨rfl, rfl, rfl, trivial⟩; clear hE916
                                      refine p_tn ?_
                                      have hE918 := hE917.sub (L' := [(19, .slice b335 (((F_ThenMorphisms fp0 fp1 gp0 gp1 qp0 qp1 first second).1).length) c336), (22, .int .i64 (1 + (((F_ThenMorphisms fp0 fp1 gp0 gp1 qp0 qp1 first second).1).length : Int))), (175, .bool true)]) ⟨rfl, rfl, rfl, trivial⟩
                                      have hS919 := (St.pick (Γ' := [.own 2 1 b876 (((F_ThenMorphisms fp0 fp1 gp0 gp1 qp0 qp1 first second).1).length) c877 ((F_ThenMorphisms fp0 fp1 gp0 gp1 qp0 qp1 first second).1), .own 2 1 b867 ((second).length) c868 second, .own 2 1 b858 ((first).length) c859 first, .own 2 1 b849 ((qp1).length) c850 qp1, .own 2 1 b840 ((gp1).length) c841 gp1, .own 2 1 b831 ((fp1).length) c832 fp1, .own 2 1 b335 (((F_ThenMorphisms fp0 fp1 gp0 gp1 qp0 qp1 first second).1).length) c336 (marked ((F_ThenMorphisms fp0 fp1 gp0 gp1 qp0 qp1 first second).1).length 1), .own 2 1 b313 ((second).length) c314 (marked second.length ((((1 + (fp1.length : Int)) + (gp1.length : Int)) + (qp1.length : Int)) + (first.length : Int))), .own 2 1 b299 ((first).length) c300 (marked first.length (((1 + (fp1.length : Int)) + (gp1.length : Int)) + (qp1.length : Int))), .own 2 1 b275 ((qp1).length) c276 (marked qp1.length ((1 + (fp1.length : Int)) + (gp1.length : Int))), .own 2 1 b251 ((gp1).length) c252 (marked gp1.length (1 + (fp1.length : Int))), .own 2 1 b227 ((fp1).length) c228 (marked fp1.length 1), .own 2 1 b556 ((second).length) c557 second, .own 2 1 b524 ((first).length) c525 first, .own 2 1 b492 ((qp1).length) c493 qp1, .own 2 1 b457 ((gp1).length) c458 gp1, .own 2 1 b422 ((fp1).length) c423 fp1, .blk b278 #[.int .i64 qp0, .slice b275 ((qp1).length) c276] 26, .blk b254 #[.int .i64 gp0, .slice b251 ((gp1).length) c252] 26, .blk b230 #[.int .i64 fp0, .slice b227 ((fp1).length) c228] 26, .own 2 1 b205 (((F_s_ThenMorphisms fp0 fp1 gp0 gp1 qp0 qp1 first second).1).length) c206 ((F_s_ThenMorphisms fp0 fp1 gp0 gp1 qp0 qp1 first second).1), .own 2 1 b196 ((second).length) c197 second, .own 2 1 b187 ((first).length) c188 first, .own 2 1 b178 ((qp1).length) c179 qp1, .own 2 1 b169 ((gp1).length) c170 gp1, .own 2 1 b160 ((fp1).length) c161 fp1, .rd 1 qp1A qp1.length qp1C qp1, .blk b18 #[.int .i64 qp0, .slice qp1A qp1.length qp1C] 24, .rd 1 gp1A gp1.length gp1C gp1, .blk b12 #[.int .i64 gp0, .slice gp1A gp1.length gp1C] 24, .rd 1 fp1A fp1.length fp1C fp1, .blk b6 #[.int .i64 fp0, .slice fp1A fp1.length fp1C] 24, .rd 1 secondA second.length secondC second, .rd 1 firstA first.length firstC first]) hS899 [0, 1, 2, 3, 4, 5, 6, 7, 8, 9, 10, 11, 12, 13, 14, 15, 16, 17, 18, 19, 20, 21, 22, 23, 24, 25, 26, 27, 28, 29, 30, 31, 32, 33] (by decide) rfl)
                                      exact ⟨(by rw [hb905]; exact hE918), hS919⟩
                                    ·
                                      have hE920 := hE904; rw [hb905] at hE920; clear hE904
                                      have ht921 := bn_f hb905
                                      have hp922 := of_decide_eq_true ht921
                                      refine q_step (v := .int .i64 ((F_ThenMorphisms fp0 fp1 gp0 gp1 qp0 qp1 first second).2)) hE920 (y_move rfl) rfl rfl rfl ?_; intro a923 hE924; clear hE920
                                      refine q_step (v := .int .i64 ((F_s_ThenMorphisms fp0 fp1 gp0 gp1 qp0 qp1 first second).2)) hE924 (y_move rfl) rfl rfl rfl ?_; intro a925 hE926; clear hE924
                                      refine q_step (v := .bool (!decide (((F_ThenMorphisms fp0 fp1 gp0 gp1 qp0 qp1 first second).2) = ((F_s_ThenMorphisms fp0 fp1 gp0 gp1 qp0 qp1 first second).2)))) hE926 (y_neq rfl rfl) rfl rfl rfl ?_; intro a927 hE928; clear hE926
                                      refine q_step (v := .bool (!decide (((F_ThenMorphisms fp0 fp1 gp0 gp1 qp0 qp1 first second).2) = ((F_s_ThenMorphisms fp0 fp1 gp0 gp1 qp0 qp1 first second).2)))) hE928 (y_pick (b := false) rfl rfl) rfl rfl rfl ?_; intro a929 hE930; clear hE928
                                      refine c_nil ?_
                                      have hE931 := hE930.sub (L' := [(19, .slice b335 (((F_ThenMorphisms fp0 fp1 gp0 gp1 qp0 qp1 first second).1).length) c336), (22, .int .i64 (1 + (((F_ThenMorphisms fp0 fp1 gp0 gp1 qp0 qp1 first second).1).length : Int))), (175, .bool (!decide (((F_ThenMorphisms fp0 fp1 gp0 gp1 qp0 qp1 first second).2) = ((F_s_ThenMorphisms fp0 fp1 gp0 gp1 qp0 qp1 first second).2))))]) ⟨rfl, rfl, rfl, trivial⟩; clear hE930
                                      refine p_tn ?_
                                      have hE932 := hE931.sub (L' := [(19, .slice b335 (((F_ThenMorphisms fp0 fp1 gp0 gp1 qp0 qp1 first second).1).length) c336), (22, .int .i64 (1 + (((F_ThenMorphisms fp0 fp1 gp0 gp1 qp0 qp1 first second).1).length : Int))), (175, .bool (!decide (((F_ThenMorphisms fp0 fp1 gp0 gp1 qp0 qp1 first second).2) = ((F_s_ThenMorphisms fp0 fp1 gp0 gp1 qp0 qp1 first second).2))))]) ⟨rfl, rfl, rfl, trivial⟩
                                      have hS933 := (St.pick (Γ' := [.own 2 1 b876 (((F_ThenMorphisms fp0 fp1 gp0 gp1 qp0 qp1 first second).1).length) c877 ((F_ThenMorphisms fp0 fp1 gp0 gp1 qp0 qp1 first second).1), .own 2 1 b867 ((second).length) c868 second, .own 2 1 b858 ((first).length) c859 first, .own 2 1 b849 ((qp1).length) c850 qp1, .own 2 1 b840 ((gp1).length) c841 gp1, .own 2 1 b831 ((fp1).length) c832 fp1, .own 2 1 b335 (((F_ThenMorphisms fp0 fp1 gp0 gp1 qp0 qp1 first second).1).length) c336 (marked ((F_ThenMorphisms fp0 fp1 gp0 gp1 qp0 qp1 first second).1).length 1), .own 2 1 b313 ((second).length) c314 (marked second.length ((((1 + (fp1.length : Int)) + (gp1.length : Int)) + (qp1.length : Int)) + (first.length : Int))), .own 2 1 b299 ((first).length) c300 (marked first.length (((1 + (fp1.length : Int)) + (gp1.length : Int)) + (qp1.length : Int))), .own 2 1 b275 ((qp1).length) c276 (marked qp1.length ((1 + (fp1.length : Int)) + (gp1.length : Int))), .own 2 1 b251 ((gp1).length) c252 (marked gp1.length (1 + (fp1.length : Int))), .own 2 1 b227 ((fp1).length) c228 (marked fp1.length 1), .own 2 1 b556 ((second).length) c557 second, .own 2 1 b524 ((first).length) c525 first, .own 2 1 b492 ((qp1).length) c493 qp1, .own 2 1 b457 ((gp1).length) c458 gp1, .own 2 1 b422 ((fp1).length) c423 fp1, .blk b278 #[.int .i64 qp0, .slice b275 ((qp1).length) c276] 26, .blk b254 #[.int .i64 gp0, .slice b251 ((gp1).length) c252] 26, .blk b230 #[.int .i64 fp0, .slice b227 ((fp1).length) c228] 26, .own 2 1 b205 (((F_s_ThenMorphisms fp0 fp1 gp0 gp1 qp0 qp1 first second).1).length) c206 ((F_s_ThenMorphisms fp0 fp1 gp0 gp1 qp0 qp1 first second).1), .own 2 1 b196 ((second).length) c197 second, .own 2 1 b187 ((first).length) c188 first, .own 2 1 b178 ((qp1).length) c179 qp1, .own 2 1 b169 ((gp1).length) c170 gp1, .own 2 1 b160 ((fp1).length) c161 fp1, .rd 1 qp1A qp1.length qp1C qp1, .blk b18 #[.int .i64 qp0, .slice qp1A qp1.length qp1C] 24, .rd 1 gp1A gp1.length gp1C gp1, .blk b12 #[.int .i64 gp0, .slice gp1A gp1.length gp1C] 24, .rd 1 fp1A fp1.length fp1C fp1, .blk b6 #[.int .i64 fp0, .slice fp1A fp1.length fp1C] 24, .rd 1 secondA second.length secondC second, .rd 1 firstA first.length firstC first]) hS899 [0, 1, 2, 3, 4, 5, 6, 7, 8, 9, 10, 11, 12, 13, 14, 15, 16, 17, 18, 19, 20, 21, 22, 23, 24, 25, 26, 27, 28, 29, 30, 31, 32, 33] (by decide) rfl)
                                      exact ⟨(by rw [hb905]; exact hE932), hS933⟩
                                  ·
                                    rintro a934 w935 ⟨hE936, hS937⟩; clear hE890 hS874
                                    have hE938 := hE936; rw [ht397] at hE938; clear hE936
                                    refine c_false hE938 rfl ?_
                                    refine wp_skip ?_
                                    refine p_tn ?_
                                    refine c_seq ?_
                                    refine c_reg ?_
                                    refine q_step (v := .int .i64 1) hE938 (y_assign rfl) rfl rfl rfl ?_; intro a939 hE940; clear hE938
                                    refine c_nil ?_
                                    have hE941 := hE940.sub (L' := [(19, .slice b335 (((F_ThenMorphisms fp0 fp1 gp0 gp1 qp0 qp1 first second).1).length) c336), (22, .int .i64 (1 + (((F_ThenMorphisms fp0 fp1 gp0 gp1 qp0 qp1 first second).1).length : Int))), (23, .int .i64 1)]) ⟨rfl, rfl, rfl, trivial⟩; clear hE940
                                    refine p_tn ?_
                                    refine c_seq ?_
                                    refine c_reg ?_
                                    refine q_step (v := .slice b335 (((F_ThenMorphisms fp0 fp1 gp0 gp1 qp0 qp1 first second).1).length) c336) hE941 (y_move rfl) rfl rfl rfl ?_; intro a942 hE943; clear hE941
                                    refine q_step (v := .int .i64 1) hE943 (y_move rfl) rfl rfl rfl ?_; intro a944 hE945; clear hE943
                                    refine l_step hE945 rfl (l_call (f := 27) (argv := [.slice b335 (((F_ThenMorphisms fp0 fp1 gp0 gp1 qp0 qp1 first second).1).length) c336, .int .i64 1]) hE945 (fun _ => cf_l_heldInt64S _ _) rfl rfl (c_l_heldInt64S b335 (((F_ThenMorphisms fp0 fp1 gp0 gp1 qp0 qp1 first second).1).length) c336 (marked ((F_ThenMorphisms fp0 fp1 gp0 gp1 qp0 qp1 first second).1).length 1) 1 w935 (St.rdO (i := 6) hS937 rfl) (by first | omega | (simp only [marked_len]; omega)) (by first | omega | (simp only [marked_len]; omega)) (by first | omega | (simp only [marked_len]; omega))) ?_)
                                    rintro _ w947 ⟨rfl, he951⟩ a948 hE949; clear hE945
                                    have hS950 := St.go hS937 he951; clear hS937
                                    refine q_step (v := .int .i64 (F_l_heldInt64S (marked ((F_ThenMorphisms fp0 fp1 gp0 gp1 qp0 qp1 first second).1).length 1) 1)) hE949 (y_assign rfl) rfl rfl rfl ?_; intro a952 hE953; clear hE949
                                    refine c_nil ?_
                                    have hE954 := hE953.sub (L' := [(22, .int .i64 (1 + (((F_ThenMorphisms fp0 fp1 gp0 gp1 qp0 qp1 first second).1).length : Int))), (23, .int .i64 (F_l_heldInt64S (marked ((F_ThenMorphisms fp0 fp1 gp0 gp1 qp0 qp1 first second).1).length 1) 1))]) ⟨rfl, rfl, trivial⟩; clear hE953
                                    refine p_tn ?_
                                    refine c_seq ?_
                                    refine c_seq ?_
                                    refine c_reg ?_
                                    refine q_step (v := .int .i64 (F_l_heldInt64S (marked ((F_ThenMorphisms fp0 fp1 gp0 gp1 qp0 qp1 first second).1).length 1) 1)) hE954 (y_move rfl) rfl rfl rfl ?_; intro a955 hE956; clear hE954
                                    refine q_step (v := .bool (decide ((F_l_heldInt64S (marked ((F_ThenMorphisms fp0 fp1 gp0 gp1 qp0 qp1 first second).1).length 1) 1) < 0))) hE956 (y_lss rfl rfl) rfl rfl rfl ?_; intro a957 hE958; clear hE956
                                    refine c_nil ?_
                                    have hE959 := hE958.sub (L' := [(22, .int .i64 (1 + (((F_ThenMorphisms fp0 fp1 gp0 gp1 qp0 qp1 first second).1).length : Int))), (23, .int .i64 (F_l_heldInt64S (marked ((F_ThenMorphisms fp0 fp1 gp0 gp1 qp0 qp1 first second).1).length 1) 1)), (180, .bool (decide ((F_l_heldInt64S (marked ((F_ThenMorphisms fp0 fp1 gp0 gp1 qp0 qp1 first second).1).length 1) 1) < 0)))]) ⟨rfl, rfl, rfl, trivial⟩; clear hE958
                                    refine p_tn ?_
                                    have hE960 := hE959; rw [ht787] at hE960; clear hE959
                                    refine c_false hE960 rfl ?_
                                    refine wp_skip ?_
                                    refine p_tn ?_
                                    refine c_seq ?_
                                    refine c_seq ?_
                                    refine c_reg ?_
                                    refine q_step (v := .int .i64 (F_l_heldInt64S (marked ((F_ThenMorphisms fp0 fp1 gp0 gp1 qp0 qp1 first second).1).length 1) 1)) hE960 (y_move rfl) rfl rfl rfl ?_; intro a961 hE962; clear hE960
                                    refine q_step (v := .int .i64 (1 + (((F_ThenMorphisms fp0 fp1 gp0 gp1 qp0 qp1 first second).1).length : Int))) hE962 (y_move rfl) rfl rfl rfl ?_; intro a963 hE964; clear hE962
                                    refine q_step (v := .bool (!decide ((F_l_heldInt64S (marked ((F_ThenMorphisms fp0 fp1 gp0 gp1 qp0 qp1 first second).1).length 1) 1) = (1 + (((F_ThenMorphisms fp0 fp1 gp0 gp1 qp0 qp1 first second).1).length : Int))))) hE964 (y_neq rfl rfl) rfl rfl rfl ?_; intro a965 hE966; clear hE964
                                    refine c_nil ?_
                                    have hE967 := hE966.sub (L' := [(183, .bool (!decide ((F_l_heldInt64S (marked ((F_ThenMorphisms fp0 fp1 gp0 gp1 qp0 qp1 first second).1).length 1) 1) = (1 + (((F_ThenMorphisms fp0 fp1 gp0 gp1 qp0 qp1 first second).1).length : Int)))))]) ⟨rfl, trivial⟩; clear hE966
                                    refine p_tn ?_
                                    have hE968 := hE967; rw [ht802] at hE968; clear hE967
                                    refine c_false hE968 rfl ?_
                                    refine wp_skip ?_
                                    refine p_tn ?_
                                    refine c_seq ?_
                                    refine c_reg ?_
                                    refine q_step (v := .bool true) hE968 (y_assign rfl) rfl rfl rfl ?_; intro a969 hE970; clear hE968
                                    refine c_nil ?_
                                    have hE971 := hE970.sub (L' := [(10, .bool true)]) ⟨rfl, trivial⟩; clear hE970
                                    refine p_tn ?_
                                    refine wp_ret ?_
                                    have hF : F_l_FnExactThenMorphisms fp0 fp1 gp0 gp1 qp0 qp1 first second = true := by unfold F_l_FnExactThenMorphisms; rw [ht802, ht787, ht734, ht568, ht536, ht504, ht469, ht434, ht397, ht132, ht105, ht78, ht49, ht34]; first | done | rfl
                                    refine c_ret1 hE971 rfl rfl ?_
                                    exact ⟨(by rw [hF]; first | done | rfl), hS950.ext⟩

theorem FnExactThenMorphisms_true (fp0 : Int) (fp1 : List Int) (gp0 : Int) (gp1 : List Int) (qp0 : Int) (qp1 : List Int) (first second : List Int) : F_l_FnExactThenMorphisms fp0 fp1 gp0 gp1 qp0 qp1 first second = true := by
  unfold F_l_FnExactThenMorphisms
  rw [ThenMorphisms_eq, heldI_eq]
  have h1 : decide (1 + (fp1.length : Int) + (gp1.length : Int) + (qp1.length : Int) + (first.length : Int) + (second.length : Int) < 0) = false := decide_eq_false (by omega)
  have h2 : decide ((1 : Int) + ((F_s_ThenMorphisms fp0 fp1 gp0 gp1 qp0 qp1 first second).1.length : Int) < 0) = false := decide_eq_false (by omega)
  simp [h1, h2]

end Go.Proofs.Ytgcmfjliklcbdaa
