/- GLFT: models and contracts, printed by wip/gen/gen.py -/
import Derived.Test.YtkilkfhjfobcdaaKFTGTA
import Derived.Test.YtkilkfhjfobcdaaKFTGTF
set_option linter.unusedVariables false
set_option linter.unusedSimpArgs false
namespace Go.Proofs.Ytkilkfhjfobcdaa
open Go.RowKit
def F_l_FnExactFrameHolds (f0 : Int) (f1 : List Int) (ap : List Int) : Bool :=
  bif (decide ((F_l_szFrame f0 f1 1048576) < 0)) then true else (bif (decide ((F_l_szPointNodeS ap (F_l_szFrame f0 f1 1048576)) < 0)) then true else (bif ((((F_FrameHolds f0 f1 ap).1) != ((F_s_FrameHolds f0 f1 ap).1)) || (!decide (((F_FrameHolds f0 f1 ap).2) = ((F_s_FrameHolds f0 f1 ap).2)))) then false else (bif (!(decide ((f0, f1) = (f0, f1)))) then false else (bif (!(decide (ap = ap))) then false else true))))
set_option maxRecDepth 100000 in
theorem c_l_FnExactFrameHolds (f0 : Int) (f1A : Option Addr) (f1N f1C : Nat) (f1 : List Int) (apA : Option Addr) (apN apC : Nat) (ap : List Int) (w : World) (f1R : RdS w 1 f1A f1N f1C f1) (apR : RdS w 3 apA apN apC ap) :
    Calls Try.prog 10 #[.agg #[.int .i64 f0, .slice f1A f1N f1C], .slice apA apN apC] w (Ret fun v w' => v = .bool (F_l_FnExactFrameHolds f0 f1 ap) ∧ Ext w w') := by
  obtain rfl : f1N = f1.length := f1R.len1.symm
  have f1Le := f1R.le
  obtain rfl : apN = ap.length / 3 := (apR.lenD (by decide)).symm
  have apEv := apR.ev (by decide)
  have apLe := apR.le
  have hS := St.nil w
  have hS1 := St.rd0 hS rfl f1R; clear hS
  have hS2 := St.rd0 hS1 rfl apR; clear hS1
  refine enter (args := [.agg #[.int .i64 f0, .slice f1A f1.length f1C], .slice apA ((ap).length / 3 : Nat) apC]) Try.func10 rfl rfl ?_
  rw [Try.ntmps10]; intro a hE
  have hE := hE.sub (L' := [(0, .agg #[.int .i64 f0, .slice f1A f1.length f1C]), (1, .slice apA ((ap).length / 3 : Nat) apC)]) ⟨rfl, rfl, trivial⟩
  refine c_seq ?_
  refine c_reg ?_
  refine l_step hE rfl (l_box (v := .agg #[.int .i64 f0, .slice f1A f1.length f1C]) (cs := #[.int .i64 f0, .slice f1A f1.length f1C]) hS2 hE rfl rfl rfl ?_)
  intro b3 w4 hS7 he8 a5 hE6; clear hS2 hE
  refine q_step (v := .bool false) hE6 (y_assign rfl) rfl rfl rfl ?_; intro a9 hE10; clear hE6
  refine c_nil ?_
  have hE11 := hE10.sub (L' := [(1, .slice apA ((ap).length / 3 : Nat) apC), (2, .pointer (some ⟨b3, 0, none⟩))]) ⟨rfl, rfl, trivial⟩; clear hE10
  refine p_tn ?_
  refine c_seq ?_
  refine c_reg ?_
  refine q_step (v := .int .i64 1048576) hE11 (y_assign rfl) rfl rfl rfl ?_; intro a12 hE13; clear hE11
  refine c_nil ?_
  have hE14 := hE13.sub (L' := [(1, .slice apA ((ap).length / 3 : Nat) apC), (2, .pointer (some ⟨b3, 0, none⟩)), (5, .int .i64 1048576)]) ⟨rfl, rfl, rfl, trivial⟩; clear hE13
  refine p_tn ?_
  refine c_seq ?_
  refine c_reg ?_
  refine q_step (v := .agg #[.int .i64 f0, .slice f1A f1.length f1C]) hE14 (y_loadS Try.underlying51 rfl (by kernel_rfl) rfl (St.row (i := 0) hS7 rfl)) rfl rfl rfl ?_; intro a15 hE16; clear hE14
  refine q_step (v := .int .i64 1048576) hE16 (y_move rfl) rfl rfl rfl ?_; intro a17 hE18; clear hE16
  refine l_step hE18 rfl (l_call (f := 41) (argv := [.agg #[.int .i64 f0, .slice f1A f1.length f1C], .int .i64 1048576]) hE18 (fun _ => cf_l_szFrame _ _) rfl rfl (c_l_szFrame f0 f1A f1.length f1C f1 1048576 w4 (St.rdR (i := 2) hS7 rfl) (by first | omega | (simp only [marked_len]; omega) | (simp only [marked_len] at *; omega)) (by first | omega | (simp only [marked_len]; omega) | (simp only [marked_len] at *; omega))) ?_)
  rintro _ w20 ⟨rfl, he24⟩ a21 hE22; clear hE18
  have hS23 := St.go hS7 he24; clear hS7
  refine q_step (v := .int .i64 (F_l_szFrame f0 f1 1048576)) hE22 (y_assign rfl) rfl rfl rfl ?_; intro a25 hE26; clear hE22
  refine c_nil ?_
  have hE27 := hE26.sub (L' := [(1, .slice apA ((ap).length / 3 : Nat) apC), (2, .pointer (some ⟨b3, 0, none⟩)), (5, .int .i64 (F_l_szFrame f0 f1 1048576))]) ⟨rfl, rfl, rfl, trivial⟩; clear hE26
  refine p_tn ?_
  refine c_seq ?_
  refine c_seq ?_
  refine c_reg ?_
  refine q_step (v := .int .i64 (F_l_szFrame f0 f1 1048576)) hE27 (y_move rfl) rfl rfl rfl ?_; intro a28 hE29; clear hE27
  refine q_step (v := .bool (decide ((F_l_szFrame f0 f1 1048576) < 0))) hE29 (y_lss rfl rfl) rfl rfl rfl ?_; intro a30 hE31; clear hE29
  refine c_nil ?_
  have hE32 := hE31.sub (L' := [(1, .slice apA ((ap).length / 3 : Nat) apC), (2, .pointer (some ⟨b3, 0, none⟩)), (5, .int .i64 (F_l_szFrame f0 f1 1048576)), (16, .bool (decide ((F_l_szFrame f0 f1 1048576) < 0)))]) ⟨rfl, rfl, rfl, rfl, trivial⟩; clear hE31
  refine p_tn ?_
  refine c_cond hE32 rfl (fun ht33 => ?_) (fun ht33 => ?_)
  ·
   have hp34 := of_decide_eq_true ht33
   have hE35 := hE32; rw [ht33] at hE35; clear hE32
   refine c_seq ?_
   refine c_reg ?_
   refine q_step (v := .bool true) hE35 (y_assign rfl) rfl rfl rfl ?_; intro a36 hE37; clear hE35
   refine c_nil ?_
   have hE38 := hE37.sub (L' := [(4, .bool true)]) ⟨rfl, trivial⟩; clear hE37
   refine p_tn ?_
   refine wp_ret ?_
   refine p_tr ?_
   have hF : F_l_FnExactFrameHolds f0 f1 ap = true := by unfold F_l_FnExactFrameHolds; rw [ht33]; first | done | rfl
   refine c_ret1 hE38 rfl rfl ?_
   exact ⟨(by rw [hF]; first | done | (dsimp only; done) | rfl), hS23.ext⟩
  ·
   have hp39 := of_decide_eq_false ht33
   have hq40 := szFrame_bound hp39
   have hE41 := hE32; rw [ht33] at hE41; clear hE32
   refine wp_skip ?_
   refine p_tn ?_
   refine c_seq ?_
   refine c_reg ?_
   refine q_step (v := .slice apA ((ap).length / 3 : Nat) apC) hE41 (y_move rfl) rfl rfl rfl ?_; intro a42 hE43; clear hE41
   refine q_step (v := .int .i64 (F_l_szFrame f0 f1 1048576)) hE43 (y_move rfl) rfl rfl rfl ?_; intro a44 hE45; clear hE43
   refine l_step hE45 rfl (l_call (f := 42) (argv := [.slice apA ((ap).length / 3 : Nat) apC, .int .i64 (F_l_szFrame f0 f1 1048576)]) hE45 (fun _ => cf_l_szPointNodeS _ _) rfl rfl (c_l_szPointNodeS apA ((ap).length / 3 : Nat) apC ap (F_l_szFrame f0 f1 1048576) w20 (St.rdR (i := 1) hS23 rfl) (by first | omega | (simp only [marked_len]; omega) | (simp only [marked_len] at *; omega)) (by first | omega | (simp only [marked_len]; omega) | (simp only [marked_len] at *; omega))) ?_)
   rintro _ _ ⟨rfl, rfl⟩ a48 hE49; clear hE45
   refine q_step (v := .int .i64 (F_l_szPointNodeS ap (F_l_szFrame f0 f1 1048576))) hE49 (y_assign rfl) rfl rfl rfl ?_; intro a52 hE53; clear hE49
   refine c_nil ?_
   have hE54 := hE53.sub (L' := [(1, .slice apA ((ap).length / 3 : Nat) apC), (2, .pointer (some ⟨b3, 0, none⟩)), (5, .int .i64 (F_l_szPointNodeS ap (F_l_szFrame f0 f1 1048576)))]) ⟨rfl, rfl, rfl, trivial⟩; clear hE53
   refine p_tn ?_
   refine c_seq ?_
   refine c_seq ?_
   refine c_reg ?_
   refine q_step (v := .int .i64 (F_l_szPointNodeS ap (F_l_szFrame f0 f1 1048576))) hE54 (y_move rfl) rfl rfl rfl ?_; intro a55 hE56; clear hE54
   refine q_step (v := .bool (decide ((F_l_szPointNodeS ap (F_l_szFrame f0 f1 1048576)) < 0))) hE56 (y_lss rfl rfl) rfl rfl rfl ?_; intro a57 hE58; clear hE56
   refine c_nil ?_
   have hE59 := hE58.sub (L' := [(1, .slice apA ((ap).length / 3 : Nat) apC), (2, .pointer (some ⟨b3, 0, none⟩)), (21, .bool (decide ((F_l_szPointNodeS ap (F_l_szFrame f0 f1 1048576)) < 0)))]) ⟨rfl, rfl, rfl, trivial⟩; clear hE58
   refine p_tn ?_
   refine c_cond hE59 rfl (fun ht60 => ?_) (fun ht60 => ?_)
   ·
    have hp61 := of_decide_eq_true ht60
    have hE62 := hE59; rw [ht60] at hE62; clear hE59
    refine c_seq ?_
    refine c_reg ?_
    refine q_step (v := .bool true) hE62 (y_assign rfl) rfl rfl rfl ?_; intro a63 hE64; clear hE62
    refine c_nil ?_
    have hE65 := hE64.sub (L' := [(4, .bool true)]) ⟨rfl, trivial⟩; clear hE64
    refine p_tn ?_
    refine wp_ret ?_
    refine p_tr ?_
    have hF : F_l_FnExactFrameHolds f0 f1 ap = true := by unfold F_l_FnExactFrameHolds; rw [ht60, ht33]; first | done | rfl
    refine c_ret1 hE65 rfl rfl ?_
    exact ⟨(by rw [hF]; first | done | (dsimp only; done) | rfl), hS23.ext⟩
   ·
    have hp66 := of_decide_eq_false ht60
    have hq67 := szPointNodeS_bound hp66
    have hE68 := hE59; rw [ht60] at hE68; clear hE59
    refine wp_skip ?_
    refine p_tn ?_
    refine c_seq ?_
    refine c_reg ?_
    refine q_step (v := .agg #[.int .i64 f0, .slice f1A f1.length f1C]) hE68 (y_loadS Try.underlying51 rfl (by kernel_rfl) rfl (St.row (i := 0) hS23 rfl)) rfl rfl rfl ?_; intro a69 hE70; clear hE68
    refine l_step hE70 rfl (l_call (f := 44) (argv := [.agg #[.int .i64 f0, .slice f1A f1.length f1C]]) hE70 (fun _ => cf_l_toFrame _ _) rfl rfl (d_l_toFrame f0 f1A f1.length f1C f1 w20 (St.rdR (i := 2) hS23 rfl) (by first | omega | (simp only [marked_len]; omega) | (simp only [marked_len] at *; omega))) ?_)
    rintro _ w72 ⟨b77, c78, rfl, ho79, he76⟩ a73 hE74; clear hE70
    have hS75 := St.own hS23 he76 ho79; clear hS23
    refine q_step (v := .slice apA ((ap).length / 3 : Nat) apC) hE74 (y_move rfl) rfl rfl rfl ?_; intro a80 hE81; clear hE74
    refine l_step hE81 rfl (l_call (f := 45) (argv := [.slice apA ((ap).length / 3 : Nat) apC]) hE81 (fun _ => cf_l_toPointNodeS _ _) rfl rfl (d_l_toPointNodeS apA ((ap).length / 3 : Nat) apC ap w72 (St.rdR (i := 2) hS75 rfl) (by first | omega | (simp only [marked_len]; omega) | (simp only [marked_len] at *; omega))) ?_)
    rintro _ w83 ⟨b88, c89, rfl, ho90, he87⟩ a84 hE85; clear hE81
    have hS86 := St.own hS75 he87 ho90; clear hS75
    refine l_step hE85 rfl (l_call (f := 43) (argv := [.agg #[.int .i64 f0, .slice b77 ((f1).length) c78], .slice b88 ((ap).length / 3 : Nat) c89]) hE85 (fun _ => cf_s_FrameHolds _ _) rfl rfl (c_s_FrameHolds f0 b77 ((f1).length) c78 f1 b88 ((ap).length / 3 : Nat) c89 ap w83 (St.rdO (i := 1) hS86 rfl) (St.rdO (i := 0) hS86 rfl) (by first | omega | (simp only [marked_len]; omega) | (simp only [marked_len] at *; omega))) ?_)
    rintro _ w92 ⟨rfl, he96⟩ a93 hE94; clear hE85
    have hS95 := St.go hS86 he96; clear hS86
    refine q_step (v := .tuple #[.bool ((F_s_FrameHolds f0 f1 ap).1), .int .i64 ((F_s_FrameHolds f0 f1 ap).2)]) hE94 (y_move rfl) rfl rfl rfl ?_; intro a97 hE98; clear hE94
    refine q_step (v := .bool ((F_s_FrameHolds f0 f1 ap).1)) hE98 (y_extract rfl rfl) rfl rfl rfl ?_; intro a99 hE100; clear hE98
    refine q_step (v := .int .i64 ((F_s_FrameHolds f0 f1 ap).2)) hE100 (y_extract rfl rfl) rfl rfl rfl ?_; intro a101 hE102; clear hE100
    refine q_step (v := .bool ((F_s_FrameHolds f0 f1 ap).1)) hE102 (y_assign rfl) rfl rfl rfl ?_; intro a103 hE104; clear hE102
    refine q_step (v := .int .i64 ((F_s_FrameHolds f0 f1 ap).2)) hE104 (y_assign rfl) rfl rfl rfl ?_; intro a105 hE106; clear hE104
    refine c_nil ?_
    have hE107 := hE106.sub (L' := [(1, .slice apA ((ap).length / 3 : Nat) apC), (2, .pointer (some ⟨b3, 0, none⟩)), (6, .bool ((F_s_FrameHolds f0 f1 ap).1)), (7, .int .i64 ((F_s_FrameHolds f0 f1 ap).2))]) ⟨rfl, rfl, rfl, rfl, trivial⟩; clear hE106
    refine p_tn ?_
    refine c_seq ?_
    refine c_reg ?_
    refine q_step (v := .agg #[.int .i64 f0, .slice f1A f1.length f1C]) hE107 (y_loadS Try.underlying51 rfl (by kernel_rfl) rfl (St.row (i := 2) hS95 rfl)) rfl rfl rfl ?_; intro a108 hE109; clear hE107
    refine l_step hE109 rfl (l_call (f := 44) (argv := [.agg #[.int .i64 f0, .slice f1A f1.length f1C]]) hE109 (fun _ => cf_l_toFrame _ _) rfl rfl (d_l_toFrame f0 f1A f1.length f1C f1 w92 (St.rdR (i := 4) hS95 rfl) (by first | omega | (simp only [marked_len]; omega) | (simp only [marked_len] at *; omega))) ?_)
    rintro _ w111 ⟨b116, c117, rfl, ho118, he115⟩ a112 hE113; clear hE109
    have hS114 := St.own hS95 he115 ho118; clear hS95
    refine l_step hE113 rfl (l_alloc (z := .agg #[.int .i64 0, .slice none 0 0]) (cs := #[.int .i64 0, .slice none 0 0]) hS114 hE113 (fun _ => by kernel_rfl) rfl rfl ?_)
    intro b119 w120 hS123 he124 a121 hE122; clear hS114 hE113
    refine l_step hE122 rfl (l_storeS (k := 0) (cs' := #[.int .i64 f0, .slice b116 ((f1).length) c117]) hS123 hE122 (by kernel_rfl) rfl rfl (by kernel_rfl) rfl rfl ?_)
    intro w126 hS129 a127 hE128; clear hS123 hE122
    refine c_nil ?_
    have hE131 := hE128.sub (L' := [(1, .slice apA ((ap).length / 3 : Nat) apC), (2, .pointer (some ⟨b3, 0, none⟩)), (6, .bool ((F_s_FrameHolds f0 f1 ap).1)), (7, .int .i64 ((F_s_FrameHolds f0 f1 ap).2)), (8, .pointer (some ⟨b119, 0, none⟩))]) ⟨rfl, rfl, rfl, rfl, rfl, trivial⟩; clear hE128
    refine p_tn ?_
    refine c_seq ?_
    refine c_reg ?_
    refine q_step (v := .slice apA ((ap).length / 3 : Nat) apC) hE131 (y_move rfl) rfl rfl rfl ?_; intro a132 hE133; clear hE131
    refine l_step hE133 rfl (l_call (f := 45) (argv := [.slice apA ((ap).length / 3 : Nat) apC]) hE133 (fun _ => cf_l_toPointNodeS _ _) rfl rfl (d_l_toPointNodeS apA ((ap).length / 3 : Nat) apC ap w126 (St.rdR (i := 5) hS129 rfl) (by first | omega | (simp only [marked_len]; omega) | (simp only [marked_len] at *; omega))) ?_)
    rintro _ w135 ⟨b140, c141, rfl, ho142, he139⟩ a136 hE137; clear hE133
    have hS138 := St.own hS129 he139 ho142; clear hS129
    refine q_step (v := .slice b140 ((ap).length / 3 : Nat) c141) hE137 (y_assign rfl) rfl rfl rfl ?_; intro a143 hE144; clear hE137
    refine c_nil ?_
    have hE145 := hE144.sub (L' := [(1, .slice apA ((ap).length / 3 : Nat) apC), (2, .pointer (some ⟨b3, 0, none⟩)), (6, .bool ((F_s_FrameHolds f0 f1 ap).1)), (7, .int .i64 ((F_s_FrameHolds f0 f1 ap).2)), (8, .pointer (some ⟨b119, 0, none⟩)), (9, .slice b140 ((ap).length / 3 : Nat) c141)]) ⟨rfl, rfl, rfl, rfl, rfl, rfl, trivial⟩; clear hE144
    refine p_tn ?_
    refine c_seq ?_
    refine c_reg ?_
    refine q_step (v := .agg #[.int .i64 f0, .slice b116 ((f1).length) c117]) hE145 (y_loadS Try.underlying57 rfl (by kernel_rfl) rfl (St.row (i := 1) hS138 rfl)) rfl rfl rfl ?_; intro a146 hE147; clear hE145
    refine q_step (v := .slice b140 ((ap).length / 3 : Nat) c141) hE147 (y_move rfl) rfl rfl rfl ?_; intro a148 hE149; clear hE147
    refine l_step hE149 rfl (l_call (f := 46) (argv := [.agg #[.int .i64 f0, .slice b116 ((f1).length) c117], .slice b140 ((ap).length / 3 : Nat) c141]) hE149 (fun _ => cf_FrameHolds _ _) rfl rfl (c_FrameHolds f0 b116 ((f1).length) c117 f1 b140 ((ap).length / 3 : Nat) c141 ap w135 (St.rdO (i := 2) hS138 rfl) (St.rdO (i := 0) hS138 rfl) (by first | omega | (simp only [marked_len]; omega) | (simp only [marked_len] at *; omega))) ?_)
    rintro _ w151 ⟨rfl, he155⟩ a152 hE153; clear hE149
    have hS154 := St.go hS138 he155; clear hS138
    refine q_step (v := .tuple #[.bool ((F_FrameHolds f0 f1 ap).1), .int .i64 ((F_FrameHolds f0 f1 ap).2)]) hE153 (y_move rfl) rfl rfl rfl ?_; intro a156 hE157; clear hE153
    refine q_step (v := .bool ((F_FrameHolds f0 f1 ap).1)) hE157 (y_extract rfl rfl) rfl rfl rfl ?_; intro a158 hE159; clear hE157
    refine q_step (v := .int .i64 ((F_FrameHolds f0 f1 ap).2)) hE159 (y_extract rfl rfl) rfl rfl rfl ?_; intro a160 hE161; clear hE159
    refine q_step (v := .bool ((F_FrameHolds f0 f1 ap).1)) hE161 (y_assign rfl) rfl rfl rfl ?_; intro a162 hE163; clear hE161
    refine q_step (v := .int .i64 ((F_FrameHolds f0 f1 ap).2)) hE163 (y_assign rfl) rfl rfl rfl ?_; intro a164 hE165; clear hE163
    refine c_nil ?_
    have hE166 := hE165.sub (L' := [(1, .slice apA ((ap).length / 3 : Nat) apC), (2, .pointer (some ⟨b3, 0, none⟩)), (6, .bool ((F_s_FrameHolds f0 f1 ap).1)), (7, .int .i64 ((F_s_FrameHolds f0 f1 ap).2)), (8, .pointer (some ⟨b119, 0, none⟩)), (9, .slice b140 ((ap).length / 3 : Nat) c141), (10, .bool ((F_FrameHolds f0 f1 ap).1)), (11, .int .i64 ((F_FrameHolds f0 f1 ap).2))]) ⟨rfl, rfl, rfl, rfl, rfl, rfl, rfl, rfl, trivial⟩; clear hE165
    refine p_tn ?_
    refine c_seq ?_
    refine c_cut (fun a' w' => E a' 58 [(1, .slice apA ((ap).length / 3 : Nat) apC), (2, .pointer (some ⟨b3, 0, none⟩)), (8, .pointer (some ⟨b119, 0, none⟩)), (9, .slice b140 ((ap).length / 3 : Nat) c141), (47, .bool ((((F_FrameHolds f0 f1 ap).1) != ((F_s_FrameHolds f0 f1 ap).1)) || (!decide (((F_FrameHolds f0 f1 ap).2) = ((F_s_FrameHolds f0 f1 ap).2)))))] ∧ St w w' [.own 115 3 b140 ((ap).length / 3 : Nat) c141 ap, .own 2 1 b116 ((f1).length) c117 f1, .blk b119 #[.int .i64 f0, .slice b116 ((f1).length) c117] 57, .own 115 3 b88 ((ap).length / 3 : Nat) c89 ap, .own 2 1 b77 ((f1).length) c78 f1, .rd 1 f1A f1.length f1C f1, .blk b3 #[.int .i64 f0, .slice f1A f1.length f1C] 51, .rd 3 apA ((ap).length / 3 : Nat) apC ap]) ?_ ?_
    ·
     refine c_reg ?_
     refine q_step (v := .bool ((F_FrameHolds f0 f1 ap).1)) hE166 (y_move rfl) rfl rfl rfl ?_; intro a167 hE168; clear hE166
     refine q_step (v := .bool ((F_s_FrameHolds f0 f1 ap).1)) hE168 (y_move rfl) rfl rfl rfl ?_; intro a169 hE170; clear hE168
     refine q_step (v := .bool (((F_FrameHolds f0 f1 ap).1) != ((F_s_FrameHolds f0 f1 ap).1))) hE170 (y_neqb (by kernel_rfl) rfl rfl) rfl rfl rfl ?_; intro a171 hE172; clear hE170
     refine q_step (v := .bool (((F_FrameHolds f0 f1 ap).1) != ((F_s_FrameHolds f0 f1 ap).1))) hE172 (y_move rfl) rfl rfl rfl ?_; intro a173 hE174; clear hE172
     rcases Bool.eq_false_or_eq_true (((F_FrameHolds f0 f1 ap).1) != ((F_s_FrameHolds f0 f1 ap).1)) with hb175 | hb175
     ·
      have hE176 := hE174; (try rw [hb175] at hE176); clear hE174
      refine q_skip hE176 rfl rfl rfl ?_; intro a177 hE178; clear hE176
      refine q_skip hE178 rfl rfl rfl ?_; intro a179 hE180; clear hE178
      refine q_skip hE180 rfl rfl rfl ?_; intro a181 hE182; clear hE180
      refine q_step (v := .bool true) hE182 (y_pick (b := true) rfl rfl) rfl rfl rfl ?_; intro a183 hE184; clear hE182
      refine c_nil ?_
      have hE185 := hE184.sub (L' := [(1, .slice apA ((ap).length / 3 : Nat) apC), (2, .pointer (some ⟨b3, 0, none⟩)), (8, .pointer (some ⟨b119, 0, none⟩)), (9, .slice b140 ((ap).length / 3 : Nat) c141), (47, .bool true)]) ⟨rfl, rfl, rfl, rfl, rfl, trivial⟩; clear hE184
      refine p_tn ?_
      have hE186 := hE185.sub (L' := [(1, .slice apA ((ap).length / 3 : Nat) apC), (2, .pointer (some ⟨b3, 0, none⟩)), (8, .pointer (some ⟨b119, 0, none⟩)), (9, .slice b140 ((ap).length / 3 : Nat) c141), (47, .bool true)]) ⟨rfl, rfl, rfl, rfl, rfl, trivial⟩
      have hS187 := (St.pick (Γ' := [.own 115 3 b140 ((ap).length / 3 : Nat) c141 ap, .own 2 1 b116 ((f1).length) c117 f1, .blk b119 #[.int .i64 f0, .slice b116 ((f1).length) c117] 57, .own 115 3 b88 ((ap).length / 3 : Nat) c89 ap, .own 2 1 b77 ((f1).length) c78 f1, .rd 1 f1A f1.length f1C f1, .blk b3 #[.int .i64 f0, .slice f1A f1.length f1C] 51, .rd 3 apA ((ap).length / 3 : Nat) apC ap]) hS154 [0, 2, 1, 3, 4, 7, 5, 6] (by decide) rfl)
      exact ⟨(by rw [hb175]; exact hE186), hS187⟩
     ·
      have hE188 := hE174; (try rw [hb175] at hE188); clear hE174
      refine q_step (v := .int .i64 ((F_FrameHolds f0 f1 ap).2)) hE188 (y_move rfl) rfl rfl rfl ?_; intro a189 hE190; clear hE188
      refine q_step (v := .int .i64 ((F_s_FrameHolds f0 f1 ap).2)) hE190 (y_move rfl) rfl rfl rfl ?_; intro a191 hE192; clear hE190
      refine q_step (v := .bool (!decide (((F_FrameHolds f0 f1 ap).2) = ((F_s_FrameHolds f0 f1 ap).2)))) hE192 (y_neq rfl rfl) rfl rfl rfl ?_; intro a193 hE194; clear hE192
      refine q_step (v := .bool (!decide (((F_FrameHolds f0 f1 ap).2) = ((F_s_FrameHolds f0 f1 ap).2)))) hE194 (y_pick (b := false) rfl rfl) rfl rfl rfl ?_; intro a195 hE196; clear hE194
      refine c_nil ?_
      have hE197 := hE196.sub (L' := [(1, .slice apA ((ap).length / 3 : Nat) apC), (2, .pointer (some ⟨b3, 0, none⟩)), (8, .pointer (some ⟨b119, 0, none⟩)), (9, .slice b140 ((ap).length / 3 : Nat) c141), (47, .bool (!decide (((F_FrameHolds f0 f1 ap).2) = ((F_s_FrameHolds f0 f1 ap).2))))]) ⟨rfl, rfl, rfl, rfl, rfl, trivial⟩; clear hE196
      refine p_tn ?_
      have hE198 := hE197.sub (L' := [(1, .slice apA ((ap).length / 3 : Nat) apC), (2, .pointer (some ⟨b3, 0, none⟩)), (8, .pointer (some ⟨b119, 0, none⟩)), (9, .slice b140 ((ap).length / 3 : Nat) c141), (47, .bool (!decide (((F_FrameHolds f0 f1 ap).2) = ((F_s_FrameHolds f0 f1 ap).2))))]) ⟨rfl, rfl, rfl, rfl, rfl, trivial⟩
      have hS199 := (St.pick (Γ' := [.own 115 3 b140 ((ap).length / 3 : Nat) c141 ap, .own 2 1 b116 ((f1).length) c117 f1, .blk b119 #[.int .i64 f0, .slice b116 ((f1).length) c117] 57, .own 115 3 b88 ((ap).length / 3 : Nat) c89 ap, .own 2 1 b77 ((f1).length) c78 f1, .rd 1 f1A f1.length f1C f1, .blk b3 #[.int .i64 f0, .slice f1A f1.length f1C] 51, .rd 3 apA ((ap).length / 3 : Nat) apC ap]) hS154 [0, 2, 1, 3, 4, 7, 5, 6] (by decide) rfl)
      exact ⟨(by rw [hb175]; exact hE198), hS199⟩
    ·
     rintro a200 w201 ⟨hE202, hS203⟩; clear hE166 hS154
     refine c_cond hE202 rfl (fun ht205 => ?_) (fun ht205 => ?_)
     ·
      have hE206 := hE202; rw [ht205] at hE206; clear hE202
      refine c_seq ?_
      refine c_reg ?_
      refine q_step (v := .bool false) hE206 (y_assign rfl) rfl rfl rfl ?_; intro a207 hE208; clear hE206
      refine c_nil ?_
      have hE209 := hE208.sub (L' := [(4, .bool false)]) ⟨rfl, trivial⟩; clear hE208
      refine p_tn ?_
      refine wp_ret ?_
      refine p_tr ?_
      have hF : F_l_FnExactFrameHolds f0 f1 ap = false := by unfold F_l_FnExactFrameHolds; rw [ht205, ht60, ht33]; first | done | rfl
      refine c_ret1 hE209 rfl rfl ?_
      exact ⟨(by rw [hF]; first | done | (dsimp only; done) | rfl), hS203.ext⟩
     ·
      obtain ⟨ht210, ht211⟩ := bor_f ht205
      have ht212 := bn_f ht211
      have hp213 := of_decide_eq_true ht212
      have hE214 := hE202; rw [ht205] at hE214; clear hE202
      refine wp_skip ?_
      refine p_tn ?_
      refine c_seq ?_
      refine c_seq ?_
      refine d_start (fun w w' => (fun w' => w'.heap[b119]? = some (.cells #[.int .i64 f0, .slice b116 ((f1).length) c117] 57 (0, 0)) ∧ w'.heap[b3]? = some (.cells #[.int .i64 f0, .slice f1A f1.length f1C] 51 (0, 0)) ∧ True) w → (fun w' => w'.heap[b119]? = some (.cells #[.int .i64 f0, .slice b116 ((f1).length) c117] 57 (0, 0)) ∧ w'.heap[b3]? = some (.cells #[.int .i64 f0, .slice f1A f1.length f1C] 51 (0, 0)) ∧ True) w') [0, 1] 5 (by kernel_rfl) rfl ?_
      intro w215 he216; have hS217 := St.go hS203 he216; clear hS203
      refine d_take (fun _ h => h) (fun _ _ h k => h k) (v := .agg #[.int .i64 f0, .slice b116 ((f1).length) c117]) 0 rfl hE214 (S := fun w' => w'.heap[b119]? = some (.cells #[.int .i64 f0, .slice b116 ((f1).length) c117] 57 (0, 0)) ∧ w'.heap[b3]? = some (.cells #[.int .i64 f0, .slice f1A f1.length f1C] 51 (0, 0)) ∧ True) ⟨(St.row (i := 2) hS217 rfl _ (Ext.refl _)), (St.row (i := 6) hS217 rfl _ (Ext.refl _)), trivial⟩ (y_loadS Try.underlying57 rfl (by kernel_rfl) rfl (fun _ h => h.1)) rfl rfl (by kernel_rfl) (by kernel_rfl) (by kernel_rfl) (by kernel_rfl) rfl rfl (fun _ _ _ h => h) ?_; intro a218 hE219; clear hE214
      refine d_take (fun _ h => h) (fun _ _ h k => h k) (v := .agg #[.int .i64 f0, .slice f1A f1.length f1C]) 1 rfl hE219 (S := fun w' => w'.heap[b119]? = some (.cells #[.int .i64 f0, .slice b116 ((f1).length) c117] 57 (0, 0)) ∧ w'.heap[b3]? = some (.cells #[.int .i64 f0, .slice f1A f1.length f1C] 51 (0, 0)) ∧ True) ⟨(St.row (i := 2) hS217 rfl _ (Ext.refl _)), (St.row (i := 6) hS217 rfl _ (Ext.refl _)), trivial⟩ (y_loadS Try.underlying51 rfl (by kernel_rfl) rfl (fun _ h => h.2.1)) rfl rfl (by kernel_rfl) (by kernel_rfl) (by kernel_rfl) (by kernel_rfl) rfl rfl (fun _ _ _ h => h) ?_; intro a220 hE221; clear hE219
      refine d_only 2 (by kernel_rfl) rfl hE221 rfl (l_call (f := 44) (argv := [.agg #[.int .i64 f0, .slice f1A f1.length f1C]]) hE221 (fun _ => cf_l_toFrame _ _) rfl rfl (d_l_toFrame f0 f1A f1.length f1C f1 w215 (St.rdR (i := 5) hS217 rfl) (by first | omega | (simp only [marked_len]; omega) | (simp only [marked_len] at *; omega))) ?_)
      rintro _ w223 ⟨b228, c229, rfl, ho230, he227⟩ a224 hE225; clear hE221
      have hS226 := St.own hS217 he227 ho230; clear hS217
      refine ⟨fun _ _ => ⟨(St.row (i := 3) hS226 rfl _ (Ext.refl _)), (St.row (i := 7) hS226 rfl _ (Ext.refl _)), trivial⟩, ?_⟩
      refine d_only 3 (by kernel_rfl) rfl hE225 rfl (l_call (f := 47) (argv := [.agg #[.int .i64 f0, .slice b116 ((f1).length) c117], .agg #[.int .i64 f0, .slice b228 ((f1).length) c229]]) hE225 (fun _ => cf_l_eqFrame _ _) rfl rfl (d_l_eqFrame f0 b116 ((f1).length) c117 f1 f0 b228 ((f1).length) c229 f1 w223 (St.rdO (i := 2) hS226 rfl) (St.rdO (i := 0) hS226 rfl)) ?_)
      rintro _ w232 ⟨rfl, he236⟩ a233 hE234; clear hE225
      have hS235 := St.go hS226 he236; clear hS226
      refine ⟨fun h => Bool.noConfusion (h.symm.trans (show exm _ _ _ = true by kernel_rfl)), ?_⟩
      refine d_pure (fun _ h => h) (v := .bool (!(decide ((f0, f1) = (f0, f1))))) 4 rfl hE234 (y_not rfl) rfl (by kernel_rfl) (by kernel_rfl) (by kernel_rfl) rfl rfl (fun _ _ _ h => h) ?_; intro a237 hE238; clear hE234
      refine d_done (by kernel_rfl) ?_
      have hE239 := hE238.sub (L' := [(1, .slice apA ((ap).length / 3 : Nat) apC), (9, .slice b140 ((ap).length / 3 : Nat) c141), (52, .bool (!(decide ((f0, f1) = (f0, f1)))))]) ⟨rfl, rfl, rfl, trivial⟩; clear hE238
      refine p_tn ?_
      refine c_cond hE239 rfl (fun ht240 => ?_) (fun ht240 => ?_)
      ·
       have ht241 := bn_t ht240
       have hp242 := of_decide_eq_false ht241
       have hE243 := hE239; rw [ht240] at hE243; clear hE239
       refine c_seq ?_
       refine c_reg ?_
       refine q_step (v := .bool false) hE243 (y_assign rfl) rfl rfl rfl ?_; intro a244 hE245; clear hE243
       refine c_nil ?_
       have hE246 := hE245.sub (L' := [(4, .bool false)]) ⟨rfl, trivial⟩; clear hE245
       refine p_tn ?_
       refine wp_ret ?_
       refine p_tr ?_
       have hF : F_l_FnExactFrameHolds f0 f1 ap = false := by unfold F_l_FnExactFrameHolds; rw [ht240, ht205, ht60, ht33]; first | done | rfl
       refine c_ret1 hE246 rfl rfl ?_
       exact ⟨(by rw [hF]; first | done | (dsimp only; done) | rfl), hS235.ext⟩
      ·
       have ht247 := bn_f ht240
       have hp248 := of_decide_eq_true ht247
       have hE249 := hE239; rw [ht240] at hE249; clear hE239
       refine wp_skip ?_
       refine p_tn ?_
       refine c_seq ?_
       refine c_seq ?_
       refine c_reg ?_
       refine q_step (v := .slice b140 ((ap).length / 3 : Nat) c141) hE249 (y_move rfl) rfl rfl rfl ?_; intro a250 hE251; clear hE249
       refine q_step (v := .slice apA ((ap).length / 3 : Nat) apC) hE251 (y_move rfl) rfl rfl rfl ?_; intro a252 hE253; clear hE251
       refine l_step hE253 rfl (l_call (f := 45) (argv := [.slice apA ((ap).length / 3 : Nat) apC]) hE253 (fun _ => cf_l_toPointNodeS _ _) rfl rfl (d_l_toPointNodeS apA ((ap).length / 3 : Nat) apC ap w232 (St.rdR (i := 8) hS235 rfl) (by first | omega | (simp only [marked_len]; omega) | (simp only [marked_len] at *; omega))) ?_)
       rintro _ w255 ⟨b260, c261, rfl, ho262, he259⟩ a256 hE257; clear hE253
       have hS258 := St.own hS235 he259 ho262; clear hS235
       refine l_step hE257 rfl (l_call (f := 48) (argv := [.slice b140 ((ap).length / 3 : Nat) c141, .slice b260 ((ap).length / 3 : Nat) c261]) hE257 (fun _ => cf_l_eqPointNodeS _ _) rfl rfl (d_l_eqPointNodeS b140 ((ap).length / 3 : Nat) c141 ap b260 ((ap).length / 3 : Nat) c261 ap w255 (St.rdO (i := 2) hS258 rfl) (St.rdO (i := 0) hS258 rfl)) ?_)
       rintro _ w264 ⟨rfl, he268⟩ a265 hE266; clear hE257
       have hS267 := St.go hS258 he268; clear hS258
       refine q_step (v := .bool (!(decide (ap = ap)))) hE266 (y_not rfl) rfl rfl rfl ?_; intro a269 hE270; clear hE266
       refine c_nil ?_
       have hE271 := hE270.sub (L' := [(57, .bool (!(decide (ap = ap))))]) ⟨rfl, trivial⟩; clear hE270
       refine p_tn ?_
       refine c_cond hE271 rfl (fun ht272 => ?_) (fun ht272 => ?_)
       ·
        have ht273 := bn_t ht272
        have hp274 := of_decide_eq_false ht273
        have hE275 := hE271; rw [ht272] at hE275; clear hE271
        refine c_seq ?_
        refine c_reg ?_
        refine q_step (v := .bool false) hE275 (y_assign rfl) rfl rfl rfl ?_; intro a276 hE277; clear hE275
        refine c_nil ?_
        have hE278 := hE277.sub (L' := [(4, .bool false)]) ⟨rfl, trivial⟩; clear hE277
        refine p_tn ?_
        refine wp_ret ?_
        refine p_tr ?_
        have hF : F_l_FnExactFrameHolds f0 f1 ap = false := by unfold F_l_FnExactFrameHolds; rw [ht272, ht240, ht205, ht60, ht33]; first | done | rfl
        refine c_ret1 hE278 rfl rfl ?_
        exact ⟨(by rw [hF]; first | done | (dsimp only; done) | rfl), hS267.ext⟩
       ·
        have ht279 := bn_f ht272
        have hp280 := of_decide_eq_true ht279
        have hE281 := hE271; rw [ht272] at hE281; clear hE271
        refine wp_skip ?_
        refine p_tn ?_
        refine c_seq ?_
        refine c_reg ?_
        refine q_step (v := .bool true) hE281 (y_assign rfl) rfl rfl rfl ?_; intro a282 hE283; clear hE281
        refine c_nil ?_
        have hE284 := hE283.sub (L' := [(4, .bool true)]) ⟨rfl, trivial⟩; clear hE283
        refine p_tn ?_
        refine wp_ret ?_
        have hF : F_l_FnExactFrameHolds f0 f1 ap = true := by unfold F_l_FnExactFrameHolds; rw [ht272, ht240, ht205, ht60, ht33]; first | done | rfl
        refine c_ret1 hE284 rfl rfl ?_
        exact ⟨(by rw [hF]; first | done | (dsimp only; done) | rfl), hS267.ext⟩
theorem FnExactFrameHolds_true (f0 : Int) (f1 ap : List Int) (he : ap.length = ap.length / 3 * 3) : F_l_FnExactFrameHolds f0 f1 ap = true := by
  unfold F_l_FnExactFrameHolds
  rw [FrameHolds_eq f0 f1 ap he]
  simp
end Go.Proofs.Ytkilkfhjfobcdaa
