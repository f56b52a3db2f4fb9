/- GLNQ: models and contracts, printed by wip/gen/gen.py -/
import Derived.Test.YtkilkfhjfobcdaaGNA
import Derived.Test.YtkilkfhjfobcdaaGRP
set_option linter.unusedVariables false
set_option linter.unusedSimpArgs false
namespace Go.Proofs.Ytkilkfhjfobcdaa
open Go.RowKit

def F_l_FnExactNodePolarity (ap : List Int) (iq : Int) : Bool :=
  bif (decide ((F_l_szNodeS ap 1048576) < 0)) then true else (bif ((!decide (((F_NodePolarity ap iq).1) = ((F_s_NodePolarity ap iq).1))) || (!decide (((F_NodePolarity ap iq).2) = ((F_s_NodePolarity ap iq).2)))) then false else (bif (!(decide (ap = ap))) then false else true))
theorem cf_l_FnExactNodePolarity (args : Array Value) (w : World) : (callFunc 5 args).run Try.prog w = .ok (.enter 5 args) w := by kernel_rfl
set_option maxRecDepth 100000 in
theorem c_l_FnExactNodePolarity (apA : Option Addr) (apN apC : Nat) (ap : List Int) (iq : Int) (w : World) (apR : RdS w 2 apA apN apC ap) :
    Calls Try.prog 5 #[.slice apA apN apC, .int .i64 iq] w (Ret fun v w' => v = .bool (F_l_FnExactNodePolarity ap iq) ∧ Ext w w') := by
  obtain rfl : apN = ap.length / 2 := (apR.lenD (by decide)).symm
  have apEv := apR.ev (by decide)
  have apLe := apR.le
  have hS := St.nil w
  have hS1 := St.rd0 hS rfl apR; clear hS
  refine enter (args := [.slice apA ((ap).length / 2 : Nat) apC, .int .i64 iq]) Try.func5 rfl rfl ?_
  rw [Try.ntmps5]; intro a hE
  have hE := hE.sub (L' := [(0, .slice apA ((ap).length / 2 : Nat) apC), (1, .int .i64 iq)]) ⟨rfl, rfl, trivial⟩
  refine c_seq ?_
  refine c_reg ?_
  refine q_step (v := .bool false) hE (y_assign rfl) rfl rfl rfl ?_; intro a2 hE3; clear hE
  refine c_nil ?_
  have hE4 := hE3.sub (L' := [(0, .slice apA ((ap).length / 2 : Nat) apC), (1, .int .i64 iq)]) ⟨rfl, rfl, trivial⟩; clear hE3
  refine p_tn ?_
  refine c_seq ?_
  refine c_reg ?_
  refine q_step (v := .int .i64 1048576) hE4 (y_assign rfl) rfl rfl rfl ?_; intro a5 hE6; clear hE4
  refine c_nil ?_
  have hE7 := hE6.sub (L' := [(0, .slice apA ((ap).length / 2 : Nat) apC), (1, .int .i64 iq), (5, .int .i64 1048576)]) ⟨rfl, rfl, rfl, trivial⟩; clear hE6
  refine p_tn ?_
  refine c_seq ?_
  refine c_reg ?_
  refine q_step (v := .slice apA ((ap).length / 2 : Nat) apC) hE7 (y_move rfl) rfl rfl rfl ?_; intro a8 hE9; clear hE7
  refine q_step (v := .int .i64 1048576) hE9 (y_move rfl) rfl rfl rfl ?_; intro a10 hE11; clear hE9
  refine l_step hE11 rfl (l_call (f := 20) (argv := [.slice apA ((ap).length / 2 : Nat) apC, .int .i64 1048576]) hE11 (fun _ => cf_l_szNodeS _ _) rfl rfl (c_l_szNodeS apA ((ap).length / 2 : Nat) apC ap 1048576 w (St.rdR (i := 0) hS1 rfl) (by first | omega | (simp only [marked_len]; omega) | (simp only [marked_len] at *; omega)) (by first | omega | (simp only [marked_len]; omega) | (simp only [marked_len] at *; omega))) ?_)
  rintro _ _ ⟨rfl, rfl⟩ a14 hE15; clear hE11
  refine q_step (v := .int .i64 (F_l_szNodeS ap 1048576)) hE15 (y_assign rfl) rfl rfl rfl ?_; intro a18 hE19; clear hE15
  refine c_nil ?_
  have hE20 := hE19.sub (L' := [(0, .slice apA ((ap).length / 2 : Nat) apC), (1, .int .i64 iq), (5, .int .i64 (F_l_szNodeS ap 1048576))]) ⟨rfl, rfl, rfl, trivial⟩; clear hE19
  refine p_tn ?_
  refine c_seq ?_
  refine c_seq ?_
  refine c_reg ?_
  refine q_step (v := .int .i64 (F_l_szNodeS ap 1048576)) hE20 (y_move rfl) rfl rfl rfl ?_; intro a21 hE22; clear hE20
  refine q_step (v := .bool (decide ((F_l_szNodeS ap 1048576) < 0))) hE22 (y_lss rfl rfl) rfl rfl rfl ?_; intro a23 hE24; clear hE22
  refine c_nil ?_
  have hE25 := hE24.sub (L' := [(0, .slice apA ((ap).length / 2 : Nat) apC), (1, .int .i64 iq), (15, .bool (decide ((F_l_szNodeS ap 1048576) < 0)))]) ⟨rfl, rfl, rfl, trivial⟩; clear hE24
  refine p_tn ?_
  refine c_cond hE25 rfl (fun ht26 => ?_) (fun ht26 => ?_)
  ·
   have hp27 := of_decide_eq_true ht26
   have hE28 := hE25; rw [ht26] at hE28; clear hE25
   refine c_seq ?_
   refine c_reg ?_
   refine q_step (v := .bool true) hE28 (y_assign rfl) rfl rfl rfl ?_; intro a29 hE30; clear hE28
   refine c_nil ?_
   have hE31 := hE30.sub (L' := [(4, .bool true)]) ⟨rfl, trivial⟩; clear hE30
   refine p_tn ?_
   refine wp_ret ?_
   refine p_tr ?_
   have hF : F_l_FnExactNodePolarity ap iq = true := by unfold F_l_FnExactNodePolarity; rw [ht26]; first | done | rfl
   refine c_ret1 hE31 rfl rfl ?_
   exact ⟨(by rw [hF]; first | done | (dsimp only; done) | rfl), hS1.ext⟩
  ·
   have hp32 := of_decide_eq_false ht26
   have hq33 := szNodeS_bound hp32
   have hE34 := hE25; rw [ht26] at hE34; clear hE25
   refine wp_skip ?_
   refine p_tn ?_
   refine c_seq ?_
   refine c_reg ?_
   refine q_step (v := .slice apA ((ap).length / 2 : Nat) apC) hE34 (y_move rfl) rfl rfl rfl ?_; intro a35 hE36; clear hE34
   refine l_step hE36 rfl (l_call (f := 22) (argv := [.slice apA ((ap).length / 2 : Nat) apC]) hE36 (fun _ => cf_l_toNodeS _ _) rfl rfl (d_l_toNodeS apA ((ap).length / 2 : Nat) apC ap w (St.rdR (i := 0) hS1 rfl) (by first | omega | (simp only [marked_len]; omega) | (simp only [marked_len] at *; omega))) ?_)
   rintro _ w38 ⟨b43, c44, rfl, ho45, he42⟩ a39 hE40; clear hE36
   have hS41 := St.own hS1 he42 ho45; clear hS1
   refine q_step (v := .int .i64 iq) hE40 (y_move rfl) rfl rfl rfl ?_; intro a46 hE47; clear hE40
   refine l_step hE47 rfl (l_call (f := 25) (argv := [.slice b43 ((ap).length / 2 : Nat) c44, .int .i64 iq]) hE47 (fun _ => cf_s_NodePolarity _ _) rfl rfl (c_s_NodePolarity b43 ((ap).length / 2 : Nat) c44 ap iq w38 (St.rdO (i := 0) hS41 rfl) (by first | omega | (simp only [marked_len]; omega) | (simp only [marked_len] at *; omega))) ?_)
   rintro _ w49 ⟨rfl, he53⟩ a50 hE51; clear hE47
   have hS52 := St.go hS41 he53; clear hS41
   refine q_step (v := .tuple #[.int .i64 ((F_s_NodePolarity ap iq).1), .int .i64 ((F_s_NodePolarity ap iq).2)]) hE51 (y_move rfl) rfl rfl rfl ?_; intro a54 hE55; clear hE51
   refine q_step (v := .int .i64 ((F_s_NodePolarity ap iq).1)) hE55 (y_extract rfl rfl) rfl rfl rfl ?_; intro a56 hE57; clear hE55
   refine q_step (v := .int .i64 ((F_s_NodePolarity ap iq).2)) hE57 (y_extract rfl rfl) rfl rfl rfl ?_; intro a58 hE59; clear hE57
   refine q_step (v := .int .i64 ((F_s_NodePolarity ap iq).1)) hE59 (y_assign rfl) rfl rfl rfl ?_; intro a60 hE61; clear hE59
   refine q_step (v := .int .i64 ((F_s_NodePolarity ap iq).2)) hE61 (y_assign rfl) rfl rfl rfl ?_; intro a62 hE63; clear hE61
   refine c_nil ?_
   have hE64 := hE63.sub (L' := [(0, .slice apA ((ap).length / 2 : Nat) apC), (1, .int .i64 iq), (6, .int .i64 ((F_s_NodePolarity ap iq).1)), (7, .int .i64 ((F_s_NodePolarity ap iq).2))]) ⟨rfl, rfl, rfl, rfl, trivial⟩; clear hE63
   refine p_tn ?_
   refine c_seq ?_
   refine c_reg ?_
   refine q_step (v := .slice apA ((ap).length / 2 : Nat) apC) hE64 (y_move rfl) rfl rfl rfl ?_; intro a65 hE66; clear hE64
   refine l_step hE66 rfl (l_call (f := 22) (argv := [.slice apA ((ap).length / 2 : Nat) apC]) hE66 (fun _ => cf_l_toNodeS _ _) rfl rfl (d_l_toNodeS apA ((ap).length / 2 : Nat) apC ap w49 (St.rdR (i := 1) hS52 rfl) (by first | omega | (simp only [marked_len]; omega) | (simp only [marked_len] at *; omega))) ?_)
   rintro _ w68 ⟨b73, c74, rfl, ho75, he72⟩ a69 hE70; clear hE66
   have hS71 := St.own hS52 he72 ho75; clear hS52
   refine q_step (v := .slice b73 ((ap).length / 2 : Nat) c74) hE70 (y_assign rfl) rfl rfl rfl ?_; intro a76 hE77; clear hE70
   refine c_nil ?_
   have hE78 := hE77.sub (L' := [(0, .slice apA ((ap).length / 2 : Nat) apC), (1, .int .i64 iq), (6, .int .i64 ((F_s_NodePolarity ap iq).1)), (7, .int .i64 ((F_s_NodePolarity ap iq).2)), (8, .slice b73 ((ap).length / 2 : Nat) c74)]) ⟨rfl, rfl, rfl, rfl, rfl, trivial⟩; clear hE77
   refine p_tn ?_
   refine c_seq ?_
   refine c_reg ?_
   refine q_step (v := .slice b73 ((ap).length / 2 : Nat) c74) hE78 (y_move rfl) rfl rfl rfl ?_; intro a79 hE80; clear hE78
   refine q_step (v := .int .i64 iq) hE80 (y_move rfl) rfl rfl rfl ?_; intro a81 hE82; clear hE80
   refine l_step hE82 rfl (l_call (f := 26) (argv := [.slice b73 ((ap).length / 2 : Nat) c74, .int .i64 iq]) hE82 (fun _ => cf_NodePolarity _ _) rfl rfl (c_NodePolarity b73 ((ap).length / 2 : Nat) c74 ap iq w68 (St.rdO (i := 0) hS71 rfl) (by first | omega | (simp only [marked_len]; omega) | (simp only [marked_len] at *; omega))) ?_)
   rintro _ w84 ⟨rfl, he88⟩ a85 hE86; clear hE82
   have hS87 := St.go hS71 he88; clear hS71
   refine q_step (v := .tuple #[.int .i64 ((F_NodePolarity ap iq).1), .int .i64 ((F_NodePolarity ap iq).2)]) hE86 (y_move rfl) rfl rfl rfl ?_; intro a89 hE90; clear hE86
   refine q_step (v := .int .i64 ((F_NodePolarity ap iq).1)) hE90 (y_extract rfl rfl) rfl rfl rfl ?_; intro a91 hE92; clear hE90
   refine q_step (v := .int .i64 ((F_NodePolarity ap iq).2)) hE92 (y_extract rfl rfl) rfl rfl rfl ?_; intro a93 hE94; clear hE92
   refine q_step (v := .int .i64 ((F_NodePolarity ap iq).1)) hE94 (y_assign rfl) rfl rfl rfl ?_; intro a95 hE96; clear hE94
   refine q_step (v := .int .i64 ((F_NodePolarity ap iq).2)) hE96 (y_assign rfl) rfl rfl rfl ?_; intro a97 hE98; clear hE96
   refine c_nil ?_
   have hE99 := hE98.sub (L' := [(0, .slice apA ((ap).length / 2 : Nat) apC), (6, .int .i64 ((F_s_NodePolarity ap iq).1)), (7, .int .i64 ((F_s_NodePolarity ap iq).2)), (8, .slice b73 ((ap).length / 2 : Nat) c74), (9, .int .i64 ((F_NodePolarity ap iq).1)), (10, .int .i64 ((F_NodePolarity ap iq).2))]) ⟨rfl, rfl, rfl, rfl, rfl, rfl, trivial⟩; clear hE98
   refine p_tn ?_
   refine c_seq ?_
   refine c_cut (fun a' w' => E a' 44 [(0, .slice apA ((ap).length / 2 : Nat) apC), (8, .slice b73 ((ap).length / 2 : Nat) c74), (38, .bool ((!decide (((F_NodePolarity ap iq).1) = ((F_s_NodePolarity ap iq).1))) || (!decide (((F_NodePolarity ap iq).2) = ((F_s_NodePolarity ap iq).2)))))] ∧ St w w' [.own 94 2 b73 ((ap).length / 2 : Nat) c74 ap, .own 94 2 b43 ((ap).length / 2 : Nat) c44 ap, .rd 2 apA ((ap).length / 2 : Nat) apC ap]) ?_ ?_
   ·
    refine c_reg ?_
    refine q_step (v := .int .i64 ((F_NodePolarity ap iq).1)) hE99 (y_move rfl) rfl rfl rfl ?_; intro a100 hE101; clear hE99
    refine q_step (v := .int .i64 ((F_s_NodePolarity ap iq).1)) hE101 (y_move rfl) rfl rfl rfl ?_; intro a102 hE103; clear hE101
    refine q_step (v := .bool (!decide (((F_NodePolarity ap iq).1) = ((F_s_NodePolarity ap iq).1)))) hE103 (y_neq rfl rfl) rfl rfl rfl ?_; intro a104 hE105; clear hE103
    refine q_step (v := .bool (!decide (((F_NodePolarity ap iq).1) = ((F_s_NodePolarity ap iq).1)))) hE105 (y_move rfl) rfl rfl rfl ?_; intro a106 hE107; clear hE105
    rcases Bool.eq_false_or_eq_true (!decide (((F_NodePolarity ap iq).1) = ((F_s_NodePolarity ap iq).1))) with hb108 | hb108
    ·
     have hE109 := hE107; (try rw [hb108] at hE109); clear hE107
     have ht110 := bn_t hb108
     have hp111 := of_decide_eq_false ht110
     refine q_skip hE109 rfl rfl rfl ?_; intro a112 hE113; clear hE109
     refine q_skip hE113 rfl rfl rfl ?_; intro a114 hE115; clear hE113
     refine q_skip hE115 rfl rfl rfl ?_; intro a116 hE117; clear hE115
     refine q_step (v := .bool true) hE117 (y_pick (b := true) rfl rfl) rfl rfl rfl ?_; intro a118 hE119; clear hE117
     refine c_nil ?_
     have hE120 := hE119.sub (L' := [(0, .slice apA ((ap).length / 2 : Nat) apC), (8, .slice b73 ((ap).length / 2 : Nat) c74), (38, .bool true)]) ⟨rfl, rfl, rfl, trivial⟩; clear hE119
     refine p_tn ?_
     have hE121 := hE120.sub (L' := [(0, .slice apA ((ap).length / 2 : Nat) apC), (8, .slice b73 ((ap).length / 2 : Nat) c74), (38, .bool true)]) ⟨rfl, rfl, rfl, trivial⟩
     have hS122 := (St.pick (Γ' := [.own 94 2 b73 ((ap).length / 2 : Nat) c74 ap, .own 94 2 b43 ((ap).length / 2 : Nat) c44 ap, .rd 2 apA ((ap).length / 2 : Nat) apC ap]) hS87 [0, 1, 2] (by decide) rfl)
     exact ⟨(by rw [hb108]; exact hE121), hS122⟩
    ·
     have hE123 := hE107; (try rw [hb108] at hE123); clear hE107
     have ht124 := bn_f hb108
     have hp125 := of_decide_eq_true ht124
     refine q_step (v := .int .i64 ((F_NodePolarity ap iq).2)) hE123 (y_move rfl) rfl rfl rfl ?_; intro a126 hE127; clear hE123
     refine q_step (v := .int .i64 ((F_s_NodePolarity ap iq).2)) hE127 (y_move rfl) rfl rfl rfl ?_; intro a128 hE129; clear hE127
     refine q_step (v := .bool (!decide (((F_NodePolarity ap iq).2) = ((F_s_NodePolarity ap iq).2)))) hE129 (y_neq rfl rfl) rfl rfl rfl ?_; intro a130 hE131; clear hE129
     refine q_step (v := .bool (!decide (((F_NodePolarity ap iq).2) = ((F_s_NodePolarity ap iq).2)))) hE131 (y_pick (b := false) rfl rfl) rfl rfl rfl ?_; intro a132 hE133; clear hE131
     refine c_nil ?_
     have hE134 := hE133.sub (L' := [(0, .slice apA ((ap).length / 2 : Nat) apC), (8, .slice b73 ((ap).length / 2 : Nat) c74), (38, .bool (!decide (((F_NodePolarity ap iq).2) = ((F_s_NodePolarity ap iq).2))))]) ⟨rfl, rfl, rfl, trivial⟩; clear hE133
     refine p_tn ?_
     have hE135 := hE134.sub (L' := [(0, .slice apA ((ap).length / 2 : Nat) apC), (8, .slice b73 ((ap).length / 2 : Nat) c74), (38, .bool (!decide (((F_NodePolarity ap iq).2) = ((F_s_NodePolarity ap iq).2))))]) ⟨rfl, rfl, rfl, trivial⟩
     have hS136 := (St.pick (Γ' := [.own 94 2 b73 ((ap).length / 2 : Nat) c74 ap, .own 94 2 b43 ((ap).length / 2 : Nat) c44 ap, .rd 2 apA ((ap).length / 2 : Nat) apC ap]) hS87 [0, 1, 2] (by decide) rfl)
     exact ⟨(by rw [hb108]; exact hE135), hS136⟩
   ·
    rintro a137 w138 ⟨hE139, hS140⟩; clear hE99 hS87
    refine c_cond hE139 rfl (fun ht142 => ?_) (fun ht142 => ?_)
    ·
     have hE143 := hE139; rw [ht142] at hE143; clear hE139
     refine c_seq ?_
     refine c_reg ?_
     refine q_step (v := .bool false) hE143 (y_assign rfl) rfl rfl rfl ?_; intro a144 hE145; clear hE143
     refine c_nil ?_
     have hE146 := hE145.sub (L' := [(4, .bool false)]) ⟨rfl, trivial⟩; clear hE145
     refine p_tn ?_
     refine wp_ret ?_
     refine p_tr ?_
     have hF : F_l_FnExactNodePolarity ap iq = false := by unfold F_l_FnExactNodePolarity; rw [ht142, ht26]; first | done | rfl
     refine c_ret1 hE146 rfl rfl ?_
     exact ⟨(by rw [hF]; first | done | (dsimp only; done) | rfl), hS140.ext⟩
    ·
     obtain ⟨ht147, ht148⟩ := bor_f ht142
     have ht149 := bn_f ht147
     have hp150 := of_decide_eq_true ht149
     have ht151 := bn_f ht148
     have hp152 := of_decide_eq_true ht151
     have hE153 := hE139; rw [ht142] at hE153; clear hE139
     refine wp_skip ?_
     refine p_tn ?_
     refine c_seq ?_
     refine c_seq ?_
     refine c_reg ?_
     refine q_step (v := .slice b73 ((ap).length / 2 : Nat) c74) hE153 (y_move rfl) rfl rfl rfl ?_; intro a154 hE155; clear hE153
     refine q_step (v := .slice apA ((ap).length / 2 : Nat) apC) hE155 (y_move rfl) rfl rfl rfl ?_; intro a156 hE157; clear hE155
     refine l_step hE157 rfl (l_call (f := 22) (argv := [.slice apA ((ap).length / 2 : Nat) apC]) hE157 (fun _ => cf_l_toNodeS _ _) rfl rfl (d_l_toNodeS apA ((ap).length / 2 : Nat) apC ap w138 (St.rdR (i := 2) hS140 rfl) (by first | omega | (simp only [marked_len]; omega) | (simp only [marked_len] at *; omega))) ?_)
     rintro _ w159 ⟨b164, c165, rfl, ho166, he163⟩ a160 hE161; clear hE157
     have hS162 := St.own hS140 he163 ho166; clear hS140
     refine l_step hE161 rfl (l_call (f := 24) (argv := [.slice b73 ((ap).length / 2 : Nat) c74, .slice b164 ((ap).length / 2 : Nat) c165]) hE161 (fun _ => cf_l_eqNodeS _ _) rfl rfl (d_l_eqNodeS b73 ((ap).length / 2 : Nat) c74 ap b164 ((ap).length / 2 : Nat) c165 ap w159 (St.rdO (i := 1) hS162 rfl) (St.rdO (i := 0) hS162 rfl)) ?_)
     rintro _ w168 ⟨rfl, he172⟩ a169 hE170; clear hE161
     have hS171 := St.go hS162 he172; clear hS162
     refine q_step (v := .bool (!(decide (ap = ap)))) hE170 (y_not rfl) rfl rfl rfl ?_; intro a173 hE174; clear hE170
     refine c_nil ?_
     have hE175 := hE174.sub (L' := [(43, .bool (!(decide (ap = ap))))]) ⟨rfl, trivial⟩; clear hE174
     refine p_tn ?_
     refine c_cond hE175 rfl (fun ht176 => ?_) (fun ht176 => ?_)
     ·
      have ht177 := bn_t ht176
      have hp178 := of_decide_eq_false ht177
      have hE179 := hE175; rw [ht176] at hE179; clear hE175
      refine c_seq ?_
      refine c_reg ?_
      refine q_step (v := .bool false) hE179 (y_assign rfl) rfl rfl rfl ?_; intro a180 hE181; clear hE179
      refine c_nil ?_
      have hE182 := hE181.sub (L' := [(4, .bool false)]) ⟨rfl, trivial⟩; clear hE181
      refine p_tn ?_
      refine wp_ret ?_
      refine p_tr ?_
      have hF : F_l_FnExactNodePolarity ap iq = false := by unfold F_l_FnExactNodePolarity; rw [ht176, ht142, ht26]; first | done | rfl
      refine c_ret1 hE182 rfl rfl ?_
      exact ⟨(by rw [hF]; first | done | (dsimp only; done) | rfl), hS171.ext⟩
     ·
      have ht183 := bn_f ht176
      have hp184 := of_decide_eq_true ht183
      have hE185 := hE175; rw [ht176] at hE185; clear hE175
      refine wp_skip ?_
      refine p_tn ?_
      refine c_seq ?_
      refine c_reg ?_
      refine q_step (v := .bool true) hE185 (y_assign rfl) rfl rfl rfl ?_; intro a186 hE187; clear hE185
      refine c_nil ?_
      have hE188 := hE187.sub (L' := [(4, .bool true)]) ⟨rfl, trivial⟩; clear hE187
      refine p_tn ?_
      refine wp_ret ?_
      have hF : F_l_FnExactNodePolarity ap iq = true := by unfold F_l_FnExactNodePolarity; rw [ht176, ht142, ht26]; first | done | rfl
      refine c_ret1 hE188 rfl rfl ?_
      exact ⟨(by rw [hF]; first | done | (dsimp only; done) | rfl), hS171.ext⟩

theorem FnExactNodePolarity_true (ap : List Int) (iq : Int) (he : ap.length = ap.length / 2 * 2) : F_l_FnExactNodePolarity ap iq = true := by
  unfold F_l_FnExactNodePolarity
  rw [NodePolarity_eq ap iq he]
  simp


end Go.Proofs.Ytkilkfhjfobcdaa
