/- GLRC: models and contracts, printed by wip/gen/gen.py -/
import Derived.Test.YtkilkfhjfobcdaaGA
import Derived.Test.YtkilkfhjfobcdaaGRC
set_option linter.unusedVariables false
set_option linter.unusedSimpArgs false
namespace Go.Proofs.Ytkilkfhjfobcdaa
open Go.RowKit

def F_l_FnExactComposeRelations (ap : List Int) (bp : List Int) : Bool :=
  bif (decide (1048576 < (ap.length : Int))) then true else (bif (decide (1048576 < (bp.length : Int))) then true else (bif ((!(decide (((F_ComposeRelations ap bp).1) = ((F_s_ComposeRelations ap bp).1)))) || (!decide (((F_ComposeRelations ap bp).2) = ((F_s_ComposeRelations ap bp).2)))) then false else (bif (!(decide (ap = ap))) then false else (bif (!(decide (bp = bp))) then false else (bif ((decide (((1 + (ap.length : Int)) + (bp.length : Int)) < 0)) || ((!(decide (((F_ComposeRelations ap bp).1) = ((F_s_ComposeRelations ap bp).1)))) || (!decide (((F_ComposeRelations ap bp).2) = ((F_s_ComposeRelations ap bp).2))))) then false else (bif (decide ((F_l_heldInt64S (marked ((F_ComposeRelations ap bp).1).length 1) 1) < 0)) then false else (bif (!decide ((F_l_heldInt64S (marked ((F_ComposeRelations ap bp).1).length 1) 1) = (1 + (((F_ComposeRelations ap bp).1).length : Int)))) then false else true)))))))
theorem cf_l_FnExactComposeRelations (args : Array Value) (w : World) : (callFunc 3 args).run Try.prog w = .ok (.enter 3 args) w := by kernel_rfl
set_option maxRecDepth 100000 in
theorem c_l_FnExactComposeRelations (apA : Option Addr) (apN apC : Nat) (ap : List Int) (bpA : Option Addr) (bpN bpC : Nat) (bp : List Int) (w : World) (apR : RdS w 1 apA apN apC ap) (bpR : RdS w 1 bpA bpN bpC bp) :
    Calls Try.prog 3 #[.slice apA apN apC, .slice bpA bpN bpC] w (Ret fun v w' => v = .bool (F_l_FnExactComposeRelations ap bp) ∧ Ext w w') := by
  obtain rfl : apN = ap.length := apR.len1.symm
  have apLe := apR.le
  obtain rfl : bpN = bp.length := bpR.len1.symm
  have bpLe := bpR.le
  have hS := St.nil w
  have hS1 := St.rd0 hS rfl apR; clear hS
  have hS2 := St.rd0 hS1 rfl bpR; clear hS1
  refine enter (args := [.slice apA ap.length apC, .slice bpA bp.length bpC]) Try.func3 rfl rfl ?_
  rw [Try.ntmps3]; intro a hE
  have hE := hE.sub (L' := [(0, .slice apA ap.length apC), (1, .slice bpA bp.length bpC)]) ⟨rfl, rfl, trivial⟩
  refine c_seq ?_
  refine c_reg ?_
  refine q_step (v := .bool false) hE (y_assign rfl) rfl rfl rfl ?_; intro a3 hE4; clear hE
  refine c_nil ?_
  have hE5 := hE4.sub (L' := [(0, .slice apA ap.length apC), (1, .slice bpA bp.length bpC)]) ⟨rfl, rfl, trivial⟩; clear hE4
  refine p_tn ?_
  refine c_seq ?_
  refine c_seq ?_
  refine c_reg ?_
  refine q_step (v := .slice apA ap.length apC) hE5 (y_move rfl) rfl rfl rfl ?_; intro a6 hE7; clear hE5
  refine q_step (v := .int .i64 (ap.length : Int)) hE7 (y_len (e := 2) (by kernel_rfl) rfl) rfl rfl rfl ?_; intro a8 hE9; clear hE7
  refine q_step (v := .bool (decide (1048576 < (ap.length : Int)))) hE9 (y_gtr rfl rfl) rfl rfl rfl ?_; intro a10 hE11; clear hE9
  refine c_nil ?_
  have hE12 := hE11.sub (L' := [(0, .slice apA ap.length apC), (1, .slice bpA bp.length bpC), (18, .bool (decide (1048576 < (ap.length : Int))))]) ⟨rfl, rfl, rfl, trivial⟩; clear hE11
  refine p_tn ?_
  refine c_cond hE12 rfl (fun ht13 => ?_) (fun ht13 => ?_)
  ·
    have hp14 := of_decide_eq_true ht13
    have hE15 := hE12; rw [ht13] at hE15; clear hE12
    refine c_seq ?_
    refine c_reg ?_
    refine q_step (v := .bool true) hE15 (y_assign rfl) rfl rfl rfl ?_; intro a16 hE17; clear hE15
    refine c_nil ?_
    have hE18 := hE17.sub (L' := [(4, .bool true)]) ⟨rfl, trivial⟩; clear hE17
    refine p_tn ?_
    refine wp_ret ?_
    refine p_tr ?_
    have hF : F_l_FnExactComposeRelations ap bp = true := by unfold F_l_FnExactComposeRelations; rw [ht13]; first | done | rfl
    refine c_ret1 hE18 rfl rfl ?_
    exact ⟨(by rw [hF]; first | done | rfl), hS2.ext⟩
  ·
    have hp19 := of_decide_eq_false ht13
    have hE20 := hE12; rw [ht13] at hE20; clear hE12
    refine wp_skip ?_
    refine p_tn ?_
    refine c_seq ?_
    refine c_seq ?_
    refine c_reg ?_
    refine q_step (v := .slice bpA bp.length bpC) hE20 (y_move rfl) rfl rfl rfl ?_; intro a21 hE22; clear hE20
    refine q_step (v := .int .i64 (bp.length : Int)) hE22 (y_len (e := 2) (by kernel_rfl) rfl) rfl rfl rfl ?_; intro a23 hE24; clear hE22
    refine q_step (v := .bool (decide (1048576 < (bp.length : Int)))) hE24 (y_gtr rfl rfl) rfl rfl rfl ?_; intro a25 hE26; clear hE24
    refine c_nil ?_
    have hE27 := hE26.sub (L' := [(0, .slice apA ap.length apC), (1, .slice bpA bp.length bpC), (21, .bool (decide (1048576 < (bp.length : Int))))]) ⟨rfl, rfl, rfl, trivial⟩; clear hE26
    refine p_tn ?_
    refine c_cond hE27 rfl (fun ht28 => ?_) (fun ht28 => ?_)
    ·
      have hp29 := of_decide_eq_true ht28
      have hE30 := hE27; rw [ht28] at hE30; clear hE27
      refine c_seq ?_
      refine c_reg ?_
      refine q_step (v := .bool true) hE30 (y_assign rfl) rfl rfl rfl ?_; intro a31 hE32; clear hE30
      refine c_nil ?_
      have hE33 := hE32.sub (L' := [(4, .bool true)]) ⟨rfl, trivial⟩; clear hE32
      refine p_tn ?_
      refine wp_ret ?_
      refine p_tr ?_
      have hF : F_l_FnExactComposeRelations ap bp = true := by unfold F_l_FnExactComposeRelations; rw [ht28, ht13]; first | done | rfl
      refine c_ret1 hE33 rfl rfl ?_
      exact ⟨(by rw [hF]; first | done | rfl), hS2.ext⟩
    ·
      have hp34 := of_decide_eq_false ht28
      have hE35 := hE27; rw [ht28] at hE35; clear hE27
      refine wp_skip ?_
      refine p_tn ?_
      refine c_seq ?_
      refine c_reg ?_
      refine q_step (v := .slice apA ap.length apC) hE35 (y_move rfl) rfl rfl rfl ?_; intro a36 hE37; clear hE35
      refine l_step hE37 rfl (l_call (f := 15) (argv := [.slice apA ap.length apC]) hE37 (fun _ => cf_l_toInt64S _ _) rfl rfl (d_l_toInt64S apA ap.length apC ap w (St.rdR (i := 1) hS2 rfl) (by first | omega | (simp only [marked_len]; omega) | (simp only [marked_len] at *; omega))) ?_)
      rintro _ w39 ⟨b44, c45, rfl, ho46, he43⟩ a40 hE41; clear hE37
      have hS42 := St.own hS2 he43 ho46; clear hS2
      refine q_step (v := .slice bpA bp.length bpC) hE41 (y_move rfl) rfl rfl rfl ?_; intro a47 hE48; clear hE41
      refine l_step hE48 rfl (l_call (f := 15) (argv := [.slice bpA bp.length bpC]) hE48 (fun _ => cf_l_toInt64S _ _) rfl rfl (d_l_toInt64S bpA bp.length bpC bp w39 (St.rdR (i := 1) hS42 rfl) (by first | omega | (simp only [marked_len]; omega) | (simp only [marked_len] at *; omega))) ?_)
      rintro _ w50 ⟨b55, c56, rfl, ho57, he54⟩ a51 hE52; clear hE48
      have hS53 := St.own hS42 he54 ho57; clear hS42
      refine l_step hE52 rfl (l_call (f := 14) (argv := [.slice b44 ((ap).length) c45, .slice b55 ((bp).length) c56]) hE52 (fun _ => cf_s_ComposeRelations _ _) rfl rfl (c_s_ComposeRelations b44 ((ap).length) c45 ap b55 ((bp).length) c56 bp w50 (St.rdO (i := 1) hS53 rfl) (St.rdO (i := 0) hS53 rfl)) ?_)
      rintro _ w59 ⟨b64, c65, rfl, ho66, he63⟩ a60 hE61; clear hE52
      have hS62 := St.own hS53 he63 ho66; clear hS53
      refine q_step (v := .tuple #[.slice b64 (((F_s_ComposeRelations ap bp).1).length) c65, .int .i64 ((F_s_ComposeRelations ap bp).2)]) hE61 (y_move rfl) rfl rfl rfl ?_; intro a67 hE68; clear hE61
      refine q_step (v := .slice b64 (((F_s_ComposeRelations ap bp).1).length) c65) hE68 (y_extract rfl rfl) rfl rfl rfl ?_; intro a69 hE70; clear hE68
      refine q_step (v := .int .i64 ((F_s_ComposeRelations ap bp).2)) hE70 (y_extract rfl rfl) rfl rfl rfl ?_; intro a71 hE72; clear hE70
      refine q_step (v := .slice b64 (((F_s_ComposeRelations ap bp).1).length) c65) hE72 (y_assign rfl) rfl rfl rfl ?_; intro a73 hE74; clear hE72
      refine q_step (v := .int .i64 ((F_s_ComposeRelations ap bp).2)) hE74 (y_assign rfl) rfl rfl rfl ?_; intro a75 hE76; clear hE74
      refine c_nil ?_
      have hE77 := hE76.sub (L' := [(0, .slice apA ap.length apC), (1, .slice bpA bp.length bpC), (5, .slice b64 (((F_s_ComposeRelations ap bp).1).length) c65), (6, .int .i64 ((F_s_ComposeRelations ap bp).2))]) ⟨rfl, rfl, rfl, rfl, trivial⟩; clear hE76
      refine p_tn ?_
      refine c_seq ?_
      refine c_reg ?_
      refine q_step (v := .slice apA ap.length apC) hE77 (y_move rfl) rfl rfl rfl ?_; intro a78 hE79; clear hE77
      refine l_step hE79 rfl (l_call (f := 15) (argv := [.slice apA ap.length apC]) hE79 (fun _ => cf_l_toInt64S _ _) rfl rfl (d_l_toInt64S apA ap.length apC ap w59 (St.rdR (i := 4) hS62 rfl) (by first | omega | (simp only [marked_len]; omega) | (simp only [marked_len] at *; omega))) ?_)
      rintro _ w81 ⟨b86, c87, rfl, ho88, he85⟩ a82 hE83; clear hE79
      have hS84 := St.own hS62 he85 ho88; clear hS62
      refine q_step (v := .slice b86 ((ap).length) c87) hE83 (y_assign rfl) rfl rfl rfl ?_; intro a89 hE90; clear hE83
      refine c_nil ?_
      have hE91 := hE90.sub (L' := [(0, .slice apA ap.length apC), (1, .slice bpA bp.length bpC), (5, .slice b64 (((F_s_ComposeRelations ap bp).1).length) c65), (6, .int .i64 ((F_s_ComposeRelations ap bp).2)), (7, .slice b86 ((ap).length) c87)]) ⟨rfl, rfl, rfl, rfl, rfl, trivial⟩; clear hE90
      refine p_tn ?_
      refine c_seq ?_
      refine c_reg ?_
      refine q_step (v := .slice bpA bp.length bpC) hE91 (y_move rfl) rfl rfl rfl ?_; intro a92 hE93; clear hE91
      refine l_step hE93 rfl (l_call (f := 15) (argv := [.slice bpA bp.length bpC]) hE93 (fun _ => cf_l_toInt64S _ _) rfl rfl (d_l_toInt64S bpA bp.length bpC bp w81 (St.rdR (i := 4) hS84 rfl) (by first | omega | (simp only [marked_len]; omega) | (simp only [marked_len] at *; omega))) ?_)
      rintro _ w95 ⟨b100, c101, rfl, ho102, he99⟩ a96 hE97; clear hE93
      have hS98 := St.own hS84 he99 ho102; clear hS84
      refine q_step (v := .slice b100 ((bp).length) c101) hE97 (y_assign rfl) rfl rfl rfl ?_; intro a103 hE104; clear hE97
      refine c_nil ?_
      have hE105 := hE104.sub (L' := [(0, .slice apA ap.length apC), (1, .slice bpA bp.length bpC), (5, .slice b64 (((F_s_ComposeRelations ap bp).1).length) c65), (6, .int .i64 ((F_s_ComposeRelations ap bp).2)), (7, .slice b86 ((ap).length) c87), (8, .slice b100 ((bp).length) c101)]) ⟨rfl, rfl, rfl, rfl, rfl, rfl, trivial⟩; clear hE104
      refine p_tn ?_
      refine c_seq ?_
      refine c_reg ?_
      refine q_step (v := .slice b86 ((ap).length) c87) hE105 (y_move rfl) rfl rfl rfl ?_; intro a106 hE107; clear hE105
      refine q_step (v := .slice b100 ((bp).length) c101) hE107 (y_move rfl) rfl rfl rfl ?_; intro a108 hE109; clear hE107
      refine l_step hE109 rfl (l_call (f := 16) (argv := [.slice b86 ((ap).length) c87, .slice b100 ((bp).length) c101]) hE109 (fun _ => cf_ComposeRelations _ _) rfl rfl (c_ComposeRelations b86 ((ap).length) c87 ap b100 ((bp).length) c101 bp w95 (St.rdO (i := 1) hS98 rfl) (St.rdO (i := 0) hS98 rfl)) ?_)
      rintro _ w111 ⟨b116, c117, rfl, ho118, he115⟩ a112 hE113; clear hE109
      have hf119 := ComposeRelations_len ap bp
      have hS114 := St.own hS98 he115 ho118; clear hS98
      refine q_step (v := .tuple #[.slice b116 (((F_ComposeRelations ap bp).1).length) c117, .int .i64 ((F_ComposeRelations ap bp).2)]) hE113 (y_move rfl) rfl rfl rfl ?_; intro a120 hE121; clear hE113
      refine q_step (v := .slice b116 (((F_ComposeRelations ap bp).1).length) c117) hE121 (y_extract rfl rfl) rfl rfl rfl ?_; intro a122 hE123; clear hE121
      refine q_step (v := .int .i64 ((F_ComposeRelations ap bp).2)) hE123 (y_extract rfl rfl) rfl rfl rfl ?_; intro a124 hE125; clear hE123
      refine q_step (v := .slice b116 (((F_ComposeRelations ap bp).1).length) c117) hE125 (y_assign rfl) rfl rfl rfl ?_; intro a126 hE127; clear hE125
      refine q_step (v := .int .i64 ((F_ComposeRelations ap bp).2)) hE127 (y_assign rfl) rfl rfl rfl ?_; intro a128 hE129; clear hE127
      refine c_nil ?_
      have hE130 := hE129.sub (L' := [(0, .slice apA ap.length apC), (1, .slice bpA bp.length bpC), (5, .slice b64 (((F_s_ComposeRelations ap bp).1).length) c65), (6, .int .i64 ((F_s_ComposeRelations ap bp).2)), (7, .slice b86 ((ap).length) c87), (8, .slice b100 ((bp).length) c101), (9, .slice b116 (((F_ComposeRelations ap bp).1).length) c117), (10, .int .i64 ((F_ComposeRelations ap bp).2))]) ⟨rfl, rfl, rfl, rfl, rfl, rfl, rfl, rfl, trivial⟩; clear hE129
      refine p_tn ?_
      refine c_seq ?_
      refine c_cut (fun a' w' => E a' 114 [(0, .slice apA ap.length apC), (1, .slice bpA bp.length bpC), (5, .slice b64 (((F_s_ComposeRelations ap bp).1).length) c65), (6, .int .i64 ((F_s_ComposeRelations ap bp).2)), (7, .slice b86 ((ap).length) c87), (8, .slice b100 ((bp).length) c101), (9, .slice b116 (((F_ComposeRelations ap bp).1).length) c117), (10, .int .i64 ((F_ComposeRelations ap bp).2)), (48, .bool ((!(decide (((F_ComposeRelations ap bp).1) = ((F_s_ComposeRelations ap bp).1)))) || (!decide (((F_ComposeRelations ap bp).2) = ((F_s_ComposeRelations ap bp).2)))))] ∧ St w w' [.own 2 1 b116 (((F_ComposeRelations ap bp).1).length) c117 ((F_ComposeRelations ap bp).1), .own 2 1 b100 ((bp).length) c101 bp, .own 2 1 b86 ((ap).length) c87 ap, .own 2 1 b64 (((F_s_ComposeRelations ap bp).1).length) c65 ((F_s_ComposeRelations ap bp).1), .own 2 1 b55 ((bp).length) c56 bp, .own 2 1 b44 ((ap).length) c45 ap, .rd 1 bpA bp.length bpC bp, .rd 1 apA ap.length apC ap]) ?_ ?_
      ·
        refine c_reg ?_
        refine q_step (v := .slice b116 (((F_ComposeRelations ap bp).1).length) c117) hE130 (y_move rfl) rfl rfl rfl ?_; intro a131 hE132; clear hE130
        refine q_step (v := .slice b64 (((F_s_ComposeRelations ap bp).1).length) c65) hE132 (y_move rfl) rfl rfl rfl ?_; intro a133 hE134; clear hE132
        refine l_step hE134 rfl (l_call (f := 17) (argv := [.slice b116 (((F_ComposeRelations ap bp).1).length) c117, .slice b64 (((F_s_ComposeRelations ap bp).1).length) c65]) hE134 (fun _ => cf_l_eqInt64S _ _) rfl rfl (d_l_eqInt64S b116 (((F_ComposeRelations ap bp).1).length) c117 ((F_ComposeRelations ap bp).1) b64 (((F_s_ComposeRelations ap bp).1).length) c65 ((F_s_ComposeRelations ap bp).1) w111 (St.rdO (i := 0) hS114 rfl) (St.rdO (i := 3) hS114 rfl)) ?_)
        rintro _ w136 ⟨rfl, he140⟩ a137 hE138; clear hE134
        have hS139 := St.go hS114 he140; clear hS114
        refine q_step (v := .bool (!(decide (((F_ComposeRelations ap bp).1) = ((F_s_ComposeRelations ap bp).1))))) hE138 (y_not rfl) rfl rfl rfl ?_; intro a141 hE142; clear hE138
        refine q_step (v := .bool (!(decide (((F_ComposeRelations ap bp).1) = ((F_s_ComposeRelations ap bp).1))))) hE142 (y_move rfl) rfl rfl rfl ?_; intro a143 hE144; clear hE142
        rcases Bool.eq_false_or_eq_true (!(decide (((F_ComposeRelations ap bp).1) = ((F_s_ComposeRelations ap bp).1)))) with hb145 | hb145
        ·
          have hE146 := hE144; rw [hb145] at hE146; clear hE144
          have ht147 := bn_t hb145
          have hp148 := of_decide_eq_false ht147
          refine q_skip hE146 rfl rfl rfl ?_; intro a149 hE150; clear hE146
          refine q_skip hE150 rfl rfl rfl ?_; intro a151 hE152; clear hE150
          refine q_skip hE152 rfl rfl rfl ?_; intro a153 hE154; clear hE152
          refine q_step (v := .bool true) hE154 (y_pick (b := true) rfl rfl) rfl rfl rfl ?_; intro a155 hE156; clear hE154
          refine c_nil ?_
          have hE157 := hE156.sub (L' := [(0, .slice apA ap.length apC), (1, .slice bpA bp.length bpC), (5, .slice b64 (((F_s_ComposeRelations ap bp).1).length) c65), (6, .int .i64 ((F_s_ComposeRelations ap bp).2)), (7, .slice b86 ((ap).length) c87), (8, .slice b100 ((bp).length) c101), (9, .slice b116 (((F_ComposeRelations ap bp).1).length) c117), (10, .int .i64 ((F_ComposeRelations ap bp).2)), (48, .bool true)]) ⟨rfl, rfl, rfl, rfl, rfl, rfl, rfl, rfl, rfl, trivial⟩; clear hE156
          refine p_tn ?_
          have hE158 := hE157.sub (L' := [(0, .slice apA ap.length apC), (1, .slice bpA bp.length bpC), (5, .slice b64 (((F_s_ComposeRelations ap bp).1).length) c65), (6, .int .i64 ((F_s_ComposeRelations ap bp).2)), (7, .slice b86 ((ap).length) c87), (8, .slice b100 ((bp).length) c101), (9, .slice b116 (((F_ComposeRelations ap bp).1).length) c117), (10, .int .i64 ((F_ComposeRelations ap bp).2)), (48, .bool true)]) ⟨rfl, rfl, rfl, rfl, rfl, rfl, rfl, rfl, rfl, trivial⟩
          have hS159 := (St.pick (Γ' := [.own 2 1 b116 (((F_ComposeRelations ap bp).1).length) c117 ((F_ComposeRelations ap bp).1), .own 2 1 b100 ((bp).length) c101 bp, .own 2 1 b86 ((ap).length) c87 ap, .own 2 1 b64 (((F_s_ComposeRelations ap bp).1).length) c65 ((F_s_ComposeRelations ap bp).1), .own 2 1 b55 ((bp).length) c56 bp, .own 2 1 b44 ((ap).length) c45 ap, .rd 1 bpA bp.length bpC bp, .rd 1 apA ap.length apC ap]) hS139 [0, 1, 2, 3, 4, 5, 6, 7] (by decide) rfl)
          exact ⟨(by rw [hb145]; exact hE158), hS159⟩
        ·
          have hE160 := hE144; rw [hb145] at hE160; clear hE144
          have ht161 := bn_f hb145
          have hp162 := of_decide_eq_true ht161
          refine q_step (v := .int .i64 ((F_ComposeRelations ap bp).2)) hE160 (y_move rfl) rfl rfl rfl ?_; intro a163 hE164; clear hE160
          refine q_step (v := .int .i64 ((F_s_ComposeRelations ap bp).2)) hE164 (y_move rfl) rfl rfl rfl ?_; intro a165 hE166; clear hE164
          refine q_step (v := .bool (!decide (((F_ComposeRelations ap bp).2) = ((F_s_ComposeRelations ap bp).2)))) hE166 (y_neq rfl rfl) rfl rfl rfl ?_; intro a167 hE168; clear hE166
          refine q_step (v := .bool (!decide (((F_ComposeRelations ap bp).2) = ((F_s_ComposeRelations ap bp).2)))) hE168 (y_pick (b := false) rfl rfl) rfl rfl rfl ?_; intro a169 hE170; clear hE168
          refine c_nil ?_
          have hE171 := hE170.sub (L' := [(0, .slice apA ap.length apC), (1, .slice bpA bp.length bpC), (5, .slice b64 (((F_s_ComposeRelations ap bp).1).length) c65), (6, .int .i64 ((F_s_ComposeRelations ap bp).2)), (7, .slice b86 ((ap).length) c87), (8, .slice b100 ((bp).length) c101), (9, .slice b116 (((F_ComposeRelations ap bp).1).length) c117), (10, .int .i64 ((F_ComposeRelations ap bp).2)), (48, .bool (!decide (((F_ComposeRelations ap bp).2) = ((F_s_ComposeRelations ap bp).2))))]) ⟨rfl, rfl, rfl, rfl, rfl, rfl, rfl, rfl, rfl, trivial⟩; clear hE170
          refine p_tn ?_
          have hE172 := hE171.sub (L' := [(0, .slice apA ap.length apC), (1, .slice bpA bp.length bpC), (5, .slice b64 (((F_s_ComposeRelations ap bp).1).length) c65), (6, .int .i64 ((F_s_ComposeRelations ap bp).2)), (7, .slice b86 ((ap).length) c87), (8, .slice b100 ((bp).length) c101), (9, .slice b116 (((F_ComposeRelations ap bp).1).length) c117), (10, .int .i64 ((F_ComposeRelations ap bp).2)), (48, .bool (!decide (((F_ComposeRelations ap bp).2) = ((F_s_ComposeRelations ap bp).2))))]) ⟨rfl, rfl, rfl, rfl, rfl, rfl, rfl, rfl, rfl, trivial⟩
          have hS173 := (St.pick (Γ' := [.own 2 1 b116 (((F_ComposeRelations ap bp).1).length) c117 ((F_ComposeRelations ap bp).1), .own 2 1 b100 ((bp).length) c101 bp, .own 2 1 b86 ((ap).length) c87 ap, .own 2 1 b64 (((F_s_ComposeRelations ap bp).1).length) c65 ((F_s_ComposeRelations ap bp).1), .own 2 1 b55 ((bp).length) c56 bp, .own 2 1 b44 ((ap).length) c45 ap, .rd 1 bpA bp.length bpC bp, .rd 1 apA ap.length apC ap]) hS139 [0, 1, 2, 3, 4, 5, 6, 7] (by decide) rfl)
          exact ⟨(by rw [hb145]; exact hE172), hS173⟩
      ·
        rintro a174 w175 ⟨hE176, hS177⟩; clear hE130 hS114
        refine c_cond hE176 rfl (fun ht179 => ?_) (fun ht179 => ?_)
        ·
          have hE180 := hE176; rw [ht179] at hE180; clear hE176
          refine c_seq ?_
          refine c_reg ?_
          refine q_step (v := .bool false) hE180 (y_assign rfl) rfl rfl rfl ?_; intro a181 hE182; clear hE180
          refine c_nil ?_
          have hE183 := hE182.sub (L' := [(4, .bool false)]) ⟨rfl, trivial⟩; clear hE182
          refine p_tn ?_
          refine wp_ret ?_
          refine p_tr ?_
          have hF : F_l_FnExactComposeRelations ap bp = false := by unfold F_l_FnExactComposeRelations; rw [ht179, ht28, ht13]; first | done | rfl
          refine c_ret1 hE183 rfl rfl ?_
          exact ⟨(by rw [hF]; first | done | rfl), hS177.ext⟩
        ·
          obtain ⟨ht184, ht185⟩ := bor_f ht179
          have ht186 := bn_f ht184
          have hp187 := of_decide_eq_true ht186
          have ht188 := bn_f ht185
          have hp189 := of_decide_eq_true ht188
          have hE190 := hE176; rw [ht179] at hE190; clear hE176
          refine wp_skip ?_
          refine p_tn ?_
          refine c_seq ?_
          refine c_seq ?_
          refine c_reg ?_
          refine q_step (v := .slice b86 ((ap).length) c87) hE190 (y_move rfl) rfl rfl rfl ?_; intro a191 hE192; clear hE190
          refine q_step (v := .slice apA ap.length apC) hE192 (y_move rfl) rfl rfl rfl ?_; intro a193 hE194; clear hE192
          refine l_step hE194 rfl (l_call (f := 15) (argv := [.slice apA ap.length apC]) hE194 (fun _ => cf_l_toInt64S _ _) rfl rfl (d_l_toInt64S apA ap.length apC ap w175 (St.rdR (i := 7) hS177 rfl) (by first | omega | (simp only [marked_len]; omega) | (simp only [marked_len] at *; omega))) ?_)
          rintro _ w196 ⟨b201, c202, rfl, ho203, he200⟩ a197 hE198; clear hE194
          have hS199 := St.own hS177 he200 ho203; clear hS177
          refine l_step hE198 rfl (l_call (f := 17) (argv := [.slice b86 ((ap).length) c87, .slice b201 ((ap).length) c202]) hE198 (fun _ => cf_l_eqInt64S _ _) rfl rfl (d_l_eqInt64S b86 ((ap).length) c87 ap b201 ((ap).length) c202 ap w196 (St.rdO (i := 3) hS199 rfl) (St.rdO (i := 0) hS199 rfl)) ?_)
          rintro _ w205 ⟨rfl, he209⟩ a206 hE207; clear hE198
          have hS208 := St.go hS199 he209; clear hS199
          refine q_step (v := .bool (!(decide (ap = ap)))) hE207 (y_not rfl) rfl rfl rfl ?_; intro a210 hE211; clear hE207
          refine c_nil ?_
          have hE212 := hE211.sub (L' := [(0, .slice apA ap.length apC), (1, .slice bpA bp.length bpC), (5, .slice b64 (((F_s_ComposeRelations ap bp).1).length) c65), (6, .int .i64 ((F_s_ComposeRelations ap bp).2)), (7, .slice b86 ((ap).length) c87), (8, .slice b100 ((bp).length) c101), (9, .slice b116 (((F_ComposeRelations ap bp).1).length) c117), (10, .int .i64 ((F_ComposeRelations ap bp).2)), (53, .bool (!(decide (ap = ap))))]) ⟨rfl, rfl, rfl, rfl, rfl, rfl, rfl, rfl, rfl, trivial⟩; clear hE211
          refine p_tn ?_
          refine c_cond hE212 rfl (fun ht213 => ?_) (fun ht213 => ?_)
          ·
            have ht214 := bn_t ht213
            have hp215 := of_decide_eq_false ht214
            have hE216 := hE212; rw [ht213] at hE216; clear hE212
            refine c_seq ?_
            refine c_reg ?_
            refine q_step (v := .bool false) hE216 (y_assign rfl) rfl rfl rfl ?_; intro a217 hE218; clear hE216
            refine c_nil ?_
            have hE219 := hE218.sub (L' := [(4, .bool false)]) ⟨rfl, trivial⟩; clear hE218
            refine p_tn ?_
            refine wp_ret ?_
            refine p_tr ?_
            have hF : F_l_FnExactComposeRelations ap bp = false := by unfold F_l_FnExactComposeRelations; rw [ht213, ht179, ht28, ht13]; first | done | rfl
            refine c_ret1 hE219 rfl rfl ?_
            exact ⟨(by rw [hF]; first | done | rfl), hS208.ext⟩
          ·
            have ht220 := bn_f ht213
            have hp221 := of_decide_eq_true ht220
            have hE222 := hE212; rw [ht213] at hE222; clear hE212
            refine wp_skip ?_
            refine p_tn ?_
            refine c_seq ?_
            refine c_seq ?_
            refine c_reg ?_
            refine q_step (v := .slice b100 ((bp).length) c101) hE222 (y_move rfl) rfl rfl rfl ?_; intro a223 hE224; clear hE222
            refine q_step (v := .slice bpA bp.length bpC) hE224 (y_move rfl) rfl rfl rfl ?_; intro a225 hE226; clear hE224
            refine l_step hE226 rfl (l_call (f := 15) (argv := [.slice bpA bp.length bpC]) hE226 (fun _ => cf_l_toInt64S _ _) rfl rfl (d_l_toInt64S bpA bp.length bpC bp w205 (St.rdR (i := 7) hS208 rfl) (by first | omega | (simp only [marked_len]; omega) | (simp only [marked_len] at *; omega))) ?_)
            rintro _ w228 ⟨b233, c234, rfl, ho235, he232⟩ a229 hE230; clear hE226
            have hS231 := St.own hS208 he232 ho235; clear hS208
            refine l_step hE230 rfl (l_call (f := 17) (argv := [.slice b100 ((bp).length) c101, .slice b233 ((bp).length) c234]) hE230 (fun _ => cf_l_eqInt64S _ _) rfl rfl (d_l_eqInt64S b100 ((bp).length) c101 bp b233 ((bp).length) c234 bp w228 (St.rdO (i := 3) hS231 rfl) (St.rdO (i := 0) hS231 rfl)) ?_)
            rintro _ w237 ⟨rfl, he241⟩ a238 hE239; clear hE230
            have hS240 := St.go hS231 he241; clear hS231
            refine q_step (v := .bool (!(decide (bp = bp)))) hE239 (y_not rfl) rfl rfl rfl ?_; intro a242 hE243; clear hE239
            refine c_nil ?_
            have hE244 := hE243.sub (L' := [(0, .slice apA ap.length apC), (1, .slice bpA bp.length bpC), (5, .slice b64 (((F_s_ComposeRelations ap bp).1).length) c65), (6, .int .i64 ((F_s_ComposeRelations ap bp).2)), (7, .slice b86 ((ap).length) c87), (8, .slice b100 ((bp).length) c101), (9, .slice b116 (((F_ComposeRelations ap bp).1).length) c117), (10, .int .i64 ((F_ComposeRelations ap bp).2)), (58, .bool (!(decide (bp = bp))))]) ⟨rfl, rfl, rfl, rfl, rfl, rfl, rfl, rfl, rfl, trivial⟩; clear hE243
            refine p_tn ?_
            refine c_cond hE244 rfl (fun ht245 => ?_) (fun ht245 => ?_)
            ·
              have ht246 := bn_t ht245
              have hp247 := of_decide_eq_false ht246
              have hE248 := hE244; rw [ht245] at hE248; clear hE244
              refine c_seq ?_
              refine c_reg ?_
              refine q_step (v := .bool false) hE248 (y_assign rfl) rfl rfl rfl ?_; intro a249 hE250; clear hE248
              refine c_nil ?_
              have hE251 := hE250.sub (L' := [(4, .bool false)]) ⟨rfl, trivial⟩; clear hE250
              refine p_tn ?_
              refine wp_ret ?_
              refine p_tr ?_
              have hF : F_l_FnExactComposeRelations ap bp = false := by unfold F_l_FnExactComposeRelations; rw [ht245, ht213, ht179, ht28, ht13]; first | done | rfl
              refine c_ret1 hE251 rfl rfl ?_
              exact ⟨(by rw [hF]; first | done | rfl), hS240.ext⟩
            ·
              have ht252 := bn_f ht245
              have hp253 := of_decide_eq_true ht252
              have hE254 := hE244; rw [ht245] at hE254; clear hE244
              refine wp_skip ?_
              refine p_tn ?_
              refine c_seq ?_
              refine c_reg ?_
              refine q_step (v := .int .i64 1) hE254 (y_assign rfl) rfl rfl rfl ?_; intro a255 hE256; clear hE254
              refine c_nil ?_
              have hE257 := hE256.sub (L' := [(0, .slice apA ap.length apC), (1, .slice bpA bp.length bpC), (5, .slice b64 (((F_s_ComposeRelations ap bp).1).length) c65), (6, .int .i64 ((F_s_ComposeRelations ap bp).2)), (7, .slice b86 ((ap).length) c87), (8, .slice b100 ((bp).length) c101), (9, .slice b116 (((F_ComposeRelations ap bp).1).length) c117), (10, .int .i64 ((F_ComposeRelations ap bp).2)), (11, .int .i64 1)]) ⟨rfl, rfl, rfl, rfl, rfl, rfl, rfl, rfl, rfl, trivial⟩; clear hE256
              refine p_tn ?_
              refine c_seq ?_
              refine c_reg ?_
              refine q_step (v := .slice b86 ((ap).length) c87) hE257 (y_move rfl) rfl rfl rfl ?_; intro a258 hE259; clear hE257
              refine q_step (v := .int .i64 1) hE259 (y_move rfl) rfl rfl rfl ?_; intro a260 hE261; clear hE259
              have hS268 := (St.pick (Γ' := [.own 2 1 b86 ((ap).length) c87 ap, .own 2 1 b233 ((bp).length) c234 bp, .own 2 1 b201 ((ap).length) c202 ap, .own 2 1 b116 (((F_ComposeRelations ap bp).1).length) c117 ((F_ComposeRelations ap bp).1), .own 2 1 b100 ((bp).length) c101 bp, .own 2 1 b64 (((F_s_ComposeRelations ap bp).1).length) c65 ((F_s_ComposeRelations ap bp).1), .own 2 1 b55 ((bp).length) c56 bp, .own 2 1 b44 ((ap).length) c45 ap, .rd 1 bpA bp.length bpC bp, .rd 1 apA ap.length apC ap]) hS240 [4, 0, 1, 2, 3, 5, 6, 7, 8, 9] (by decide) rfl); clear hS240
              refine l_step hE261 rfl (l_call (f := 18) (argv := [.slice b86 ((ap).length) c87, .int .i64 1]) hE261 (fun _ => cf_l_markInt64S _ _) rfl rfl (d_l_markInt64S b86 ((ap).length) c87 ap 1 w237 w [.own 2 1 b233 ((bp).length) c234 bp, .own 2 1 b201 ((ap).length) c202 ap, .own 2 1 b116 (((F_ComposeRelations ap bp).1).length) c117 ((F_ComposeRelations ap bp).1), .own 2 1 b100 ((bp).length) c101 bp, .own 2 1 b64 (((F_s_ComposeRelations ap bp).1).length) c65 ((F_s_ComposeRelations ap bp).1), .own 2 1 b55 ((bp).length) c56 bp, .own 2 1 b44 ((ap).length) c45 ap, .rd 1 bpA bp.length bpC bp, .rd 1 apA ap.length apC ap] hS268 (by first | omega | (simp only [marked_len]; omega) | (simp only [marked_len] at *; omega)) (by first | omega | (simp only [marked_len]; omega) | (simp only [marked_len] at *; omega)) (by first | omega | (simp only [marked_len]; omega) | (simp only [marked_len] at *; omega))) ?_)
              rintro _ w263 ⟨rfl, hS266⟩ a264 hE265; clear hE261 hS268
              refine q_step (v := .int .i64 (1 + (ap.length : Int))) hE265 (y_assign rfl) rfl rfl rfl ?_; intro a269 hE270; clear hE265
              refine c_nil ?_
              have hE271 := hE270.sub (L' := [(0, .slice apA ap.length apC), (1, .slice bpA bp.length bpC), (5, .slice b64 (((F_s_ComposeRelations ap bp).1).length) c65), (6, .int .i64 ((F_s_ComposeRelations ap bp).2)), (8, .slice b100 ((bp).length) c101), (9, .slice b116 (((F_ComposeRelations ap bp).1).length) c117), (10, .int .i64 ((F_ComposeRelations ap bp).2)), (11, .int .i64 (1 + (ap.length : Int)))]) ⟨rfl, rfl, rfl, rfl, rfl, rfl, rfl, rfl, trivial⟩; clear hE270
              refine p_tn ?_
              refine c_seq ?_
              refine c_reg ?_
              refine q_step (v := .slice b100 ((bp).length) c101) hE271 (y_move rfl) rfl rfl rfl ?_; intro a272 hE273; clear hE271
              refine q_step (v := .int .i64 (1 + (ap.length : Int))) hE273 (y_move rfl) rfl rfl rfl ?_; intro a274 hE275; clear hE273
              have hS282 := (St.pick (Γ' := [.own 2 1 b100 ((bp).length) c101 bp, .own 2 1 b86 ((ap).length) c87 (marked ap.length 1), .own 2 1 b233 ((bp).length) c234 bp, .own 2 1 b201 ((ap).length) c202 ap, .own 2 1 b116 (((F_ComposeRelations ap bp).1).length) c117 ((F_ComposeRelations ap bp).1), .own 2 1 b64 (((F_s_ComposeRelations ap bp).1).length) c65 ((F_s_ComposeRelations ap bp).1), .own 2 1 b55 ((bp).length) c56 bp, .own 2 1 b44 ((ap).length) c45 ap, .rd 1 bpA bp.length bpC bp, .rd 1 apA ap.length apC ap]) hS266 [4, 0, 1, 2, 3, 5, 6, 7, 8, 9] (by decide) rfl); clear hS266
              refine l_step hE275 rfl (l_call (f := 18) (argv := [.slice b100 ((bp).length) c101, .int .i64 (1 + (ap.length : Int))]) hE275 (fun _ => cf_l_markInt64S _ _) rfl rfl (d_l_markInt64S b100 ((bp).length) c101 bp (1 + (ap.length : Int)) w263 w [.own 2 1 b86 ((ap).length) c87 (marked ap.length 1), .own 2 1 b233 ((bp).length) c234 bp, .own 2 1 b201 ((ap).length) c202 ap, .own 2 1 b116 (((F_ComposeRelations ap bp).1).length) c117 ((F_ComposeRelations ap bp).1), .own 2 1 b64 (((F_s_ComposeRelations ap bp).1).length) c65 ((F_s_ComposeRelations ap bp).1), .own 2 1 b55 ((bp).length) c56 bp, .own 2 1 b44 ((ap).length) c45 ap, .rd 1 bpA bp.length bpC bp, .rd 1 apA ap.length apC ap] hS282 (by first | omega | (simp only [marked_len]; omega) | (simp only [marked_len] at *; omega)) (by first | omega | (simp only [marked_len]; omega) | (simp only [marked_len] at *; omega)) (by first | omega | (simp only [marked_len]; omega) | (simp only [marked_len] at *; omega))) ?_)
              rintro _ w277 ⟨rfl, hS280⟩ a278 hE279; clear hE275 hS282
              refine q_step (v := .int .i64 ((1 + (ap.length : Int)) + (bp.length : Int))) hE279 (y_assign rfl) rfl rfl rfl ?_; intro a283 hE284; clear hE279
              refine c_nil ?_
              have hE285 := hE284.sub (L' := [(0, .slice apA ap.length apC), (1, .slice bpA bp.length bpC), (5, .slice b64 (((F_s_ComposeRelations ap bp).1).length) c65), (6, .int .i64 ((F_s_ComposeRelations ap bp).2)), (9, .slice b116 (((F_ComposeRelations ap bp).1).length) c117), (10, .int .i64 ((F_ComposeRelations ap bp).2)), (11, .int .i64 ((1 + (ap.length : Int)) + (bp.length : Int)))]) ⟨rfl, rfl, rfl, rfl, rfl, rfl, rfl, trivial⟩; clear hE284
              refine p_tn ?_
              refine c_seq ?_
              refine c_cut (fun a' w' => E a' 114 [(0, .slice apA ap.length apC), (1, .slice bpA bp.length bpC), (5, .slice b64 (((F_s_ComposeRelations ap bp).1).length) c65), (6, .int .i64 ((F_s_ComposeRelations ap bp).2)), (9, .slice b116 (((F_ComposeRelations ap bp).1).length) c117), (77, .bool ((decide (((1 + (ap.length : Int)) + (bp.length : Int)) < 0)) || ((!(decide (((F_ComposeRelations ap bp).1) = ((F_s_ComposeRelations ap bp).1)))) || (!decide (((F_ComposeRelations ap bp).2) = ((F_s_ComposeRelations ap bp).2))))))] ∧ St w w' [.own 2 1 b100 ((bp).length) c101 (marked bp.length (1 + (ap.length : Int))), .own 2 1 b86 ((ap).length) c87 (marked ap.length 1), .own 2 1 b233 ((bp).length) c234 bp, .own 2 1 b201 ((ap).length) c202 ap, .own 2 1 b116 (((F_ComposeRelations ap bp).1).length) c117 ((F_ComposeRelations ap bp).1), .own 2 1 b64 (((F_s_ComposeRelations ap bp).1).length) c65 ((F_s_ComposeRelations ap bp).1), .own 2 1 b55 ((bp).length) c56 bp, .own 2 1 b44 ((ap).length) c45 ap, .rd 1 bpA bp.length bpC bp, .rd 1 apA ap.length apC ap]) ?_ ?_
              ·
                refine c_reg ?_
                refine q_step (v := .int .i64 ((1 + (ap.length : Int)) + (bp.length : Int))) hE285 (y_move rfl) rfl rfl rfl ?_; intro a286 hE287; clear hE285
                refine q_step (v := .bool (decide (((1 + (ap.length : Int)) + (bp.length : Int)) < 0))) hE287 (y_lss rfl rfl) rfl rfl rfl ?_; intro a288 hE289; clear hE287
                refine q_step (v := .bool (decide (((1 + (ap.length : Int)) + (bp.length : Int)) < 0))) hE289 (y_move rfl) rfl rfl rfl ?_; intro a290 hE291; clear hE289
                rcases Bool.eq_false_or_eq_true (decide (((1 + (ap.length : Int)) + (bp.length : Int)) < 0)) with hb292 | hb292
                ·
                  have hE293 := hE291; rw [hb292] at hE293; clear hE291
                  have hp294 := of_decide_eq_true hb292
                  refine q_skip hE293 rfl rfl rfl ?_; intro a295 hE296; clear hE293
                  refine q_skip hE296 rfl rfl rfl ?_; intro a297 hE298; clear hE296
                  refine q_skip hE298 rfl rfl rfl ?_; intro a299 hE300; clear hE298
                  refine q_skip hE300 rfl rfl rfl ?_; intro a301 hE302; clear hE300
                  refine q_step (v := .bool true) hE302 (y_pick (b := true) rfl rfl) rfl rfl rfl ?_; intro a303 hE304; clear hE302
                  refine q_step (v := .bool true) hE304 (y_move rfl) rfl rfl rfl ?_; intro a305 hE306; clear hE304
                  refine q_skip hE306 rfl rfl rfl ?_; intro a307 hE308; clear hE306
                  refine q_skip hE308 rfl rfl rfl ?_; intro a309 hE310; clear hE308
                  refine q_skip hE310 rfl rfl rfl ?_; intro a311 hE312; clear hE310
                  refine q_step (v := .bool true) hE312 (y_pick (b := true) rfl rfl) rfl rfl rfl ?_; intro a313 hE314; clear hE312
                  refine c_nil ?_
                  have hE315 := hE314.sub (L' := [(0, .slice apA ap.length apC), (1, .slice bpA bp.length bpC), (5, .slice b64 (((F_s_ComposeRelations ap bp).1).length) c65), (6, .int .i64 ((F_s_ComposeRelations ap bp).2)), (9, .slice b116 (((F_ComposeRelations ap bp).1).length) c117), (77, .bool true)]) ⟨rfl, rfl, rfl, rfl, rfl, rfl, trivial⟩; clear hE314
                  refine p_tn ?_
                  have hE316 := hE315.sub (L' := [(0, .slice apA ap.length apC), (1, .slice bpA bp.length bpC), (5, .slice b64 (((F_s_ComposeRelations ap bp).1).length) c65), (6, .int .i64 ((F_s_ComposeRelations ap bp).2)), (9, .slice b116 (((F_ComposeRelations ap bp).1).length) c117), (77, .bool true)]) ⟨rfl, rfl, rfl, rfl, rfl, rfl, trivial⟩
                  have hS317 := (St.pick (Γ' := [.own 2 1 b100 ((bp).length) c101 (marked bp.length (1 + (ap.length : Int))), .own 2 1 b86 ((ap).length) c87 (marked ap.length 1), .own 2 1 b233 ((bp).length) c234 bp, .own 2 1 b201 ((ap).length) c202 ap, .own 2 1 b116 (((F_ComposeRelations ap bp).1).length) c117 ((F_ComposeRelations ap bp).1), .own 2 1 b64 (((F_s_ComposeRelations ap bp).1).length) c65 ((F_s_ComposeRelations ap bp).1), .own 2 1 b55 ((bp).length) c56 bp, .own 2 1 b44 ((ap).length) c45 ap, .rd 1 bpA bp.length bpC bp, .rd 1 apA ap.length apC ap]) hS280 [0, 1, 2, 3, 4, 5, 6, 7, 8, 9] (by decide) rfl)
                  exact ⟨(by rw [hb292]; exact hE316), hS317⟩
                ·
                  have hE318 := hE291; rw [hb292] at hE318; clear hE291
                  have hp319 := of_decide_eq_false hb292
                  refine q_step (v := .slice b116 (((F_ComposeRelations ap bp).1).length) c117) hE318 (y_move rfl) rfl rfl rfl ?_; intro a320 hE321; clear hE318
                  refine q_step (v := .slice b64 (((F_s_ComposeRelations ap bp).1).length) c65) hE321 (y_move rfl) rfl rfl rfl ?_; intro a322 hE323; clear hE321
                  refine l_step hE323 rfl (l_call (f := 17) (argv := [.slice b116 (((F_ComposeRelations ap bp).1).length) c117, .slice b64 (((F_s_ComposeRelations ap bp).1).length) c65]) hE323 (fun _ => cf_l_eqInt64S _ _) rfl rfl (d_l_eqInt64S b116 (((F_ComposeRelations ap bp).1).length) c117 ((F_ComposeRelations ap bp).1) b64 (((F_s_ComposeRelations ap bp).1).length) c65 ((F_s_ComposeRelations ap bp).1) w277 (St.rdO (i := 4) hS280 rfl) (St.rdO (i := 5) hS280 rfl)) ?_)
                  rintro _ w325 ⟨rfl, he329⟩ a326 hE327; clear hE323
                  have hS328 := St.go hS280 he329; clear hS280
                  refine q_step (v := .bool (!(decide (((F_ComposeRelations ap bp).1) = ((F_s_ComposeRelations ap bp).1))))) hE327 (y_not rfl) rfl rfl rfl ?_; intro a330 hE331; clear hE327
                  refine q_step (v := .bool (!(decide (((F_ComposeRelations ap bp).1) = ((F_s_ComposeRelations ap bp).1))))) hE331 (y_pick (b := false) rfl rfl) rfl rfl rfl ?_; intro a332 hE333; clear hE331
                  refine q_step (v := .bool (!(decide (((F_ComposeRelations ap bp).1) = ((F_s_ComposeRelations ap bp).1))))) hE333 (y_move rfl) rfl rfl rfl ?_; intro a334 hE335; clear hE333
                  rcases Bool.eq_false_or_eq_true (!(decide (((F_ComposeRelations ap bp).1) = ((F_s_ComposeRelations ap bp).1)))) with hb336 | hb336
                  ·
                    have hE337 := hE335; rw [hb336] at hE337; clear hE335
                    have ht338 := bn_t hb336
                    have hp339 := of_decide_eq_false ht338
                    refine q_skip hE337 rfl rfl rfl ?_; intro a340 hE341; clear hE337
                    refine q_skip hE341 rfl rfl rfl ?_; intro a342 hE343; clear hE341
                    refine q_skip hE343 rfl rfl rfl ?_; intro a344 hE345; clear hE343
                    refine q_step (v := .bool true) hE345 (y_pick (b := true) rfl rfl) rfl rfl rfl ?_; intro a346 hE347; clear hE345
                    refine c_nil ?_
                    have hE348 := hE347.sub (L' := [(0, .slice apA ap.length apC), (1, .slice bpA bp.length bpC), (5, .slice b64 (((F_s_ComposeRelations ap bp).1).length) c65), (6, .int .i64 ((F_s_ComposeRelations ap bp).2)), (9, .slice b116 (((F_ComposeRelations ap bp).1).length) c117), (77, .bool true)]) ⟨rfl, rfl, rfl, rfl, rfl, rfl, trivial⟩; clear hE347
                    refine p_tn ?_
                    have hE349 := hE348.sub (L' := [(0, .slice apA ap.length apC), (1, .slice bpA bp.length bpC), (5, .slice b64 (((F_s_ComposeRelations ap bp).1).length) c65), (6, .int .i64 ((F_s_ComposeRelations ap bp).2)), (9, .slice b116 (((F_ComposeRelations ap bp).1).length) c117), (77, .bool true)]) ⟨rfl, rfl, rfl, rfl, rfl, rfl, trivial⟩
                    have hS350 := (St.pick (Γ' := [.own 2 1 b100 ((bp).length) c101 (marked bp.length (1 + (ap.length : Int))), .own 2 1 b86 ((ap).length) c87 (marked ap.length 1), .own 2 1 b233 ((bp).length) c234 bp, .own 2 1 b201 ((ap).length) c202 ap, .own 2 1 b116 (((F_ComposeRelations ap bp).1).length) c117 ((F_ComposeRelations ap bp).1), .own 2 1 b64 (((F_s_ComposeRelations ap bp).1).length) c65 ((F_s_ComposeRelations ap bp).1), .own 2 1 b55 ((bp).length) c56 bp, .own 2 1 b44 ((ap).length) c45 ap, .rd 1 bpA bp.length bpC bp, .rd 1 apA ap.length apC ap]) hS328 [0, 1, 2, 3, 4, 5, 6, 7, 8, 9] (by decide) rfl)
                    exact ⟨(by rw [hb336, hb292]; exact hE349), hS350⟩
                  ·
                    have hE351 := hE335; rw [hb336] at hE351; clear hE335
                    have ht352 := bn_f hb336
                    have hp353 := of_decide_eq_true ht352
                    refine q_step (v := .int .i64 ((F_ComposeRelations ap bp).2)) hE351 (y_move rfl) rfl rfl rfl ?_; intro a354 hE355; clear hE351
                    refine q_step (v := .int .i64 ((F_s_ComposeRelations ap bp).2)) hE355 (y_move rfl) rfl rfl rfl ?_; intro a356 hE357; clear hE355
                    refine q_step (v := .bool (!decide (((F_ComposeRelations ap bp).2) = ((F_s_ComposeRelations ap bp).2)))) hE357 (y_neq rfl rfl) rfl rfl rfl ?_; intro a358 hE359; clear hE357
                    refine q_step (v := .bool (!decide (((F_ComposeRelations ap bp).2) = ((F_s_ComposeRelations ap bp).2)))) hE359 (y_pick (b := false) rfl rfl) rfl rfl rfl ?_; intro a360 hE361; clear hE359
                    refine c_nil ?_
                    have hE362 := hE361.sub (L' := [(0, .slice apA ap.length apC), (1, .slice bpA bp.length bpC), (5, .slice b64 (((F_s_ComposeRelations ap bp).1).length) c65), (6, .int .i64 ((F_s_ComposeRelations ap bp).2)), (9, .slice b116 (((F_ComposeRelations ap bp).1).length) c117), (77, .bool (!decide (((F_ComposeRelations ap bp).2) = ((F_s_ComposeRelations ap bp).2))))]) ⟨rfl, rfl, rfl, rfl, rfl, rfl, trivial⟩; clear hE361
                    refine p_tn ?_
                    have hE363 := hE362.sub (L' := [(0, .slice apA ap.length apC), (1, .slice bpA bp.length bpC), (5, .slice b64 (((F_s_ComposeRelations ap bp).1).length) c65), (6, .int .i64 ((F_s_ComposeRelations ap bp).2)), (9, .slice b116 (((F_ComposeRelations ap bp).1).length) c117), (77, .bool (!decide (((F_ComposeRelations ap bp).2) = ((F_s_ComposeRelations ap bp).2))))]) ⟨rfl, rfl, rfl, rfl, rfl, rfl, trivial⟩
                    have hS364 := (St.pick (Γ' := [.own 2 1 b100 ((bp).length) c101 (marked bp.length (1 + (ap.length : Int))), .own 2 1 b86 ((ap).length) c87 (marked ap.length 1), .own 2 1 b233 ((bp).length) c234 bp, .own 2 1 b201 ((ap).length) c202 ap, .own 2 1 b116 (((F_ComposeRelations ap bp).1).length) c117 ((F_ComposeRelations ap bp).1), .own 2 1 b64 (((F_s_ComposeRelations ap bp).1).length) c65 ((F_s_ComposeRelations ap bp).1), .own 2 1 b55 ((bp).length) c56 bp, .own 2 1 b44 ((ap).length) c45 ap, .rd 1 bpA bp.length bpC bp, .rd 1 apA ap.length apC ap]) hS328 [0, 1, 2, 3, 4, 5, 6, 7, 8, 9] (by decide) rfl)
                    exact ⟨(by rw [hb336, hb292]; exact hE363), hS364⟩
              ·
                rintro a365 w366 ⟨hE367, hS368⟩; clear hE285 hS280
                refine c_cond hE367 rfl (fun ht370 => ?_) (fun ht370 => ?_)
                ·
                  have hE371 := hE367; rw [ht370] at hE371; clear hE367
                  refine c_seq ?_
                  refine c_reg ?_
                  refine q_step (v := .bool false) hE371 (y_assign rfl) rfl rfl rfl ?_; intro a372 hE373; clear hE371
                  refine c_nil ?_
                  have hE374 := hE373.sub (L' := [(4, .bool false)]) ⟨rfl, trivial⟩; clear hE373
                  refine p_tn ?_
                  refine wp_ret ?_
                  refine p_tr ?_
                  have hF : F_l_FnExactComposeRelations ap bp = false := by unfold F_l_FnExactComposeRelations; rw [ht370, ht245, ht213, ht179, ht28, ht13]; first | done | rfl
                  refine c_ret1 hE374 rfl rfl ?_
                  exact ⟨(by rw [hF]; first | done | rfl), hS368.ext⟩
                ·
                  obtain ⟨ht375, ht376⟩ := bor_f ht370
                  have hp377 := of_decide_eq_false ht375
                  obtain ⟨ht378, ht379⟩ := bor_f ht376
                  have ht380 := bn_f ht378
                  have hp381 := of_decide_eq_true ht380
                  have ht382 := bn_f ht379
                  have hp383 := of_decide_eq_true ht382
                  have hE384 := hE367; rw [ht370] at hE384; clear hE367
                  refine wp_skip ?_
                  refine p_tn ?_
                  refine c_seq ?_
                  refine c_reg ?_
                  refine q_step (v := .int .i64 1) hE384 (y_assign rfl) rfl rfl rfl ?_; intro a385 hE386; clear hE384
                  refine c_nil ?_
                  have hE387 := hE386.sub (L' := [(0, .slice apA ap.length apC), (1, .slice bpA bp.length bpC), (5, .slice b64 (((F_s_ComposeRelations ap bp).1).length) c65), (6, .int .i64 ((F_s_ComposeRelations ap bp).2)), (9, .slice b116 (((F_ComposeRelations ap bp).1).length) c117), (12, .int .i64 1)]) ⟨rfl, rfl, rfl, rfl, rfl, rfl, trivial⟩; clear hE386
                  refine p_tn ?_
                  refine c_seq ?_
                  refine c_reg ?_
                  refine q_step (v := .slice b116 (((F_ComposeRelations ap bp).1).length) c117) hE387 (y_move rfl) rfl rfl rfl ?_; intro a388 hE389; clear hE387
                  refine q_step (v := .int .i64 1) hE389 (y_move rfl) rfl rfl rfl ?_; intro a390 hE391; clear hE389
                  have hS398 := (St.pick (Γ' := [.own 2 1 b116 (((F_ComposeRelations ap bp).1).length) c117 ((F_ComposeRelations ap bp).1), .own 2 1 b100 ((bp).length) c101 (marked bp.length (1 + (ap.length : Int))), .own 2 1 b86 ((ap).length) c87 (marked ap.length 1), .own 2 1 b233 ((bp).length) c234 bp, .own 2 1 b201 ((ap).length) c202 ap, .own 2 1 b64 (((F_s_ComposeRelations ap bp).1).length) c65 ((F_s_ComposeRelations ap bp).1), .own 2 1 b55 ((bp).length) c56 bp, .own 2 1 b44 ((ap).length) c45 ap, .rd 1 bpA bp.length bpC bp, .rd 1 apA ap.length apC ap]) hS368 [4, 0, 1, 2, 3, 5, 6, 7, 8, 9] (by decide) rfl); clear hS368
                  refine l_step hE391 rfl (l_call (f := 18) (argv := [.slice b116 (((F_ComposeRelations ap bp).1).length) c117, .int .i64 1]) hE391 (fun _ => cf_l_markInt64S _ _) rfl rfl (d_l_markInt64S b116 (((F_ComposeRelations ap bp).1).length) c117 ((F_ComposeRelations ap bp).1) 1 w366 w [.own 2 1 b100 ((bp).length) c101 (marked bp.length (1 + (ap.length : Int))), .own 2 1 b86 ((ap).length) c87 (marked ap.length 1), .own 2 1 b233 ((bp).length) c234 bp, .own 2 1 b201 ((ap).length) c202 ap, .own 2 1 b64 (((F_s_ComposeRelations ap bp).1).length) c65 ((F_s_ComposeRelations ap bp).1), .own 2 1 b55 ((bp).length) c56 bp, .own 2 1 b44 ((ap).length) c45 ap, .rd 1 bpA bp.length bpC bp, .rd 1 apA ap.length apC ap] hS398 (by first | omega | (simp only [marked_len]; omega) | (simp only [marked_len] at *; omega)) (by first | omega | (simp only [marked_len]; omega) | (simp only [marked_len] at *; omega)) (by first | omega | (simp only [marked_len]; omega) | (simp only [marked_len] at *; omega))) ?_)
                  rintro _ w393 ⟨rfl, hS396⟩ a394 hE395; clear hE391 hS398
                  refine q_step (v := .int .i64 (1 + (((F_ComposeRelations ap bp).1).length : Int))) hE395 (y_assign rfl) rfl rfl rfl ?_; intro a399 hE400; clear hE395
                  refine c_nil ?_
                  have hE401 := hE400.sub (L' := [(0, .slice apA ap.length apC), (1, .slice bpA bp.length bpC), (5, .slice b64 (((F_s_ComposeRelations ap bp).1).length) c65), (6, .int .i64 ((F_s_ComposeRelations ap bp).2)), (9, .slice b116 (((F_ComposeRelations ap bp).1).length) c117), (12, .int .i64 (1 + (((F_ComposeRelations ap bp).1).length : Int)))]) ⟨rfl, rfl, rfl, rfl, rfl, rfl, trivial⟩; clear hE400
                  refine p_tn ?_
                  refine c_seq ?_
                  refine c_reg ?_
                  refine q_step (v := .int .i64 1) hE401 (y_assign rfl) rfl rfl rfl ?_; intro a402 hE403; clear hE401
                  refine c_nil ?_
                  have hE404 := hE403.sub (L' := [(0, .slice apA ap.length apC), (1, .slice bpA bp.length bpC), (5, .slice b64 (((F_s_ComposeRelations ap bp).1).length) c65), (6, .int .i64 ((F_s_ComposeRelations ap bp).2)), (9, .slice b116 (((F_ComposeRelations ap bp).1).length) c117), (12, .int .i64 (1 + (((F_ComposeRelations ap bp).1).length : Int))), (13, .int .i64 1)]) ⟨rfl, rfl, rfl, rfl, rfl, rfl, rfl, trivial⟩; clear hE403
                  refine p_tn ?_
                  refine c_seq ?_
                  refine c_reg ?_
                  refine q_step (v := .slice b116 (((F_ComposeRelations ap bp).1).length) c117) hE404 (y_move rfl) rfl rfl rfl ?_; intro a405 hE406; clear hE404
                  refine q_step (v := .int .i64 1) hE406 (y_move rfl) rfl rfl rfl ?_; intro a407 hE408; clear hE406
                  refine l_step hE408 rfl (l_call (f := 19) (argv := [.slice b116 (((F_ComposeRelations ap bp).1).length) c117, .int .i64 1]) hE408 (fun _ => cf_l_heldInt64S _ _) rfl rfl (c_l_heldInt64S b116 (((F_ComposeRelations ap bp).1).length) c117 (marked ((F_ComposeRelations ap bp).1).length 1) 1 w393 (St.rdO (i := 0) hS396 rfl) (by first | omega | (simp only [marked_len]; omega) | (simp only [marked_len] at *; omega)) (by first | omega | (simp only [marked_len]; omega) | (simp only [marked_len] at *; omega)) (by first | omega | (simp only [marked_len]; omega) | (simp only [marked_len] at *; omega))) ?_)
                  rintro _ w410 ⟨rfl, he414⟩ a411 hE412; clear hE408
                  have hS413 := St.go hS396 he414; clear hS396
                  refine q_step (v := .int .i64 (F_l_heldInt64S (marked ((F_ComposeRelations ap bp).1).length 1) 1)) hE412 (y_assign rfl) rfl rfl rfl ?_; intro a415 hE416; clear hE412
                  refine c_nil ?_
                  have hE417 := hE416.sub (L' := [(0, .slice apA ap.length apC), (1, .slice bpA bp.length bpC), (5, .slice b64 (((F_s_ComposeRelations ap bp).1).length) c65), (6, .int .i64 ((F_s_ComposeRelations ap bp).2)), (9, .slice b116 (((F_ComposeRelations ap bp).1).length) c117), (12, .int .i64 (1 + (((F_ComposeRelations ap bp).1).length : Int))), (13, .int .i64 (F_l_heldInt64S (marked ((F_ComposeRelations ap bp).1).length 1) 1))]) ⟨rfl, rfl, rfl, rfl, rfl, rfl, rfl, trivial⟩; clear hE416
                  refine p_tn ?_
                  refine c_seq ?_
                  refine c_seq ?_
                  refine c_reg ?_
                  refine q_step (v := .int .i64 (F_l_heldInt64S (marked ((F_ComposeRelations ap bp).1).length 1) 1)) hE417 (y_move rfl) rfl rfl rfl ?_; intro a418 hE419; clear hE417
                  refine q_step (v := .bool (decide ((F_l_heldInt64S (marked ((F_ComposeRelations ap bp).1).length 1) 1) < 0))) hE419 (y_lss rfl rfl) rfl rfl rfl ?_; intro a420 hE421; clear hE419
                  refine c_nil ?_
                  have hE422 := hE421.sub (L' := [(0, .slice apA ap.length apC), (1, .slice bpA bp.length bpC), (5, .slice b64 (((F_s_ComposeRelations ap bp).1).length) c65), (6, .int .i64 ((F_s_ComposeRelations ap bp).2)), (9, .slice b116 (((F_ComposeRelations ap bp).1).length) c117), (12, .int .i64 (1 + (((F_ComposeRelations ap bp).1).length : Int))), (13, .int .i64 (F_l_heldInt64S (marked ((F_ComposeRelations ap bp).1).length 1) 1)), (85, .bool (decide ((F_l_heldInt64S (marked ((F_ComposeRelations ap bp).1).length 1) 1) < 0)))]) ⟨rfl, rfl, rfl, rfl, rfl, rfl, rfl, rfl, trivial⟩; clear hE421
                  refine p_tn ?_
                  refine c_cond hE422 rfl (fun ht423 => ?_) (fun ht423 => ?_)
                  ·
                    have hp424 := of_decide_eq_true ht423
                    have hE425 := hE422; rw [ht423] at hE425; clear hE422
                    refine c_seq ?_
                    refine c_reg ?_
                    refine q_step (v := .bool false) hE425 (y_assign rfl) rfl rfl rfl ?_; intro a426 hE427; clear hE425
                    refine c_nil ?_
                    have hE428 := hE427.sub (L' := [(4, .bool false)]) ⟨rfl, trivial⟩; clear hE427
                    refine p_tn ?_
                    refine wp_ret ?_
                    refine p_tr ?_
                    have hF : F_l_FnExactComposeRelations ap bp = false := by unfold F_l_FnExactComposeRelations; rw [ht423, ht370, ht245, ht213, ht179, ht28, ht13]; first | done | rfl
                    refine c_ret1 hE428 rfl rfl ?_
                    exact ⟨(by rw [hF]; first | done | rfl), hS413.ext⟩
                  ·
                    have hp429 := of_decide_eq_false ht423
                    have hE430 := hE422; rw [ht423] at hE430; clear hE422
                    refine wp_skip ?_
                    refine p_tn ?_
                    refine c_seq ?_
                    refine c_seq ?_
                    refine c_reg ?_
                    refine q_step (v := .int .i64 (F_l_heldInt64S (marked ((F_ComposeRelations ap bp).1).length 1) 1)) hE430 (y_move rfl) rfl rfl rfl ?_; intro a431 hE432; clear hE430
                    refine q_step (v := .int .i64 (1 + (((F_ComposeRelations ap bp).1).length : Int))) hE432 (y_move rfl) rfl rfl rfl ?_; intro a433 hE434; clear hE432
                    refine q_step (v := .bool (!decide ((F_l_heldInt64S (marked ((F_ComposeRelations ap bp).1).length 1) 1) = (1 + (((F_ComposeRelations ap bp).1).length : Int))))) hE434 (y_neq rfl rfl) rfl rfl rfl ?_; intro a435 hE436; clear hE434
                    refine c_nil ?_
                    have hE437 := hE436.sub (L' := [(0, .slice apA ap.length apC), (1, .slice bpA bp.length bpC), (5, .slice b64 (((F_s_ComposeRelations ap bp).1).length) c65), (6, .int .i64 ((F_s_ComposeRelations ap bp).2)), (9, .slice b116 (((F_ComposeRelations ap bp).1).length) c117), (12, .int .i64 (1 + (((F_ComposeRelations ap bp).1).length : Int))), (88, .bool (!decide ((F_l_heldInt64S (marked ((F_ComposeRelations ap bp).1).length 1) 1) = (1 + (((F_ComposeRelations ap bp).1).length : Int)))))]) ⟨rfl, rfl, rfl, rfl, rfl, rfl, rfl, trivial⟩; clear hE436
                    refine p_tn ?_
                    refine c_cond hE437 rfl (fun ht438 => ?_) (fun ht438 => ?_)
                    ·
                      have ht439 := bn_t ht438
                      have hp440 := of_decide_eq_false ht439
                      have hE441 := hE437; rw [ht438] at hE441; clear hE437
                      refine c_seq ?_
                      refine c_reg ?_
                      refine q_step (v := .bool false) hE441 (y_assign rfl) rfl rfl rfl ?_; intro a442 hE443; clear hE441
                      refine c_nil ?_
                      have hE444 := hE443.sub (L' := [(4, .bool false)]) ⟨rfl, trivial⟩; clear hE443
                      refine p_tn ?_
                      refine wp_ret ?_
                      refine p_tr ?_
                      have hF : F_l_FnExactComposeRelations ap bp = false := by unfold F_l_FnExactComposeRelations; rw [ht438, ht423, ht370, ht245, ht213, ht179, ht28, ht13]; first | done | rfl
                      refine c_ret1 hE444 rfl rfl ?_
                      exact ⟨(by rw [hF]; first | done | rfl), hS413.ext⟩
                    ·
                      have ht445 := bn_f ht438
                      have hp446 := of_decide_eq_true ht445
                      have hE447 := hE437; rw [ht438] at hE447; clear hE437
                      refine wp_skip ?_
                      refine p_tn ?_
                      refine c_seq ?_
                      refine c_reg ?_
                      refine q_step (v := .slice apA ap.length apC) hE447 (y_move rfl) rfl rfl rfl ?_; intro a448 hE449; clear hE447
                      refine l_step hE449 rfl (l_call (f := 15) (argv := [.slice apA ap.length apC]) hE449 (fun _ => cf_l_toInt64S _ _) rfl rfl (d_l_toInt64S apA ap.length apC ap w410 (St.rdR (i := 9) hS413 rfl) (by first | omega | (simp only [marked_len]; omega) | (simp only [marked_len] at *; omega))) ?_)
                      rintro _ w451 ⟨b456, c457, rfl, ho458, he455⟩ a452 hE453; clear hE449
                      have hS454 := St.own hS413 he455 ho458; clear hS413
                      refine q_step (v := .slice bpA bp.length bpC) hE453 (y_move rfl) rfl rfl rfl ?_; intro a459 hE460; clear hE453
                      refine l_step hE460 rfl (l_call (f := 15) (argv := [.slice bpA bp.length bpC]) hE460 (fun _ => cf_l_toInt64S _ _) rfl rfl (d_l_toInt64S bpA bp.length bpC bp w451 (St.rdR (i := 9) hS454 rfl) (by first | omega | (simp only [marked_len]; omega) | (simp only [marked_len] at *; omega))) ?_)
                      rintro _ w462 ⟨b467, c468, rfl, ho469, he466⟩ a463 hE464; clear hE460
                      have hS465 := St.own hS454 he466 ho469; clear hS454
                      refine l_step hE464 rfl (l_call (f := 16) (argv := [.slice b456 ((ap).length) c457, .slice b467 ((bp).length) c468]) hE464 (fun _ => cf_ComposeRelations _ _) rfl rfl (c_ComposeRelations b456 ((ap).length) c457 ap b467 ((bp).length) c468 bp w462 (St.rdO (i := 1) hS465 rfl) (St.rdO (i := 0) hS465 rfl)) ?_)
                      rintro _ w471 ⟨b476, c477, rfl, ho478, he475⟩ a472 hE473; clear hE464
                      have hf479 := ComposeRelations_len ap bp
                      have hS474 := St.own hS465 he475 ho478; clear hS465
                      refine q_step (v := .tuple #[.slice b476 (((F_ComposeRelations ap bp).1).length) c477, .int .i64 ((F_ComposeRelations ap bp).2)]) hE473 (y_move rfl) rfl rfl rfl ?_; intro a480 hE481; clear hE473
                      refine q_step (v := .slice b476 (((F_ComposeRelations ap bp).1).length) c477) hE481 (y_extract rfl rfl) rfl rfl rfl ?_; intro a482 hE483; clear hE481
                      refine q_step (v := .int .i64 ((F_ComposeRelations ap bp).2)) hE483 (y_extract rfl rfl) rfl rfl rfl ?_; intro a484 hE485; clear hE483
                      refine q_step (v := .slice b476 (((F_ComposeRelations ap bp).1).length) c477) hE485 (y_assign rfl) rfl rfl rfl ?_; intro a486 hE487; clear hE485
                      refine q_step (v := .int .i64 ((F_ComposeRelations ap bp).2)) hE487 (y_assign rfl) rfl rfl rfl ?_; intro a488 hE489; clear hE487
                      refine c_nil ?_
                      have hE490 := hE489.sub (L' := [(5, .slice b64 (((F_s_ComposeRelations ap bp).1).length) c65), (6, .int .i64 ((F_s_ComposeRelations ap bp).2)), (9, .slice b116 (((F_ComposeRelations ap bp).1).length) c117), (12, .int .i64 (1 + (((F_ComposeRelations ap bp).1).length : Int))), (14, .slice b476 (((F_ComposeRelations ap bp).1).length) c477), (15, .int .i64 ((F_ComposeRelations ap bp).2))]) ⟨rfl, rfl, rfl, rfl, rfl, rfl, trivial⟩; clear hE489
                      refine p_tn ?_
                      refine c_seq ?_
                      refine c_cut (fun a' w' => E a' 114 [(9, .slice b116 (((F_ComposeRelations ap bp).1).length) c117), (12, .int .i64 (1 + (((F_ComposeRelations ap bp).1).length : Int))), (105, .bool ((!(decide (((F_ComposeRelations ap bp).1) = ((F_s_ComposeRelations ap bp).1)))) || (!decide (((F_ComposeRelations ap bp).2) = ((F_s_ComposeRelations ap bp).2)))))] ∧ St w w' [.own 2 1 b476 (((F_ComposeRelations ap bp).1).length) c477 ((F_ComposeRelations ap bp).1), .own 2 1 b467 ((bp).length) c468 bp, .own 2 1 b456 ((ap).length) c457 ap, .own 2 1 b116 (((F_ComposeRelations ap bp).1).length) c117 (marked ((F_ComposeRelations ap bp).1).length 1), .own 2 1 b100 ((bp).length) c101 (marked bp.length (1 + (ap.length : Int))), .own 2 1 b86 ((ap).length) c87 (marked ap.length 1), .own 2 1 b233 ((bp).length) c234 bp, .own 2 1 b201 ((ap).length) c202 ap, .own 2 1 b64 (((F_s_ComposeRelations ap bp).1).length) c65 ((F_s_ComposeRelations ap bp).1), .own 2 1 b55 ((bp).length) c56 bp, .own 2 1 b44 ((ap).length) c45 ap, .rd 1 bpA bp.length bpC bp, .rd 1 apA ap.length apC ap]) ?_ ?_
                      ·
                        refine c_reg ?_
                        refine q_step (v := .slice b476 (((F_ComposeRelations ap bp).1).length) c477) hE490 (y_move rfl) rfl rfl rfl ?_; intro a491 hE492; clear hE490
                        refine q_step (v := .slice b64 (((F_s_ComposeRelations ap bp).1).length) c65) hE492 (y_move rfl) rfl rfl rfl ?_; intro a493 hE494; clear hE492
                        refine l_step hE494 rfl (l_call (f := 17) (argv := [.slice b476 (((F_ComposeRelations ap bp).1).length) c477, .slice b64 (((F_s_ComposeRelations ap bp).1).length) c65]) hE494 (fun _ => cf_l_eqInt64S _ _) rfl rfl (d_l_eqInt64S b476 (((F_ComposeRelations ap bp).1).length) c477 ((F_ComposeRelations ap bp).1) b64 (((F_s_ComposeRelations ap bp).1).length) c65 ((F_s_ComposeRelations ap bp).1) w471 (St.rdO (i := 0) hS474 rfl) (St.rdO (i := 8) hS474 rfl)) ?_)
                        rintro _ w496 ⟨rfl, he500⟩ a497 hE498; clear hE494
                        have hS499 := St.go hS474 he500; clear hS474
                        refine q_step (v := .bool (!(decide (((F_ComposeRelations ap bp).1) = ((F_s_ComposeRelations ap bp).1))))) hE498 (y_not rfl) rfl rfl rfl ?_; intro a501 hE502; clear hE498
                        refine q_step (v := .bool (!(decide (((F_ComposeRelations ap bp).1) = ((F_s_ComposeRelations ap bp).1))))) hE502 (y_move rfl) rfl rfl rfl ?_; intro a503 hE504; clear hE502
                        rcases Bool.eq_false_or_eq_true (!(decide (((F_ComposeRelations ap bp).1) = ((F_s_ComposeRelations ap bp).1)))) with hb505 | hb505
                        ·
                          have hE506 := hE504; rw [hb505] at hE506; clear hE504
                          have ht507 := bn_t hb505
                          have hp508 := of_decide_eq_false ht507
                          refine q_skip hE506 rfl rfl rfl ?_; intro a509 hE510; clear hE506
                          refine q_skip hE510 rfl rfl rfl ?_; intro a511 hE512; clear hE510
                          refine q_skip hE512 rfl rfl rfl ?_; intro a513 hE514; clear hE512
                          refine q_step (v := .bool true) hE514 (y_pick (b := true) rfl rfl) rfl rfl rfl ?_; intro a515 hE516; clear hE514
                          refine c_nil ?_
                          have hE517 := hE516.sub (L' := [(9, .slice b116 (((F_ComposeRelations ap bp).1).length) c117), (12, .int .i64 (1 + (((F_ComposeRelations ap bp).1).length : Int))), (105, .bool true)]) ⟨rfl, rfl, rfl, trivial⟩; clear hE516
                          refine p_tn ?_
                          have hE518 := hE517.sub (L' := [(9, .slice b116 (((F_ComposeRelations ap bp).1).length) c117), (12, .int .i64 (1 + (((F_ComposeRelations ap bp).1).length : Int))), (105, .bool true)]) ⟨rfl, rfl, rfl, trivial⟩
                          have hS519 := (St.pick (Γ' := [.own 2 1 b476 (((F_ComposeRelations ap bp).1).length) c477 ((F_ComposeRelations ap bp).1), .own 2 1 b467 ((bp).length) c468 bp, .own 2 1 b456 ((ap).length) c457 ap, .own 2 1 b116 (((F_ComposeRelations ap bp).1).length) c117 (marked ((F_ComposeRelations ap bp).1).length 1), .own 2 1 b100 ((bp).length) c101 (marked bp.length (1 + (ap.length : Int))), .own 2 1 b86 ((ap).length) c87 (marked ap.length 1), .own 2 1 b233 ((bp).length) c234 bp, .own 2 1 b201 ((ap).length) c202 ap, .own 2 1 b64 (((F_s_ComposeRelations ap bp).1).length) c65 ((F_s_ComposeRelations ap bp).1), .own 2 1 b55 ((bp).length) c56 bp, .own 2 1 b44 ((ap).length) c45 ap, .rd 1 bpA bp.length bpC bp, .rd 1 apA ap.length apC ap]) hS499 [0, 1, 2, 3, 4, 5, 6, 7, 8, 9, 10, 11, 12] (by decide) rfl)
                          exact ⟨(by rw [hb505]; exact hE518), hS519⟩
                        ·
                          have hE520 := hE504; rw [hb505] at hE520; clear hE504
                          have ht521 := bn_f hb505
                          have hp522 := of_decide_eq_true ht521
                          refine q_step (v := .int .i64 ((F_ComposeRelations ap bp).2)) hE520 (y_move rfl) rfl rfl rfl ?_; intro a523 hE524; clear hE520
                          refine q_step (v := .int .i64 ((F_s_ComposeRelations ap bp).2)) hE524 (y_move rfl) rfl rfl rfl ?_; intro a525 hE526; clear hE524
                          refine q_step (v := .bool (!decide (((F_ComposeRelations ap bp).2) = ((F_s_ComposeRelations ap bp).2)))) hE526 (y_neq rfl rfl) rfl rfl rfl ?_; intro a527 hE528; clear hE526
                          refine q_step (v := .bool (!decide (((F_ComposeRelations ap bp).2) = ((F_s_ComposeRelations ap bp).2)))) hE528 (y_pick (b := false) rfl rfl) rfl rfl rfl ?_; intro a529 hE530; clear hE528
                          refine c_nil ?_
                          have hE531 := hE530.sub (L' := [(9, .slice b116 (((F_ComposeRelations ap bp).1).length) c117), (12, .int .i64 (1 + (((F_ComposeRelations ap bp).1).length : Int))), (105, .bool (!decide (((F_ComposeRelations ap bp).2) = ((F_s_ComposeRelations ap bp).2))))]) ⟨rfl, rfl, rfl, trivial⟩; clear hE530
                          refine p_tn ?_
                          have hE532 := hE531.sub (L' := [(9, .slice b116 (((F_ComposeRelations ap bp).1).length) c117), (12, .int .i64 (1 + (((F_ComposeRelations ap bp).1).length : Int))), (105, .bool (!decide (((F_ComposeRelations ap bp).2) = ((F_s_ComposeRelations ap bp).2))))]) ⟨rfl, rfl, rfl, trivial⟩
                          have hS533 := (St.pick (Γ' := [.own 2 1 b476 (((F_ComposeRelations ap bp).1).length) c477 ((F_ComposeRelations ap bp).1), .own 2 1 b467 ((bp).length) c468 bp, .own 2 1 b456 ((ap).length) c457 ap, .own 2 1 b116 (((F_ComposeRelations ap bp).1).length) c117 (marked ((F_ComposeRelations ap bp).1).length 1), .own 2 1 b100 ((bp).length) c101 (marked bp.length (1 + (ap.length : Int))), .own 2 1 b86 ((ap).length) c87 (marked ap.length 1), .own 2 1 b233 ((bp).length) c234 bp, .own 2 1 b201 ((ap).length) c202 ap, .own 2 1 b64 (((F_s_ComposeRelations ap bp).1).length) c65 ((F_s_ComposeRelations ap bp).1), .own 2 1 b55 ((bp).length) c56 bp, .own 2 1 b44 ((ap).length) c45 ap, .rd 1 bpA bp.length bpC bp, .rd 1 apA ap.length apC ap]) hS499 [0, 1, 2, 3, 4, 5, 6, 7, 8, 9, 10, 11, 12] (by decide) rfl)
                          exact ⟨(by rw [hb505]; exact hE532), hS533⟩
                      ·
                        rintro a534 w535 ⟨hE536, hS537⟩; clear hE490 hS474
                        have hE539 := hE536; rw [ht179] at hE539; clear hE536
                        refine c_false hE539 rfl ?_
                        refine wp_skip ?_
                        refine p_tn ?_
                        refine c_seq ?_
                        refine c_reg ?_
                        refine q_step (v := .int .i64 1) hE539 (y_assign rfl) rfl rfl rfl ?_; intro a540 hE541; clear hE539
                        refine c_nil ?_
                        have hE542 := hE541.sub (L' := [(9, .slice b116 (((F_ComposeRelations ap bp).1).length) c117), (12, .int .i64 (1 + (((F_ComposeRelations ap bp).1).length : Int))), (13, .int .i64 1)]) ⟨rfl, rfl, rfl, trivial⟩; clear hE541
                        refine p_tn ?_
                        refine c_seq ?_
                        refine c_reg ?_
                        refine q_step (v := .slice b116 (((F_ComposeRelations ap bp).1).length) c117) hE542 (y_move rfl) rfl rfl rfl ?_; intro a543 hE544; clear hE542
                        refine q_step (v := .int .i64 1) hE544 (y_move rfl) rfl rfl rfl ?_; intro a545 hE546; clear hE544
                        refine l_step hE546 rfl (l_call (f := 19) (argv := [.slice b116 (((F_ComposeRelations ap bp).1).length) c117, .int .i64 1]) hE546 (fun _ => cf_l_heldInt64S _ _) rfl rfl (c_l_heldInt64S b116 (((F_ComposeRelations ap bp).1).length) c117 (marked ((F_ComposeRelations ap bp).1).length 1) 1 w535 (St.rdO (i := 3) hS537 rfl) (by first | omega | (simp only [marked_len]; omega) | (simp only [marked_len] at *; omega)) (by first | omega | (simp only [marked_len]; omega) | (simp only [marked_len] at *; omega)) (by first | omega | (simp only [marked_len]; omega) | (simp only [marked_len] at *; omega))) ?_)
                        rintro _ w548 ⟨rfl, he552⟩ a549 hE550; clear hE546
                        have hS551 := St.go hS537 he552; clear hS537
                        refine q_step (v := .int .i64 (F_l_heldInt64S (marked ((F_ComposeRelations ap bp).1).length 1) 1)) hE550 (y_assign rfl) rfl rfl rfl ?_; intro a553 hE554; clear hE550
                        refine c_nil ?_
                        have hE555 := hE554.sub (L' := [(12, .int .i64 (1 + (((F_ComposeRelations ap bp).1).length : Int))), (13, .int .i64 (F_l_heldInt64S (marked ((F_ComposeRelations ap bp).1).length 1) 1))]) ⟨rfl, rfl, trivial⟩; clear hE554
                        refine p_tn ?_
                        refine c_seq ?_
                        refine c_seq ?_
                        refine c_reg ?_
                        refine q_step (v := .int .i64 (F_l_heldInt64S (marked ((F_ComposeRelations ap bp).1).length 1) 1)) hE555 (y_move rfl) rfl rfl rfl ?_; intro a556 hE557; clear hE555
                        refine q_step (v := .bool (decide ((F_l_heldInt64S (marked ((F_ComposeRelations ap bp).1).length 1) 1) < 0))) hE557 (y_lss rfl rfl) rfl rfl rfl ?_; intro a558 hE559; clear hE557
                        refine c_nil ?_
                        have hE560 := hE559.sub (L' := [(12, .int .i64 (1 + (((F_ComposeRelations ap bp).1).length : Int))), (13, .int .i64 (F_l_heldInt64S (marked ((F_ComposeRelations ap bp).1).length 1) 1)), (110, .bool (decide ((F_l_heldInt64S (marked ((F_ComposeRelations ap bp).1).length 1) 1) < 0)))]) ⟨rfl, rfl, rfl, trivial⟩; clear hE559
                        refine p_tn ?_
                        have hE561 := hE560; rw [ht423] at hE561; clear hE560
                        refine c_false hE561 rfl ?_
                        refine wp_skip ?_
                        refine p_tn ?_
                        refine c_seq ?_
                        refine c_seq ?_
                        refine c_reg ?_
                        refine q_step (v := .int .i64 (F_l_heldInt64S (marked ((F_ComposeRelations ap bp).1).length 1) 1)) hE561 (y_move rfl) rfl rfl rfl ?_; intro a562 hE563; clear hE561
                        refine q_step (v := .int .i64 (1 + (((F_ComposeRelations ap bp).1).length : Int))) hE563 (y_move rfl) rfl rfl rfl ?_; intro a564 hE565; clear hE563
                        refine q_step (v := .bool (!decide ((F_l_heldInt64S (marked ((F_ComposeRelations ap bp).1).length 1) 1) = (1 + (((F_ComposeRelations ap bp).1).length : Int))))) hE565 (y_neq rfl rfl) rfl rfl rfl ?_; intro a566 hE567; clear hE565
                        refine c_nil ?_
                        have hE568 := hE567.sub (L' := [(113, .bool (!decide ((F_l_heldInt64S (marked ((F_ComposeRelations ap bp).1).length 1) 1) = (1 + (((F_ComposeRelations ap bp).1).length : Int)))))]) ⟨rfl, trivial⟩; clear hE567
                        refine p_tn ?_
                        have hE569 := hE568; rw [ht438] at hE569; clear hE568
                        refine c_false hE569 rfl ?_
                        refine wp_skip ?_
                        refine p_tn ?_
                        refine c_seq ?_
                        refine c_reg ?_
                        refine q_step (v := .bool true) hE569 (y_assign rfl) rfl rfl rfl ?_; intro a570 hE571; clear hE569
                        refine c_nil ?_
                        have hE572 := hE571.sub (L' := [(4, .bool true)]) ⟨rfl, trivial⟩; clear hE571
                        refine p_tn ?_
                        refine wp_ret ?_
                        have hF : F_l_FnExactComposeRelations ap bp = true := by unfold F_l_FnExactComposeRelations; rw [ht438, ht423, ht370, ht245, ht213, ht179, ht28, ht13]; first | done | rfl
                        refine c_ret1 hE572 rfl rfl ?_
                        exact ⟨(by rw [hF]; first | done | rfl), hS551.ext⟩

theorem FnExactComposeRelations_true (ap bp : List Int) : F_l_FnExactComposeRelations ap bp = true := by
  unfold F_l_FnExactComposeRelations
  rw [ComposeRelations_eq]
  simp [markI_eq, heldI_eq]
  omega


end Go.Proofs.Ytkilkfhjfobcdaa
