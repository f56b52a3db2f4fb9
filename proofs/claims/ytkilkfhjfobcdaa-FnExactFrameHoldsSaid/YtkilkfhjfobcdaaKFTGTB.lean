/- GTB: models and contracts, printed by wip/gen/gen.py -/
import Derived.Test.YtkilkfhjfobcdaaKFTGC
import Derived.Test.YtkilkfhjfobcdaaKFTShare
set_option linter.unusedVariables false
set_option linter.unusedSimpArgs false
namespace Go.Proofs.Ytkilkfhjfobcdaa
open Go.RowKit
def F_l10Parts (kind : Int) : Int :=
  bif ((decide (kind = 0)) || ((decide (kind = 1)) || ((decide (kind = 2)) || (decide (kind = 3))))) then 0 else (bif ((decide (kind = 4)) || ((decide (kind = 5)) || (decide (kind = 6)))) then 2 else (bif ((decide (kind = 7)) || (decide (kind = 8))) then 1 else (-1)))
theorem cf_l10Parts (args : Array Value) (w : World) : (callFunc 161 args).run Try.prog w = .ok (.enter 161 args) w := by kernel_rfl
set_option maxRecDepth 100000 in
theorem c_l10Parts (kind : Int) (w : World) :
    Calls Try.prog 161 #[.int .i64 kind] w (Ret fun v w' => v = .int .i64 (F_l10Parts kind) ∧ w = w') := by
  have hS := St.nil w
  refine enter (args := [.int .i64 kind]) Try.func161 rfl rfl ?_
  rw [Try.ntmps161]; intro a hE
  have hE := hE.sub (L' := [(0, .int .i64 kind)]) ⟨rfl, trivial⟩
  refine c_seq ?_
  refine c_reg ?_
  refine q_step (v := .int .i64 0) hE (y_assign rfl) rfl rfl rfl ?_; intro a1 hE2; clear hE
  refine c_nil ?_
  have hE3 := hE2.sub (L' := [(0, .int .i64 kind)]) ⟨rfl, trivial⟩; clear hE2
  refine p_tn ?_
  refine c_seq ?_
  refine c_seq ?_
  refine c_reg ?_
  refine q_step (v := .int .i64 kind) hE3 (y_move rfl) rfl rfl rfl ?_; intro a4 hE5; clear hE3
  refine c_nil ?_
  have hE6 := hE5.sub (L' := [(3, .int .i64 kind)]) ⟨rfl, trivial⟩; clear hE5
  refine p_tn ?_
  refine wp_block ?_
  refine c_cut (fun a' w' => w = w' ∧ E a' 16 [(3, .int .i64 kind), (4, .bool ((decide (kind = 0)) || ((decide (kind = 1)) || ((decide (kind = 2)) || (decide (kind = 3))))))]) ?_ ?_
  ·
   refine c_seq ?_
   refine c_reg ?_
   refine q_step (v := .bool (decide (kind = 0))) hE6 (y_eql rfl rfl) rfl rfl rfl ?_; intro a7 hE8; clear hE6
   refine q_step (v := .bool (decide (kind = 0))) hE8 (y_assign rfl) rfl rfl rfl ?_; intro a9 hE10; clear hE8
   refine c_nil ?_
   have hE11 := hE10.sub (L' := [(3, .int .i64 kind), (4, .bool (decide (kind = 0)))]) ⟨rfl, rfl, trivial⟩; clear hE10
   refine p_tn ?_
   refine c_cond hE11 rfl (fun ht12 => ?_) (fun ht12 => ?_)
   ·
    have hp13 := of_decide_eq_true ht12
    have hE14 := hE11; rw [ht12] at hE14; clear hE11
    refine wp_skip ?_
    refine p_tn ?_
    have hE15 := hE14.sub (L' := [(3, .int .i64 kind), (4, .bool true)]) ⟨rfl, rfl, trivial⟩
    exact ⟨rfl, (by rw [ht12]; exact hE15)⟩
   ·
    have hp16 := of_decide_eq_false ht12
    have hE17 := hE11; rw [ht12] at hE17; clear hE11
    refine c_seq ?_
    refine c_reg ?_
    refine q_step (v := .bool (decide (kind = 1))) hE17 (y_eql rfl rfl) rfl rfl rfl ?_; intro a18 hE19; clear hE17
    refine q_step (v := .bool (decide (kind = 1))) hE19 (y_assign rfl) rfl rfl rfl ?_; intro a20 hE21; clear hE19
    refine c_nil ?_
    have hE22 := hE21.sub (L' := [(3, .int .i64 kind), (4, .bool (decide (kind = 1)))]) ⟨rfl, rfl, trivial⟩; clear hE21
    refine p_tn ?_
    refine c_cond hE22 rfl (fun ht23 => ?_) (fun ht23 => ?_)
    ·
     have hp24 := of_decide_eq_true ht23
     have hE25 := hE22; rw [ht23] at hE25; clear hE22
     refine wp_skip ?_
     refine p_tn ?_
     have hE26 := hE25.sub (L' := [(3, .int .i64 kind), (4, .bool true)]) ⟨rfl, rfl, trivial⟩
     exact ⟨rfl, (by rw [ht23, ht12]; exact hE26)⟩
    ·
     have hp27 := of_decide_eq_false ht23
     have hE28 := hE22; rw [ht23] at hE28; clear hE22
     refine c_seq ?_
     refine c_reg ?_
     refine q_step (v := .bool (decide (kind = 2))) hE28 (y_eql rfl rfl) rfl rfl rfl ?_; intro a29 hE30; clear hE28
     refine q_step (v := .bool (decide (kind = 2))) hE30 (y_assign rfl) rfl rfl rfl ?_; intro a31 hE32; clear hE30
     refine c_nil ?_
     have hE33 := hE32.sub (L' := [(3, .int .i64 kind), (4, .bool (decide (kind = 2)))]) ⟨rfl, rfl, trivial⟩; clear hE32
     refine p_tn ?_
     refine c_cond hE33 rfl (fun ht34 => ?_) (fun ht34 => ?_)
     ·
      have hp35 := of_decide_eq_true ht34
      have hE36 := hE33; rw [ht34] at hE36; clear hE33
      refine wp_skip ?_
      refine p_tn ?_
      have hE37 := hE36.sub (L' := [(3, .int .i64 kind), (4, .bool true)]) ⟨rfl, rfl, trivial⟩
      exact ⟨rfl, (by rw [ht34, ht23, ht12]; exact hE37)⟩
     ·
      have hp38 := of_decide_eq_false ht34
      have hE39 := hE33; rw [ht34] at hE39; clear hE33
      refine c_reg ?_
      refine q_step (v := .bool (decide (kind = 3))) hE39 (y_eql rfl rfl) rfl rfl rfl ?_; intro a40 hE41; clear hE39
      refine q_step (v := .bool (decide (kind = 3))) hE41 (y_assign rfl) rfl rfl rfl ?_; intro a42 hE43; clear hE41
      refine c_nil ?_
      have hE44 := hE43.sub (L' := [(3, .int .i64 kind), (4, .bool (decide (kind = 3)))]) ⟨rfl, rfl, trivial⟩; clear hE43
      refine p_tn ?_
      have hE45 := hE44.sub (L' := [(3, .int .i64 kind), (4, .bool (decide (kind = 3)))]) ⟨rfl, rfl, trivial⟩
      exact ⟨rfl, (by rw [ht34, ht23, ht12]; exact hE45)⟩
  ·
   rintro a46 _ ⟨rfl, hE48⟩; clear hE6
   refine c_cond hE48 rfl (fun ht51 => ?_) (fun ht51 => ?_)
   ·
    have hE52 := hE48; rw [ht51] at hE52; clear hE48
    refine c_seq ?_
    refine c_reg ?_
    refine q_step (v := .int .i64 0) hE52 (y_assign rfl) rfl rfl rfl ?_; intro a53 hE54; clear hE52
    refine c_nil ?_
    have hE55 := hE54.sub (L' := [(2, .int .i64 0)]) ⟨rfl, trivial⟩; clear hE54
    refine p_tn ?_
    refine wp_ret ?_
    refine p_br ?_
    refine p_tr ?_
    have hF : F_l10Parts kind = 0 := by unfold F_l10Parts; rw [ht51]; first | done | rfl
    refine c_ret1 hE55 rfl rfl ?_
    exact ⟨(by rw [hF]; first | done | (dsimp only; done) | rfl), rfl⟩
   ·
    obtain ⟨ht56, ht57⟩ := bor_f ht51
    have hp58 := of_decide_eq_false ht56
    obtain ⟨ht59, ht60⟩ := bor_f ht57
    have hp61 := of_decide_eq_false ht59
    obtain ⟨ht62, ht63⟩ := bor_f ht60
    have hp64 := of_decide_eq_false ht62
    have hp65 := of_decide_eq_false ht63
    have hE66 := hE48; rw [ht51] at hE66; clear hE48
    refine c_cut (fun a' w' => w = w' ∧ E a' 16 [(3, .int .i64 kind), (9, .bool ((decide (kind = 4)) || ((decide (kind = 5)) || (decide (kind = 6)))))]) ?_ ?_
    ·
     refine c_seq ?_
     refine c_reg ?_
     refine q_step (v := .bool (decide (kind = 4))) hE66 (y_eql rfl rfl) rfl rfl rfl ?_; intro a67 hE68; clear hE66
     refine q_step (v := .bool (decide (kind = 4))) hE68 (y_assign rfl) rfl rfl rfl ?_; intro a69 hE70; clear hE68
     refine c_nil ?_
     have hE71 := hE70.sub (L' := [(3, .int .i64 kind), (9, .bool (decide (kind = 4)))]) ⟨rfl, rfl, trivial⟩; clear hE70
     refine p_tn ?_
     refine c_cond hE71 rfl (fun ht72 => ?_) (fun ht72 => ?_)
     ·
      have hp73 := of_decide_eq_true ht72
      have hE74 := hE71; rw [ht72] at hE74; clear hE71
      refine wp_skip ?_
      refine p_tn ?_
      have hE75 := hE74.sub (L' := [(3, .int .i64 kind), (9, .bool true)]) ⟨rfl, rfl, trivial⟩
      exact ⟨rfl, (by rw [ht72]; exact hE75)⟩
     ·
      have hp76 := of_decide_eq_false ht72
      have hE77 := hE71; rw [ht72] at hE77; clear hE71
      refine c_seq ?_
      refine c_reg ?_
      refine q_step (v := .bool (decide (kind = 5))) hE77 (y_eql rfl rfl) rfl rfl rfl ?_; intro a78 hE79; clear hE77
      refine q_step (v := .bool (decide (kind = 5))) hE79 (y_assign rfl) rfl rfl rfl ?_; intro a80 hE81; clear hE79
      refine c_nil ?_
      have hE82 := hE81.sub (L' := [(3, .int .i64 kind), (9, .bool (decide (kind = 5)))]) ⟨rfl, rfl, trivial⟩; clear hE81
      refine p_tn ?_
      refine c_cond hE82 rfl (fun ht83 => ?_) (fun ht83 => ?_)
      ·
       have hp84 := of_decide_eq_true ht83
       have hE85 := hE82; rw [ht83] at hE85; clear hE82
       refine wp_skip ?_
       refine p_tn ?_
       have hE86 := hE85.sub (L' := [(3, .int .i64 kind), (9, .bool true)]) ⟨rfl, rfl, trivial⟩
       exact ⟨rfl, (by rw [ht83, ht72]; exact hE86)⟩
      ·
       have hp87 := of_decide_eq_false ht83
       have hE88 := hE82; rw [ht83] at hE88; clear hE82
       refine c_reg ?_
       refine q_step (v := .bool (decide (kind = 6))) hE88 (y_eql rfl rfl) rfl rfl rfl ?_; intro a89 hE90; clear hE88
       refine q_step (v := .bool (decide (kind = 6))) hE90 (y_assign rfl) rfl rfl rfl ?_; intro a91 hE92; clear hE90
       refine c_nil ?_
       have hE93 := hE92.sub (L' := [(3, .int .i64 kind), (9, .bool (decide (kind = 6)))]) ⟨rfl, rfl, trivial⟩; clear hE92
       refine p_tn ?_
       have hE94 := hE93.sub (L' := [(3, .int .i64 kind), (9, .bool (decide (kind = 6)))]) ⟨rfl, rfl, trivial⟩
       exact ⟨rfl, (by rw [ht83, ht72]; exact hE94)⟩
    ·
     rintro a95 _ ⟨rfl, hE97⟩; clear hE66
     refine c_cond hE97 rfl (fun ht100 => ?_) (fun ht100 => ?_)
     ·
      have hE101 := hE97; rw [ht100] at hE101; clear hE97
      refine c_seq ?_
      refine c_reg ?_
      refine q_step (v := .int .i64 2) hE101 (y_assign rfl) rfl rfl rfl ?_; intro a102 hE103; clear hE101
      refine c_nil ?_
      have hE104 := hE103.sub (L' := [(2, .int .i64 2)]) ⟨rfl, trivial⟩; clear hE103
      refine p_tn ?_
      refine wp_ret ?_
      refine p_br ?_
      refine p_tr ?_
      have hF : F_l10Parts kind = 2 := by unfold F_l10Parts; rw [ht100, ht51]; first | done | rfl
      refine c_ret1 hE104 rfl rfl ?_
      exact ⟨(by rw [hF]; first | done | (dsimp only; done) | rfl), rfl⟩
     ·
      obtain ⟨ht105, ht106⟩ := bor_f ht100
      have hp107 := of_decide_eq_false ht105
      obtain ⟨ht108, ht109⟩ := bor_f ht106
      have hp110 := of_decide_eq_false ht108
      have hp111 := of_decide_eq_false ht109
      have hE112 := hE97; rw [ht100] at hE112; clear hE97
      refine c_cut (fun a' w' => w = w' ∧ E a' 16 [(13, .bool ((decide (kind = 7)) || (decide (kind = 8))))]) ?_ ?_
      ·
       refine c_seq ?_
       refine c_reg ?_
       refine q_step (v := .bool (decide (kind = 7))) hE112 (y_eql rfl rfl) rfl rfl rfl ?_; intro a113 hE114; clear hE112
       refine q_step (v := .bool (decide (kind = 7))) hE114 (y_assign rfl) rfl rfl rfl ?_; intro a115 hE116; clear hE114
       refine c_nil ?_
       have hE117 := hE116.sub (L' := [(3, .int .i64 kind), (13, .bool (decide (kind = 7)))]) ⟨rfl, rfl, trivial⟩; clear hE116
       refine p_tn ?_
       refine c_cond hE117 rfl (fun ht118 => ?_) (fun ht118 => ?_)
       ·
        have hp119 := of_decide_eq_true ht118
        have hE120 := hE117; rw [ht118] at hE120; clear hE117
        refine wp_skip ?_
        refine p_tn ?_
        have hE121 := hE120.sub (L' := [(13, .bool true)]) ⟨rfl, trivial⟩
        exact ⟨rfl, (by rw [ht118]; exact hE121)⟩
       ·
        have hp122 := of_decide_eq_false ht118
        have hE123 := hE117; rw [ht118] at hE123; clear hE117
        refine c_reg ?_
        refine q_step (v := .bool (decide (kind = 8))) hE123 (y_eql rfl rfl) rfl rfl rfl ?_; intro a124 hE125; clear hE123
        refine q_step (v := .bool (decide (kind = 8))) hE125 (y_assign rfl) rfl rfl rfl ?_; intro a126 hE127; clear hE125
        refine c_nil ?_
        have hE128 := hE127.sub (L' := [(13, .bool (decide (kind = 8)))]) ⟨rfl, trivial⟩; clear hE127
        refine p_tn ?_
        have hE129 := hE128.sub (L' := [(13, .bool (decide (kind = 8)))]) ⟨rfl, trivial⟩
        exact ⟨rfl, (by rw [ht118]; exact hE129)⟩
      ·
       rintro a130 _ ⟨rfl, hE132⟩; clear hE112
       refine c_cond hE132 rfl (fun ht135 => ?_) (fun ht135 => ?_)
       ·
        have hE136 := hE132; rw [ht135] at hE136; clear hE132
        refine c_seq ?_
        refine c_reg ?_
        refine q_step (v := .int .i64 1) hE136 (y_assign rfl) rfl rfl rfl ?_; intro a137 hE138; clear hE136
        refine c_nil ?_
        have hE139 := hE138.sub (L' := [(2, .int .i64 1)]) ⟨rfl, trivial⟩; clear hE138
        refine p_tn ?_
        refine wp_ret ?_
        refine p_br ?_
        refine p_tr ?_
        have hF : F_l10Parts kind = 1 := by unfold F_l10Parts; rw [ht135, ht100, ht51]; first | done | rfl
        refine c_ret1 hE139 rfl rfl ?_
        exact ⟨(by rw [hF]; first | done | (dsimp only; done) | rfl), rfl⟩
       ·
        obtain ⟨ht140, ht141⟩ := bor_f ht135
        have hp142 := of_decide_eq_false ht140
        have hp143 := of_decide_eq_false ht141
        have hE144 := hE132; rw [ht135] at hE144; clear hE132
        refine wp_skip ?_
        refine p_bn ?_
        refine p_tn ?_
        refine c_seq ?_
        refine c_reg ?_
        refine q_step (v := .int .i64 (-1)) hE144 (y_assign rfl) rfl rfl rfl ?_; intro a145 hE146; clear hE144
        refine c_nil ?_
        have hE147 := hE146.sub (L' := [(2, .int .i64 (-1))]) ⟨rfl, trivial⟩; clear hE146
        refine p_tn ?_
        refine wp_ret ?_
        have hF : F_l10Parts kind = -1 := by unfold F_l10Parts; rw [ht135, ht100, ht51]; first | done | rfl
        refine c_ret1 hE147 rfl rfl ?_
        exact ⟨(by rw [hF]; first | done | (dsimp only; done) | rfl), rfl⟩
def F_pointParts (kind : Int) : Int :=
  bif ((decide (kind = 4)) || ((decide (kind = 5)) || (decide (kind = 6)))) then 2 else (bif ((decide (kind = 7)) || (decide (kind = 8))) then 1 else 0)
theorem cf_pointParts (args : Array Value) (w : World) : (callFunc 173 args).run Try.prog w = .ok (.enter 173 args) w := by kernel_rfl
set_option maxRecDepth 100000 in
theorem c_pointParts (kind : Int) (w : World) :
    Calls Try.prog 173 #[.int .i64 kind] w (Ret fun v w' => v = .int .i64 (F_pointParts kind) ∧ w = w') := by
  have hS := St.nil w
  refine enter (args := [.int .i64 kind]) Try.func173 rfl rfl ?_
  rw [Try.ntmps173]; intro a hE
  have hE := hE.sub (L' := [(0, .int .i64 kind)]) ⟨rfl, trivial⟩
  refine c_seq ?_
  refine c_reg ?_
  refine q_step (v := .int .i64 0) hE (y_assign rfl) rfl rfl rfl ?_; intro a1 hE2; clear hE
  refine c_nil ?_
  have hE3 := hE2.sub (L' := [(0, .int .i64 kind)]) ⟨rfl, trivial⟩; clear hE2
  refine p_tn ?_
  refine c_seq ?_
  refine c_seq ?_
  refine c_reg ?_
  refine q_step (v := .int .i64 kind) hE3 (y_move rfl) rfl rfl rfl ?_; intro a4 hE5; clear hE3
  refine c_nil ?_
  have hE6 := hE5.sub (L' := [(3, .int .i64 kind)]) ⟨rfl, trivial⟩; clear hE5
  refine p_tn ?_
  refine wp_block ?_
  refine c_cut (fun a' w' => w = w' ∧ E a' 11 [(3, .int .i64 kind), (4, .bool ((decide (kind = 4)) || ((decide (kind = 5)) || (decide (kind = 6)))))]) ?_ ?_
  ·
   refine c_seq ?_
   refine c_reg ?_
   refine q_step (v := .bool (decide (kind = 4))) hE6 (y_eql rfl rfl) rfl rfl rfl ?_; intro a7 hE8; clear hE6
   refine q_step (v := .bool (decide (kind = 4))) hE8 (y_assign rfl) rfl rfl rfl ?_; intro a9 hE10; clear hE8
   refine c_nil ?_
   have hE11 := hE10.sub (L' := [(3, .int .i64 kind), (4, .bool (decide (kind = 4)))]) ⟨rfl, rfl, trivial⟩; clear hE10
   refine p_tn ?_
   refine c_cond hE11 rfl (fun ht12 => ?_) (fun ht12 => ?_)
   ·
    have hp13 := of_decide_eq_true ht12
    have hE14 := hE11; rw [ht12] at hE14; clear hE11
    refine wp_skip ?_
    refine p_tn ?_
    have hE15 := hE14.sub (L' := [(3, .int .i64 kind), (4, .bool true)]) ⟨rfl, rfl, trivial⟩
    exact ⟨rfl, (by rw [ht12]; exact hE15)⟩
   ·
    have hp16 := of_decide_eq_false ht12
    have hE17 := hE11; rw [ht12] at hE17; clear hE11
    refine c_seq ?_
    refine c_reg ?_
    refine q_step (v := .bool (decide (kind = 5))) hE17 (y_eql rfl rfl) rfl rfl rfl ?_; intro a18 hE19; clear hE17
    refine q_step (v := .bool (decide (kind = 5))) hE19 (y_assign rfl) rfl rfl rfl ?_; intro a20 hE21; clear hE19
    refine c_nil ?_
    have hE22 := hE21.sub (L' := [(3, .int .i64 kind), (4, .bool (decide (kind = 5)))]) ⟨rfl, rfl, trivial⟩; clear hE21
    refine p_tn ?_
    refine c_cond hE22 rfl (fun ht23 => ?_) (fun ht23 => ?_)
    ·
     have hp24 := of_decide_eq_true ht23
     have hE25 := hE22; rw [ht23] at hE25; clear hE22
     refine wp_skip ?_
     refine p_tn ?_
     have hE26 := hE25.sub (L' := [(3, .int .i64 kind), (4, .bool true)]) ⟨rfl, rfl, trivial⟩
     exact ⟨rfl, (by rw [ht23, ht12]; exact hE26)⟩
    ·
     have hp27 := of_decide_eq_false ht23
     have hE28 := hE22; rw [ht23] at hE28; clear hE22
     refine c_reg ?_
     refine q_step (v := .bool (decide (kind = 6))) hE28 (y_eql rfl rfl) rfl rfl rfl ?_; intro a29 hE30; clear hE28
     refine q_step (v := .bool (decide (kind = 6))) hE30 (y_assign rfl) rfl rfl rfl ?_; intro a31 hE32; clear hE30
     refine c_nil ?_
     have hE33 := hE32.sub (L' := [(3, .int .i64 kind), (4, .bool (decide (kind = 6)))]) ⟨rfl, rfl, trivial⟩; clear hE32
     refine p_tn ?_
     have hE34 := hE33.sub (L' := [(3, .int .i64 kind), (4, .bool (decide (kind = 6)))]) ⟨rfl, rfl, trivial⟩
     exact ⟨rfl, (by rw [ht23, ht12]; exact hE34)⟩
  ·
   rintro a35 _ ⟨rfl, hE37⟩; clear hE6
   refine c_cond hE37 rfl (fun ht40 => ?_) (fun ht40 => ?_)
   ·
    have hE41 := hE37; rw [ht40] at hE41; clear hE37
    refine c_seq ?_
    refine c_reg ?_
    refine q_step (v := .int .i64 2) hE41 (y_assign rfl) rfl rfl rfl ?_; intro a42 hE43; clear hE41
    refine c_nil ?_
    have hE44 := hE43.sub (L' := [(2, .int .i64 2)]) ⟨rfl, trivial⟩; clear hE43
    refine p_tn ?_
    refine wp_ret ?_
    refine p_br ?_
    refine p_tr ?_
    have hF : F_pointParts kind = 2 := by unfold F_pointParts; rw [ht40]; first | done | rfl
    refine c_ret1 hE44 rfl rfl ?_
    exact ⟨(by rw [hF]; first | done | (dsimp only; done) | rfl), rfl⟩
   ·
    obtain ⟨ht45, ht46⟩ := bor_f ht40
    have hp47 := of_decide_eq_false ht45
    obtain ⟨ht48, ht49⟩ := bor_f ht46
    have hp50 := of_decide_eq_false ht48
    have hp51 := of_decide_eq_false ht49
    have hE52 := hE37; rw [ht40] at hE52; clear hE37
    refine c_cut (fun a' w' => w = w' ∧ E a' 11 [(8, .bool ((decide (kind = 7)) || (decide (kind = 8))))]) ?_ ?_
    ·
     refine c_seq ?_
     refine c_reg ?_
     refine q_step (v := .bool (decide (kind = 7))) hE52 (y_eql rfl rfl) rfl rfl rfl ?_; intro a53 hE54; clear hE52
     refine q_step (v := .bool (decide (kind = 7))) hE54 (y_assign rfl) rfl rfl rfl ?_; intro a55 hE56; clear hE54
     refine c_nil ?_
     have hE57 := hE56.sub (L' := [(3, .int .i64 kind), (8, .bool (decide (kind = 7)))]) ⟨rfl, rfl, trivial⟩; clear hE56
     refine p_tn ?_
     refine c_cond hE57 rfl (fun ht58 => ?_) (fun ht58 => ?_)
     ·
      have hp59 := of_decide_eq_true ht58
      have hE60 := hE57; rw [ht58] at hE60; clear hE57
      refine wp_skip ?_
      refine p_tn ?_
      have hE61 := hE60.sub (L' := [(8, .bool true)]) ⟨rfl, trivial⟩
      exact ⟨rfl, (by rw [ht58]; exact hE61)⟩
     ·
      have hp62 := of_decide_eq_false ht58
      have hE63 := hE57; rw [ht58] at hE63; clear hE57
      refine c_reg ?_
      refine q_step (v := .bool (decide (kind = 8))) hE63 (y_eql rfl rfl) rfl rfl rfl ?_; intro a64 hE65; clear hE63
      refine q_step (v := .bool (decide (kind = 8))) hE65 (y_assign rfl) rfl rfl rfl ?_; intro a66 hE67; clear hE65
      refine c_nil ?_
      have hE68 := hE67.sub (L' := [(8, .bool (decide (kind = 8)))]) ⟨rfl, trivial⟩; clear hE67
      refine p_tn ?_
      have hE69 := hE68.sub (L' := [(8, .bool (decide (kind = 8)))]) ⟨rfl, trivial⟩
      exact ⟨rfl, (by rw [ht58]; exact hE69)⟩
    ·
     rintro a70 _ ⟨rfl, hE72⟩; clear hE52
     refine c_cond hE72 rfl (fun ht75 => ?_) (fun ht75 => ?_)
     ·
      have hE76 := hE72; rw [ht75] at hE76; clear hE72
      refine c_seq ?_
      refine c_reg ?_
      refine q_step (v := .int .i64 1) hE76 (y_assign rfl) rfl rfl rfl ?_; intro a77 hE78; clear hE76
      refine c_nil ?_
      have hE79 := hE78.sub (L' := [(2, .int .i64 1)]) ⟨rfl, trivial⟩; clear hE78
      refine p_tn ?_
      refine wp_ret ?_
      refine p_br ?_
      refine p_tr ?_
      have hF : F_pointParts kind = 1 := by unfold F_pointParts; rw [ht75, ht40]; first | done | rfl
      refine c_ret1 hE79 rfl rfl ?_
      exact ⟨(by rw [hF]; first | done | (dsimp only; done) | rfl), rfl⟩
     ·
      obtain ⟨ht80, ht81⟩ := bor_f ht75
      have hp82 := of_decide_eq_false ht80
      have hp83 := of_decide_eq_false ht81
      have hE84 := hE72; rw [ht75] at hE84; clear hE72
      refine wp_skip ?_
      refine p_bn ?_
      refine p_tn ?_
      refine c_seq ?_
      refine c_reg ?_
      refine q_step (v := .int .i64 0) hE84 (y_assign rfl) rfl rfl rfl ?_; intro a85 hE86; clear hE84
      refine c_nil ?_
      have hE87 := hE86.sub (L' := [(2, .int .i64 0)]) ⟨rfl, trivial⟩; clear hE86
      refine p_tn ?_
      refine wp_ret ?_
      have hF : F_pointParts kind = 0 := by unfold F_pointParts; rw [ht75, ht40]; first | done | rfl
      refine c_ret1 hE87 rfl rfl ?_
      exact ⟨(by rw [hF]; first | done | (dsimp only; done) | rfl), rfl⟩
theorem l10Parts_bd (k : Int) : -1 ≤ F_l10Parts k ∧ F_l10Parts k ≤ 2 := by
  unfold F_l10Parts
  generalize ((decide (k = 0)) || ((decide (k = 1)) || ((decide (k = 2)) || (decide (k = 3))))) = a
  generalize ((decide (k = 4)) || ((decide (k = 5)) || (decide (k = 6)))) = b
  generalize ((decide (k = 7)) || (decide (k = 8))) = c
  cases a <;> cases b <;> cases c <;> decide
theorem pointParts_bd (k : Int) : 0 ≤ F_pointParts k ∧ F_pointParts k ≤ 2 := by
  unfold F_pointParts
  generalize ((decide (k = 4)) || ((decide (k = 5)) || (decide (k = 6)))) = b
  generalize ((decide (k = 7)) || (decide (k = 8))) = c
  cases b <;> cases c <;> decide
def F_l10Node (np0 : Int) (np1 : Int) (np2 : Int) : Bool :=
  bif ((decide (np0 = 0)) || (decide (np0 = 1))) then ((F_l01In np1 0 9) && (F_l01In np2 0 9)) else (bif (decide (np0 = 2)) then ((F_l01In np1 0 5) && (F_l01In np2 0 9)) else (bif ((decide (np0 = 7)) || (decide (np0 = 8))) then ((F_l01In np1 0 9) && (decide (np2 = 0))) else ((decide (np1 = 0)) && (decide (np2 = 0)))))
theorem cf_l10Node (args : Array Value) (w : World) : (callFunc 162 args).run Try.prog w = .ok (.enter 162 args) w := by kernel_rfl
set_option maxRecDepth 100000 in
theorem c_l10Node (np0 : Int) (np1 : Int) (np2 : Int) (w : World) :
    Calls Try.prog 162 #[.agg #[.int .i64 np0, .int .i64 np1, .int .i64 np2]] w (Ret fun v w' => v = .bool (F_l10Node np0 np1 np2) ∧ Ext w w') := by
  have hS := St.nil w
  refine enter (args := [.agg #[.int .i64 np0, .int .i64 np1, .int .i64 np2]]) Try.func162 rfl rfl ?_
  rw [Try.ntmps162]; intro a hE
  have hE := hE.sub (L' := [(0, .agg #[.int .i64 np0, .int .i64 np1, .int .i64 np2])]) ⟨rfl, trivial⟩
  refine c_seq ?_
  refine c_reg ?_
  refine l_step hE rfl (l_box (v := .agg #[.int .i64 np0, .int .i64 np1, .int .i64 np2]) (cs := #[.int .i64 np0, .int .i64 np1, .int .i64 np2]) hS hE rfl rfl rfl ?_)
  intro b1 w2 hS5 he6 a3 hE4; clear hS hE
  refine q_step (v := .bool false) hE4 (y_assign rfl) rfl rfl rfl ?_; intro a7 hE8; clear hE4
  refine c_nil ?_
  have hE9 := hE8.sub (L' := [(1, .pointer (some ⟨b1, 0, none⟩))]) ⟨rfl, trivial⟩; clear hE8
  refine p_tn ?_
  refine c_seq ?_
  refine d_start (fun w w' => (fun w' => w'.cell? ⟨b1, 1, none⟩ = some (.int .i64 np1) ∧ w'.cell? ⟨b1, 2, none⟩ = some (.int .i64 np2) ∧ True) w → (fun w' => w'.cell? ⟨b1, 1, none⟩ = some (.int .i64 np1) ∧ w'.cell? ⟨b1, 2, none⟩ = some (.int .i64 np2) ∧ True) w') [1, 4] 8 (by kernel_rfl) rfl ?_
  intro w10 he11; have hS12 := St.go hS5 he11; clear hS5
  refine d_pure (fun _ h => h) (v := .pointer (some ⟨b1, 1, none⟩)) 0 rfl hE9 (y_field rfl (fun _ => by kernel_rfl)) rfl (by kernel_rfl) (by kernel_rfl) (by kernel_rfl) rfl rfl (fun _ _ _ h => h) ?_; intro a13 hE14; clear hE9
  refine d_take (fun _ h => h) (fun _ _ h k => h k) (v := .int .i64 np1) 1 rfl hE14 (S := fun w' => w'.cell? ⟨b1, 1, none⟩ = some (.int .i64 np1) ∧ w'.cell? ⟨b1, 2, none⟩ = some (.int .i64 np2) ∧ True) ⟨(St.cell (i := 0) hS12 rfl rfl _ (Ext.refl _)), (St.cell (i := 0) hS12 rfl rfl _ (Ext.refl _)), trivial⟩ (y_load (fun _ => by kernel_rfl) rfl (fun _ h => h.1)) rfl rfl (by kernel_rfl) (by kernel_rfl) (by kernel_rfl) (by kernel_rfl) rfl rfl (fun _ _ _ h => h) ?_; intro a15 hE16; clear hE14
  refine d_pure (fun _ h => h) (v := .pointer (some ⟨b1, 2, none⟩)) 3 rfl hE16 (y_field rfl (fun _ => by kernel_rfl)) rfl (by kernel_rfl) (by kernel_rfl) (by kernel_rfl) rfl rfl (fun _ _ _ h => h) ?_; intro a17 hE18; clear hE16
  refine d_take (fun _ h => h) (fun _ _ h k => h k) (v := .int .i64 np2) 4 rfl hE18 (S := fun w' => w'.cell? ⟨b1, 1, none⟩ = some (.int .i64 np1) ∧ w'.cell? ⟨b1, 2, none⟩ = some (.int .i64 np2) ∧ True) ⟨(St.cell (i := 0) hS12 rfl rfl _ (Ext.refl _)), (St.cell (i := 0) hS12 rfl rfl _ (Ext.refl _)), trivial⟩ (y_load (fun _ => by kernel_rfl) rfl (fun _ h => h.2.1)) rfl rfl (by kernel_rfl) (by kernel_rfl) (by kernel_rfl) (by kernel_rfl) rfl rfl (fun _ _ _ h => h) ?_; intro a19 hE20; clear hE18
  refine d_only 2 (by kernel_rfl) rfl hE20 rfl (l_call (f := 71) (argv := [.int .i64 np1, .int .i64 0, .int .i64 9]) hE20 (fun _ => cf_l01In _ _) rfl rfl (c_l01In np1 0 9 w10) ?_)
  rintro _ _ ⟨rfl, rfl⟩ a23 hE24; clear hE20
  refine ⟨fun _ _ => ⟨(St.cell (i := 0) hS12 rfl rfl _ (Ext.refl _)), (St.cell (i := 0) hS12 rfl rfl _ (Ext.refl _)), trivial⟩, ?_⟩
  refine d_only 5 (by kernel_rfl) rfl hE24 rfl (l_call (f := 71) (argv := [.int .i64 np2, .int .i64 0, .int .i64 9]) hE24 (fun _ => cf_l01In _ _) rfl rfl (c_l01In np2 0 9 w10) ?_)
  rintro _ _ ⟨rfl, rfl⟩ a29 hE30; clear hE24
  refine ⟨fun h => Bool.noConfusion (h.symm.trans (show exm _ _ _ = true by kernel_rfl)), ?_⟩
  refine d_pure (fun _ h => h) (v := .bool (F_l01In np1 0 9)) 6 rfl hE30 (y_assign rfl) rfl (by kernel_rfl) (by kernel_rfl) (by kernel_rfl) rfl rfl (fun _ _ _ h => h) ?_; intro a33 hE34; clear hE30
  refine d_pure (fun _ h => h) (v := .bool (F_l01In np2 0 9)) 7 rfl hE34 (y_assign rfl) rfl (by kernel_rfl) (by kernel_rfl) (by kernel_rfl) rfl rfl (fun _ _ _ h => h) ?_; intro a35 hE36; clear hE34
  refine d_done (by kernel_rfl) ?_
  have hE37 := hE36.sub (L' := [(1, .pointer (some ⟨b1, 0, none⟩)), (3, .bool (F_l01In np1 0 9)), (4, .bool (F_l01In np2 0 9))]) ⟨rfl, rfl, rfl, trivial⟩; clear hE36
  refine p_tn ?_
  refine c_seq ?_
  refine c_seq ?_
  refine c_reg ?_
  refine q_step (v := .pointer (some ⟨b1, 0, none⟩)) hE37 (y_field rfl (fun _ => by kernel_rfl)) rfl rfl rfl ?_; intro a38 hE39; clear hE37
  refine q_step (v := .int .i64 np0) hE39 (y_load (fun _ => by kernel_rfl) rfl (St.cell (i := 0) hS12 rfl rfl)) rfl rfl rfl ?_; intro a40 hE41; clear hE39
  refine c_nil ?_
  have hE42 := hE41.sub (L' := [(1, .pointer (some ⟨b1, 0, none⟩)), (3, .bool (F_l01In np1 0 9)), (4, .bool (F_l01In np2 0 9)), (12, .int .i64 np0)]) ⟨rfl, rfl, rfl, rfl, trivial⟩; clear hE41
  refine p_tn ?_
  refine wp_block ?_
  refine c_cut (fun a' w' => E a' 45 [(1, .pointer (some ⟨b1, 0, none⟩)), (3, .bool (F_l01In np1 0 9)), (4, .bool (F_l01In np2 0 9)), (12, .int .i64 np0), (13, .bool ((decide (np0 = 0)) || (decide (np0 = 1))))] ∧ St w w' [.blk b1 #[.int .i64 np0, .int .i64 np1, .int .i64 np2] 115]) ?_ ?_
  ·
   refine c_seq ?_
   refine c_reg ?_
   refine q_step (v := .bool (decide (np0 = 0))) hE42 (y_eql rfl rfl) rfl rfl rfl ?_; intro a43 hE44; clear hE42
   refine q_step (v := .bool (decide (np0 = 0))) hE44 (y_assign rfl) rfl rfl rfl ?_; intro a45 hE46; clear hE44
   refine c_nil ?_
   have hE47 := hE46.sub (L' := [(1, .pointer (some ⟨b1, 0, none⟩)), (3, .bool (F_l01In np1 0 9)), (4, .bool (F_l01In np2 0 9)), (12, .int .i64 np0), (13, .bool (decide (np0 = 0)))]) ⟨rfl, rfl, rfl, rfl, rfl, trivial⟩; clear hE46
   refine p_tn ?_
   refine c_cond hE47 rfl (fun ht48 => ?_) (fun ht48 => ?_)
   ·
    have hp49 := of_decide_eq_true ht48
    have hE50 := hE47; rw [ht48] at hE50; clear hE47
    refine wp_skip ?_
    refine p_tn ?_
    have hE51 := hE50.sub (L' := [(1, .pointer (some ⟨b1, 0, none⟩)), (3, .bool (F_l01In np1 0 9)), (4, .bool (F_l01In np2 0 9)), (12, .int .i64 np0), (13, .bool true)]) ⟨rfl, rfl, rfl, rfl, rfl, trivial⟩
    have hS52 := (St.pick (Γ' := [.blk b1 #[.int .i64 np0, .int .i64 np1, .int .i64 np2] 115]) hS12 [0] (by decide) rfl)
    exact ⟨(by rw [ht48]; exact hE51), hS52⟩
   ·
    have hp53 := of_decide_eq_false ht48
    have hE54 := hE47; rw [ht48] at hE54; clear hE47
    refine c_reg ?_
    refine q_step (v := .bool (decide (np0 = 1))) hE54 (y_eql rfl rfl) rfl rfl rfl ?_; intro a55 hE56; clear hE54
    refine q_step (v := .bool (decide (np0 = 1))) hE56 (y_assign rfl) rfl rfl rfl ?_; intro a57 hE58; clear hE56
    refine c_nil ?_
    have hE59 := hE58.sub (L' := [(1, .pointer (some ⟨b1, 0, none⟩)), (3, .bool (F_l01In np1 0 9)), (4, .bool (F_l01In np2 0 9)), (12, .int .i64 np0), (13, .bool (decide (np0 = 1)))]) ⟨rfl, rfl, rfl, rfl, rfl, trivial⟩; clear hE58
    refine p_tn ?_
    have hE60 := hE59.sub (L' := [(1, .pointer (some ⟨b1, 0, none⟩)), (3, .bool (F_l01In np1 0 9)), (4, .bool (F_l01In np2 0 9)), (12, .int .i64 np0), (13, .bool (decide (np0 = 1)))]) ⟨rfl, rfl, rfl, rfl, rfl, trivial⟩
    have hS61 := (St.pick (Γ' := [.blk b1 #[.int .i64 np0, .int .i64 np1, .int .i64 np2] 115]) hS12 [0] (by decide) rfl)
    exact ⟨(by rw [ht48]; exact hE60), hS61⟩
  ·
   rintro a62 w63 ⟨hE64, hS65⟩; clear hE42 hS12
   refine c_cond hE64 rfl (fun ht67 => ?_) (fun ht67 => ?_)
   ·
    have hE68 := hE64; rw [ht67] at hE68; clear hE64
    refine c_cut (fun a' w' => E a' 45 [(2, .bool ((F_l01In np1 0 9) && (F_l01In np2 0 9)))] ∧ St w w' [.blk b1 #[.int .i64 np0, .int .i64 np1, .int .i64 np2] 115]) ?_ ?_
    ·
     refine c_reg ?_
     refine q_step (v := .bool (F_l01In np1 0 9)) hE68 (y_move rfl) rfl rfl rfl ?_; intro a69 hE70; clear hE68
     refine q_step (v := .bool (F_l01In np1 0 9)) hE70 (y_move rfl) rfl rfl rfl ?_; intro a71 hE72; clear hE70
     rcases Bool.eq_false_or_eq_true (F_l01In np1 0 9) with hb73 | hb73
     ·
      have hE74 := hE72; (try rw [hb73] at hE74); clear hE72
      refine q_step (v := .bool (F_l01In np2 0 9)) hE74 (y_move rfl) rfl rfl rfl ?_; intro a75 hE76; clear hE74
      refine q_step (v := .bool (F_l01In np2 0 9)) hE76 (y_pick (b := true) rfl rfl) rfl rfl rfl ?_; intro a77 hE78; clear hE76
      refine q_step (v := .bool (F_l01In np2 0 9)) hE78 (y_assign rfl) rfl rfl rfl ?_; intro a79 hE80; clear hE78
      refine c_nil ?_
      have hE81 := hE80.sub (L' := [(2, .bool (F_l01In np2 0 9))]) ⟨rfl, trivial⟩; clear hE80
      refine p_tn ?_
      have hE82 := hE81.sub (L' := [(2, .bool (F_l01In np2 0 9))]) ⟨rfl, trivial⟩
      have hS83 := (St.pick (Γ' := [.blk b1 #[.int .i64 np0, .int .i64 np1, .int .i64 np2] 115]) hS65 [0] (by decide) rfl)
      exact ⟨(by rw [hb73]; exact hE82), hS83⟩
     ·
      have hE84 := hE72; (try rw [hb73] at hE84); clear hE72
      refine q_skip hE84 rfl rfl rfl ?_; intro a85 hE86; clear hE84
      refine q_step (v := .bool false) hE86 (y_pick (b := false) rfl rfl) rfl rfl rfl ?_; intro a87 hE88; clear hE86
      refine q_step (v := .bool false) hE88 (y_assign rfl) rfl rfl rfl ?_; intro a89 hE90; clear hE88
      refine c_nil ?_
      have hE91 := hE90.sub (L' := [(2, .bool false)]) ⟨rfl, trivial⟩; clear hE90
      refine p_tn ?_
      have hE92 := hE91.sub (L' := [(2, .bool false)]) ⟨rfl, trivial⟩
      have hS93 := (St.pick (Γ' := [.blk b1 #[.int .i64 np0, .int .i64 np1, .int .i64 np2] 115]) hS65 [0] (by decide) rfl)
      exact ⟨(by rw [hb73]; exact hE92), hS93⟩
    ·
     rintro a94 w95 ⟨hE96, hS97⟩; clear hE68 hS65
     refine wp_ret ?_
     refine p_br ?_
     refine p_tr ?_
     have hF : F_l10Node np0 np1 np2 = ((F_l01In np1 0 9) && (F_l01In np2 0 9)) := by unfold F_l10Node; rw [ht67]; first | done | rfl
     refine c_ret1 hE96 rfl rfl ?_
     exact ⟨(by rw [hF]; first | done | (dsimp only; done) | rfl), hS97.ext⟩
   ·
    obtain ⟨ht99, ht100⟩ := bor_f ht67
    have hp101 := of_decide_eq_false ht99
    have hp102 := of_decide_eq_false ht100
    have hE103 := hE64; rw [ht67] at hE103; clear hE64
    refine c_seq ?_
    refine c_reg ?_
    refine q_step (v := .bool (decide (np0 = 2))) hE103 (y_eql rfl rfl) rfl rfl rfl ?_; intro a104 hE105; clear hE103
    refine q_step (v := .bool (decide (np0 = 2))) hE105 (y_assign rfl) rfl rfl rfl ?_; intro a106 hE107; clear hE105
    refine c_nil ?_
    have hE108 := hE107.sub (L' := [(1, .pointer (some ⟨b1, 0, none⟩)), (3, .bool (F_l01In np1 0 9)), (4, .bool (F_l01In np2 0 9)), (12, .int .i64 np0), (20, .bool (decide (np0 = 2)))]) ⟨rfl, rfl, rfl, rfl, rfl, trivial⟩; clear hE107
    refine p_tn ?_
    refine c_cond hE108 rfl (fun ht109 => ?_) (fun ht109 => ?_)
    ·
     have hp110 := of_decide_eq_true ht109
     have hE111 := hE108; rw [ht109] at hE111; clear hE108
     refine c_cut (fun a' w' => E a' 45 [(2, .bool ((F_l01In np1 0 5) && (F_l01In np2 0 9)))] ∧ St w w' [.blk b1 #[.int .i64 np0, .int .i64 np1, .int .i64 np2] 115]) ?_ ?_
     ·
      refine c_reg ?_
      refine q_step (v := .pointer (some ⟨b1, 1, none⟩)) hE111 (y_field rfl (fun _ => by kernel_rfl)) rfl rfl rfl ?_; intro a112 hE113; clear hE111
      refine q_step (v := .int .i64 np1) hE113 (y_load (fun _ => by kernel_rfl) rfl (St.cell (i := 0) hS65 rfl rfl)) rfl rfl rfl ?_; intro a114 hE115; clear hE113
      refine l_step hE115 rfl (l_call (f := 71) (argv := [.int .i64 np1, .int .i64 0, .int .i64 5]) hE115 (fun _ => cf_l01In _ _) rfl rfl (c_l01In np1 0 5 w63) ?_)
      rintro _ _ ⟨rfl, rfl⟩ a118 hE119; clear hE115
      refine q_step (v := .bool (F_l01In np1 0 5)) hE119 (y_move rfl) rfl rfl rfl ?_; intro a122 hE123; clear hE119
      rcases Bool.eq_false_or_eq_true (F_l01In np1 0 5) with hb124 | hb124
      ·
       have hE125 := hE123; (try rw [hb124] at hE125); clear hE123
       refine q_step (v := .bool (F_l01In np2 0 9)) hE125 (y_move rfl) rfl rfl rfl ?_; intro a126 hE127; clear hE125
       refine q_step (v := .bool (F_l01In np2 0 9)) hE127 (y_pick (b := true) rfl rfl) rfl rfl rfl ?_; intro a128 hE129; clear hE127
       refine q_step (v := .bool (F_l01In np2 0 9)) hE129 (y_assign rfl) rfl rfl rfl ?_; intro a130 hE131; clear hE129
       refine c_nil ?_
       have hE132 := hE131.sub (L' := [(2, .bool (F_l01In np2 0 9))]) ⟨rfl, trivial⟩; clear hE131
       refine p_tn ?_
       have hE133 := hE132.sub (L' := [(2, .bool (F_l01In np2 0 9))]) ⟨rfl, trivial⟩
       have hS134 := (St.pick (Γ' := [.blk b1 #[.int .i64 np0, .int .i64 np1, .int .i64 np2] 115]) hS65 [0] (by decide) rfl)
       exact ⟨(by rw [hb124]; exact hE133), hS134⟩
      ·
       have hE135 := hE123; (try rw [hb124] at hE135); clear hE123
       refine q_skip hE135 rfl rfl rfl ?_; intro a136 hE137; clear hE135
       refine q_step (v := .bool false) hE137 (y_pick (b := false) rfl rfl) rfl rfl rfl ?_; intro a138 hE139; clear hE137
       refine q_step (v := .bool false) hE139 (y_assign rfl) rfl rfl rfl ?_; intro a140 hE141; clear hE139
       refine c_nil ?_
       have hE142 := hE141.sub (L' := [(2, .bool false)]) ⟨rfl, trivial⟩; clear hE141
       refine p_tn ?_
       have hE143 := hE142.sub (L' := [(2, .bool false)]) ⟨rfl, trivial⟩
       have hS144 := (St.pick (Γ' := [.blk b1 #[.int .i64 np0, .int .i64 np1, .int .i64 np2] 115]) hS65 [0] (by decide) rfl)
       exact ⟨(by rw [hb124]; exact hE143), hS144⟩
     ·
      rintro a145 w146 ⟨hE147, hS148⟩; clear hE111 hS65
      refine wp_ret ?_
      refine p_br ?_
      refine p_tr ?_
      have hF : F_l10Node np0 np1 np2 = ((F_l01In np1 0 5) && (F_l01In np2 0 9)) := by unfold F_l10Node; rw [ht109, ht67]; first | done | rfl
      refine c_ret1 hE147 rfl rfl ?_
      exact ⟨(by rw [hF]; first | done | (dsimp only; done) | rfl), hS148.ext⟩
    ·
     have hp150 := of_decide_eq_false ht109
     have hE151 := hE108; rw [ht109] at hE151; clear hE108
     refine c_cut (fun a' w' => E a' 45 [(1, .pointer (some ⟨b1, 0, none⟩)), (3, .bool (F_l01In np1 0 9)), (28, .bool ((decide (np0 = 7)) || (decide (np0 = 8))))] ∧ St w w' [.blk b1 #[.int .i64 np0, .int .i64 np1, .int .i64 np2] 115]) ?_ ?_
     ·
      refine c_seq ?_
      refine c_reg ?_
      refine q_step (v := .bool (decide (np0 = 7))) hE151 (y_eql rfl rfl) rfl rfl rfl ?_; intro a152 hE153; clear hE151
      refine q_step (v := .bool (decide (np0 = 7))) hE153 (y_assign rfl) rfl rfl rfl ?_; intro a154 hE155; clear hE153
      refine c_nil ?_
      have hE156 := hE155.sub (L' := [(1, .pointer (some ⟨b1, 0, none⟩)), (3, .bool (F_l01In np1 0 9)), (12, .int .i64 np0), (28, .bool (decide (np0 = 7)))]) ⟨rfl, rfl, rfl, rfl, trivial⟩; clear hE155
      refine p_tn ?_
      refine c_cond hE156 rfl (fun ht157 => ?_) (fun ht157 => ?_)
      ·
       have hp158 := of_decide_eq_true ht157
       have hE159 := hE156; rw [ht157] at hE159; clear hE156
       refine wp_skip ?_
       refine p_tn ?_
       have hE160 := hE159.sub (L' := [(1, .pointer (some ⟨b1, 0, none⟩)), (3, .bool (F_l01In np1 0 9)), (28, .bool true)]) ⟨rfl, rfl, rfl, trivial⟩
       have hS161 := (St.pick (Γ' := [.blk b1 #[.int .i64 np0, .int .i64 np1, .int .i64 np2] 115]) hS65 [0] (by decide) rfl)
       exact ⟨(by rw [ht157]; exact hE160), hS161⟩
      ·
       have hp162 := of_decide_eq_false ht157
       have hE163 := hE156; rw [ht157] at hE163; clear hE156
       refine c_reg ?_
       refine q_step (v := .bool (decide (np0 = 8))) hE163 (y_eql rfl rfl) rfl rfl rfl ?_; intro a164 hE165; clear hE163
       refine q_step (v := .bool (decide (np0 = 8))) hE165 (y_assign rfl) rfl rfl rfl ?_; intro a166 hE167; clear hE165
       refine c_nil ?_
       have hE168 := hE167.sub (L' := [(1, .pointer (some ⟨b1, 0, none⟩)), (3, .bool (F_l01In np1 0 9)), (28, .bool (decide (np0 = 8)))]) ⟨rfl, rfl, rfl, trivial⟩; clear hE167
       refine p_tn ?_
       have hE169 := hE168.sub (L' := [(1, .pointer (some ⟨b1, 0, none⟩)), (3, .bool (F_l01In np1 0 9)), (28, .bool (decide (np0 = 8)))]) ⟨rfl, rfl, rfl, trivial⟩
       have hS170 := (St.pick (Γ' := [.blk b1 #[.int .i64 np0, .int .i64 np1, .int .i64 np2] 115]) hS65 [0] (by decide) rfl)
       exact ⟨(by rw [ht157]; exact hE169), hS170⟩
     ·
      rintro a171 w172 ⟨hE173, hS174⟩; clear hE151 hS65
      refine c_cond hE173 rfl (fun ht176 => ?_) (fun ht176 => ?_)
      ·
       have hE177 := hE173; rw [ht176] at hE177; clear hE173
       refine c_cut (fun a' w' => E a' 45 [(2, .bool ((F_l01In np1 0 9) && (decide (np2 = 0))))] ∧ St w w' [.blk b1 #[.int .i64 np0, .int .i64 np1, .int .i64 np2] 115]) ?_ ?_
       ·
        refine c_reg ?_
        refine q_step (v := .bool (F_l01In np1 0 9)) hE177 (y_move rfl) rfl rfl rfl ?_; intro a178 hE179; clear hE177
        refine q_step (v := .bool (F_l01In np1 0 9)) hE179 (y_move rfl) rfl rfl rfl ?_; intro a180 hE181; clear hE179
        rcases Bool.eq_false_or_eq_true (F_l01In np1 0 9) with hb182 | hb182
        ·
         have hE183 := hE181; (try rw [hb182] at hE183); clear hE181
         refine q_step (v := .pointer (some ⟨b1, 2, none⟩)) hE183 (y_field rfl (fun _ => by kernel_rfl)) rfl rfl rfl ?_; intro a184 hE185; clear hE183
         refine q_step (v := .int .i64 np2) hE185 (y_load (fun _ => by kernel_rfl) rfl (St.cell (i := 0) hS174 rfl rfl)) rfl rfl rfl ?_; intro a186 hE187; clear hE185
         refine q_step (v := .bool (decide (np2 = 0))) hE187 (y_eql rfl rfl) rfl rfl rfl ?_; intro a188 hE189; clear hE187
         refine q_step (v := .bool (decide (np2 = 0))) hE189 (y_pick (b := true) rfl rfl) rfl rfl rfl ?_; intro a190 hE191; clear hE189
         refine q_step (v := .bool (decide (np2 = 0))) hE191 (y_assign rfl) rfl rfl rfl ?_; intro a192 hE193; clear hE191
         refine c_nil ?_
         have hE194 := hE193.sub (L' := [(2, .bool (decide (np2 = 0)))]) ⟨rfl, trivial⟩; clear hE193
         refine p_tn ?_
         have hE195 := hE194.sub (L' := [(2, .bool (decide (np2 = 0)))]) ⟨rfl, trivial⟩
         have hS196 := (St.pick (Γ' := [.blk b1 #[.int .i64 np0, .int .i64 np1, .int .i64 np2] 115]) hS174 [0] (by decide) rfl)
         exact ⟨(by rw [hb182]; exact hE195), hS196⟩
        ·
         have hE197 := hE181; (try rw [hb182] at hE197); clear hE181
         refine q_skip hE197 rfl rfl rfl ?_; intro a198 hE199; clear hE197
         refine q_skip hE199 rfl rfl rfl ?_; intro a200 hE201; clear hE199
         refine q_skip hE201 rfl rfl rfl ?_; intro a202 hE203; clear hE201
         refine q_step (v := .bool false) hE203 (y_pick (b := false) rfl rfl) rfl rfl rfl ?_; intro a204 hE205; clear hE203
         refine q_step (v := .bool false) hE205 (y_assign rfl) rfl rfl rfl ?_; intro a206 hE207; clear hE205
         refine c_nil ?_
         have hE208 := hE207.sub (L' := [(2, .bool false)]) ⟨rfl, trivial⟩; clear hE207
         refine p_tn ?_
         have hE209 := hE208.sub (L' := [(2, .bool false)]) ⟨rfl, trivial⟩
         have hS210 := (St.pick (Γ' := [.blk b1 #[.int .i64 np0, .int .i64 np1, .int .i64 np2] 115]) hS174 [0] (by decide) rfl)
         exact ⟨(by rw [hb182]; exact hE209), hS210⟩
       ·
        rintro a211 w212 ⟨hE213, hS214⟩; clear hE177 hS174
        refine wp_ret ?_
        refine p_br ?_
        refine p_tr ?_
        have hF : F_l10Node np0 np1 np2 = ((F_l01In np1 0 9) && (decide (np2 = 0))) := by unfold F_l10Node; rw [ht176, ht109, ht67]; first | done | rfl
        refine c_ret1 hE213 rfl rfl ?_
        exact ⟨(by rw [hF]; first | done | (dsimp only; done) | rfl), hS214.ext⟩
      ·
       obtain ⟨ht216, ht217⟩ := bor_f ht176
       have hp218 := of_decide_eq_false ht216
       have hp219 := of_decide_eq_false ht217
       have hE220 := hE173; rw [ht176] at hE220; clear hE173
       refine wp_skip ?_
       refine p_bn ?_
       refine p_tn ?_
       refine c_cut (fun a' w' => E a' 45 [(2, .bool ((decide (np1 = 0)) && (decide (np2 = 0))))] ∧ St w w' [.blk b1 #[.int .i64 np0, .int .i64 np1, .int .i64 np2] 115]) ?_ ?_
       ·
        refine c_reg ?_
        refine q_step (v := .pointer (some ⟨b1, 1, none⟩)) hE220 (y_field rfl (fun _ => by kernel_rfl)) rfl rfl rfl ?_; intro a221 hE222; clear hE220
        refine q_step (v := .int .i64 np1) hE222 (y_load (fun _ => by kernel_rfl) rfl (St.cell (i := 0) hS174 rfl rfl)) rfl rfl rfl ?_; intro a223 hE224; clear hE222
        refine q_step (v := .bool (decide (np1 = 0))) hE224 (y_eql rfl rfl) rfl rfl rfl ?_; intro a225 hE226; clear hE224
        refine q_step (v := .bool (decide (np1 = 0))) hE226 (y_move rfl) rfl rfl rfl ?_; intro a227 hE228; clear hE226
        rcases Bool.eq_false_or_eq_true (decide (np1 = 0)) with hb229 | hb229
        ·
         have hE230 := hE228; (try rw [hb229] at hE230); clear hE228
         have hp231 := of_decide_eq_true hb229
         refine q_step (v := .pointer (some ⟨b1, 2, none⟩)) hE230 (y_field rfl (fun _ => by kernel_rfl)) rfl rfl rfl ?_; intro a232 hE233; clear hE230
         refine q_step (v := .int .i64 np2) hE233 (y_load (fun _ => by kernel_rfl) rfl (St.cell (i := 0) hS174 rfl rfl)) rfl rfl rfl ?_; intro a234 hE235; clear hE233
         refine q_step (v := .bool (decide (np2 = 0))) hE235 (y_eql rfl rfl) rfl rfl rfl ?_; intro a236 hE237; clear hE235
         refine q_step (v := .bool (decide (np2 = 0))) hE237 (y_pick (b := true) rfl rfl) rfl rfl rfl ?_; intro a238 hE239; clear hE237
         refine q_step (v := .bool (decide (np2 = 0))) hE239 (y_assign rfl) rfl rfl rfl ?_; intro a240 hE241; clear hE239
         refine c_nil ?_
         have hE242 := hE241.sub (L' := [(2, .bool (decide (np2 = 0)))]) ⟨rfl, trivial⟩; clear hE241
         refine p_tn ?_
         have hE243 := hE242.sub (L' := [(2, .bool (decide (np2 = 0)))]) ⟨rfl, trivial⟩
         have hS244 := (St.pick (Γ' := [.blk b1 #[.int .i64 np0, .int .i64 np1, .int .i64 np2] 115]) hS174 [0] (by decide) rfl)
         exact ⟨(by rw [hb229]; exact hE243), hS244⟩
        ·
         have hE245 := hE228; (try rw [hb229] at hE245); clear hE228
         have hp246 := of_decide_eq_false hb229
         refine q_skip hE245 rfl rfl rfl ?_; intro a247 hE248; clear hE245
         refine q_skip hE248 rfl rfl rfl ?_; intro a249 hE250; clear hE248
         refine q_skip hE250 rfl rfl rfl ?_; intro a251 hE252; clear hE250
         refine q_step (v := .bool false) hE252 (y_pick (b := false) rfl rfl) rfl rfl rfl ?_; intro a253 hE254; clear hE252
         refine q_step (v := .bool false) hE254 (y_assign rfl) rfl rfl rfl ?_; intro a255 hE256; clear hE254
         refine c_nil ?_
         have hE257 := hE256.sub (L' := [(2, .bool false)]) ⟨rfl, trivial⟩; clear hE256
         refine p_tn ?_
         have hE258 := hE257.sub (L' := [(2, .bool false)]) ⟨rfl, trivial⟩
         have hS259 := (St.pick (Γ' := [.blk b1 #[.int .i64 np0, .int .i64 np1, .int .i64 np2] 115]) hS174 [0] (by decide) rfl)
         exact ⟨(by rw [hb229]; exact hE258), hS259⟩
       ·
        rintro a260 w261 ⟨hE262, hS263⟩; clear hE220 hS174
        refine wp_ret ?_
        have hF : F_l10Node np0 np1 np2 = ((decide (np1 = 0)) && (decide (np2 = 0))) := by unfold F_l10Node; rw [ht176, ht109, ht67]; first | done | rfl
        refine c_ret1 hE262 rfl rfl ?_
        exact ⟨(by rw [hF]; first | done | (dsimp only; done) | rfl), hS263.ext⟩
def F_isVariable (vp : Int) : Bool :=
  F_inRange vp 0 5
theorem cf_isVariable (args : Array Value) (w : World) : (callFunc 196 args).run Try.prog w = .ok (.enter 196 args) w := by kernel_rfl
set_option maxRecDepth 100000 in
theorem c_isVariable (vp : Int) (w : World) :
    Calls Try.prog 196 #[.int .i64 vp] w (Ret fun v w' => v = .bool (F_isVariable vp) ∧ w = w') := by
  have hS := St.nil w
  refine enter (args := [.int .i64 vp]) Try.func196 rfl rfl ?_
  rw [Try.ntmps196]; intro a hE
  have hE := hE.sub (L' := [(0, .int .i64 vp)]) ⟨rfl, trivial⟩
  refine c_seq ?_
  refine c_reg ?_
  refine q_step (v := .bool false) hE (y_assign rfl) rfl rfl rfl ?_; intro a1 hE2; clear hE
  refine c_nil ?_
  have hE3 := hE2.sub (L' := [(0, .int .i64 vp)]) ⟨rfl, trivial⟩; clear hE2
  refine p_tn ?_
  refine c_seq ?_
  refine c_reg ?_
  refine q_step (v := .int .i64 vp) hE3 (y_move rfl) rfl rfl rfl ?_; intro a4 hE5; clear hE3
  refine l_step hE5 rfl (l_call (f := 75) (argv := [.int .i64 vp, .int .i64 0, .int .i64 5]) hE5 (fun _ => cf_inRange _ _) rfl rfl (c_inRange vp 0 5 w) ?_)
  rintro _ _ ⟨rfl, rfl⟩ a8 hE9; clear hE5
  refine q_step (v := .bool (F_inRange vp 0 5)) hE9 (y_assign rfl) rfl rfl rfl ?_; intro a12 hE13; clear hE9
  refine c_nil ?_
  have hE14 := hE13.sub (L' := [(2, .bool (F_inRange vp 0 5))]) ⟨rfl, trivial⟩; clear hE13
  refine p_tn ?_
  refine wp_ret ?_
  have hF : F_isVariable vp = F_inRange vp 0 5 := by unfold F_isVariable; rfl
  refine c_ret1 hE14 rfl rfl ?_
  exact ⟨(by rw [hF]; first | done | (dsimp only; done) | rfl), rfl⟩
def F_isPoint (xp : Int) : Bool :=
  F_inRange xp 0 9
theorem cf_isPoint (args : Array Value) (w : World) : (callFunc 205 args).run Try.prog w = .ok (.enter 205 args) w := by kernel_rfl
set_option maxRecDepth 100000 in
theorem c_isPoint (xp : Int) (w : World) :
    Calls Try.prog 205 #[.int .i64 xp] w (Ret fun v w' => v = .bool (F_isPoint xp) ∧ w = w') := by
  have hS := St.nil w
  refine enter (args := [.int .i64 xp]) Try.func205 rfl rfl ?_
  rw [Try.ntmps205]; intro a hE
  have hE := hE.sub (L' := [(0, .int .i64 xp)]) ⟨rfl, trivial⟩
  refine c_seq ?_
  refine c_reg ?_
  refine q_step (v := .bool false) hE (y_assign rfl) rfl rfl rfl ?_; intro a1 hE2; clear hE
  refine c_nil ?_
  have hE3 := hE2.sub (L' := [(0, .int .i64 xp)]) ⟨rfl, trivial⟩; clear hE2
  refine p_tn ?_
  refine c_seq ?_
  refine c_reg ?_
  refine q_step (v := .int .i64 xp) hE3 (y_move rfl) rfl rfl rfl ?_; intro a4 hE5; clear hE3
  refine l_step hE5 rfl (l_call (f := 75) (argv := [.int .i64 xp, .int .i64 0, .int .i64 9]) hE5 (fun _ => cf_inRange _ _) rfl rfl (c_inRange xp 0 9 w) ?_)
  rintro _ _ ⟨rfl, rfl⟩ a8 hE9; clear hE5
  refine q_step (v := .bool (F_inRange xp 0 9)) hE9 (y_assign rfl) rfl rfl rfl ?_; intro a12 hE13; clear hE9
  refine c_nil ?_
  have hE14 := hE13.sub (L' := [(2, .bool (F_inRange xp 0 9))]) ⟨rfl, trivial⟩; clear hE13
  refine p_tn ?_
  refine wp_ret ?_
  have hF : F_isPoint xp = F_inRange xp 0 9 := by unfold F_isPoint; rfl
  refine c_ret1 hE14 rfl rfl ?_
  exact ⟨(by rw [hF]; first | done | (dsimp only; done) | rfl), rfl⟩
def F_isPointNode (np0 : Int) (np1 : Int) (np2 : Int) : Bool :=
  bif ((decide (np0 = 0)) || (decide (np0 = 1))) then ((F_isPoint np1) && (F_isPoint np2)) else (bif (decide (np0 = 2)) then ((F_isVariable np1) && (F_isPoint np2)) else (bif ((decide (np0 = 7)) || (decide (np0 = 8))) then ((F_isPoint np1) && (decide (np2 = 0))) else ((F_inRange np0 3 6) && ((decide (np1 = 0)) && (decide (np2 = 0))))))
theorem cf_isPointNode (args : Array Value) (w : World) : (callFunc 170 args).run Try.prog w = .ok (.enter 170 args) w := by kernel_rfl
set_option maxRecDepth 100000 in
theorem c_isPointNode (np0 : Int) (np1 : Int) (np2 : Int) (w : World) :
    Calls Try.prog 170 #[.agg #[.int .i64 np0, .int .i64 np1, .int .i64 np2]] w (Ret fun v w' => v = .bool (F_isPointNode np0 np1 np2) ∧ Ext w w') := by
  have hS := St.nil w
  refine enter (args := [.agg #[.int .i64 np0, .int .i64 np1, .int .i64 np2]]) Try.func170 rfl rfl ?_
  rw [Try.ntmps170]; intro a hE
  have hE := hE.sub (L' := [(0, .agg #[.int .i64 np0, .int .i64 np1, .int .i64 np2])]) ⟨rfl, trivial⟩
  refine c_seq ?_
  refine c_reg ?_
  refine l_step hE rfl (l_box (v := .agg #[.int .i64 np0, .int .i64 np1, .int .i64 np2]) (cs := #[.int .i64 np0, .int .i64 np1, .int .i64 np2]) hS hE rfl rfl rfl ?_)
  intro b1 w2 hS5 he6 a3 hE4; clear hS hE
  refine q_step (v := .bool false) hE4 (y_assign rfl) rfl rfl rfl ?_; intro a7 hE8; clear hE4
  refine c_nil ?_
  have hE9 := hE8.sub (L' := [(1, .pointer (some ⟨b1, 0, none⟩))]) ⟨rfl, trivial⟩; clear hE8
  refine p_tn ?_
  refine c_seq ?_
  refine c_seq ?_
  refine c_reg ?_
  refine q_step (v := .pointer (some ⟨b1, 0, none⟩)) hE9 (y_field rfl (fun _ => by kernel_rfl)) rfl rfl rfl ?_; intro a10 hE11; clear hE9
  refine q_step (v := .int .i64 np0) hE11 (y_load (fun _ => by kernel_rfl) rfl (St.cell (i := 0) hS5 rfl rfl)) rfl rfl rfl ?_; intro a12 hE13; clear hE11
  refine c_nil ?_
  have hE14 := hE13.sub (L' := [(1, .pointer (some ⟨b1, 0, none⟩)), (4, .int .i64 np0)]) ⟨rfl, rfl, trivial⟩; clear hE13
  refine p_tn ?_
  refine wp_block ?_
  refine c_cut (fun a' w' => E a' 50 [(1, .pointer (some ⟨b1, 0, none⟩)), (4, .int .i64 np0), (5, .bool ((decide (np0 = 0)) || (decide (np0 = 1))))] ∧ St w w' [.blk b1 #[.int .i64 np0, .int .i64 np1, .int .i64 np2] 115]) ?_ ?_
  ·
   refine c_seq ?_
   refine c_reg ?_
   refine q_step (v := .bool (decide (np0 = 0))) hE14 (y_eql rfl rfl) rfl rfl rfl ?_; intro a15 hE16; clear hE14
   refine q_step (v := .bool (decide (np0 = 0))) hE16 (y_assign rfl) rfl rfl rfl ?_; intro a17 hE18; clear hE16
   refine c_nil ?_
   have hE19 := hE18.sub (L' := [(1, .pointer (some ⟨b1, 0, none⟩)), (4, .int .i64 np0), (5, .bool (decide (np0 = 0)))]) ⟨rfl, rfl, rfl, trivial⟩; clear hE18
   refine p_tn ?_
   refine c_cond hE19 rfl (fun ht20 => ?_) (fun ht20 => ?_)
   ·
    have hp21 := of_decide_eq_true ht20
    have hE22 := hE19; rw [ht20] at hE22; clear hE19
    refine wp_skip ?_
    refine p_tn ?_
    have hE23 := hE22.sub (L' := [(1, .pointer (some ⟨b1, 0, none⟩)), (4, .int .i64 np0), (5, .bool true)]) ⟨rfl, rfl, rfl, trivial⟩
    have hS24 := (St.pick (Γ' := [.blk b1 #[.int .i64 np0, .int .i64 np1, .int .i64 np2] 115]) hS5 [0] (by decide) rfl)
    exact ⟨(by rw [ht20]; exact hE23), hS24⟩
   ·
    have hp25 := of_decide_eq_false ht20
    have hE26 := hE19; rw [ht20] at hE26; clear hE19
    refine c_reg ?_
    refine q_step (v := .bool (decide (np0 = 1))) hE26 (y_eql rfl rfl) rfl rfl rfl ?_; intro a27 hE28; clear hE26
    refine q_step (v := .bool (decide (np0 = 1))) hE28 (y_assign rfl) rfl rfl rfl ?_; intro a29 hE30; clear hE28
    refine c_nil ?_
    have hE31 := hE30.sub (L' := [(1, .pointer (some ⟨b1, 0, none⟩)), (4, .int .i64 np0), (5, .bool (decide (np0 = 1)))]) ⟨rfl, rfl, rfl, trivial⟩; clear hE30
    refine p_tn ?_
    have hE32 := hE31.sub (L' := [(1, .pointer (some ⟨b1, 0, none⟩)), (4, .int .i64 np0), (5, .bool (decide (np0 = 1)))]) ⟨rfl, rfl, rfl, trivial⟩
    have hS33 := (St.pick (Γ' := [.blk b1 #[.int .i64 np0, .int .i64 np1, .int .i64 np2] 115]) hS5 [0] (by decide) rfl)
    exact ⟨(by rw [ht20]; exact hE32), hS33⟩
  ·
   rintro a34 w35 ⟨hE36, hS37⟩; clear hE14 hS5
   refine c_cond hE36 rfl (fun ht39 => ?_) (fun ht39 => ?_)
   ·
    have hE40 := hE36; rw [ht39] at hE40; clear hE36
    refine c_cut (fun a' w' => E a' 50 [(2, .bool ((F_isPoint np1) && (F_isPoint np2)))] ∧ St w w' [.blk b1 #[.int .i64 np0, .int .i64 np1, .int .i64 np2] 115]) ?_ ?_
    ·
     refine c_reg ?_
     refine q_step (v := .pointer (some ⟨b1, 1, none⟩)) hE40 (y_field rfl (fun _ => by kernel_rfl)) rfl rfl rfl ?_; intro a41 hE42; clear hE40
     refine q_step (v := .int .i64 np1) hE42 (y_load (fun _ => by kernel_rfl) rfl (St.cell (i := 0) hS37 rfl rfl)) rfl rfl rfl ?_; intro a43 hE44; clear hE42
     refine l_step hE44 rfl (l_call (f := 205) (argv := [.int .i64 np1]) hE44 (fun _ => cf_isPoint _ _) rfl rfl (c_isPoint np1 w35) ?_)
     rintro _ _ ⟨rfl, rfl⟩ a47 hE48; clear hE44
     refine q_step (v := .bool (F_isPoint np1)) hE48 (y_move rfl) rfl rfl rfl ?_; intro a51 hE52; clear hE48
     rcases Bool.eq_false_or_eq_true (F_isPoint np1) with hb53 | hb53
     ·
      have hE54 := hE52; (try rw [hb53] at hE54); clear hE52
      refine q_step (v := .pointer (some ⟨b1, 2, none⟩)) hE54 (y_field rfl (fun _ => by kernel_rfl)) rfl rfl rfl ?_; intro a55 hE56; clear hE54
      refine q_step (v := .int .i64 np2) hE56 (y_load (fun _ => by kernel_rfl) rfl (St.cell (i := 0) hS37 rfl rfl)) rfl rfl rfl ?_; intro a57 hE58; clear hE56
      refine l_step hE58 rfl (l_call (f := 205) (argv := [.int .i64 np2]) hE58 (fun _ => cf_isPoint _ _) rfl rfl (c_isPoint np2 w35) ?_)
      rintro _ _ ⟨rfl, rfl⟩ a61 hE62; clear hE58
      refine q_step (v := .bool (F_isPoint np2)) hE62 (y_pick (b := true) rfl rfl) rfl rfl rfl ?_; intro a65 hE66; clear hE62
      refine q_step (v := .bool (F_isPoint np2)) hE66 (y_assign rfl) rfl rfl rfl ?_; intro a67 hE68; clear hE66
      refine c_nil ?_
      have hE69 := hE68.sub (L' := [(2, .bool (F_isPoint np2))]) ⟨rfl, trivial⟩; clear hE68
      refine p_tn ?_
      have hE70 := hE69.sub (L' := [(2, .bool (F_isPoint np2))]) ⟨rfl, trivial⟩
      have hS71 := (St.pick (Γ' := [.blk b1 #[.int .i64 np0, .int .i64 np1, .int .i64 np2] 115]) hS37 [0] (by decide) rfl)
      exact ⟨(by rw [hb53]; exact hE70), hS71⟩
     ·
      have hE72 := hE52; (try rw [hb53] at hE72); clear hE52
      refine q_skip hE72 rfl rfl rfl ?_; intro a73 hE74; clear hE72
      refine q_skip hE74 rfl rfl rfl ?_; intro a75 hE76; clear hE74
      refine q_skip hE76 rfl rfl rfl ?_; intro a77 hE78; clear hE76
      refine q_step (v := .bool false) hE78 (y_pick (b := false) rfl rfl) rfl rfl rfl ?_; intro a79 hE80; clear hE78
      refine q_step (v := .bool false) hE80 (y_assign rfl) rfl rfl rfl ?_; intro a81 hE82; clear hE80
      refine c_nil ?_
      have hE83 := hE82.sub (L' := [(2, .bool false)]) ⟨rfl, trivial⟩; clear hE82
      refine p_tn ?_
      have hE84 := hE83.sub (L' := [(2, .bool false)]) ⟨rfl, trivial⟩
      have hS85 := (St.pick (Γ' := [.blk b1 #[.int .i64 np0, .int .i64 np1, .int .i64 np2] 115]) hS37 [0] (by decide) rfl)
      exact ⟨(by rw [hb53]; exact hE84), hS85⟩
    ·
     rintro a86 w87 ⟨hE88, hS89⟩; clear hE40 hS37
     refine wp_ret ?_
     refine p_br ?_
     refine p_tr ?_
     have hF : F_isPointNode np0 np1 np2 = ((F_isPoint np1) && (F_isPoint np2)) := by unfold F_isPointNode; rw [ht39]; first | done | rfl
     refine c_ret1 hE88 rfl rfl ?_
     exact ⟨(by rw [hF]; first | done | (dsimp only; done) | rfl), hS89.ext⟩
   ·
    obtain ⟨ht91, ht92⟩ := bor_f ht39
    have hp93 := of_decide_eq_false ht91
    have hp94 := of_decide_eq_false ht92
    have hE95 := hE36; rw [ht39] at hE95; clear hE36
    refine c_seq ?_
    refine c_reg ?_
    refine q_step (v := .bool (decide (np0 = 2))) hE95 (y_eql rfl rfl) rfl rfl rfl ?_; intro a96 hE97; clear hE95
    refine q_step (v := .bool (decide (np0 = 2))) hE97 (y_assign rfl) rfl rfl rfl ?_; intro a98 hE99; clear hE97
    refine c_nil ?_
    have hE100 := hE99.sub (L' := [(1, .pointer (some ⟨b1, 0, none⟩)), (4, .int .i64 np0), (16, .bool (decide (np0 = 2)))]) ⟨rfl, rfl, rfl, trivial⟩; clear hE99
    refine p_tn ?_
    refine c_cond hE100 rfl (fun ht101 => ?_) (fun ht101 => ?_)
    ·
     have hp102 := of_decide_eq_true ht101
     have hE103 := hE100; rw [ht101] at hE103; clear hE100
     refine c_cut (fun a' w' => E a' 50 [(2, .bool ((F_isVariable np1) && (F_isPoint np2)))] ∧ St w w' [.blk b1 #[.int .i64 np0, .int .i64 np1, .int .i64 np2] 115]) ?_ ?_
     ·
      refine c_reg ?_
      refine q_step (v := .pointer (some ⟨b1, 1, none⟩)) hE103 (y_field rfl (fun _ => by kernel_rfl)) rfl rfl rfl ?_; intro a104 hE105; clear hE103
      refine q_step (v := .int .i64 np1) hE105 (y_load (fun _ => by kernel_rfl) rfl (St.cell (i := 0) hS37 rfl rfl)) rfl rfl rfl ?_; intro a106 hE107; clear hE105
      refine l_step hE107 rfl (l_call (f := 196) (argv := [.int .i64 np1]) hE107 (fun _ => cf_isVariable _ _) rfl rfl (c_isVariable np1 w35) ?_)
      rintro _ _ ⟨rfl, rfl⟩ a110 hE111; clear hE107
      refine q_step (v := .bool (F_isVariable np1)) hE111 (y_move rfl) rfl rfl rfl ?_; intro a114 hE115; clear hE111
      rcases Bool.eq_false_or_eq_true (F_isVariable np1) with hb116 | hb116
      ·
       have hE117 := hE115; (try rw [hb116] at hE117); clear hE115
       refine q_step (v := .pointer (some ⟨b1, 2, none⟩)) hE117 (y_field rfl (fun _ => by kernel_rfl)) rfl rfl rfl ?_; intro a118 hE119; clear hE117
       refine q_step (v := .int .i64 np2) hE119 (y_load (fun _ => by kernel_rfl) rfl (St.cell (i := 0) hS37 rfl rfl)) rfl rfl rfl ?_; intro a120 hE121; clear hE119
       refine l_step hE121 rfl (l_call (f := 205) (argv := [.int .i64 np2]) hE121 (fun _ => cf_isPoint _ _) rfl rfl (c_isPoint np2 w35) ?_)
       rintro _ _ ⟨rfl, rfl⟩ a124 hE125; clear hE121
       refine q_step (v := .bool (F_isPoint np2)) hE125 (y_pick (b := true) rfl rfl) rfl rfl rfl ?_; intro a128 hE129; clear hE125
       refine q_step (v := .bool (F_isPoint np2)) hE129 (y_assign rfl) rfl rfl rfl ?_; intro a130 hE131; clear hE129
       refine c_nil ?_
       have hE132 := hE131.sub (L' := [(2, .bool (F_isPoint np2))]) ⟨rfl, trivial⟩; clear hE131
       refine p_tn ?_
       have hE133 := hE132.sub (L' := [(2, .bool (F_isPoint np2))]) ⟨rfl, trivial⟩
       have hS134 := (St.pick (Γ' := [.blk b1 #[.int .i64 np0, .int .i64 np1, .int .i64 np2] 115]) hS37 [0] (by decide) rfl)
       exact ⟨(by rw [hb116]; exact hE133), hS134⟩
      ·
       have hE135 := hE115; (try rw [hb116] at hE135); clear hE115
       refine q_skip hE135 rfl rfl rfl ?_; intro a136 hE137; clear hE135
       refine q_skip hE137 rfl rfl rfl ?_; intro a138 hE139; clear hE137
       refine q_skip hE139 rfl rfl rfl ?_; intro a140 hE141; clear hE139
       refine q_step (v := .bool false) hE141 (y_pick (b := false) rfl rfl) rfl rfl rfl ?_; intro a142 hE143; clear hE141
       refine q_step (v := .bool false) hE143 (y_assign rfl) rfl rfl rfl ?_; intro a144 hE145; clear hE143
       refine c_nil ?_
       have hE146 := hE145.sub (L' := [(2, .bool false)]) ⟨rfl, trivial⟩; clear hE145
       refine p_tn ?_
       have hE147 := hE146.sub (L' := [(2, .bool false)]) ⟨rfl, trivial⟩
       have hS148 := (St.pick (Γ' := [.blk b1 #[.int .i64 np0, .int .i64 np1, .int .i64 np2] 115]) hS37 [0] (by decide) rfl)
       exact ⟨(by rw [hb116]; exact hE147), hS148⟩
     ·
      rintro a149 w150 ⟨hE151, hS152⟩; clear hE103 hS37
      refine wp_ret ?_
      refine p_br ?_
      refine p_tr ?_
      have hF : F_isPointNode np0 np1 np2 = ((F_isVariable np1) && (F_isPoint np2)) := by unfold F_isPointNode; rw [ht101, ht39]; first | done | rfl
      refine c_ret1 hE151 rfl rfl ?_
      exact ⟨(by rw [hF]; first | done | (dsimp only; done) | rfl), hS152.ext⟩
    ·
     have hp154 := of_decide_eq_false ht101
     have hE155 := hE100; rw [ht101] at hE155; clear hE100
     refine c_cut (fun a' w' => E a' 50 [(1, .pointer (some ⟨b1, 0, none⟩)), (26, .bool ((decide (np0 = 7)) || (decide (np0 = 8))))] ∧ St w w' [.blk b1 #[.int .i64 np0, .int .i64 np1, .int .i64 np2] 115]) ?_ ?_
     ·
      refine c_seq ?_
      refine c_reg ?_
      refine q_step (v := .bool (decide (np0 = 7))) hE155 (y_eql rfl rfl) rfl rfl rfl ?_; intro a156 hE157; clear hE155
      refine q_step (v := .bool (decide (np0 = 7))) hE157 (y_assign rfl) rfl rfl rfl ?_; intro a158 hE159; clear hE157
      refine c_nil ?_
      have hE160 := hE159.sub (L' := [(1, .pointer (some ⟨b1, 0, none⟩)), (4, .int .i64 np0), (26, .bool (decide (np0 = 7)))]) ⟨rfl, rfl, rfl, trivial⟩; clear hE159
      refine p_tn ?_
      refine c_cond hE160 rfl (fun ht161 => ?_) (fun ht161 => ?_)
      ·
       have hp162 := of_decide_eq_true ht161
       have hE163 := hE160; rw [ht161] at hE163; clear hE160
       refine wp_skip ?_
       refine p_tn ?_
       have hE164 := hE163.sub (L' := [(1, .pointer (some ⟨b1, 0, none⟩)), (26, .bool true)]) ⟨rfl, rfl, trivial⟩
       have hS165 := (St.pick (Γ' := [.blk b1 #[.int .i64 np0, .int .i64 np1, .int .i64 np2] 115]) hS37 [0] (by decide) rfl)
       exact ⟨(by rw [ht161]; exact hE164), hS165⟩
      ·
       have hp166 := of_decide_eq_false ht161
       have hE167 := hE160; rw [ht161] at hE167; clear hE160
       refine c_reg ?_
       refine q_step (v := .bool (decide (np0 = 8))) hE167 (y_eql rfl rfl) rfl rfl rfl ?_; intro a168 hE169; clear hE167
       refine q_step (v := .bool (decide (np0 = 8))) hE169 (y_assign rfl) rfl rfl rfl ?_; intro a170 hE171; clear hE169
       refine c_nil ?_
       have hE172 := hE171.sub (L' := [(1, .pointer (some ⟨b1, 0, none⟩)), (26, .bool (decide (np0 = 8)))]) ⟨rfl, rfl, trivial⟩; clear hE171
       refine p_tn ?_
       have hE173 := hE172.sub (L' := [(1, .pointer (some ⟨b1, 0, none⟩)), (26, .bool (decide (np0 = 8)))]) ⟨rfl, rfl, trivial⟩
       have hS174 := (St.pick (Γ' := [.blk b1 #[.int .i64 np0, .int .i64 np1, .int .i64 np2] 115]) hS37 [0] (by decide) rfl)
       exact ⟨(by rw [ht161]; exact hE173), hS174⟩
     ·
      rintro a175 w176 ⟨hE177, hS178⟩; clear hE155 hS37
      refine c_cond hE177 rfl (fun ht180 => ?_) (fun ht180 => ?_)
      ·
       have hE181 := hE177; rw [ht180] at hE181; clear hE177
       refine c_cut (fun a' w' => E a' 50 [(2, .bool ((F_isPoint np1) && (decide (np2 = 0))))] ∧ St w w' [.blk b1 #[.int .i64 np0, .int .i64 np1, .int .i64 np2] 115]) ?_ ?_
       ·
        refine c_reg ?_
        refine q_step (v := .pointer (some ⟨b1, 1, none⟩)) hE181 (y_field rfl (fun _ => by kernel_rfl)) rfl rfl rfl ?_; intro a182 hE183; clear hE181
        refine q_step (v := .int .i64 np1) hE183 (y_load (fun _ => by kernel_rfl) rfl (St.cell (i := 0) hS178 rfl rfl)) rfl rfl rfl ?_; intro a184 hE185; clear hE183
        refine l_step hE185 rfl (l_call (f := 205) (argv := [.int .i64 np1]) hE185 (fun _ => cf_isPoint _ _) rfl rfl (c_isPoint np1 w176) ?_)
        rintro _ _ ⟨rfl, rfl⟩ a188 hE189; clear hE185
        refine q_step (v := .bool (F_isPoint np1)) hE189 (y_move rfl) rfl rfl rfl ?_; intro a192 hE193; clear hE189
        rcases Bool.eq_false_or_eq_true (F_isPoint np1) with hb194 | hb194
        ·
         have hE195 := hE193; (try rw [hb194] at hE195); clear hE193
         refine q_step (v := .pointer (some ⟨b1, 2, none⟩)) hE195 (y_field rfl (fun _ => by kernel_rfl)) rfl rfl rfl ?_; intro a196 hE197; clear hE195
         refine q_step (v := .int .i64 np2) hE197 (y_load (fun _ => by kernel_rfl) rfl (St.cell (i := 0) hS178 rfl rfl)) rfl rfl rfl ?_; intro a198 hE199; clear hE197
         refine q_step (v := .bool (decide (np2 = 0))) hE199 (y_eql rfl rfl) rfl rfl rfl ?_; intro a200 hE201; clear hE199
         refine q_step (v := .bool (decide (np2 = 0))) hE201 (y_pick (b := true) rfl rfl) rfl rfl rfl ?_; intro a202 hE203; clear hE201
         refine q_step (v := .bool (decide (np2 = 0))) hE203 (y_assign rfl) rfl rfl rfl ?_; intro a204 hE205; clear hE203
         refine c_nil ?_
         have hE206 := hE205.sub (L' := [(2, .bool (decide (np2 = 0)))]) ⟨rfl, trivial⟩; clear hE205
         refine p_tn ?_
         have hE207 := hE206.sub (L' := [(2, .bool (decide (np2 = 0)))]) ⟨rfl, trivial⟩
         have hS208 := (St.pick (Γ' := [.blk b1 #[.int .i64 np0, .int .i64 np1, .int .i64 np2] 115]) hS178 [0] (by decide) rfl)
         exact ⟨(by rw [hb194]; exact hE207), hS208⟩
        ·
         have hE209 := hE193; (try rw [hb194] at hE209); clear hE193
         refine q_skip hE209 rfl rfl rfl ?_; intro a210 hE211; clear hE209
         refine q_skip hE211 rfl rfl rfl ?_; intro a212 hE213; clear hE211
         refine q_skip hE213 rfl rfl rfl ?_; intro a214 hE215; clear hE213
         refine q_step (v := .bool false) hE215 (y_pick (b := false) rfl rfl) rfl rfl rfl ?_; intro a216 hE217; clear hE215
         refine q_step (v := .bool false) hE217 (y_assign rfl) rfl rfl rfl ?_; intro a218 hE219; clear hE217
         refine c_nil ?_
         have hE220 := hE219.sub (L' := [(2, .bool false)]) ⟨rfl, trivial⟩; clear hE219
         refine p_tn ?_
         have hE221 := hE220.sub (L' := [(2, .bool false)]) ⟨rfl, trivial⟩
         have hS222 := (St.pick (Γ' := [.blk b1 #[.int .i64 np0, .int .i64 np1, .int .i64 np2] 115]) hS178 [0] (by decide) rfl)
         exact ⟨(by rw [hb194]; exact hE221), hS222⟩
       ·
        rintro a223 w224 ⟨hE225, hS226⟩; clear hE181 hS178
        refine wp_ret ?_
        refine p_br ?_
        refine p_tr ?_
        have hF : F_isPointNode np0 np1 np2 = ((F_isPoint np1) && (decide (np2 = 0))) := by unfold F_isPointNode; rw [ht180, ht101, ht39]; first | done | rfl
        refine c_ret1 hE225 rfl rfl ?_
        exact ⟨(by rw [hF]; first | done | (dsimp only; done) | rfl), hS226.ext⟩
      ·
       obtain ⟨ht228, ht229⟩ := bor_f ht180
       have hp230 := of_decide_eq_false ht228
       have hp231 := of_decide_eq_false ht229
       have hE232 := hE177; rw [ht180] at hE232; clear hE177
       refine wp_skip ?_
       refine p_bn ?_
       refine p_tn ?_
       refine c_cut (fun a' w' => E a' 50 [(2, .bool ((F_inRange np0 3 6) && ((decide (np1 = 0)) && (decide (np2 = 0)))))] ∧ St w w' [.blk b1 #[.int .i64 np0, .int .i64 np1, .int .i64 np2] 115]) ?_ ?_
       ·
        refine c_reg ?_
        refine q_step (v := .pointer (some ⟨b1, 0, none⟩)) hE232 (y_field rfl (fun _ => by kernel_rfl)) rfl rfl rfl ?_; intro a233 hE234; clear hE232
        refine q_step (v := .int .i64 np0) hE234 (y_load (fun _ => by kernel_rfl) rfl (St.cell (i := 0) hS178 rfl rfl)) rfl rfl rfl ?_; intro a235 hE236; clear hE234
        refine l_step hE236 rfl (l_call (f := 75) (argv := [.int .i64 np0, .int .i64 3, .int .i64 6]) hE236 (fun _ => cf_inRange _ _) rfl rfl (c_inRange np0 3 6 w176) ?_)
        rintro _ _ ⟨rfl, rfl⟩ a239 hE240; clear hE236
        refine q_step (v := .bool (F_inRange np0 3 6)) hE240 (y_move rfl) rfl rfl rfl ?_; intro a243 hE244; clear hE240
        rcases Bool.eq_false_or_eq_true (F_inRange np0 3 6) with hb245 | hb245
        ·
         have hE246 := hE244; (try rw [hb245] at hE246); clear hE244
         refine q_step (v := .pointer (some ⟨b1, 1, none⟩)) hE246 (y_field rfl (fun _ => by kernel_rfl)) rfl rfl rfl ?_; intro a247 hE248; clear hE246
         refine q_step (v := .int .i64 np1) hE248 (y_load (fun _ => by kernel_rfl) rfl (St.cell (i := 0) hS178 rfl rfl)) rfl rfl rfl ?_; intro a249 hE250; clear hE248
         refine q_step (v := .bool (decide (np1 = 0))) hE250 (y_eql rfl rfl) rfl rfl rfl ?_; intro a251 hE252; clear hE250
         refine q_step (v := .bool (decide (np1 = 0))) hE252 (y_pick (b := true) rfl rfl) rfl rfl rfl ?_; intro a253 hE254; clear hE252
         refine q_step (v := .bool (decide (np1 = 0))) hE254 (y_move rfl) rfl rfl rfl ?_; intro a255 hE256; clear hE254
         rcases Bool.eq_false_or_eq_true (decide (np1 = 0)) with hb257 | hb257
         ·
          have hE258 := hE256; (try rw [hb257] at hE258); clear hE256
          have hp259 := of_decide_eq_true hb257
          refine q_step (v := .pointer (some ⟨b1, 2, none⟩)) hE258 (y_field rfl (fun _ => by kernel_rfl)) rfl rfl rfl ?_; intro a260 hE261; clear hE258
          refine q_step (v := .int .i64 np2) hE261 (y_load (fun _ => by kernel_rfl) rfl (St.cell (i := 0) hS178 rfl rfl)) rfl rfl rfl ?_; intro a262 hE263; clear hE261
          refine q_step (v := .bool (decide (np2 = 0))) hE263 (y_eql rfl rfl) rfl rfl rfl ?_; intro a264 hE265; clear hE263
          refine q_step (v := .bool (decide (np2 = 0))) hE265 (y_pick (b := true) rfl rfl) rfl rfl rfl ?_; intro a266 hE267; clear hE265
          refine q_step (v := .bool (decide (np2 = 0))) hE267 (y_assign rfl) rfl rfl rfl ?_; intro a268 hE269; clear hE267
          refine c_nil ?_
          have hE270 := hE269.sub (L' := [(2, .bool (decide (np2 = 0)))]) ⟨rfl, trivial⟩; clear hE269
          refine p_tn ?_
          have hE271 := hE270.sub (L' := [(2, .bool (decide (np2 = 0)))]) ⟨rfl, trivial⟩
          have hS272 := (St.pick (Γ' := [.blk b1 #[.int .i64 np0, .int .i64 np1, .int .i64 np2] 115]) hS178 [0] (by decide) rfl)
          exact ⟨(by rw [hb257, hb245]; exact hE271), hS272⟩
         ·
          have hE273 := hE256; (try rw [hb257] at hE273); clear hE256
          have hp274 := of_decide_eq_false hb257
          refine q_skip hE273 rfl rfl rfl ?_; intro a275 hE276; clear hE273
          refine q_skip hE276 rfl rfl rfl ?_; intro a277 hE278; clear hE276
          refine q_skip hE278 rfl rfl rfl ?_; intro a279 hE280; clear hE278
          refine q_step (v := .bool false) hE280 (y_pick (b := false) rfl rfl) rfl rfl rfl ?_; intro a281 hE282; clear hE280
          refine q_step (v := .bool false) hE282 (y_assign rfl) rfl rfl rfl ?_; intro a283 hE284; clear hE282
          refine c_nil ?_
          have hE285 := hE284.sub (L' := [(2, .bool false)]) ⟨rfl, trivial⟩; clear hE284
          refine p_tn ?_
          have hE286 := hE285.sub (L' := [(2, .bool false)]) ⟨rfl, trivial⟩
          have hS287 := (St.pick (Γ' := [.blk b1 #[.int .i64 np0, .int .i64 np1, .int .i64 np2] 115]) hS178 [0] (by decide) rfl)
          exact ⟨(by rw [hb257, hb245]; exact hE286), hS287⟩
        ·
         have hE288 := hE244; (try rw [hb245] at hE288); clear hE244
         refine q_skip hE288 rfl rfl rfl ?_; intro a289 hE290; clear hE288
         refine q_skip hE290 rfl rfl rfl ?_; intro a291 hE292; clear hE290
         refine q_skip hE292 rfl rfl rfl ?_; intro a293 hE294; clear hE292
         refine q_step (v := .bool false) hE294 (y_pick (b := false) rfl rfl) rfl rfl rfl ?_; intro a295 hE296; clear hE294
         refine q_step (v := .bool false) hE296 (y_move rfl) rfl rfl rfl ?_; intro a297 hE298; clear hE296
         refine q_skip hE298 rfl rfl rfl ?_; intro a299 hE300; clear hE298
         refine q_skip hE300 rfl rfl rfl ?_; intro a301 hE302; clear hE300
         refine q_skip hE302 rfl rfl rfl ?_; intro a303 hE304; clear hE302
         refine q_step (v := .bool false) hE304 (y_pick (b := false) rfl rfl) rfl rfl rfl ?_; intro a305 hE306; clear hE304
         refine q_step (v := .bool false) hE306 (y_assign rfl) rfl rfl rfl ?_; intro a307 hE308; clear hE306
         refine c_nil ?_
         have hE309 := hE308.sub (L' := [(2, .bool false)]) ⟨rfl, trivial⟩; clear hE308
         refine p_tn ?_
         have hE310 := hE309.sub (L' := [(2, .bool false)]) ⟨rfl, trivial⟩
         have hS311 := (St.pick (Γ' := [.blk b1 #[.int .i64 np0, .int .i64 np1, .int .i64 np2] 115]) hS178 [0] (by decide) rfl)
         exact ⟨(by rw [hb245]; exact hE310), hS311⟩
       ·
        rintro a312 w313 ⟨hE314, hS315⟩; clear hE232 hS178
        refine wp_ret ?_
        have hF : F_isPointNode np0 np1 np2 = ((F_inRange np0 3 6) && ((decide (np1 = 0)) && (decide (np2 = 0)))) := by unfold F_isPointNode; rw [ht180, ht101, ht39]; first | done | rfl
        refine c_ret1 hE314 rfl rfl ?_
        exact ⟨(by rw [hF]; first | done | (dsimp only; done) | rfl), hS315.ext⟩
def F_isPointFormula_k1 (np0 : Int) (np1 : Int) (np2 : Int) : Bool :=
  (!(F_isPointNode np0 np1 np2))
theorem cf_isPointFormula_k1 (args : Array Value) (w : World) : (callFunc 169 args).run Try.prog w = .ok (.enter 169 args) w := by kernel_rfl
set_option maxRecDepth 100000 in
theorem c_isPointFormula_k1 (np0 : Int) (np1 : Int) (np2 : Int) (w : World) :
    Calls Try.prog 169 #[.agg #[.int .i64 np0, .int .i64 np1, .int .i64 np2]] w (Ret fun v w' => v = .bool (F_isPointFormula_k1 np0 np1 np2) ∧ Ext w w') := by
  have hS := St.nil w
  refine enter (args := [.agg #[.int .i64 np0, .int .i64 np1, .int .i64 np2]]) Try.func169 rfl rfl ?_
  rw [Try.ntmps169]; intro a hE
  have hE := hE.sub (L' := [(0, .agg #[.int .i64 np0, .int .i64 np1, .int .i64 np2])]) ⟨rfl, trivial⟩
  refine c_seq ?_
  refine c_reg ?_
  refine l_step hE rfl (l_box (v := .agg #[.int .i64 np0, .int .i64 np1, .int .i64 np2]) (cs := #[.int .i64 np0, .int .i64 np1, .int .i64 np2]) hS hE rfl rfl rfl ?_)
  intro b1 w2 hS5 he6 a3 hE4; clear hS hE
  refine q_step (v := .bool false) hE4 (y_assign rfl) rfl rfl rfl ?_; intro a7 hE8; clear hE4
  refine c_nil ?_
  have hE9 := hE8.sub (L' := [(1, .pointer (some ⟨b1, 0, none⟩))]) ⟨rfl, trivial⟩; clear hE8
  refine p_tn ?_
  refine c_seq ?_
  refine c_reg ?_
  refine q_step (v := .agg #[.int .i64 np0, .int .i64 np1, .int .i64 np2]) hE9 (y_loadS Try.underlying115 rfl (by kernel_rfl) rfl (St.row (i := 0) hS5 rfl)) rfl rfl rfl ?_; intro a10 hE11; clear hE9
  refine l_step hE11 rfl (l_call (f := 170) (argv := [.agg #[.int .i64 np0, .int .i64 np1, .int .i64 np2]]) hE11 (fun _ => cf_isPointNode _ _) rfl rfl (c_isPointNode np0 np1 np2 w2) ?_)
  rintro _ w13 ⟨rfl, he17⟩ a14 hE15; clear hE11
  have hS16 := St.go hS5 he17; clear hS5
  refine q_step (v := .bool (!(F_isPointNode np0 np1 np2))) hE15 (y_not rfl) rfl rfl rfl ?_; intro a18 hE19; clear hE15
  refine q_step (v := .bool (!(F_isPointNode np0 np1 np2))) hE19 (y_assign rfl) rfl rfl rfl ?_; intro a20 hE21; clear hE19
  refine c_nil ?_
  have hE22 := hE21.sub (L' := [(2, .bool (!(F_isPointNode np0 np1 np2)))]) ⟨rfl, trivial⟩; clear hE21
  refine p_tn ?_
  refine wp_ret ?_
  have hF : F_isPointFormula_k1 np0 np1 np2 = (!(F_isPointNode np0 np1 np2)) := by unfold F_isPointFormula_k1; rfl
  refine c_ret1 hE22 rfl rfl ?_
  exact ⟨(by rw [hF]; first | done | (dsimp only; done) | rfl), hS16.ext⟩
def F_z_IndexFuncPointNode_L1b (sp : List Int) (fp : Int → Int → Int → Bool) (rec : Int → Except (Int) (Int)) (t8 : Int) : Except (Int) (Int) :=
  bif (decide (t8 < (((sp).length / 3 : Nat) : Int))) then (bif (fp (gS 3 0 sp t8) (gS 3 1 sp t8) (gS 3 2 sp t8)) then (.error t8) else (rec (t8 + 1))) else (.ok t8)
def F_z_IndexFuncPointNode_L1 (sp : List Int) (fp : Int → Int → Int → Bool) : Nat → Int → Except (Int) (Int)
  | 0, t8 => .ok t8
  | r + 1, t8 => F_z_IndexFuncPointNode_L1b sp fp (F_z_IndexFuncPointNode_L1 sp fp r) t8
def F_z_IndexFuncPointNode (sp : List Int) (fp : Int → Int → Int → Bool) : Int :=
  bif (isOk (F_z_IndexFuncPointNode_L1 sp fp (Int.toNat ((((sp).length / 3 : Nat) : Int) - 0) + 1) 0)) then (-1) else (errD (F_z_IndexFuncPointNode_L1 sp fp (Int.toNat ((((sp).length / 3 : Nat) : Int) - 0) + 1) 0))
theorem cf_z_IndexFuncPointNode (args : Array Value) (w : World) : (callFunc 174 args).run Try.prog w = .ok (.enter 174 args) w := by kernel_rfl
set_option maxRecDepth 100000 in
theorem c_z_IndexFuncPointNode (spA : Option Addr) (spN spC : Nat) (sp : List Int) (fpF : FuncId) (fpC : List Value) (fp : Int → Int → Int → Bool) (fpD : Int → Int → Int → Prop) (w : World) (spR : RdS w 3 spA spN spC sp) (fpE : ∀ args w, (callFunc fpF args).run Try.prog w = .ok (.enter fpF args) w) (fpH : ∀ (x0 : Int) (x1 : Int) (x2 : Int) (w' : World), fpD x0 x1 x2 → Ext w w' → Calls Try.prog fpF (([.agg #[.int .i64 x0, .int .i64 x1, .int .i64 x2]] ++ fpC : List Value).toArray) w' (Ret fun v w'' => v = .bool (fp x0 x1 x2) ∧ Ext w' w'')) (fpDom : ∀ m : Int, 0 ≤ m → m < ((sp.length / 3 : Nat) : Int) → fpD (gS 3 0 sp m) (gS 3 1 sp m) (gS 3 2 sp m)) :
    Calls Try.prog 174 #[.slice spA spN spC, .func (.func fpF) #[] fpC.toArray] w (Ret fun v w' => v = .int .i64 (F_z_IndexFuncPointNode sp fp) ∧ Ext w w') := by
  obtain rfl : spN = sp.length / 3 := (spR.lenD (by decide)).symm
  have spEv := spR.ev (by decide)
  have spLe := spR.le
  have hS := St.nil w
  have hS1 := St.rd0 hS rfl spR; clear hS
  refine enter (args := [.slice spA ((sp).length / 3 : Nat) spC, .func (.func fpF) #[] fpC.toArray]) Try.func174 rfl rfl ?_
  rw [Try.ntmps174]; intro a hE
  have hE := hE.sub (L' := [(0, .slice spA ((sp).length / 3 : Nat) spC), (1, .func (.func fpF) #[] fpC.toArray)]) ⟨rfl, rfl, trivial⟩
  refine c_seq ?_
  refine c_reg ?_
  refine q_step (v := .int .i64 0) hE (y_assign rfl) rfl rfl rfl ?_; intro a2 hE3; clear hE
  refine c_nil ?_
  have hE4 := hE3.sub (L' := [(0, .slice spA ((sp).length / 3 : Nat) spC), (1, .func (.func fpF) #[] fpC.toArray)]) ⟨rfl, rfl, trivial⟩; clear hE3
  refine p_tn ?_
  refine c_seq ?_
  refine c_seq ?_
  refine c_reg ?_
  refine q_step (v := .slice spA ((sp).length / 3 : Nat) spC) hE4 (y_move rfl) rfl rfl rfl ?_; intro a5 hE6; clear hE4
  refine q_step (v := .int .i64 (((sp).length / 3 : Nat) : Int)) hE6 (y_len (e := 115) (by kernel_rfl) rfl) rfl rfl rfl ?_; intro a7 hE8; clear hE6
  refine q_step (v := .int .i64 0) hE8 (y_move rfl) rfl rfl rfl ?_; intro a9 hE10; clear hE8
  refine c_nil ?_
  have hE11 := hE10.sub (L' := [(0, .slice spA ((sp).length / 3 : Nat) spC), (1, .func (.func fpF) #[] fpC.toArray), (7, .int .i64 (((sp).length / 3 : Nat) : Int)), (8, .int .i64 0)]) ⟨rfl, rfl, rfl, rfl, trivial⟩; clear hE10
  refine p_tn ?_
  refine c_cut1 (fun a' w' => isOk (F_z_IndexFuncPointNode_L1 sp fp (Int.toNat ((((sp).length / 3 : Nat) : Int) - 0) + 1) 0) = true ∧ (0 ≤ (okD (F_z_IndexFuncPointNode_L1 sp fp (Int.toNat ((((sp).length / 3 : Nat) : Int) - 0) + 1) 0))) ∧ ((okD (F_z_IndexFuncPointNode_L1 sp fp (Int.toNat ((((sp).length / 3 : Nat) : Int) - 0) + 1) 0)) ≤ (((sp).length / 3 : Nat) : Int)) ∧ E a' 19 [(0, .slice spA ((sp).length / 3 : Nat) spC), (1, .func (.func fpF) #[] fpC.toArray), (7, .int .i64 (((sp).length / 3 : Nat) : Int)), (8, .int .i64 (okD (F_z_IndexFuncPointNode_L1 sp fp (Int.toNat ((((sp).length / 3 : Nat) : Int) - 0) + 1) 0)))] ∧ St w w' [.rd 3 spA ((sp).length / 3 : Nat) spC sp]) ?_ ?_
  ·
   refine wp_block ?_
   refine c_loop (fun r a' w' => ∃ t8 : Int, F_z_IndexFuncPointNode_L1 sp fp r t8 = F_z_IndexFuncPointNode_L1 sp fp (Int.toNat ((((sp).length / 3 : Nat) : Int) - 0) + 1) 0 ∧ Int.toNat ((((sp).length / 3 : Nat) : Int) - t8) < r ∧ (0 ≤ t8) ∧ (t8 ≤ (((sp).length / 3 : Nat) : Int)) ∧ E a' 19 [(0, .slice spA ((sp).length / 3 : Nat) spC), (1, .func (.func fpF) #[] fpC.toArray), (7, .int .i64 (((sp).length / 3 : Nat) : Int)), (8, .int .i64 t8)] ∧ St w w' [.rd 3 spA ((sp).length / 3 : Nat) spC sp]) (r := (Int.toNat ((((sp).length / 3 : Nat) : Int) - 0) + 1)) ?_ ?_
   · exact ⟨0, rfl, Nat.lt_succ_self _, (by first | omega | (simp only [sS_len, sL_len]; omega) | (simp only [List.length_replicate, sI_len]; omega) | (simp only [List.length_append, List.length_cons, List.length_nil, sI_len, cond_true, cond_false]; omega) | (simp only [List.length_append, List.length_cons, List.length_nil, sI_len, cond_eq_ite, apply_ite List.length]; split <;> simp only [List.length_append, List.length_cons, List.length_nil, sI_len] <;> omega) | grind), (by first | omega | (simp only [sS_len, sL_len]; omega) | (simp only [List.length_replicate, sI_len]; omega) | (simp only [List.length_append, List.length_cons, List.length_nil, sI_len, cond_true, cond_false]; omega) | (simp only [List.length_append, List.length_cons, List.length_nil, sI_len, cond_eq_ite, apply_ite List.length]; split <;> simp only [List.length_append, List.length_cons, List.length_nil, sI_len] <;> omega) | grind), (hE11.sub (L' := [(0, .slice spA ((sp).length / 3 : Nat) spC), (1, .func (.func fpF) #[] fpC.toArray), (7, .int .i64 (((sp).length / 3 : Nat) : Int)), (8, .int .i64 0)]) ⟨rfl, rfl, rfl, rfl, trivial⟩), (St.pick (Γ' := [.rd 3 spA ((sp).length / 3 : Nat) spC sp]) hS1 [0] (by decide) rfl)⟩
   ·
    clear hE11 hS1
    rintro r21 a13 w14 ⟨t8, hT17, hr18, hi19, hi20, hE15, hS16⟩
    obtain ⟨r21, rfl⟩ : ∃ r', r21 = r' + 1 := ⟨r21 - 1, by omega⟩
    refine c_seq ?_
    refine c_reg ?_
    refine q_step (v := .bool (decide (t8 < (((sp).length / 3 : Nat) : Int)))) hE15 (y_lss rfl rfl) rfl rfl rfl ?_; intro a22 hE23; clear hE15
    refine c_nil ?_
    have hE24 := hE23.sub (L' := [(0, .slice spA ((sp).length / 3 : Nat) spC), (1, .func (.func fpF) #[] fpC.toArray), (7, .int .i64 (((sp).length / 3 : Nat) : Int)), (8, .int .i64 t8), (9, .bool (decide (t8 < (((sp).length / 3 : Nat) : Int))))]) ⟨rfl, rfl, rfl, rfl, rfl, trivial⟩; clear hE23
    refine p_tn ?_
    refine c_seq ?_
    refine c_cond hE24 rfl (fun ht25 => ?_) (fun ht25 => ?_)
    ·
     have hp26 := of_decide_eq_true ht25
     have hE27 := hE24; rw [ht25] at hE27; clear hE24
     refine wp_skip ?_
     refine p_tn ?_
     refine c_seq ?_
     refine wp_block ?_
     refine c_seq ?_
     refine c_reg ?_
     refine q_step (v := .int .i64 t8) hE27 (y_move rfl) rfl rfl rfl ?_; intro a28 hE29; clear hE27
     refine q_step (v := .int .i64 t8) hE29 (y_assign rfl) rfl rfl rfl ?_; intro a30 hE31; clear hE29
     refine c_nil ?_
     have hE32 := hE31.sub (L' := [(0, .slice spA ((sp).length / 3 : Nat) spC), (1, .func (.func fpF) #[] fpC.toArray), (5, .int .i64 t8), (7, .int .i64 (((sp).length / 3 : Nat) : Int)), (8, .int .i64 t8)]) ⟨rfl, rfl, rfl, rfl, rfl, trivial⟩; clear hE31
     refine p_tn ?_
     refine c_seq ?_
     refine c_reg ?_
     refine q_step (v := .func (.func fpF) #[] fpC.toArray) hE32 (y_move rfl) rfl rfl rfl ?_; intro a33 hE34; clear hE32
     refine q_step (v := .slice spA ((sp).length / 3 : Nat) spC) hE34 (y_move rfl) rfl rfl rfl ?_; intro a35 hE36; clear hE34
     refine q_step (v := .int .i64 t8) hE36 (y_move rfl) rfl rfl rfl ?_; intro a37 hE38; clear hE36
     refine q_step (v := .pointer (some (adr spA (Int.toNat t8 * 3)))) hE38 (y_idx (by kernel_rfl) (fun _ => by kernel_rfl) rfl rfl (RdS.isS (m := t8) (St.rdR (i := 0) hS16 rfl) (by omega) (by omega)) (by omega) (by omega) rfl) rfl rfl rfl ?_; intro a39 hE40; clear hE38
     refine q_step (v := .agg #[.int .i64 (gS 3 0 sp t8), .int .i64 (gS 3 1 sp t8), .int .i64 (gS 3 2 sp t8)]) hE40 (y_loadE Try.underlying115 rfl (by kernel_rfl) rfl (RdS.rng3 (St.rdR (i := 0) hS16 rfl) (by omega) (by omega))) rfl rfl rfl ?_; intro a41 hE42; clear hE40
     refine l_step hE42 rfl (l_callv (f := fpF) (caps := fpC) (argv := [.agg #[.int .i64 (gS 3 0 sp t8), .int .i64 (gS 3 1 sp t8), .int .i64 (gS 3 2 sp t8)]]) hE42 rfl (fun _ => fpE _ _) rfl rfl (fpH (gS 3 0 sp t8) (gS 3 1 sp t8) (gS 3 2 sp t8) w14 (fpDom t8 (by omega) (by omega)) hS16.ext) ?_)
     rintro _ w44 ⟨rfl, he48⟩ a45 hE46; clear hE42
     have hS47 := St.go hS16 he48; clear hS16
     refine c_nil ?_
     have hE49 := hE46.sub (L' := [(0, .slice spA ((sp).length / 3 : Nat) spC), (1, .func (.func fpF) #[] fpC.toArray), (5, .int .i64 t8), (7, .int .i64 (((sp).length / 3 : Nat) : Int)), (8, .int .i64 t8), (16, .bool (fp (gS 3 0 sp t8) (gS 3 1 sp t8) (gS 3 2 sp t8)))]) ⟨rfl, rfl, rfl, rfl, rfl, rfl, trivial⟩; clear hE46
     refine p_tn ?_
     refine c_cond hE49 rfl (fun ht50 => ?_) (fun ht50 => ?_)
     ·
      have hE51 := hE49; rw [ht50] at hE51; clear hE49
      refine c_seq ?_
      refine c_reg ?_
      refine q_step (v := .int .i64 t8) hE51 (y_move rfl) rfl rfl rfl ?_; intro a52 hE53; clear hE51
      refine q_step (v := .int .i64 t8) hE53 (y_assign rfl) rfl rfl rfl ?_; intro a54 hE55; clear hE53
      refine c_nil ?_
      have hE56 := hE55.sub (L' := [(4, .int .i64 t8)]) ⟨rfl, trivial⟩; clear hE55
      refine p_tn ?_
      refine wp_ret ?_
      refine p_br ?_
      refine p_tr ?_
      have hX57 : F_z_IndexFuncPointNode_L1 sp fp (Int.toNat ((((sp).length / 3 : Nat) : Int) - 0) + 1) 0 = .error t8 := hT17.symm.trans (show F_z_IndexFuncPointNode_L1b sp fp (F_z_IndexFuncPointNode_L1 sp fp r21) t8 = .error t8 by unfold F_z_IndexFuncPointNode_L1b; rw [ht50, ht25]; first | done | rfl)
      refine p_tr (p_br (p_tr ?_))
      refine p_tr ?_
      have hF : F_z_IndexFuncPointNode sp fp = t8 := by unfold F_z_IndexFuncPointNode; rw [hX57]; first | done | rfl
      refine c_ret1 hE56 rfl rfl ?_
      exact ⟨(by rw [hF]; first | done | (dsimp only; done) | rfl), hS47.ext⟩
     ·
      have hE58 := hE49; rw [ht50] at hE58; clear hE49
      refine wp_skip ?_
      refine p_bn ?_
      refine p_tn ?_
      refine c_reg ?_
      refine q_step (v := .int .i64 (t8 + 1)) hE58 (y_add rfl rfl ⟨(by omega), (by omega)⟩) rfl rfl rfl ?_; intro a59 hE60; clear hE58
      refine q_step (v := .int .i64 (t8 + 1)) hE60 (y_move rfl) rfl rfl rfl ?_; intro a61 hE62; clear hE60
      refine c_nil ?_
      have hE63 := hE62.sub (L' := [(0, .slice spA ((sp).length / 3 : Nat) spC), (1, .func (.func fpF) #[] fpC.toArray), (7, .int .i64 (((sp).length / 3 : Nat) : Int)), (8, .int .i64 (t8 + 1))]) ⟨rfl, rfl, rfl, rfl, trivial⟩; clear hE62
      refine p_tn ⟨r21, Nat.lt_succ_self _, t8 + 1, (hT17.symm.trans (show F_z_IndexFuncPointNode_L1b sp fp (F_z_IndexFuncPointNode_L1 sp fp r21) t8 = F_z_IndexFuncPointNode_L1 sp fp r21 (t8 + 1) by unfold F_z_IndexFuncPointNode_L1b; rw [ht50, ht25]; first | done | rfl)).symm, (by omega), (by first | omega | (simp only [sS_len, sL_len]; omega) | (simp only [List.length_replicate, sI_len]; omega) | (simp only [List.length_append, List.length_cons, List.length_nil, sI_len, cond_true, cond_false]; omega) | (simp only [List.length_append, List.length_cons, List.length_nil, sI_len, cond_eq_ite, apply_ite List.length]; split <;> simp only [List.length_append, List.length_cons, List.length_nil, sI_len] <;> omega) | grind), (by first | omega | (simp only [sS_len, sL_len]; omega) | (simp only [List.length_replicate, sI_len]; omega) | (simp only [List.length_append, List.length_cons, List.length_nil, sI_len, cond_true, cond_false]; omega) | (simp only [List.length_append, List.length_cons, List.length_nil, sI_len, cond_eq_ite, apply_ite List.length]; split <;> simp only [List.length_append, List.length_cons, List.length_nil, sI_len] <;> omega) | grind), (hE63.sub (L' := [(0, .slice spA ((sp).length / 3 : Nat) spC), (1, .func (.func fpF) #[] fpC.toArray), (7, .int .i64 (((sp).length / 3 : Nat) : Int)), (8, .int .i64 (t8 + 1))]) ⟨rfl, rfl, rfl, rfl, trivial⟩), (St.pick (Γ' := [.rd 3 spA ((sp).length / 3 : Nat) spC sp]) hS47 [0] (by decide) rfl)⟩
    ·
     have hp64 := of_decide_eq_false ht25
     have hE65 := hE24; rw [ht25] at hE65; clear hE24
     refine wp_exit ?_
     refine p_te ?_
     have hX66 : F_z_IndexFuncPointNode_L1 sp fp (Int.toNat ((((sp).length / 3 : Nat) : Int) - 0) + 1) 0 = .ok t8 := hT17.symm.trans (show F_z_IndexFuncPointNode_L1b sp fp (F_z_IndexFuncPointNode_L1 sp fp r21) t8 = .ok t8 by unfold F_z_IndexFuncPointNode_L1b; rw [ht25]; first | done | rfl)
     refine p_te (p_be (p_tn ?_))
     exact ⟨(by rw [hX66]; rfl), (by rw [hX66]; exact (show 0 ≤ t8 from (by first | omega | (simp only [sS_len, sL_len]; omega) | (simp only [List.length_replicate, sI_len]; omega) | (simp only [List.length_append, List.length_cons, List.length_nil, sI_len, cond_true, cond_false]; omega) | (simp only [List.length_append, List.length_cons, List.length_nil, sI_len, cond_eq_ite, apply_ite List.length]; split <;> simp only [List.length_append, List.length_cons, List.length_nil, sI_len] <;> omega) | grind))), (by rw [hX66]; exact (show t8 ≤ (((sp).length / 3 : Nat) : Int) from (by first | omega | (simp only [sS_len, sL_len]; omega) | (simp only [List.length_replicate, sI_len]; omega) | (simp only [List.length_append, List.length_cons, List.length_nil, sI_len, cond_true, cond_false]; omega) | (simp only [List.length_append, List.length_cons, List.length_nil, sI_len, cond_eq_ite, apply_ite List.length]; split <;> simp only [List.length_append, List.length_cons, List.length_nil, sI_len] <;> omega) | grind))), (by rw [hX66]; exact (hE65.sub (L' := [(0, .slice spA ((sp).length / 3 : Nat) spC), (1, .func (.func fpF) #[] fpC.toArray), (7, .int .i64 (((sp).length / 3 : Nat) : Int)), (8, .int .i64 t8)]) ⟨rfl, rfl, rfl, rfl, trivial⟩)), (St.pick (Γ' := [.rd 3 spA ((sp).length / 3 : Nat) spC sp]) hS16 [0] (by decide) rfl)⟩
  ·
   rintro a67 w68 ⟨hO71, hi72, hi73, hE69, hS70⟩; clear hE11 hS1
   refine p_tn ?_
   refine c_seq ?_
   refine c_reg ?_
   refine q_step (v := .int .i64 (-1)) hE69 (y_assign rfl) rfl rfl rfl ?_; intro a74 hE75; clear hE69
   refine c_nil ?_
   have hE76 := hE75.sub (L' := [(4, .int .i64 (-1))]) ⟨rfl, trivial⟩; clear hE75
   refine p_tn ?_
   refine wp_ret ?_
   have hF : F_z_IndexFuncPointNode sp fp = -1 := by unfold F_z_IndexFuncPointNode; rw [hO71]; first | done | rfl
   refine c_ret1 hE76 rfl rfl ?_
   exact ⟨(by rw [hF]; first | done | (dsimp only; done) | rfl), hS70.ext⟩
def F_z_ContainsFuncPointNode (sp : List Int) (fp : Int → Int → Int → Bool) : Bool :=
  decide (0 ≤ (F_z_IndexFuncPointNode sp fp))
theorem cf_z_ContainsFuncPointNode (args : Array Value) (w : World) : (callFunc 107 args).run Try.prog w = .ok (.enter 107 args) w := by kernel_rfl
set_option maxRecDepth 100000 in
theorem c_z_ContainsFuncPointNode (spA : Option Addr) (spN spC : Nat) (sp : List Int) (fpF : FuncId) (fpC : List Value) (fp : Int → Int → Int → Bool) (fpD : Int → Int → Int → Prop) (w : World) (spR : RdS w 3 spA spN spC sp) (fpE : ∀ args w, (callFunc fpF args).run Try.prog w = .ok (.enter fpF args) w) (fpH : ∀ (x0 : Int) (x1 : Int) (x2 : Int) (w' : World), fpD x0 x1 x2 → Ext w w' → Calls Try.prog fpF (([.agg #[.int .i64 x0, .int .i64 x1, .int .i64 x2]] ++ fpC : List Value).toArray) w' (Ret fun v w'' => v = .bool (fp x0 x1 x2) ∧ Ext w' w'')) (fpDom : ∀ m : Int, 0 ≤ m → m < ((sp.length / 3 : Nat) : Int) → fpD (gS 3 0 sp m) (gS 3 1 sp m) (gS 3 2 sp m)) :
    Calls Try.prog 107 #[.slice spA spN spC, .func (.func fpF) #[] fpC.toArray] w (Ret fun v w' => v = .bool (F_z_ContainsFuncPointNode sp fp) ∧ Ext w w') := by
  obtain rfl : spN = sp.length / 3 := (spR.lenD (by decide)).symm
  have spEv := spR.ev (by decide)
  have spLe := spR.le
  have hS := St.nil w
  have hS1 := St.rd0 hS rfl spR; clear hS
  refine enter (args := [.slice spA ((sp).length / 3 : Nat) spC, .func (.func fpF) #[] fpC.toArray]) Try.func107 rfl rfl ?_
  rw [Try.ntmps107]; intro a hE
  have hE := hE.sub (L' := [(0, .slice spA ((sp).length / 3 : Nat) spC), (1, .func (.func fpF) #[] fpC.toArray)]) ⟨rfl, rfl, trivial⟩
  refine c_seq ?_
  refine c_reg ?_
  refine q_step (v := .bool false) hE (y_assign rfl) rfl rfl rfl ?_; intro a2 hE3; clear hE
  refine c_nil ?_
  have hE4 := hE3.sub (L' := [(0, .slice spA ((sp).length / 3 : Nat) spC), (1, .func (.func fpF) #[] fpC.toArray)]) ⟨rfl, rfl, trivial⟩; clear hE3
  refine p_tn ?_
  refine c_seq ?_
  refine c_reg ?_
  refine q_step (v := .slice spA ((sp).length / 3 : Nat) spC) hE4 (y_move rfl) rfl rfl rfl ?_; intro a5 hE6; clear hE4
  refine q_step (v := .func (.func fpF) #[] fpC.toArray) hE6 (y_move rfl) rfl rfl rfl ?_; intro a7 hE8; clear hE6
  refine l_step hE8 rfl (l_call (f := 174) (argv := [.slice spA ((sp).length / 3 : Nat) spC, .func (.func fpF) #[] fpC.toArray]) hE8 (fun _ => cf_z_IndexFuncPointNode _ _) rfl rfl (c_z_IndexFuncPointNode spA ((sp).length / 3 : Nat) spC sp fpF fpC fp fpD w (St.rdR (i := 0) hS1 rfl) fpE (fun x0 x1 x2 w' hx he => fpH x0 x1 x2 w' hx (hS1.ext.trans he)) fpDom) ?_)
  rintro _ w10 ⟨rfl, he14⟩ a11 hE12; clear hE8
  have hS13 := St.go hS1 he14; clear hS1
  refine q_step (v := .bool (decide (0 ≤ (F_z_IndexFuncPointNode sp fp)))) hE12 (y_geq rfl rfl) rfl rfl rfl ?_; intro a15 hE16; clear hE12
  refine q_step (v := .bool (decide (0 ≤ (F_z_IndexFuncPointNode sp fp)))) hE16 (y_assign rfl) rfl rfl rfl ?_; intro a17 hE18; clear hE16
  refine c_nil ?_
  have hE19 := hE18.sub (L' := [(4, .bool (decide (0 ≤ (F_z_IndexFuncPointNode sp fp))))]) ⟨rfl, trivial⟩; clear hE18
  refine p_tn ?_
  refine wp_ret ?_
  have hF : F_z_ContainsFuncPointNode sp fp = decide (0 ≤ (F_z_IndexFuncPointNode sp fp)) := by unfold F_z_ContainsFuncPointNode; rfl
  refine c_ret1 hE19 rfl rfl ?_
  exact ⟨(by rw [hF]; first | done | (dsimp only; done) | rfl), hS13.ext⟩
def F_pointEnd_L1b (ap : List Int) (rec : Int → Int → Except (Int) (Int × Int)) (i1 : Int) (open5 : Int) : Except (Int) (Int × Int) :=
  bif (decide (0 < open5)) then (bif (decide ((((ap).length / 3 : Nat) : Int) ≤ i1)) then (.error (-1)) else (rec (i1 + 1) (open5 + ((F_pointParts (gS 3 0 ap i1)) - 1)))) else (.ok (i1, open5))
def F_pointEnd_L1 (ap : List Int) : Nat → Int → Int → Except (Int) (Int × Int)
  | 0, i1, open5 => .ok (i1, open5)
  | r + 1, i1, open5 => F_pointEnd_L1b ap (F_pointEnd_L1 ap r) i1 open5
def F_pointEnd (ap : List Int) (i : Int) : Int :=
  bif (isOk (F_pointEnd_L1 ap (Int.toNat (((ap.length / 3 : Nat) : Int) - i) + 1) i 1)) then ((okD (F_pointEnd_L1 ap (Int.toNat (((ap.length / 3 : Nat) : Int) - i) + 1) i 1)).1) else (errD (F_pointEnd_L1 ap (Int.toNat (((ap.length / 3 : Nat) : Int) - i) + 1) i 1))
theorem cf_pointEnd (args : Array Value) (w : World) : (callFunc 171 args).run Try.prog w = .ok (.enter 171 args) w := by kernel_rfl
set_option maxRecDepth 100000 in
theorem c_pointEnd (apA : Option Addr) (apN apC : Nat) (ap : List Int) (i : Int) (w : World) (apR : RdS w 3 apA apN apC ap) (hl : ap.length ≤ 4194304) (h0 : 0 ≤ i) :
    Calls Try.prog 171 #[.slice apA apN apC, .int .i64 i] w (Ret fun v w' => v = .int .i64 (F_pointEnd ap i) ∧ Ext w w') := by
  obtain rfl : apN = ap.length / 3 := (apR.lenD (by decide)).symm
  have apEv := apR.ev (by decide)
  have apLe := apR.le
  have hS := St.nil w
  have hS1 := St.rd0 hS rfl apR; clear hS
  refine enter (args := [.slice apA ((ap).length / 3 : Nat) apC, .int .i64 i]) Try.func171 rfl rfl ?_
  rw [Try.ntmps171]; intro a hE
  have hE := hE.sub (L' := [(0, .slice apA ((ap).length / 3 : Nat) apC), (1, .int .i64 i)]) ⟨rfl, rfl, trivial⟩
  refine c_seq ?_
  refine c_reg ?_
  refine q_step (v := .int .i64 0) hE (y_assign rfl) rfl rfl rfl ?_; intro a2 hE3; clear hE
  refine c_nil ?_
  have hE4 := hE3.sub (L' := [(0, .slice apA ((ap).length / 3 : Nat) apC), (1, .int .i64 i)]) ⟨rfl, rfl, trivial⟩; clear hE3
  refine p_tn ?_
  refine c_seq ?_
  refine c_seq ?_
  refine c_reg ?_
  refine q_step (v := .int .i64 1) hE4 (y_assign rfl) rfl rfl rfl ?_; intro a5 hE6; clear hE4
  refine c_nil ?_
  have hE7 := hE6.sub (L' := [(0, .slice apA ((ap).length / 3 : Nat) apC), (1, .int .i64 i), (5, .int .i64 1)]) ⟨rfl, rfl, rfl, trivial⟩; clear hE6
  refine p_tn ?_
  refine c_cut1 (fun a' w' => isOk (F_pointEnd_L1 ap (Int.toNat (((ap.length / 3 : Nat) : Int) - i) + 1) i 1) = true ∧ (i ≤ ((okD (F_pointEnd_L1 ap (Int.toNat (((ap.length / 3 : Nat) : Int) - i) + 1) i 1)).1)) ∧ (0 ≤ ((okD (F_pointEnd_L1 ap (Int.toNat (((ap.length / 3 : Nat) : Int) - i) + 1) i 1)).2)) ∧ (((okD (F_pointEnd_L1 ap (Int.toNat (((ap.length / 3 : Nat) : Int) - i) + 1) i 1)).2) ≤ ((okD (F_pointEnd_L1 ap (Int.toNat (((ap.length / 3 : Nat) : Int) - i) + 1) i 1)).1) - i + 1) ∧ E a' 24 [(0, .slice apA ((ap).length / 3 : Nat) apC), (1, .int .i64 ((okD (F_pointEnd_L1 ap (Int.toNat (((ap.length / 3 : Nat) : Int) - i) + 1) i 1)).1)), (5, .int .i64 ((okD (F_pointEnd_L1 ap (Int.toNat (((ap.length / 3 : Nat) : Int) - i) + 1) i 1)).2))] ∧ St w w' [.rd 3 apA ((ap).length / 3 : Nat) apC ap]) ?_ ?_
  ·
   refine wp_block ?_
   refine c_loop (fun r a' w' => ∃ i1 : Int, ∃ open5 : Int, F_pointEnd_L1 ap r i1 open5 = F_pointEnd_L1 ap (Int.toNat (((ap.length / 3 : Nat) : Int) - i) + 1) i 1 ∧ Int.toNat (((ap.length / 3 : Nat) : Int) - i1) < r ∧ (i ≤ i1) ∧ (0 ≤ open5) ∧ (open5 ≤ i1 - i + 1) ∧ E a' 24 [(0, .slice apA ((ap).length / 3 : Nat) apC), (1, .int .i64 i1), (5, .int .i64 open5)] ∧ St w w' [.rd 3 apA ((ap).length / 3 : Nat) apC ap]) (r := (Int.toNat (((ap.length / 3 : Nat) : Int) - i) + 1)) ?_ ?_
   · exact ⟨i, 1, rfl, Nat.lt_succ_self _, (by first | omega | (simp only [sS_len, sL_len]; omega) | (simp only [List.length_replicate, sI_len]; omega) | (simp only [List.length_append, List.length_cons, List.length_nil, sI_len, cond_true, cond_false]; omega) | (simp only [List.length_append, List.length_cons, List.length_nil, sI_len, cond_eq_ite, apply_ite List.length]; split <;> simp only [List.length_append, List.length_cons, List.length_nil, sI_len] <;> omega) | grind), (by first | omega | (simp only [sS_len, sL_len]; omega) | (simp only [List.length_replicate, sI_len]; omega) | (simp only [List.length_append, List.length_cons, List.length_nil, sI_len, cond_true, cond_false]; omega) | (simp only [List.length_append, List.length_cons, List.length_nil, sI_len, cond_eq_ite, apply_ite List.length]; split <;> simp only [List.length_append, List.length_cons, List.length_nil, sI_len] <;> omega) | grind), (by first | omega | (simp only [sS_len, sL_len]; omega) | (simp only [List.length_replicate, sI_len]; omega) | (simp only [List.length_append, List.length_cons, List.length_nil, sI_len, cond_true, cond_false]; omega) | (simp only [List.length_append, List.length_cons, List.length_nil, sI_len, cond_eq_ite, apply_ite List.length]; split <;> simp only [List.length_append, List.length_cons, List.length_nil, sI_len] <;> omega) | grind), (hE7.sub (L' := [(0, .slice apA ((ap).length / 3 : Nat) apC), (1, .int .i64 i), (5, .int .i64 1)]) ⟨rfl, rfl, rfl, trivial⟩), (St.pick (Γ' := [.rd 3 apA ((ap).length / 3 : Nat) apC ap]) hS1 [0] (by decide) rfl)⟩
   ·
    clear hE7 hS1
    rintro r18 a9 w10 ⟨i1, open5, hT13, hr14, hi15, hi16, hi17, hE11, hS12⟩
    obtain ⟨r18, rfl⟩ : ∃ r', r18 = r' + 1 := ⟨r18 - 1, by omega⟩
    refine c_seq ?_
    refine c_seq ?_
    refine c_reg ?_
    refine q_step (v := .int .i64 open5) hE11 (y_move rfl) rfl rfl rfl ?_; intro a19 hE20; clear hE11
    refine q_step (v := .bool (decide (0 < open5))) hE20 (y_gtr rfl rfl) rfl rfl rfl ?_; intro a21 hE22; clear hE20
    refine c_nil ?_
    have hE23 := hE22.sub (L' := [(0, .slice apA ((ap).length / 3 : Nat) apC), (1, .int .i64 i1), (5, .int .i64 open5), (7, .bool (decide (0 < open5)))]) ⟨rfl, rfl, rfl, rfl, trivial⟩; clear hE22
    refine p_tn ?_
    refine c_cond hE23 rfl (fun ht24 => ?_) (fun ht24 => ?_)
    ·
     have hp25 := of_decide_eq_true ht24
     have hE26 := hE23; rw [ht24] at hE26; clear hE23
     refine wp_skip ?_
     refine p_tn ?_
     refine c_seq ?_
     refine wp_block ?_
     refine c_seq ?_
     refine c_seq ?_
     refine c_reg ?_
     refine q_step (v := .int .i64 i1) hE26 (y_move rfl) rfl rfl rfl ?_; intro a27 hE28; clear hE26
     refine q_step (v := .slice apA ((ap).length / 3 : Nat) apC) hE28 (y_move rfl) rfl rfl rfl ?_; intro a29 hE30; clear hE28
     refine q_step (v := .int .i64 (((ap).length / 3 : Nat) : Int)) hE30 (y_len (e := 115) (by kernel_rfl) rfl) rfl rfl rfl ?_; intro a31 hE32; clear hE30
     refine q_step (v := .bool (decide ((((ap).length / 3 : Nat) : Int) ≤ i1))) hE32 (y_geq rfl rfl) rfl rfl rfl ?_; intro a33 hE34; clear hE32
     refine c_nil ?_
     have hE35 := hE34.sub (L' := [(0, .slice apA ((ap).length / 3 : Nat) apC), (1, .int .i64 i1), (5, .int .i64 open5), (13, .bool (decide ((((ap).length / 3 : Nat) : Int) ≤ i1)))]) ⟨rfl, rfl, rfl, rfl, trivial⟩; clear hE34
     refine p_tn ?_
     refine c_cond hE35 rfl (fun ht36 => ?_) (fun ht36 => ?_)
     ·
      have hp37 := of_decide_eq_true ht36
      have hE38 := hE35; rw [ht36] at hE38; clear hE35
      refine c_seq ?_
      refine c_reg ?_
      refine q_step (v := .int .i64 (-1)) hE38 (y_assign rfl) rfl rfl rfl ?_; intro a39 hE40; clear hE38
      refine c_nil ?_
      have hE41 := hE40.sub (L' := [(4, .int .i64 (-1))]) ⟨rfl, trivial⟩; clear hE40
      refine p_tn ?_
      refine wp_ret ?_
      refine p_tr ?_
      refine p_br ?_
      refine p_tr ?_
      have hX42 : F_pointEnd_L1 ap (Int.toNat (((ap.length / 3 : Nat) : Int) - i) + 1) i 1 = .error (-1) := hT13.symm.trans (show F_pointEnd_L1b ap (F_pointEnd_L1 ap r18) i1 open5 = .error (-1) by unfold F_pointEnd_L1b; rw [ht36, ht24]; first | done | rfl)
      refine p_tr (p_br (p_tr ?_))
      refine p_tr ?_
      have hF : F_pointEnd ap i = -1 := by unfold F_pointEnd; rw [hX42]; first | done | rfl
      refine c_ret1 hE41 rfl rfl ?_
      exact ⟨(by rw [hF]; first | done | (dsimp only; done) | rfl), hS12.ext⟩
     ·
      have hp43 := of_decide_eq_false ht36
      have hE44 := hE35; rw [ht36] at hE44; clear hE35
      refine wp_skip ?_
      refine p_tn ?_
      refine c_reg ?_
      refine q_step (v := .int .i64 open5) hE44 (y_move rfl) rfl rfl rfl ?_; intro a45 hE46; clear hE44
      refine q_step (v := .slice apA ((ap).length / 3 : Nat) apC) hE46 (y_move rfl) rfl rfl rfl ?_; intro a47 hE48; clear hE46
      refine q_step (v := .int .i64 i1) hE48 (y_move rfl) rfl rfl rfl ?_; intro a49 hE50; clear hE48
      refine q_step (v := .pointer (some (adr apA (Int.toNat i1 * 3)))) hE50 (y_idx (by kernel_rfl) (fun _ => by kernel_rfl) rfl rfl (RdS.isS (m := i1) (St.rdR (i := 0) hS12 rfl) (by omega) (by omega)) (by omega) (by omega) rfl) rfl rfl rfl ?_; intro a51 hE52; clear hE50
      refine q_step (v := .pointer (some (adr apA ((Int.toNat i1 * 3) + 0)))) hE52 (y_fieldE (o := 0) (fun _ _ => by kernel_rfl) rfl) rfl rfl rfl ?_; intro a53 hE54; clear hE52
      refine q_step (v := .int .i64 (gS 3 0 ap i1)) hE54 (y_load (fun _ => by kernel_rfl) rfl (RdS.eltS (j := 0) (St.rdR (i := 0) hS12 rfl) (by omega) (by omega) (by decide))) rfl rfl rfl ?_; intro a55 hE56; clear hE54
      refine l_step hE56 rfl (l_call (f := 173) (argv := [.int .i64 (gS 3 0 ap i1)]) hE56 (fun _ => cf_pointParts _ _) rfl rfl (c_pointParts (gS 3 0 ap i1) w10) ?_)
      rintro _ _ ⟨rfl, rfl⟩ a59 hE60; clear hE56
      have hf63 := pointParts_bd (gS 3 0 ap i1)
      refine q_step (v := .int .i64 ((F_pointParts (gS 3 0 ap i1)) - 1)) hE60 (y_sub rfl rfl ⟨(by omega), (by omega)⟩) rfl rfl rfl ?_; intro a64 hE65; clear hE60
      refine q_step (v := .int .i64 (open5 + ((F_pointParts (gS 3 0 ap i1)) - 1))) hE65 (y_add rfl rfl ⟨(by omega), (by omega)⟩) rfl rfl rfl ?_; intro a66 hE67; clear hE65
      refine q_step (v := .int .i64 (open5 + ((F_pointParts (gS 3 0 ap i1)) - 1))) hE67 (y_assign rfl) rfl rfl rfl ?_; intro a68 hE69; clear hE67
      refine c_nil ?_
      have hE70 := hE69.sub (L' := [(0, .slice apA ((ap).length / 3 : Nat) apC), (1, .int .i64 i1), (5, .int .i64 (open5 + ((F_pointParts (gS 3 0 ap i1)) - 1)))]) ⟨rfl, rfl, rfl, trivial⟩; clear hE69
      refine p_bn ?_
      refine p_tn ?_
      refine c_reg ?_
      refine q_step (v := .int .i64 i1) hE70 (y_move rfl) rfl rfl rfl ?_; intro a71 hE72; clear hE70
      refine q_step (v := .int .i64 (i1 + 1)) hE72 (y_add rfl rfl ⟨(by omega), (by omega)⟩) rfl rfl rfl ?_; intro a73 hE74; clear hE72
      refine q_step (v := .int .i64 (i1 + 1)) hE74 (y_assign rfl) rfl rfl rfl ?_; intro a75 hE76; clear hE74
      refine c_nil ?_
      have hE77 := hE76.sub (L' := [(0, .slice apA ((ap).length / 3 : Nat) apC), (1, .int .i64 (i1 + 1)), (5, .int .i64 (open5 + ((F_pointParts (gS 3 0 ap i1)) - 1)))]) ⟨rfl, rfl, rfl, trivial⟩; clear hE76
      refine p_tn ⟨r18, Nat.lt_succ_self _, i1 + 1, open5 + ((F_pointParts (gS 3 0 ap i1)) - 1), (hT13.symm.trans (show F_pointEnd_L1b ap (F_pointEnd_L1 ap r18) i1 open5 = F_pointEnd_L1 ap r18 (i1 + 1) (open5 + ((F_pointParts (gS 3 0 ap i1)) - 1)) by unfold F_pointEnd_L1b; rw [ht36, ht24]; first | done | rfl)).symm, (by omega), (by first | omega | (simp only [sS_len, sL_len]; omega) | (simp only [List.length_replicate, sI_len]; omega) | (simp only [List.length_append, List.length_cons, List.length_nil, sI_len, cond_true, cond_false]; omega) | (simp only [List.length_append, List.length_cons, List.length_nil, sI_len, cond_eq_ite, apply_ite List.length]; split <;> simp only [List.length_append, List.length_cons, List.length_nil, sI_len] <;> omega) | grind), (by first | omega | (simp only [sS_len, sL_len]; omega) | (simp only [List.length_replicate, sI_len]; omega) | (simp only [List.length_append, List.length_cons, List.length_nil, sI_len, cond_true, cond_false]; omega) | (simp only [List.length_append, List.length_cons, List.length_nil, sI_len, cond_eq_ite, apply_ite List.length]; split <;> simp only [List.length_append, List.length_cons, List.length_nil, sI_len] <;> omega) | grind), (by first | omega | (simp only [sS_len, sL_len]; omega) | (simp only [List.length_replicate, sI_len]; omega) | (simp only [List.length_append, List.length_cons, List.length_nil, sI_len, cond_true, cond_false]; omega) | (simp only [List.length_append, List.length_cons, List.length_nil, sI_len, cond_eq_ite, apply_ite List.length]; split <;> simp only [List.length_append, List.length_cons, List.length_nil, sI_len] <;> omega) | grind), (hE77.sub (L' := [(0, .slice apA ((ap).length / 3 : Nat) apC), (1, .int .i64 (i1 + 1)), (5, .int .i64 (open5 + ((F_pointParts (gS 3 0 ap i1)) - 1)))]) ⟨rfl, rfl, rfl, trivial⟩), (St.pick (Γ' := [.rd 3 apA ((ap).length / 3 : Nat) apC ap]) hS12 [0] (by decide) rfl)⟩
    ·
     have hp78 := of_decide_eq_false ht24
     have hE79 := hE23; rw [ht24] at hE79; clear hE23
     refine wp_exit ?_
     refine p_te ?_
     have hX80 : F_pointEnd_L1 ap (Int.toNat (((ap.length / 3 : Nat) : Int) - i) + 1) i 1 = .ok (i1, open5) := hT13.symm.trans (show F_pointEnd_L1b ap (F_pointEnd_L1 ap r18) i1 open5 = .ok (i1, open5) by unfold F_pointEnd_L1b; rw [ht24]; first | done | rfl)
     refine p_te (p_be (p_tn ?_))
     exact ⟨(by rw [hX80]; rfl), (by rw [hX80]; exact (show i ≤ i1 from (by first | omega | (simp only [sS_len, sL_len]; omega) | (simp only [List.length_replicate, sI_len]; omega) | (simp only [List.length_append, List.length_cons, List.length_nil, sI_len, cond_true, cond_false]; omega) | (simp only [List.length_append, List.length_cons, List.length_nil, sI_len, cond_eq_ite, apply_ite List.length]; split <;> simp only [List.length_append, List.length_cons, List.length_nil, sI_len] <;> omega) | grind))), (by rw [hX80]; exact (show 0 ≤ open5 from (by first | omega | (simp only [sS_len, sL_len]; omega) | (simp only [List.length_replicate, sI_len]; omega) | (simp only [List.length_append, List.length_cons, List.length_nil, sI_len, cond_true, cond_false]; omega) | (simp only [List.length_append, List.length_cons, List.length_nil, sI_len, cond_eq_ite, apply_ite List.length]; split <;> simp only [List.length_append, List.length_cons, List.length_nil, sI_len] <;> omega) | grind))), (by rw [hX80]; exact (show open5 ≤ i1 - i + 1 from (by first | omega | (simp only [sS_len, sL_len]; omega) | (simp only [List.length_replicate, sI_len]; omega) | (simp only [List.length_append, List.length_cons, List.length_nil, sI_len, cond_true, cond_false]; omega) | (simp only [List.length_append, List.length_cons, List.length_nil, sI_len, cond_eq_ite, apply_ite List.length]; split <;> simp only [List.length_append, List.length_cons, List.length_nil, sI_len] <;> omega) | grind))), (by rw [hX80]; exact (hE79.sub (L' := [(0, .slice apA ((ap).length / 3 : Nat) apC), (1, .int .i64 i1), (5, .int .i64 open5)]) ⟨rfl, rfl, rfl, trivial⟩)), (St.pick (Γ' := [.rd 3 apA ((ap).length / 3 : Nat) apC ap]) hS12 [0] (by decide) rfl)⟩
  ·
   rintro a81 w82 ⟨hO85, hi86, hi87, hi88, hE83, hS84⟩; clear hE7 hS1
   refine p_tn ?_
   refine c_seq ?_
   refine c_reg ?_
   refine q_step (v := .int .i64 ((okD (F_pointEnd_L1 ap (Int.toNat (((ap.length / 3 : Nat) : Int) - i) + 1) i 1)).1)) hE83 (y_move rfl) rfl rfl rfl ?_; intro a89 hE90; clear hE83
   refine q_step (v := .int .i64 ((okD (F_pointEnd_L1 ap (Int.toNat (((ap.length / 3 : Nat) : Int) - i) + 1) i 1)).1)) hE90 (y_assign rfl) rfl rfl rfl ?_; intro a91 hE92; clear hE90
   refine c_nil ?_
   have hE93 := hE92.sub (L' := [(4, .int .i64 ((okD (F_pointEnd_L1 ap (Int.toNat (((ap.length / 3 : Nat) : Int) - i) + 1) i 1)).1))]) ⟨rfl, trivial⟩; clear hE92
   refine p_tn ?_
   refine wp_ret ?_
   have hF : F_pointEnd ap i = (okD (F_pointEnd_L1 ap (Int.toNat (((ap.length / 3 : Nat) : Int) - i) + 1) i 1)).1 := by unfold F_pointEnd; rw [hO85]; first | done | rfl
   refine c_ret1 hE93 rfl rfl ?_
   exact ⟨(by rw [hF]; first | done | (dsimp only; done) | rfl), hS84.ext⟩
def F_isPointFormula (ap : List Int) : Bool :=
  ((decide (1 ≤ (((ap).length / 3 : Nat) : Int))) && ((decide ((((ap).length / 3 : Nat) : Int) ≤ 120)) && ((!(F_z_ContainsFuncPointNode ap (fun x0 x1 x2 => F_isPointFormula_k1 x0 x1 x2))) && (decide ((F_pointEnd ap 0) = (((ap).length / 3 : Nat) : Int))))))
theorem cf_isPointFormula (args : Array Value) (w : World) : (callFunc 105 args).run Try.prog w = .ok (.enter 105 args) w := by kernel_rfl
set_option maxRecDepth 100000 in
theorem c_isPointFormula (apA : Option Addr) (apN apC : Nat) (ap : List Int) (w : World) (apR : RdS w 3 apA apN apC ap) (hl : ap.length ≤ 4194304) :
    Calls Try.prog 105 #[.slice apA apN apC] w (Ret fun v w' => v = .bool (F_isPointFormula ap) ∧ Ext w w') := by
  obtain rfl : apN = ap.length / 3 := (apR.lenD (by decide)).symm
  have apEv := apR.ev (by decide)
  have apLe := apR.le
  have hS := St.nil w
  have hS1 := St.rd0 hS rfl apR; clear hS
  refine enter (args := [.slice apA ((ap).length / 3 : Nat) apC]) Try.func105 rfl rfl ?_
  rw [Try.ntmps105]; intro a hE
  have hE := hE.sub (L' := [(0, .slice apA ((ap).length / 3 : Nat) apC)]) ⟨rfl, trivial⟩
  refine c_seq ?_
  refine c_reg ?_
  refine q_step (v := .bool false) hE (y_assign rfl) rfl rfl rfl ?_; intro a2 hE3; clear hE
  refine c_nil ?_
  have hE4 := hE3.sub (L' := [(0, .slice apA ((ap).length / 3 : Nat) apC)]) ⟨rfl, trivial⟩; clear hE3
  refine p_tn ?_
  refine c_cut (fun a' w' => E a' 23 [(2, .bool ((decide (1 ≤ (((ap).length / 3 : Nat) : Int))) && ((decide ((((ap).length / 3 : Nat) : Int) ≤ 120)) && ((!(F_z_ContainsFuncPointNode ap (fun x0 x1 x2 => F_isPointFormula_k1 x0 x1 x2))) && (decide ((F_pointEnd ap 0) = (((ap).length / 3 : Nat) : Int)))))))] ∧ St w w' [.rd 3 apA ((ap).length / 3 : Nat) apC ap]) ?_ ?_
  ·
   refine c_reg ?_
   refine q_step (v := .slice apA ((ap).length / 3 : Nat) apC) hE4 (y_move rfl) rfl rfl rfl ?_; intro a5 hE6; clear hE4
   refine q_step (v := .int .i64 (((ap).length / 3 : Nat) : Int)) hE6 (y_len (e := 115) (by kernel_rfl) rfl) rfl rfl rfl ?_; intro a7 hE8; clear hE6
   refine q_step (v := .bool (decide (1 ≤ (((ap).length / 3 : Nat) : Int)))) hE8 (y_geq rfl rfl) rfl rfl rfl ?_; intro a9 hE10; clear hE8
   refine q_step (v := .bool (decide (1 ≤ (((ap).length / 3 : Nat) : Int)))) hE10 (y_move rfl) rfl rfl rfl ?_; intro a11 hE12; clear hE10
   rcases Bool.eq_false_or_eq_true (decide (1 ≤ (((ap).length / 3 : Nat) : Int))) with hb13 | hb13
   ·
    have hE14 := hE12; (try rw [hb13] at hE14); clear hE12
    have hp15 := of_decide_eq_true hb13
    refine q_step (v := .slice apA ((ap).length / 3 : Nat) apC) hE14 (y_move rfl) rfl rfl rfl ?_; intro a16 hE17; clear hE14
    refine q_step (v := .int .i64 (((ap).length / 3 : Nat) : Int)) hE17 (y_len (e := 115) (by kernel_rfl) rfl) rfl rfl rfl ?_; intro a18 hE19; clear hE17
    refine q_step (v := .bool (decide ((((ap).length / 3 : Nat) : Int) ≤ 120))) hE19 (y_leq rfl rfl) rfl rfl rfl ?_; intro a20 hE21; clear hE19
    refine q_step (v := .bool (decide ((((ap).length / 3 : Nat) : Int) ≤ 120))) hE21 (y_pick (b := true) rfl rfl) rfl rfl rfl ?_; intro a22 hE23; clear hE21
    refine q_step (v := .bool (decide ((((ap).length / 3 : Nat) : Int) ≤ 120))) hE23 (y_move rfl) rfl rfl rfl ?_; intro a24 hE25; clear hE23
    rcases Bool.eq_false_or_eq_true (decide ((((ap).length / 3 : Nat) : Int) ≤ 120)) with hb26 | hb26
    ·
     have hE27 := hE25; (try rw [hb26] at hE27); clear hE25
     have hp28 := of_decide_eq_true hb26
     refine q_step (v := .slice apA ((ap).length / 3 : Nat) apC) hE27 (y_move rfl) rfl rfl rfl ?_; intro a29 hE30; clear hE27
     refine l_step hE30 rfl (l_call (f := 107) (argv := [.slice apA ((ap).length / 3 : Nat) apC, .func (.func 169) #[] #[]]) hE30 (fun _ => cf_z_ContainsFuncPointNode _ _) rfl rfl (c_z_ContainsFuncPointNode apA ((ap).length / 3 : Nat) apC ap 169 [] (fun x0 x1 x2 => F_isPointFormula_k1 x0 x1 x2) (fun _ _ _ => True) w (St.rdR (i := 0) hS1 rfl) (fun _ _ => cf_isPointFormula_k1 _ _) (fun x0 x1 x2 w' hx he => c_isPointFormula_k1 x0 x1 x2 w') (fun _ _ _ => trivial)) ?_)
     rintro _ w32 ⟨rfl, he36⟩ a33 hE34; clear hE30
     have hS35 := St.go hS1 he36; clear hS1
     refine q_step (v := .bool (!(F_z_ContainsFuncPointNode ap (fun x0 x1 x2 => F_isPointFormula_k1 x0 x1 x2)))) hE34 (y_not rfl) rfl rfl rfl ?_; intro a37 hE38; clear hE34
     refine q_step (v := .bool (!(F_z_ContainsFuncPointNode ap (fun x0 x1 x2 => F_isPointFormula_k1 x0 x1 x2)))) hE38 (y_pick (b := true) rfl rfl) rfl rfl rfl ?_; intro a39 hE40; clear hE38
     refine q_step (v := .bool (!(F_z_ContainsFuncPointNode ap (fun x0 x1 x2 => F_isPointFormula_k1 x0 x1 x2)))) hE40 (y_move rfl) rfl rfl rfl ?_; intro a41 hE42; clear hE40
     rcases Bool.eq_false_or_eq_true (!(F_z_ContainsFuncPointNode ap (fun x0 x1 x2 => F_isPointFormula_k1 x0 x1 x2))) with hb43 | hb43
     ·
      have hE44 := hE42; (try rw [hb43] at hE44); clear hE42
      have ht45 := bn_t hb43
      refine q_step (v := .slice apA ((ap).length / 3 : Nat) apC) hE44 (y_move rfl) rfl rfl rfl ?_; intro a46 hE47; clear hE44
      refine l_step hE47 rfl (l_call (f := 171) (argv := [.slice apA ((ap).length / 3 : Nat) apC, .int .i64 0]) hE47 (fun _ => cf_pointEnd _ _) rfl rfl (c_pointEnd apA ((ap).length / 3 : Nat) apC ap 0 w32 (St.rdR (i := 0) hS35 rfl) (by omega) (by omega)) ?_)
      rintro _ w49 ⟨rfl, he53⟩ a50 hE51; clear hE47
      have hS52 := St.go hS35 he53; clear hS35
      refine q_step (v := .slice apA ((ap).length / 3 : Nat) apC) hE51 (y_move rfl) rfl rfl rfl ?_; intro a54 hE55; clear hE51
      refine q_step (v := .int .i64 (((ap).length / 3 : Nat) : Int)) hE55 (y_len (e := 115) (by kernel_rfl) rfl) rfl rfl rfl ?_; intro a56 hE57; clear hE55
      refine q_step (v := .bool (decide ((F_pointEnd ap 0) = (((ap).length / 3 : Nat) : Int)))) hE57 (y_eql rfl rfl) rfl rfl rfl ?_; intro a58 hE59; clear hE57
      refine q_step (v := .bool (decide ((F_pointEnd ap 0) = (((ap).length / 3 : Nat) : Int)))) hE59 (y_pick (b := true) rfl rfl) rfl rfl rfl ?_; intro a60 hE61; clear hE59
      refine q_step (v := .bool (decide ((F_pointEnd ap 0) = (((ap).length / 3 : Nat) : Int)))) hE61 (y_assign rfl) rfl rfl rfl ?_; intro a62 hE63; clear hE61
      refine c_nil ?_
      have hE64 := hE63.sub (L' := [(2, .bool (decide ((F_pointEnd ap 0) = (((ap).length / 3 : Nat) : Int))))]) ⟨rfl, trivial⟩; clear hE63
      refine p_tn ?_
      have hE65 := hE64.sub (L' := [(2, .bool (decide ((F_pointEnd ap 0) = (((ap).length / 3 : Nat) : Int))))]) ⟨rfl, trivial⟩
      have hS66 := (St.pick (Γ' := [.rd 3 apA ((ap).length / 3 : Nat) apC ap]) hS52 [0] (by decide) rfl)
      exact ⟨(by rw [hb43, hb26, hb13]; exact hE65), hS66⟩
     ·
      have hE67 := hE42; (try rw [hb43] at hE67); clear hE42
      have ht68 := bn_f hb43
      refine q_skip hE67 rfl rfl rfl ?_; intro a69 hE70; clear hE67
      refine q_skip hE70 rfl rfl rfl ?_; intro a71 hE72; clear hE70
      refine q_skip hE72 rfl rfl rfl ?_; intro a73 hE74; clear hE72
      refine q_skip hE74 rfl rfl rfl ?_; intro a75 hE76; clear hE74
      refine q_skip hE76 rfl rfl rfl ?_; intro a77 hE78; clear hE76
      refine q_step (v := .bool false) hE78 (y_pick (b := false) rfl rfl) rfl rfl rfl ?_; intro a79 hE80; clear hE78
      refine q_step (v := .bool false) hE80 (y_assign rfl) rfl rfl rfl ?_; intro a81 hE82; clear hE80
      refine c_nil ?_
      have hE83 := hE82.sub (L' := [(2, .bool false)]) ⟨rfl, trivial⟩; clear hE82
      refine p_tn ?_
      have hE84 := hE83.sub (L' := [(2, .bool false)]) ⟨rfl, trivial⟩
      have hS85 := (St.pick (Γ' := [.rd 3 apA ((ap).length / 3 : Nat) apC ap]) hS35 [0] (by decide) rfl)
      exact ⟨(by rw [hb43, hb26, hb13]; exact hE84), hS85⟩
    ·
     have hE86 := hE25; (try rw [hb26] at hE86); clear hE25
     have hp87 := of_decide_eq_false hb26
     refine q_skip hE86 rfl rfl rfl ?_; intro a88 hE89; clear hE86
     refine q_skip hE89 rfl rfl rfl ?_; intro a90 hE91; clear hE89
     refine q_skip hE91 rfl rfl rfl ?_; intro a92 hE93; clear hE91
     refine q_step (v := .bool false) hE93 (y_pick (b := false) rfl rfl) rfl rfl rfl ?_; intro a94 hE95; clear hE93
     refine q_step (v := .bool false) hE95 (y_move rfl) rfl rfl rfl ?_; intro a96 hE97; clear hE95
     refine q_skip hE97 rfl rfl rfl ?_; intro a98 hE99; clear hE97
     refine q_skip hE99 rfl rfl rfl ?_; intro a100 hE101; clear hE99
     refine q_skip hE101 rfl rfl rfl ?_; intro a102 hE103; clear hE101
     refine q_skip hE103 rfl rfl rfl ?_; intro a104 hE105; clear hE103
     refine q_skip hE105 rfl rfl rfl ?_; intro a106 hE107; clear hE105
     refine q_step (v := .bool false) hE107 (y_pick (b := false) rfl rfl) rfl rfl rfl ?_; intro a108 hE109; clear hE107
     refine q_step (v := .bool false) hE109 (y_assign rfl) rfl rfl rfl ?_; intro a110 hE111; clear hE109
     refine c_nil ?_
     have hE112 := hE111.sub (L' := [(2, .bool false)]) ⟨rfl, trivial⟩; clear hE111
     refine p_tn ?_
     have hE113 := hE112.sub (L' := [(2, .bool false)]) ⟨rfl, trivial⟩
     have hS114 := (St.pick (Γ' := [.rd 3 apA ((ap).length / 3 : Nat) apC ap]) hS1 [0] (by decide) rfl)
     exact ⟨(by rw [hb26, hb13]; exact hE113), hS114⟩
   ·
    have hE115 := hE12; (try rw [hb13] at hE115); clear hE12
    have hp116 := of_decide_eq_false hb13
    refine q_skip hE115 rfl rfl rfl ?_; intro a117 hE118; clear hE115
    refine q_skip hE118 rfl rfl rfl ?_; intro a119 hE120; clear hE118
    refine q_skip hE120 rfl rfl rfl ?_; intro a121 hE122; clear hE120
    refine q_step (v := .bool false) hE122 (y_pick (b := false) rfl rfl) rfl rfl rfl ?_; intro a123 hE124; clear hE122
    refine q_step (v := .bool false) hE124 (y_move rfl) rfl rfl rfl ?_; intro a125 hE126; clear hE124
    refine q_skip hE126 rfl rfl rfl ?_; intro a127 hE128; clear hE126
    refine q_skip hE128 rfl rfl rfl ?_; intro a129 hE130; clear hE128
    refine q_skip hE130 rfl rfl rfl ?_; intro a131 hE132; clear hE130
    refine q_step (v := .bool false) hE132 (y_pick (b := false) rfl rfl) rfl rfl rfl ?_; intro a133 hE134; clear hE132
    refine q_step (v := .bool false) hE134 (y_move rfl) rfl rfl rfl ?_; intro a135 hE136; clear hE134
    refine q_skip hE136 rfl rfl rfl ?_; intro a137 hE138; clear hE136
    refine q_skip hE138 rfl rfl rfl ?_; intro a139 hE140; clear hE138
    refine q_skip hE140 rfl rfl rfl ?_; intro a141 hE142; clear hE140
    refine q_skip hE142 rfl rfl rfl ?_; intro a143 hE144; clear hE142
    refine q_skip hE144 rfl rfl rfl ?_; intro a145 hE146; clear hE144
    refine q_step (v := .bool false) hE146 (y_pick (b := false) rfl rfl) rfl rfl rfl ?_; intro a147 hE148; clear hE146
    refine q_step (v := .bool false) hE148 (y_assign rfl) rfl rfl rfl ?_; intro a149 hE150; clear hE148
    refine c_nil ?_
    have hE151 := hE150.sub (L' := [(2, .bool false)]) ⟨rfl, trivial⟩; clear hE150
    refine p_tn ?_
    have hE152 := hE151.sub (L' := [(2, .bool false)]) ⟨rfl, trivial⟩
    have hS153 := (St.pick (Γ' := [.rd 3 apA ((ap).length / 3 : Nat) apC ap]) hS1 [0] (by decide) rfl)
    exact ⟨(by rw [hb13]; exact hE152), hS153⟩
  ·
   rintro a154 w155 ⟨hE156, hS157⟩; clear hE4 hS1
   refine wp_ret ?_
   have hF : F_isPointFormula ap = ((decide (1 ≤ (((ap).length / 3 : Nat) : Int))) && ((decide ((((ap).length / 3 : Nat) : Int) ≤ 120)) && ((!(F_z_ContainsFuncPointNode ap (fun x0 x1 x2 => F_isPointFormula_k1 x0 x1 x2))) && (decide ((F_pointEnd ap 0) = (((ap).length / 3 : Nat) : Int)))))) := by unfold F_isPointFormula; rfl
   refine c_ret1 hE156 rfl rfl ?_
   exact ⟨(by rw [hF]; first | done | (dsimp only; done) | rfl), hS157.ext⟩
def F_l10End_L1b (ap : List Int) (self : List Int → Int → Int) (rec : Int → Int → Int × Int) (end5 : Int) (k6 : Int) : Int × Int :=
  bif (decide (0 < k6)) then (bif (decide (0 ≤ end5)) then (rec (self ap end5) (k6 - 1)) else (end5, k6)) else (end5, k6)
def F_l10End_L1 (ap : List Int) (self : List Int → Int → Int) : Nat → Int → Int → Int × Int
  | 0, end5, k6 => (end5, k6)
  | r + 1, end5, k6 => F_l10End_L1b ap self (F_l10End_L1 ap self r) end5 k6
def F_l10End_b (self : List Int → Int → Int) (ap : List Int) (i : Int) : Int :=
  bif (decide ((((ap).length / 3 : Nat) : Int) ≤ i)) then (-1) else ((F_l10End_L1 ap self (Int.toNat (F_l10Parts (gS 3 0 ap i)) + 1) (i + 1) (F_l10Parts (gS 3 0 ap i))).1)
def F_l10End_r : Nat → List Int → Int → Int
  | 0 => fun _ _ => default
  | r + 1 => F_l10End_b (F_l10End_r r)
def F_l10End (ap : List Int) (i : Int) : Int := F_l10End_r ((((ap.length / 3 : Nat) : Int) - i).toNat + 1) ap i
theorem l10End_form (self : List Int → Int → Int) (ap : List Int) {i : Int} (h0 : 0 ≤ i) (h1 : i < ((ap.length / 3 : Nat) : Int)) : F_l10End_b self ap i = bif decide (F_l10Parts (gS 3 0 ap i) = 2) then (bif decide (0 ≤ self ap (i + 1)) then self ap (self ap (i + 1)) else self ap (i + 1)) else bif decide (F_l10Parts (gS 3 0 ap i) = 1) then self ap (i + 1) else i + 1 := by
  have hb := l10Parts_bd (gS 3 0 ap i)
  unfold F_l10End_b
  rw [decide_eq_false (show ¬ ((ap.length / 3 : Nat) : Int) ≤ i by omega), cond_false]
  generalize F_l10Parts (gS 3 0 ap i) = k at *
  have hk : k = -1 ∨ k = 0 ∨ k = 1 ∨ k = 2 := by omega
  have hp : decide (0 ≤ i + 1) = true := decide_eq_true (by omega)
  rcases hk with rfl | rfl | rfl | rfl
  · rfl
  · rfl
  · show (F_l10End_L1b ap self (F_l10End_L1b ap self (F_l10End_L1 ap self 0)) (i + 1) 1).1 = _
    unfold F_l10End_L1b
    rw [hp]; rfl
  · show (F_l10End_L1b ap self (F_l10End_L1b ap self (F_l10End_L1b ap self (F_l10End_L1 ap self 0))) (i + 1) 2).1 = _
    unfold F_l10End_L1b
    rw [hp]
    show (bif decide (0 ≤ self ap (i + 1)) then _ else _ : Int × Int).1 = bif decide (0 ≤ self ap (i + 1)) then _ else _
    cases decide (0 ≤ self ap (i + 1))
    · rfl
    · rfl
theorem l10EndPost : ∀ (r : Nat) (ap : List Int) (i : Int) (hl : ap.length ≤ 4194304) (h0 : 0 ≤ i) (hm : (((ap.length / 3 : Nat) : Int) - i).toNat < r), F_l10End_r r ap i = -1 ∨ (i < F_l10End_r r ap i ∧ F_l10End_r r ap i ≤ ((ap.length / 3 : Nat) : Int)) := by
  intro r
  induction r with
  | zero => intro ap i hl h0 hm; omega
  | succ r ih =>
    intro ap i hl h0 hm
    show F_l10End_b (F_l10End_r r) ap i = -1 ∨ (i < F_l10End_b (F_l10End_r r) ap i ∧ F_l10End_b (F_l10End_r r) ap i ≤ _)
    by_cases h1 : i < ((ap.length / 3 : Nat) : Int)
    · rw [l10End_form _ _ h0 h1]
      have a1 := ih ap (i + 1) hl (by omega) (by omega)
      by_cases h2 : F_l10Parts (gS 3 0 ap i) = 2
      · rw [decide_eq_true h2, cond_true]
        by_cases h3 : 0 ≤ F_l10End_r r ap (i + 1)
        · rw [decide_eq_true h3, cond_true]
          have a2 := ih ap (F_l10End_r r ap (i + 1)) hl (by omega) (by omega)
          omega
        · rw [decide_eq_false h3, cond_false]; omega
      · rw [decide_eq_false h2, cond_false]
        by_cases h4 : F_l10Parts (gS 3 0 ap i) = 1
        · rw [decide_eq_true h4, cond_true]; omega
        · rw [decide_eq_false h4, cond_false]; omega
    · left
      unfold F_l10End_b
      rw [decide_eq_true (by omega)]; rfl
theorem cf_l10End (args : Array Value) (w : World) : (callFunc 163 args).run Try.prog w = .ok (.enter 163 args) w := by kernel_rfl
set_option maxRecDepth 100000 in
theorem cb_l10End (self : List Int → Int → Int) (mu : Nat) (hpost : ∀ (ap : List Int) (i : Int) (hl : ap.length ≤ 4194304) (h0 : 0 ≤ i) (hm : (((ap.length / 3 : Nat) : Int) - i).toNat < mu), (self ap i) = -1 ∨ (i < (self ap i) ∧ (self ap i) ≤ ((ap.length / 3 : Nat) : Int))) (apA : Option Addr) (apN apC : Nat) (ap : List Int) (i : Int) (w : World) (apR : RdS w 3 apA apN apC ap) (hl : ap.length ≤ 4194304) (h0 : 0 ≤ i) (hmu : mu = (((ap.length / 3 : Nat) : Int) - i).toNat) (ih : ∀ (apA : Option Addr) (apN apC : Nat) (ap : List Int) (i : Int) (w : World) (apR : RdS w 3 apA apN apC ap) (hl : ap.length ≤ 4194304) (h0 : 0 ≤ i) (hdec : (((ap.length / 3 : Nat) : Int) - i).toNat < mu), Calls Try.prog 163 #[.slice apA apN apC, .int .i64 i] w (Ret fun v w' => v = .int .i64 (self ap i) ∧ Ext w w')) :
    Calls Try.prog 163 #[.slice apA apN apC, .int .i64 i] w (Ret fun v w' => v = .int .i64 (F_l10End_b self ap i) ∧ Ext w w') := by
  obtain rfl : apN = ap.length / 3 := (apR.lenD (by decide)).symm
  have apEv := apR.ev (by decide)
  have apLe := apR.le
  have hS := St.nil w
  have hS1 := St.rd0 hS rfl apR; clear hS
  refine enter (args := [.slice apA ((ap).length / 3 : Nat) apC, .int .i64 i]) Try.func163 rfl rfl ?_
  rw [Try.ntmps163]; intro a hE
  have hE := hE.sub (L' := [(0, .slice apA ((ap).length / 3 : Nat) apC), (1, .int .i64 i)]) ⟨rfl, rfl, trivial⟩
  refine c_seq ?_
  refine c_reg ?_
  refine q_step (v := .int .i64 0) hE (y_assign rfl) rfl rfl rfl ?_; intro a2 hE3; clear hE
  refine c_nil ?_
  have hE4 := hE3.sub (L' := [(0, .slice apA ((ap).length / 3 : Nat) apC), (1, .int .i64 i)]) ⟨rfl, rfl, trivial⟩; clear hE3
  refine p_tn ?_
  refine c_seq ?_
  refine c_seq ?_
  refine c_reg ?_
  refine q_step (v := .int .i64 i) hE4 (y_move rfl) rfl rfl rfl ?_; intro a5 hE6; clear hE4
  refine q_step (v := .slice apA ((ap).length / 3 : Nat) apC) hE6 (y_move rfl) rfl rfl rfl ?_; intro a7 hE8; clear hE6
  refine q_step (v := .int .i64 (((ap).length / 3 : Nat) : Int)) hE8 (y_len (e := 115) (by kernel_rfl) rfl) rfl rfl rfl ?_; intro a9 hE10; clear hE8
  refine q_step (v := .bool (decide ((((ap).length / 3 : Nat) : Int) ≤ i))) hE10 (y_geq rfl rfl) rfl rfl rfl ?_; intro a11 hE12; clear hE10
  refine c_nil ?_
  have hE13 := hE12.sub (L' := [(0, .slice apA ((ap).length / 3 : Nat) apC), (1, .int .i64 i), (10, .bool (decide ((((ap).length / 3 : Nat) : Int) ≤ i)))]) ⟨rfl, rfl, rfl, trivial⟩; clear hE12
  refine p_tn ?_
  refine c_cond hE13 rfl (fun ht14 => ?_) (fun ht14 => ?_)
  ·
   have hp15 := of_decide_eq_true ht14
   have hE16 := hE13; rw [ht14] at hE16; clear hE13
   refine c_seq ?_
   refine c_reg ?_
   refine q_step (v := .int .i64 (-1)) hE16 (y_assign rfl) rfl rfl rfl ?_; intro a17 hE18; clear hE16
   refine c_nil ?_
   have hE19 := hE18.sub (L' := [(4, .int .i64 (-1))]) ⟨rfl, trivial⟩; clear hE18
   refine p_tn ?_
   refine wp_ret ?_
   refine p_tr ?_
   have hF : F_l10End_b self ap i = -1 := by unfold F_l10End_b; rw [ht14]; first | done | rfl
   refine c_ret1 hE19 rfl rfl ?_
   exact ⟨(by rw [hF]; first | done | (dsimp only; done) | rfl), hS1.ext⟩
  ·
   have hp20 := of_decide_eq_false ht14
   have hE21 := hE13; rw [ht14] at hE21; clear hE13
   refine wp_skip ?_
   refine p_tn ?_
   refine c_seq ?_
   refine c_reg ?_
   refine q_step (v := .int .i64 i) hE21 (y_move rfl) rfl rfl rfl ?_; intro a22 hE23; clear hE21
   refine q_step (v := .int .i64 (i + 1)) hE23 (y_add rfl rfl ⟨(by omega), (by omega)⟩) rfl rfl rfl ?_; intro a24 hE25; clear hE23
   refine q_step (v := .int .i64 (i + 1)) hE25 (y_assign rfl) rfl rfl rfl ?_; intro a26 hE27; clear hE25
   refine c_nil ?_
   have hE28 := hE27.sub (L' := [(0, .slice apA ((ap).length / 3 : Nat) apC), (1, .int .i64 i), (5, .int .i64 (i + 1))]) ⟨rfl, rfl, rfl, trivial⟩; clear hE27
   refine p_tn ?_
   refine c_seq ?_
   refine c_seq ?_
   refine c_reg ?_
   refine q_step (v := .slice apA ((ap).length / 3 : Nat) apC) hE28 (y_move rfl) rfl rfl rfl ?_; intro a29 hE30; clear hE28
   refine q_step (v := .int .i64 i) hE30 (y_move rfl) rfl rfl rfl ?_; intro a31 hE32; clear hE30
   refine q_step (v := .pointer (some (adr apA (Int.toNat i * 3)))) hE32 (y_idx (by kernel_rfl) (fun _ => by kernel_rfl) rfl rfl (RdS.isS (m := i) (St.rdR (i := 0) hS1 rfl) (by omega) (by omega)) (by omega) (by omega) rfl) rfl rfl rfl ?_; intro a33 hE34; clear hE32
   refine q_step (v := .pointer (some (adr apA ((Int.toNat i * 3) + 0)))) hE34 (y_fieldE (o := 0) (fun _ _ => by kernel_rfl) rfl) rfl rfl rfl ?_; intro a35 hE36; clear hE34
   refine q_step (v := .int .i64 (gS 3 0 ap i)) hE36 (y_load (fun _ => by kernel_rfl) rfl (RdS.eltS (j := 0) (St.rdR (i := 0) hS1 rfl) (by omega) (by omega) (by decide))) rfl rfl rfl ?_; intro a37 hE38; clear hE36
   refine l_step hE38 rfl (l_call (f := 161) (argv := [.int .i64 (gS 3 0 ap i)]) hE38 (fun _ => cf_l10Parts _ _) rfl rfl (c_l10Parts (gS 3 0 ap i) w) ?_)
   rintro _ _ ⟨rfl, rfl⟩ a41 hE42; clear hE38
   have hf45 := l10Parts_bd (gS 3 0 ap i)
   refine q_step (v := .int .i64 (F_l10Parts (gS 3 0 ap i))) hE42 (y_assign rfl) rfl rfl rfl ?_; intro a46 hE47; clear hE42
   refine c_nil ?_
   have hE48 := hE47.sub (L' := [(0, .slice apA ((ap).length / 3 : Nat) apC), (5, .int .i64 (i + 1)), (6, .int .i64 (F_l10Parts (gS 3 0 ap i)))]) ⟨rfl, rfl, rfl, trivial⟩; clear hE47
   refine p_tn ?_
   refine c_cut1 (fun a' w' => (((F_l10End_L1 ap self (Int.toNat (F_l10Parts (gS 3 0 ap i)) + 1) (i + 1) (F_l10Parts (gS 3 0 ap i))).2) ≤ 2) ∧ (((F_l10End_L1 ap self (Int.toNat (F_l10Parts (gS 3 0 ap i)) + 1) (i + 1) (F_l10Parts (gS 3 0 ap i))).1) = -1 ∨ (i < ((F_l10End_L1 ap self (Int.toNat (F_l10Parts (gS 3 0 ap i)) + 1) (i + 1) (F_l10Parts (gS 3 0 ap i))).1) ∧ ((F_l10End_L1 ap self (Int.toNat (F_l10Parts (gS 3 0 ap i)) + 1) (i + 1) (F_l10Parts (gS 3 0 ap i))).1) ≤ ((ap.length / 3 : Nat) : Int))) ∧ E a' 31 [(0, .slice apA ((ap).length / 3 : Nat) apC), (5, .int .i64 ((F_l10End_L1 ap self (Int.toNat (F_l10Parts (gS 3 0 ap i)) + 1) (i + 1) (F_l10Parts (gS 3 0 ap i))).1)), (6, .int .i64 ((F_l10End_L1 ap self (Int.toNat (F_l10Parts (gS 3 0 ap i)) + 1) (i + 1) (F_l10Parts (gS 3 0 ap i))).2))] ∧ St w w' [.rd 3 apA ((ap).length / 3 : Nat) apC ap]) ?_ ?_
   ·
    refine wp_block ?_
    refine c_loop (fun r a' w' => ∃ end5 : Int, ∃ k6 : Int, F_l10End_L1 ap self r end5 k6 = F_l10End_L1 ap self (Int.toNat (F_l10Parts (gS 3 0 ap i)) + 1) (i + 1) (F_l10Parts (gS 3 0 ap i)) ∧ Int.toNat k6 < r ∧ (k6 ≤ 2) ∧ (end5 = -1 ∨ (i < end5 ∧ end5 ≤ ((ap.length / 3 : Nat) : Int))) ∧ E a' 31 [(0, .slice apA ((ap).length / 3 : Nat) apC), (5, .int .i64 end5), (6, .int .i64 k6)] ∧ St w w' [.rd 3 apA ((ap).length / 3 : Nat) apC ap]) (r := (Int.toNat (F_l10Parts (gS 3 0 ap i)) + 1)) ?_ ?_
    · exact ⟨i + 1, F_l10Parts (gS 3 0 ap i), rfl, Nat.lt_succ_self _, (by first | omega | (simp only [sS_len, sL_len]; omega) | (simp only [List.length_replicate, sI_len]; omega) | (simp only [List.length_append, List.length_cons, List.length_nil, sI_len, cond_true, cond_false]; omega) | (simp only [List.length_append, List.length_cons, List.length_nil, sI_len, cond_eq_ite, apply_ite List.length]; split <;> simp only [List.length_append, List.length_cons, List.length_nil, sI_len] <;> omega) | grind), (by first | omega | (simp only [sS_len, sL_len]; omega) | (simp only [List.length_replicate, sI_len]; omega) | (simp only [List.length_append, List.length_cons, List.length_nil, sI_len, cond_true, cond_false]; omega) | (simp only [List.length_append, List.length_cons, List.length_nil, sI_len, cond_eq_ite, apply_ite List.length]; split <;> simp only [List.length_append, List.length_cons, List.length_nil, sI_len] <;> omega) | grind), (hE48.sub (L' := [(0, .slice apA ((ap).length / 3 : Nat) apC), (5, .int .i64 (i + 1)), (6, .int .i64 (F_l10Parts (gS 3 0 ap i)))]) ⟨rfl, rfl, rfl, trivial⟩), (St.pick (Γ' := [.rd 3 apA ((ap).length / 3 : Nat) apC ap]) hS1 [0] (by decide) rfl)⟩
    ·
     clear hE48 hS1
     rintro r58 a50 w51 ⟨end5, k6, hT54, hr55, hi56, hi57, hE52, hS53⟩
     obtain ⟨r58, rfl⟩ : ∃ r', r58 = r' + 1 := ⟨r58 - 1, by omega⟩
     refine c_seq ?_
     refine c_seq ?_
     refine c_reg ?_
     refine q_step (v := .int .i64 k6) hE52 (y_move rfl) rfl rfl rfl ?_; intro a59 hE60; clear hE52
     refine q_step (v := .bool (decide (0 < k6))) hE60 (y_gtr rfl rfl) rfl rfl rfl ?_; intro a61 hE62; clear hE60
     refine q_step (v := .bool (decide (0 < k6))) hE62 (y_move rfl) rfl rfl rfl ?_; intro a63 hE64; clear hE62
     rcases Bool.eq_false_or_eq_true (decide (0 < k6)) with hb65 | hb65
     ·
      have hE66 := hE64; (try rw [hb65] at hE66); clear hE64
      have hp67 := of_decide_eq_true hb65
      refine q_step (v := .int .i64 end5) hE66 (y_move rfl) rfl rfl rfl ?_; intro a68 hE69; clear hE66
      refine q_step (v := .bool (decide (0 ≤ end5))) hE69 (y_geq rfl rfl) rfl rfl rfl ?_; intro a70 hE71; clear hE69
      refine q_step (v := .bool (decide (0 ≤ end5))) hE71 (y_pick (b := true) rfl rfl) rfl rfl rfl ?_; intro a72 hE73; clear hE71
      refine c_nil ?_
      have hE74 := hE73.sub (L' := [(0, .slice apA ((ap).length / 3 : Nat) apC), (5, .int .i64 end5), (6, .int .i64 k6), (24, .bool (decide (0 ≤ end5)))]) ⟨rfl, rfl, rfl, rfl, trivial⟩; clear hE73
      refine p_tn ?_
      refine c_cond hE74 rfl (fun ht75 => ?_) (fun ht75 => ?_)
      ·
       have hp76 := of_decide_eq_true ht75
       have hE77 := hE74; rw [ht75] at hE77; clear hE74
       refine wp_skip ?_
       refine p_tn ?_
       refine c_seq ?_
       refine wp_block ?_
       refine c_reg ?_
       refine q_step (v := .slice apA ((ap).length / 3 : Nat) apC) hE77 (y_move rfl) rfl rfl rfl ?_; intro a78 hE79; clear hE77
       refine q_step (v := .int .i64 end5) hE79 (y_move rfl) rfl rfl rfl ?_; intro a80 hE81; clear hE79
       refine l_step hE81 rfl (l_call (f := 163) (argv := [.slice apA ((ap).length / 3 : Nat) apC, .int .i64 end5]) hE81 (fun _ => cf_l10End _ _) rfl rfl (ih apA ((ap).length / 3 : Nat) apC ap end5 w51 (St.rdR (i := 0) hS53 rfl) (by omega) (by omega) (by omega)) ?_)
       rintro _ w83 ⟨rfl, he87⟩ a84 hE85; clear hE81
       have hf88 := hpost ap end5 hl (by omega) (by omega)
       have hS86 := St.go hS53 he87; clear hS53
       refine q_step (v := .int .i64 (self ap end5)) hE85 (y_assign rfl) rfl rfl rfl ?_; intro a89 hE90; clear hE85
       refine c_nil ?_
       have hE91 := hE90.sub (L' := [(0, .slice apA ((ap).length / 3 : Nat) apC), (5, .int .i64 (self ap end5)), (6, .int .i64 k6)]) ⟨rfl, rfl, rfl, trivial⟩; clear hE90
       refine p_bn ?_
       refine p_tn ?_
       refine c_reg ?_
       refine q_step (v := .int .i64 k6) hE91 (y_move rfl) rfl rfl rfl ?_; intro a92 hE93; clear hE91
       refine q_step (v := .int .i64 (k6 - 1)) hE93 (y_sub rfl rfl ⟨(by omega), (by omega)⟩) rfl rfl rfl ?_; intro a94 hE95; clear hE93
       refine q_step (v := .int .i64 (k6 - 1)) hE95 (y_assign rfl) rfl rfl rfl ?_; intro a96 hE97; clear hE95
       refine c_nil ?_
       have hE98 := hE97.sub (L' := [(0, .slice apA ((ap).length / 3 : Nat) apC), (5, .int .i64 (self ap end5)), (6, .int .i64 (k6 - 1))]) ⟨rfl, rfl, rfl, trivial⟩; clear hE97
       refine p_tn ⟨r58, Nat.lt_succ_self _, self ap end5, k6 - 1, (hT54.symm.trans (show F_l10End_L1b ap self (F_l10End_L1 ap self r58) end5 k6 = F_l10End_L1 ap self r58 (self ap end5) (k6 - 1) by unfold F_l10End_L1b; rw [ht75, hb65]; first | done | rfl)).symm, (by omega), (by first | omega | (simp only [sS_len, sL_len]; omega) | (simp only [List.length_replicate, sI_len]; omega) | (simp only [List.length_append, List.length_cons, List.length_nil, sI_len, cond_true, cond_false]; omega) | (simp only [List.length_append, List.length_cons, List.length_nil, sI_len, cond_eq_ite, apply_ite List.length]; split <;> simp only [List.length_append, List.length_cons, List.length_nil, sI_len] <;> omega) | grind), (by first | omega | (simp only [sS_len, sL_len]; omega) | (simp only [List.length_replicate, sI_len]; omega) | (simp only [List.length_append, List.length_cons, List.length_nil, sI_len, cond_true, cond_false]; omega) | (simp only [List.length_append, List.length_cons, List.length_nil, sI_len, cond_eq_ite, apply_ite List.length]; split <;> simp only [List.length_append, List.length_cons, List.length_nil, sI_len] <;> omega) | grind), (hE98.sub (L' := [(0, .slice apA ((ap).length / 3 : Nat) apC), (5, .int .i64 (self ap end5)), (6, .int .i64 (k6 - 1))]) ⟨rfl, rfl, rfl, trivial⟩), (St.pick (Γ' := [.rd 3 apA ((ap).length / 3 : Nat) apC ap]) hS86 [0] (by decide) rfl)⟩
      ·
       have hp99 := of_decide_eq_false ht75
       have hE100 := hE74; rw [ht75] at hE100; clear hE74
       refine wp_exit ?_
       refine p_te ?_
       have hX101 : F_l10End_L1 ap self (Int.toNat (F_l10Parts (gS 3 0 ap i)) + 1) (i + 1) (F_l10Parts (gS 3 0 ap i)) = (end5, k6) := hT54.symm.trans (show F_l10End_L1b ap self (F_l10End_L1 ap self r58) end5 k6 = (end5, k6) by unfold F_l10End_L1b; rw [ht75, hb65]; first | done | rfl)
       refine p_te (p_be (p_tn ?_))
       exact ⟨(by rw [hX101]; exact (show k6 ≤ 2 from (by first | omega | (simp only [sS_len, sL_len]; omega) | (simp only [List.length_replicate, sI_len]; omega) | (simp only [List.length_append, List.length_cons, List.length_nil, sI_len, cond_true, cond_false]; omega) | (simp only [List.length_append, List.length_cons, List.length_nil, sI_len, cond_eq_ite, apply_ite List.length]; split <;> simp only [List.length_append, List.length_cons, List.length_nil, sI_len] <;> omega) | grind))), (by rw [hX101]; exact (show end5 = -1 ∨ (i < end5 ∧ end5 ≤ ((ap.length / 3 : Nat) : Int)) from (by first | omega | (simp only [sS_len, sL_len]; omega) | (simp only [List.length_replicate, sI_len]; omega) | (simp only [List.length_append, List.length_cons, List.length_nil, sI_len, cond_true, cond_false]; omega) | (simp only [List.length_append, List.length_cons, List.length_nil, sI_len, cond_eq_ite, apply_ite List.length]; split <;> simp only [List.length_append, List.length_cons, List.length_nil, sI_len] <;> omega) | grind))), (by rw [hX101]; exact (hE100.sub (L' := [(0, .slice apA ((ap).length / 3 : Nat) apC), (5, .int .i64 end5), (6, .int .i64 k6)]) ⟨rfl, rfl, rfl, trivial⟩)), (St.pick (Γ' := [.rd 3 apA ((ap).length / 3 : Nat) apC ap]) hS53 [0] (by decide) rfl)⟩
     ·
      have hE102 := hE64; (try rw [hb65] at hE102); clear hE64
      have hp103 := of_decide_eq_false hb65
      refine q_skip hE102 rfl rfl rfl ?_; intro a104 hE105; clear hE102
      refine q_skip hE105 rfl rfl rfl ?_; intro a106 hE107; clear hE105
      refine q_step (v := .bool false) hE107 (y_pick (b := false) rfl rfl) rfl rfl rfl ?_; intro a108 hE109; clear hE107
      refine c_nil ?_
      have hE110 := hE109.sub (L' := [(0, .slice apA ((ap).length / 3 : Nat) apC), (5, .int .i64 end5), (6, .int .i64 k6), (24, .bool false)]) ⟨rfl, rfl, rfl, rfl, trivial⟩; clear hE109
      refine p_tn ?_
      refine c_false hE110 rfl ?_
      refine wp_exit ?_
      refine p_te ?_
      have hX111 : F_l10End_L1 ap self (Int.toNat (F_l10Parts (gS 3 0 ap i)) + 1) (i + 1) (F_l10Parts (gS 3 0 ap i)) = (end5, k6) := hT54.symm.trans (show F_l10End_L1b ap self (F_l10End_L1 ap self r58) end5 k6 = (end5, k6) by unfold F_l10End_L1b; rw [hb65]; first | done | rfl)
      refine p_te (p_be (p_tn ?_))
      exact ⟨(by rw [hX111]; exact (show k6 ≤ 2 from (by first | omega | (simp only [sS_len, sL_len]; omega) | (simp only [List.length_replicate, sI_len]; omega) | (simp only [List.length_append, List.length_cons, List.length_nil, sI_len, cond_true, cond_false]; omega) | (simp only [List.length_append, List.length_cons, List.length_nil, sI_len, cond_eq_ite, apply_ite List.length]; split <;> simp only [List.length_append, List.length_cons, List.length_nil, sI_len] <;> omega) | grind))), (by rw [hX111]; exact (show end5 = -1 ∨ (i < end5 ∧ end5 ≤ ((ap.length / 3 : Nat) : Int)) from (by first | omega | (simp only [sS_len, sL_len]; omega) | (simp only [List.length_replicate, sI_len]; omega) | (simp only [List.length_append, List.length_cons, List.length_nil, sI_len, cond_true, cond_false]; omega) | (simp only [List.length_append, List.length_cons, List.length_nil, sI_len, cond_eq_ite, apply_ite List.length]; split <;> simp only [List.length_append, List.length_cons, List.length_nil, sI_len] <;> omega) | grind))), (by rw [hX111]; exact (hE110.sub (L' := [(0, .slice apA ((ap).length / 3 : Nat) apC), (5, .int .i64 end5), (6, .int .i64 k6)]) ⟨rfl, rfl, rfl, trivial⟩)), (St.pick (Γ' := [.rd 3 apA ((ap).length / 3 : Nat) apC ap]) hS53 [0] (by decide) rfl)⟩
   ·
    rintro a112 w113 ⟨hi117, hi118, hE114, hS115⟩; clear hE48 hS1
    refine p_tn ?_
    refine c_seq ?_
    refine c_reg ?_
    refine q_step (v := .int .i64 ((F_l10End_L1 ap self (Int.toNat (F_l10Parts (gS 3 0 ap i)) + 1) (i + 1) (F_l10Parts (gS 3 0 ap i))).1)) hE114 (y_move rfl) rfl rfl rfl ?_; intro a119 hE120; clear hE114
    refine q_step (v := .int .i64 ((F_l10End_L1 ap self (Int.toNat (F_l10Parts (gS 3 0 ap i)) + 1) (i + 1) (F_l10Parts (gS 3 0 ap i))).1)) hE120 (y_assign rfl) rfl rfl rfl ?_; intro a121 hE122; clear hE120
    refine c_nil ?_
    have hE123 := hE122.sub (L' := [(4, .int .i64 ((F_l10End_L1 ap self (Int.toNat (F_l10Parts (gS 3 0 ap i)) + 1) (i + 1) (F_l10Parts (gS 3 0 ap i))).1))]) ⟨rfl, trivial⟩; clear hE122
    refine p_tn ?_
    refine wp_ret ?_
    have hF : F_l10End_b self ap i = (F_l10End_L1 ap self (Int.toNat (F_l10Parts (gS 3 0 ap i)) + 1) (i + 1) (F_l10Parts (gS 3 0 ap i))).1 := by unfold F_l10End_b; rw [ht14]; first | done | rfl
    refine c_ret1 hE123 rfl rfl ?_
    exact ⟨(by rw [hF]; first | done | (dsimp only; done) | rfl), hS115.ext⟩
theorem c_l10End_r : ∀ (r : Nat) (apA : Option Addr) (apN apC : Nat) (ap : List Int) (i : Int) (w : World) (apR : RdS w 3 apA apN apC ap) (hl : ap.length ≤ 4194304) (h0 : 0 ≤ i) (hlt : (((ap.length / 3 : Nat) : Int) - i).toNat < r), Calls Try.prog 163 #[.slice apA apN apC, .int .i64 i] w (Ret fun v w' => v = .int .i64 ((F_l10End_r r) ap i) ∧ Ext w w') := by
  intro r
  induction r with
  | zero => intros; omega
  | succ r ih =>
    intro apA apN apC ap i w apR hl h0 hlt
    exact cb_l10End (F_l10End_r r) ((((ap.length / 3 : Nat) : Int) - i).toNat) (fun ap i hl h0 hm => l10EndPost r ap i hl h0 (by omega)) apA apN apC ap i w apR hl h0 rfl (fun apA apN apC ap i w apR hl h0 hdec => ih apA apN apC ap i w apR hl h0 (by omega))
theorem c_l10End (apA : Option Addr) (apN apC : Nat) (ap : List Int) (i : Int) (w : World) (apR : RdS w 3 apA apN apC ap) (hl : ap.length ≤ 4194304) (h0 : 0 ≤ i) :
    Calls Try.prog 163 #[.slice apA apN apC, .int .i64 i] w (Ret fun v w' => v = .int .i64 (F_l10End ap i) ∧ Ext w w') := c_l10End_r ((((ap.length / 3 : Nat) : Int) - i).toNat + 1) apA apN apC ap i w apR hl h0 (Nat.lt_succ_self _)
theorem l10Parts_k {k u v : Int} (h : F_isPointNode k u v = true) : F_l10Parts k = F_pointParts k := by
  have hk : 0 ≤ k ∧ k ≤ 8 := by
    unfold F_isPointNode at h
    by_cases h0 : k = 0
    · omega
    · by_cases h1 : k = 1
      · omega
      · rw [decide_eq_false h0, decide_eq_false h1, Bool.false_or, cond_false] at h
        by_cases h2 : k = 2
        · omega
        · rw [decide_eq_false h2, cond_false] at h
          by_cases h7 : k = 7
          · omega
          · by_cases h8 : k = 8
            · omega
            · rw [decide_eq_false h7, decide_eq_false h8, Bool.false_or, cond_false, Bool.and_eq_true] at h
              have := F_inRange_t h.1
              omega
  have : k = 0 ∨ k = 1 ∨ k = 2 ∨ k = 3 ∨ k = 4 ∨ k = 5 ∨ k = 6 ∨ k = 7 ∨ k = 8 := by omega
  rcases this with rfl | rfl | rfl | rfl | rfl | rfl | rfl | rfl | rfl <;> rfl
theorem node_eq (k u v : Int) : (decide (F_l10Parts k < 0) || !(F_l10Node k u v)) = !F_isPointNode k u v := by
  by_cases hk : 0 ≤ k ∧ k ≤ 8
  · have : k = 0 ∨ k = 1 ∨ k = 2 ∨ k = 3 ∨ k = 4 ∨ k = 5 ∨ k = 6 ∨ k = 7 ∨ k = 8 := by omega
    rcases this with rfl | rfl | rfl | rfl | rfl | rfl | rfl | rfl | rfl <;> rfl
  · have e1 : F_l10Parts k = -1 := by
      unfold F_l10Parts
      rw [decide_eq_false (show ¬ k = 0 by omega), decide_eq_false (show ¬ k = 1 by omega), decide_eq_false (show ¬ k = 2 by omega), decide_eq_false (show ¬ k = 3 by omega), decide_eq_false (show ¬ k = 4 by omega), decide_eq_false (show ¬ k = 5 by omega), decide_eq_false (show ¬ k = 6 by omega), decide_eq_false (show ¬ k = 7 by omega), decide_eq_false (show ¬ k = 8 by omega)]; rfl
    have e2 : F_isPointNode k u v = false := by
      unfold F_isPointNode F_inRange
      rw [decide_eq_false (show ¬ k = 0 by omega), decide_eq_false (show ¬ k = 1 by omega), decide_eq_false (show ¬ k = 2 by omega), decide_eq_false (show ¬ k = 7 by omega), decide_eq_false (show ¬ k = 8 by omega)]
      by_cases h3 : 3 ≤ k
      · rw [decide_eq_true h3, decide_eq_false (show ¬ k ≤ 6 by omega)]; rfl
      · rw [decide_eq_false h3]; rfl
    rw [e1, e2]; rfl
/-- Point formulas as trees. -/
inductive Pm : Type
  | leaf (k u v : Int) : Pm
  | un (k u v : Int) (a : Pm) : Pm
  | bin (k u v : Int) (a b : Pm) : Pm
def Pm.code : Pm → List Int
  | .leaf k u v => [k, u, v]
  | .un k u v a => k :: u :: v :: a.code
  | .bin k u v a b => k :: u :: v :: (a.code ++ b.code)
def Pm.size : Pm → Nat
  | .leaf _ _ _ => 1
  | .un _ _ _ a => a.size + 1
  | .bin _ _ _ a b => a.size + b.size + 1
theorem Pm.size_pos : (t : Pm) → 1 ≤ t.size
  | .leaf _ _ _ => Nat.le_refl _
  | .un _ _ _ a => by unfold Pm.size; omega
  | .bin _ _ _ a b => by unfold Pm.size; omega
theorem Pm.code_len : (t : Pm) → t.code.length = t.size * 3
  | .leaf _ _ _ => rfl
  | .un _ _ _ a => by have := a.code_len; simp only [Pm.code, Pm.size, List.length_cons]; omega
  | .bin _ _ _ a b => by have := a.code_len; have := b.code_len; simp only [Pm.code, Pm.size, List.length_cons, List.length_append]; omega
/-- A node with so many parts; a value's number is below b. -/
def ndP (b p k u v : Int) : Prop := F_pointParts k = p ∧ F_isPointNode k u v = true ∧ (k = 2 → u < b)
def Pm.Ok (b : Int) : Pm → Prop
  | .leaf k u v => ndP b 0 k u v
  | .un k u v a => ndP b 1 k u v ∧ a.Ok b
  | .bin k u v a c => ndP b 2 k u v ∧ a.Ok b ∧ c.Ok b
theorem slI_cons3 {ap : List Int} {i j : Int} (he : ap.length = ap.length / 3 * 3) (h0 : 0 ≤ i) (h1 : i < ((ap.length / 3 : Nat) : Int)) (h2 : i + 1 ≤ j) : slI 3 ap i j = gS 3 0 ap i :: gS 3 1 ap i :: gS 3 2 ap i :: slI 3 ap (i + 1) j := by
  unfold slI gS
  have e1 : i.toNat * 3 < ap.length := by omega
  have e2 : i.toNat * 3 + 1 < ap.length := by omega
  have e3 : i.toNat * 3 + 1 + 1 < ap.length := by omega
  rw [List.drop_eq_getElem_cons e1, List.drop_eq_getElem_cons e2, List.drop_eq_getElem_cons e3, ← gi_get e1, ← gi_get e2, ← gi_get e3, show (j.toNat - i.toNat) * 3 = (j.toNat - (i + 1).toNat) * 3 + 1 + 1 + 1 by omega, List.take_succ_cons, List.take_succ_cons, List.take_succ_cons,
    show (i + 1).toNat * 3 = i.toNat * 3 + 1 + 1 + 1 by omega]
  rfl
theorem slI_app3 {ap : List Int} {i j h : Int} (h0 : 0 ≤ i) (h1 : i ≤ j) (h2 : j ≤ h) : slI 3 ap i h = slI 3 ap i j ++ slI 3 ap j h := by
  unfold slI
  rw [show (h.toNat - i.toNat) * 3 = (j.toNat - i.toNat) * 3 + (h.toNat - j.toNat) * 3 by omega, List.take_add, List.drop_drop, show i.toNat * 3 + (j.toNat - i.toNat) * 3 = j.toNat * 3 by omega]
theorem pend_step (ap : List Int) (r : Nat) {i o : Int} (h0 : 0 < o) (h1 : i < ((ap.length / 3 : Nat) : Int)) : F_pointEnd_L1 ap (r + 1) i o = F_pointEnd_L1 ap r (i + 1) (o - 1 + F_pointParts (gS 3 0 ap i)) := by
  show F_pointEnd_L1b ap (F_pointEnd_L1 ap r) i o = _
  unfold F_pointEnd_L1b
  rw [decide_eq_true h0, cond_true, decide_eq_false (by omega), cond_false, show o + (F_pointParts (gS 3 0 ap i) - 1) = o - 1 + F_pointParts (gS 3 0 ap i) by omega]
theorem pend_zero (ap : List Int) (r : Nat) (i : Int) : F_pointEnd_L1 ap r i 0 = .ok (i, 0) := by
  cases r with
  | zero => rfl
  | succ r => rfl
theorem pend_end {ap : List Int} {r : Nat} {i o e : Int} (h0 : 0 < o) (h1 : ¬ i < ((ap.length / 3 : Nat) : Int)) (h : F_pointEnd_L1 ap r i o = .ok (e, 0)) : False := by
  cases r with
  | zero =>
    have h : (Except.ok (i, o) : Except Int (Int × Int)) = .ok (e, 0) := h
    injection h with h; injection h with _ h; omega
  | succ r =>
    have h : F_pointEnd_L1b ap (F_pointEnd_L1 ap r) i o = .ok (e, 0) := h
    unfold F_pointEnd_L1b at h
    rw [decide_eq_true h0, cond_true, decide_eq_true (by omega), cond_true] at h
    cases h
theorem pparse (ap : List Int) (bd : Int) (he : ap.length = ap.length / 3 * 3) (hq : ∀ i : Int, 0 ≤ i → i < ((ap.length / 3 : Nat) : Int) → F_isPointNode (gS 3 0 ap i) (gS 3 1 ap i) (gS 3 2 ap i) = true ∧ (gS 3 0 ap i = 2 → gS 3 1 ap i < bd)) :
    ∀ (n r : Nat) (i o e : Int), ((ap.length / 3 : Nat) : Int) - i ≤ (n : Int) → 0 < o → 0 ≤ i → ((ap.length / 3 : Nat) : Int) - i < (r : Int) → F_pointEnd_L1 ap r i o = .ok (e, 0) →
      ∃ (t : Pm) (r' : Nat), t.Ok bd ∧ t.code = slI 3 ap i (i + t.size) ∧ i + t.size ≤ ((ap.length / 3 : Nat) : Int) ∧ ((ap.length / 3 : Nat) : Int) - (i + t.size) < (r' : Int) ∧ F_pointEnd_L1 ap r' (i + t.size) (o - 1) = .ok (e, 0) := by
  intro n
  induction n with
  | zero => intro r i o e hn ho hi hr h; exact (pend_end ho (by omega) h).elim
  | succ n ih =>
    intro r i o e hn ho hi hr h
    by_cases hl : i < ((ap.length / 3 : Nat) : Int)
    · obtain ⟨s, rfl⟩ : ∃ s, r = s + 1 := ⟨r - 1, by omega⟩
      rw [pend_step _ _ ho hl] at h
      have hb := pointParts_bd (gS 3 0 ap i)
      have q := hq i hi hl
      generalize hp : F_pointParts (gS 3 0 ap i) = p at *
      have hp3 : p = 0 ∨ p = 1 ∨ p = 2 := by omega
      rcases hp3 with rfl | rfl | rfl
      · refine ⟨.leaf (gS 3 0 ap i) (gS 3 1 ap i) (gS 3 2 ap i), s, ⟨hp, q⟩, ?_, ?_, ?_, ?_⟩
        · show [_, _, _] = slI 3 ap i (i + ((1 : Nat) : Int))
          rw [slI_cons3 he hi hl (by omega)]
          unfold slI
          rw [show (i + ((1 : Nat) : Int)).toNat - (i + 1).toNat = 0 by omega]; simp
        · show i + ((1 : Nat) : Int) ≤ _; omega
        · show _ - (i + ((1 : Nat) : Int)) < _; omega
        · show F_pointEnd_L1 ap s (i + ((1 : Nat) : Int)) (o - 1) = _
          rw [← h, show o - 1 + 0 = o - 1 by omega]; rfl
      · obtain ⟨a, r', a1, a2, a3, a4, a5⟩ := ih s (i + 1) _ _ (by omega) (by omega) (by omega) (by omega) h
        have e1 : i + ((a.size + 1 : Nat) : Int) = i + 1 + (a.size : Int) := by omega
        refine ⟨.un (gS 3 0 ap i) (gS 3 1 ap i) (gS 3 2 ap i) a, r', ⟨⟨hp, q⟩, a1⟩, ?_, ?_, ?_, ?_⟩
        · show _ :: _ :: _ :: a.code = slI 3 ap i (i + ((a.size + 1 : Nat) : Int))
          rw [e1, slI_cons3 he hi hl (by omega), ← a2]
        · show i + ((a.size + 1 : Nat) : Int) ≤ _; omega
        · show _ - (i + ((a.size + 1 : Nat) : Int)) < _; omega
        · show F_pointEnd_L1 ap r' (i + ((a.size + 1 : Nat) : Int)) (o - 1) = _
          rw [e1, ← a5, show o - 1 + 1 - 1 = o - 1 by omega]
      · obtain ⟨a, r', a1, a2, a3, a4, a5⟩ := ih s (i + 1) _ _ (by omega) (by omega) (by omega) (by omega) h
        obtain ⟨b, r2, b1, b2, b3, b4, b5⟩ := ih r' (i + 1 + (a.size : Int)) _ _ (by have := a.size_pos; omega) (by omega) (by omega) (by omega) a5
        have e1 : i + ((a.size + b.size + 1 : Nat) : Int) = i + 1 + (a.size : Int) + (b.size : Int) := by omega
        refine ⟨.bin (gS 3 0 ap i) (gS 3 1 ap i) (gS 3 2 ap i) a b, r2, ⟨⟨hp, q⟩, a1, b1⟩, ?_, ?_, ?_, ?_⟩
        · show _ :: _ :: _ :: (a.code ++ b.code) = slI 3 ap i (i + ((a.size + b.size + 1 : Nat) : Int))
          rw [e1, slI_cons3 he hi hl (by omega), slI_app3 (i := i + 1) (j := i + 1 + (a.size : Int)) (by omega) (by omega) (by omega), ← a2, ← b2]
        · show i + ((a.size + b.size + 1 : Nat) : Int) ≤ _; omega
        · show _ - (i + ((a.size + b.size + 1 : Nat) : Int)) < _; omega
        · show F_pointEnd_L1 ap r2 (i + ((a.size + b.size + 1 : Nat) : Int)) (o - 1) = _
          rw [e1, ← b5, show o - 1 + 2 - 1 - 1 = o - 1 by omega]
    · exact (pend_end ho hl h).elim
/-- What stands at the head of a part. -/
theorem pcode_leaf {ap : List Int} {k u v : Int} {i : Int} (he : ap.length = ap.length / 3 * 3) (hi : 0 ≤ i) (hl : i + ((1 : Nat) : Int) ≤ ((ap.length / 3 : Nat) : Int)) (hc : (Pm.leaf k u v).code = slI 3 ap i (i + ((1 : Nat) : Int))) : gS 3 0 ap i = k := by
  have hc' : [k, u, v] = slI 3 ap i (i + ((1 : Nat) : Int)) := hc
  rw [slI_cons3 he hi (by omega) (by omega)] at hc'
  injection hc' with c1 _
  exact c1.symm
theorem pcode_un {ap : List Int} {k u v : Int} {a : Pm} {i : Int} (he : ap.length = ap.length / 3 * 3) (hi : 0 ≤ i) (hl : i + ((a.size + 1 : Nat) : Int) ≤ ((ap.length / 3 : Nat) : Int)) (hc : (Pm.un k u v a).code = slI 3 ap i (i + ((a.size + 1 : Nat) : Int))) : gS 3 0 ap i = k ∧ a.code = slI 3 ap (i + 1) (i + 1 + (a.size : Int)) := by
  have e1 : i + ((a.size + 1 : Nat) : Int) = i + 1 + (a.size : Int) := by omega
  have hc' : k :: u :: v :: a.code = slI 3 ap i (i + ((a.size + 1 : Nat) : Int)) := hc
  rw [e1, slI_cons3 he hi (by omega) (by omega)] at hc'
  injection hc' with c1 hc'; injection hc' with _ hc'; injection hc' with _ c2
  exact ⟨c1.symm, c2⟩
theorem pcode_bin {ap : List Int} {k u v : Int} {a b : Pm} {i : Int} (he : ap.length = ap.length / 3 * 3) (hi : 0 ≤ i) (hl : i + ((a.size + b.size + 1 : Nat) : Int) ≤ ((ap.length / 3 : Nat) : Int)) (hc : (Pm.bin k u v a b).code = slI 3 ap i (i + ((a.size + b.size + 1 : Nat) : Int))) : gS 3 0 ap i = k ∧ a.code = slI 3 ap (i + 1) (i + 1 + (a.size : Int)) ∧ b.code = slI 3 ap (i + 1 + (a.size : Int)) (i + 1 + (a.size : Int) + (b.size : Int)) := by
  have e1 : i + ((a.size + b.size + 1 : Nat) : Int) = i + 1 + (a.size : Int) + (b.size : Int) := by omega
  have hc' : k :: u :: v :: (a.code ++ b.code) = slI 3 ap i (i + ((a.size + b.size + 1 : Nat) : Int)) := hc
  rw [e1, slI_cons3 he hi (by omega) (by omega), slI_app3 (i := i + 1) (j := i + 1 + (a.size : Int)) (by omega) (by omega) (by omega)] at hc'
  injection hc' with c1 hc'; injection hc' with _ hc'; injection hc' with _ c2
  have hla : a.code.length = (slI 3 ap (i + 1) (i + 1 + (a.size : Int))).length := by
    rw [a.code_len, slI_len (n := ap.length / 3) he (by omega)]; omega
  obtain ⟨c3, c4⟩ := List.append_inj c2 hla
  exact ⟨c1.symm, c3, c4⟩
/-- Reading over a part. -/
theorem pend_code (ap : List Int) (bd : Int) (he : ap.length = ap.length / 3 * 3) : ∀ (t : Pm) (r : Nat) (i o : Int), t.Ok bd → 0 < o → 0 ≤ i → t.code = slI 3 ap i (i + t.size) → i + t.size ≤ ((ap.length / 3 : Nat) : Int) →
    F_pointEnd_L1 ap (r + t.size) i o = F_pointEnd_L1 ap r (i + t.size) (o - 1) := by
  intro t
  induction t with
  | leaf k u v =>
    intro r i o hk ho hi hc hl
    have hl' : i + ((1 : Nat) : Int) ≤ ((ap.length / 3 : Nat) : Int) := hl
    have c1 := pcode_leaf he hi hl' hc
    show F_pointEnd_L1 ap (r + 1) i o = F_pointEnd_L1 ap r (i + ((1 : Nat) : Int)) (o - 1)
    rw [pend_step _ _ ho (by omega), c1, hk.1, Int.add_zero]; rfl
  | un k u v a ih =>
    intro r i o hk ho hi hc hl
    have e1 : i + ((a.size + 1 : Nat) : Int) = i + 1 + (a.size : Int) := by omega
    have hl' : i + ((a.size + 1 : Nat) : Int) ≤ ((ap.length / 3 : Nat) : Int) := hl
    obtain ⟨c1, c2⟩ := pcode_un he hi hl' hc
    show F_pointEnd_L1 ap (r + a.size + 1) i o = F_pointEnd_L1 ap r (i + ((a.size + 1 : Nat) : Int)) (o - 1)
    rw [pend_step _ _ ho (by omega), c1, hk.1.1, ih r (i + 1) _ hk.2 (by omega) (by omega) c2 (by omega), e1, show o - 1 + 1 - 1 = o - 1 by omega]
  | bin k u v a b iha ihb =>
    intro r i o hk ho hi hc hl
    have e1 : i + ((a.size + b.size + 1 : Nat) : Int) = i + 1 + (a.size : Int) + (b.size : Int) := by omega
    have hl' : i + ((a.size + b.size + 1 : Nat) : Int) ≤ ((ap.length / 3 : Nat) : Int) := hl
    obtain ⟨c1, c3, c4⟩ := pcode_bin he hi hl' hc
    show F_pointEnd_L1 ap (r + (a.size + b.size + 1)) i o = F_pointEnd_L1 ap r (i + ((a.size + b.size + 1 : Nat) : Int)) (o - 1)
    rw [show r + (a.size + b.size + 1) = (r + b.size) + a.size + 1 by omega, pend_step _ _ ho (by omega), c1, hk.1.1, iha (r + b.size) (i + 1) _ hk.2.1 (by omega) (by omega) c3 (by omega), ihb r (i + 1 + (a.size : Int)) _ hk.2.2 (by omega) (by omega) c4 (by omega), e1, show o - 1 + 2 - 1 - 1 = o - 1 by omega]
theorem pointEnd_code {ap : List Int} {bd : Int} (he : ap.length = ap.length / 3 * 3) {t : Pm} {i : Int} (ht : t.Ok bd) (hi : 0 ≤ i) (hc : t.code = slI 3 ap i (i + t.size)) (hl : i + t.size ≤ ((ap.length / 3 : Nat) : Int)) : F_pointEnd ap i = i + t.size := by
  have hp := t.size_pos
  have h := pend_code ap bd he t (Int.toNat (((ap.length / 3 : Nat) : Int) - i) + 1 - t.size) i 1 ht (by decide) hi hc hl
  rw [show Int.toNat (((ap.length / 3 : Nat) : Int) - i) + 1 - t.size + t.size = Int.toNat (((ap.length / 3 : Nat) : Int) - i) + 1 by omega, show (1 : Int) - 1 = 0 by rfl, pend_zero] at h
  unfold F_pointEnd
  rw [h]; rfl
theorem l10End_code (ap : List Int) (bd : Int) (he : ap.length = ap.length / 3 * 3) : ∀ (t : Pm) (r : Nat) (i : Int), t.Ok bd → 0 ≤ i → t.code = slI 3 ap i (i + t.size) → i + t.size ≤ ((ap.length / 3 : Nat) : Int) → t.size ≤ r → F_l10End_r r ap i = i + t.size := by
  intro t
  induction t with
  | leaf k u v =>
    intro r i hk hi hc hl hr
    have hl' : i + ((1 : Nat) : Int) ≤ ((ap.length / 3 : Nat) : Int) := hl
    have hr' : 1 ≤ r := hr
    obtain ⟨r, rfl⟩ : ∃ r', r = r' + 1 := ⟨r - 1, by omega⟩
    have c1 := pcode_leaf he hi hl' hc
    show F_l10End_b (F_l10End_r r) ap i = i + ((1 : Nat) : Int)
    rw [l10End_form _ _ hi (by omega), c1, l10Parts_k hk.2.1, hk.1]; rfl
  | un k u v a ih =>
    intro r i hk hi hc hl hr
    have hl' : i + ((a.size + 1 : Nat) : Int) ≤ ((ap.length / 3 : Nat) : Int) := hl
    have hr' : a.size + 1 ≤ r := hr
    obtain ⟨r, rfl⟩ : ∃ r', r = r' + 1 := ⟨r - 1, by omega⟩
    obtain ⟨c1, c2⟩ := pcode_un he hi hl' hc
    show F_l10End_b (F_l10End_r r) ap i = i + ((a.size + 1 : Nat) : Int)
    rw [l10End_form _ _ hi (by omega), c1, l10Parts_k hk.1.2.1, hk.1.1, ih r (i + 1) hk.2 (by omega) c2 (by omega) (by omega)]
    show i + 1 + (a.size : Int) = _
    omega
  | bin k u v a b iha ihb =>
    intro r i hk hi hc hl hr
    have hl' : i + ((a.size + b.size + 1 : Nat) : Int) ≤ ((ap.length / 3 : Nat) : Int) := hl
    have hr' : a.size + b.size + 1 ≤ r := hr
    obtain ⟨r, rfl⟩ : ∃ r', r = r' + 1 := ⟨r - 1, by omega⟩
    obtain ⟨c1, c3, c4⟩ := pcode_bin he hi hl' hc
    show F_l10End_b (F_l10End_r r) ap i = i + ((a.size + b.size + 1 : Nat) : Int)
    rw [l10End_form _ _ hi (by omega), c1, l10Parts_k hk.1.2.1, hk.1.1, iha r (i + 1) hk.2.1 (by omega) c3 (by omega) (by omega), decide_eq_true (show 0 ≤ i + 1 + (a.size : Int) by omega), ihb r (i + 1 + (a.size : Int)) hk.2.2 (by omega) c4 (by omega) (by omega)]
    show i + 1 + (a.size : Int) + (b.size : Int) = _
    omega
theorem l10parse (ap : List Int) (bd : Int) (he : ap.length = ap.length / 3 * 3) (hq : ∀ i : Int, 0 ≤ i → i < ((ap.length / 3 : Nat) : Int) → F_isPointNode (gS 3 0 ap i) (gS 3 1 ap i) (gS 3 2 ap i) = true ∧ (gS 3 0 ap i = 2 → gS 3 1 ap i < bd)) :
    ∀ (r : Nat) (i : Int), 0 ≤ i → (((ap.length / 3 : Nat) : Int) - i).toNat < r → F_l10End_r r ap i ≠ -1 → ∃ t : Pm, t.Ok bd ∧ t.code = slI 3 ap i (i + t.size) ∧ i + t.size ≤ ((ap.length / 3 : Nat) : Int) ∧ F_l10End_r r ap i = i + t.size := by
  intro r
  induction r with
  | zero => intro i _ h; omega
  | succ r ih =>
    intro i hi hr h
    by_cases hl : i < ((ap.length / 3 : Nat) : Int)
    · have q := hq i hi hl
      have hb := pointParts_bd (gS 3 0 ap i)
      have hk := l10Parts_k q.1
      have hf := l10End_form (F_l10End_r r) ap hi hl
      have hf' : F_l10End_r (r + 1) ap i = _ := hf
      rw [hf'] at h ⊢
      rw [hk] at h ⊢
      generalize hp : F_pointParts (gS 3 0 ap i) = p at *
      have hp3 : p = 0 ∨ p = 1 ∨ p = 2 := by omega
      rcases hp3 with rfl | rfl | rfl
      · refine ⟨.leaf (gS 3 0 ap i) (gS 3 1 ap i) (gS 3 2 ap i), ⟨hp, q⟩, ?_, ?_, rfl⟩
        · show [_, _, _] = slI 3 ap i (i + ((1 : Nat) : Int))
          rw [slI_cons3 he hi hl (by omega)]
          unfold slI
          rw [show (i + ((1 : Nat) : Int)).toNat - (i + 1).toNat = 0 by omega]; simp
        · show i + ((1 : Nat) : Int) ≤ _; omega
      · have h' : F_l10End_r r ap (i + 1) ≠ -1 := h
        obtain ⟨a, a1, a2, a3, a4⟩ := ih (i + 1) (by omega) (by omega) h'
        have e1 : i + ((a.size + 1 : Nat) : Int) = i + 1 + (a.size : Int) := by omega
        refine ⟨.un (gS 3 0 ap i) (gS 3 1 ap i) (gS 3 2 ap i) a, ⟨⟨hp, q⟩, a1⟩, ?_, ?_, ?_⟩
        · show _ :: _ :: _ :: a.code = slI 3 ap i (i + ((a.size + 1 : Nat) : Int))
          rw [e1, slI_cons3 he hi hl (by omega), ← a2]
        · show i + ((a.size + 1 : Nat) : Int) ≤ _; omega
        · show F_l10End_r r ap (i + 1) = i + ((a.size + 1 : Nat) : Int)
          rw [a4, e1]
      · have h' : (bif decide (0 ≤ F_l10End_r r ap (i + 1)) then F_l10End_r r ap (F_l10End_r r ap (i + 1)) else F_l10End_r r ap (i + 1)) ≠ -1 := h
        have h1 : F_l10End_r r ap (i + 1) ≠ -1 := fun h2 => h' (by rw [h2]; rfl)
        obtain ⟨a, a1, a2, a3, a4⟩ := ih (i + 1) (by omega) (by omega) h1
        rw [a4, decide_eq_true (show 0 ≤ i + 1 + (a.size : Int) by omega), cond_true] at h'
        have hpa := a.size_pos
        obtain ⟨b, b1, b2, b3, b4⟩ := ih (i + 1 + (a.size : Int)) (by omega) (by omega) h'
        have e1 : i + ((a.size + b.size + 1 : Nat) : Int) = i + 1 + (a.size : Int) + (b.size : Int) := by omega
        refine ⟨.bin (gS 3 0 ap i) (gS 3 1 ap i) (gS 3 2 ap i) a b, ⟨⟨hp, q⟩, a1, b1⟩, ?_, ?_, ?_⟩
        · show _ :: _ :: _ :: (a.code ++ b.code) = slI 3 ap i (i + ((a.size + b.size + 1 : Nat) : Int))
          rw [e1, slI_cons3 he hi hl (by omega), slI_app3 (i := i + 1) (j := i + 1 + (a.size : Int)) (by omega) (by omega) (by omega), ← a2, ← b2]
        · show i + ((a.size + b.size + 1 : Nat) : Int) ≤ _; omega
        · show (bif decide (0 ≤ F_l10End_r r ap (i + 1)) then F_l10End_r r ap (F_l10End_r r ap (i + 1)) else F_l10End_r r ap (i + 1)) = i + ((a.size + b.size + 1 : Nat) : Int)
          rw [a4, decide_eq_true (show 0 ≤ i + 1 + (a.size : Int) by omega), cond_true, b4, e1]
    · exfalso
      apply h
      show F_l10End_b (F_l10End_r r) ap i = -1
      unfold F_l10End_b
      rw [decide_eq_true (by omega)]; rfl
def IsPm (bd : Int) (ap : List Int) : Prop := ∃ t : Pm, t.Ok bd ∧ t.code = ap
theorem slI_all3 {ap : List Int} (he : ap.length = ap.length / 3 * 3) : slI 3 ap 0 ((ap.length / 3 : Nat) : Int) = ap := by
  unfold slI
  rw [show ((0 : Int).toNat * 3) = 0 by rfl, List.drop_zero, List.take_of_length_le (by omega)]
theorem Pm.code_ev (t : Pm) : t.code.length = t.code.length / 3 * 3 := by rw [t.code_len]; omega
theorem Pm.code_half (t : Pm) : t.code.length / 3 = t.size := by rw [t.code_len]; omega
def F_s_IsPointFormula_L1b (ap : List Int) (rec : Int → Except (Bool) (Int)) (i3 : Int) : Except (Bool) (Int) :=
  bif (decide (i3 < (((ap).length / 3 : Nat) : Int))) then (bif ((decide ((F_l10Parts (gS 3 0 ap i3)) < 0)) || (!(F_l10Node (gS 3 0 ap i3) (gS 3 1 ap i3) (gS 3 2 ap i3)))) then (.error false) else (rec (i3 + 1))) else (.ok i3)
def F_s_IsPointFormula_L1 (ap : List Int) : Nat → Int → Except (Bool) (Int)
  | 0, i3 => .ok i3
  | r + 1, i3 => F_s_IsPointFormula_L1b ap (F_s_IsPointFormula_L1 ap r) i3
def F_s_IsPointFormula (ap : List Int) : Bool :=
  bif ((decide ((((ap).length / 3 : Nat) : Int) = 0)) || (decide (120 < (((ap).length / 3 : Nat) : Int)))) then false else (bif (isOk (F_s_IsPointFormula_L1 ap (Int.toNat ((((ap).length / 3 : Nat) : Int) - 0) + 1) 0)) then (decide ((F_l10End ap 0) = (((ap).length / 3 : Nat) : Int))) else (errD (F_s_IsPointFormula_L1 ap (Int.toNat ((((ap).length / 3 : Nat) : Int) - 0) + 1) 0)))
theorem cf_s_IsPointFormula (args : Array Value) (w : World) : (callFunc 98 args).run Try.prog w = .ok (.enter 98 args) w := by kernel_rfl
set_option maxRecDepth 100000 in
theorem c_s_IsPointFormula (apA : Option Addr) (apN apC : Nat) (ap : List Int) (w : World) (apR : RdS w 3 apA apN apC ap) (hl : ap.length ≤ 4194304) :
    Calls Try.prog 98 #[.slice apA apN apC] w (Ret fun v w' => v = .bool (F_s_IsPointFormula ap) ∧ Ext w w') := by
  obtain rfl : apN = ap.length / 3 := (apR.lenD (by decide)).symm
  have apEv := apR.ev (by decide)
  have apLe := apR.le
  have hS := St.nil w
  have hS1 := St.rd0 hS rfl apR; clear hS
  refine enter (args := [.slice apA ((ap).length / 3 : Nat) apC]) Try.func98 rfl rfl ?_
  rw [Try.ntmps98]; intro a hE
  have hE := hE.sub (L' := [(0, .slice apA ((ap).length / 3 : Nat) apC)]) ⟨rfl, trivial⟩
  refine c_seq ?_
  refine c_reg ?_
  refine q_step (v := .bool false) hE (y_assign rfl) rfl rfl rfl ?_; intro a2 hE3; clear hE
  refine c_nil ?_
  have hE4 := hE3.sub (L' := [(0, .slice apA ((ap).length / 3 : Nat) apC)]) ⟨rfl, trivial⟩; clear hE3
  refine p_tn ?_
  refine c_seq ?_
  refine c_cut (fun a' w' => E a' 38 [(0, .slice apA ((ap).length / 3 : Nat) apC), (11, .bool ((decide ((((ap).length / 3 : Nat) : Int) = 0)) || (decide (120 < (((ap).length / 3 : Nat) : Int)))))] ∧ St w w' [.rd 3 apA ((ap).length / 3 : Nat) apC ap]) ?_ ?_
  ·
   refine c_reg ?_
   refine q_step (v := .slice apA ((ap).length / 3 : Nat) apC) hE4 (y_move rfl) rfl rfl rfl ?_; intro a5 hE6; clear hE4
   refine q_step (v := .int .i64 (((ap).length / 3 : Nat) : Int)) hE6 (y_len (e := 115) (by kernel_rfl) rfl) rfl rfl rfl ?_; intro a7 hE8; clear hE6
   refine q_step (v := .bool (decide ((((ap).length / 3 : Nat) : Int) = 0))) hE8 (y_eql rfl rfl) rfl rfl rfl ?_; intro a9 hE10; clear hE8
   refine q_step (v := .bool (decide ((((ap).length / 3 : Nat) : Int) = 0))) hE10 (y_move rfl) rfl rfl rfl ?_; intro a11 hE12; clear hE10
   rcases Bool.eq_false_or_eq_true (decide ((((ap).length / 3 : Nat) : Int) = 0)) with hb13 | hb13
   ·
    have hE14 := hE12; (try rw [hb13] at hE14); clear hE12
    have hp15 := of_decide_eq_true hb13
    refine q_skip hE14 rfl rfl rfl ?_; intro a16 hE17; clear hE14
    refine q_skip hE17 rfl rfl rfl ?_; intro a18 hE19; clear hE17
    refine q_skip hE19 rfl rfl rfl ?_; intro a20 hE21; clear hE19
    refine q_step (v := .bool true) hE21 (y_pick (b := true) rfl rfl) rfl rfl rfl ?_; intro a22 hE23; clear hE21
    refine c_nil ?_
    have hE24 := hE23.sub (L' := [(0, .slice apA ((ap).length / 3 : Nat) apC), (11, .bool true)]) ⟨rfl, rfl, trivial⟩; clear hE23
    refine p_tn ?_
    have hE25 := hE24.sub (L' := [(0, .slice apA ((ap).length / 3 : Nat) apC), (11, .bool true)]) ⟨rfl, rfl, trivial⟩
    have hS26 := (St.pick (Γ' := [.rd 3 apA ((ap).length / 3 : Nat) apC ap]) hS1 [0] (by decide) rfl)
    exact ⟨(by rw [hb13]; exact hE25), hS26⟩
   ·
    have hE27 := hE12; (try rw [hb13] at hE27); clear hE12
    have hp28 := of_decide_eq_false hb13
    refine q_step (v := .slice apA ((ap).length / 3 : Nat) apC) hE27 (y_move rfl) rfl rfl rfl ?_; intro a29 hE30; clear hE27
    refine q_step (v := .int .i64 (((ap).length / 3 : Nat) : Int)) hE30 (y_len (e := 115) (by kernel_rfl) rfl) rfl rfl rfl ?_; intro a31 hE32; clear hE30
    refine q_step (v := .bool (decide (120 < (((ap).length / 3 : Nat) : Int)))) hE32 (y_gtr rfl rfl) rfl rfl rfl ?_; intro a33 hE34; clear hE32
    refine q_step (v := .bool (decide (120 < (((ap).length / 3 : Nat) : Int)))) hE34 (y_pick (b := false) rfl rfl) rfl rfl rfl ?_; intro a35 hE36; clear hE34
    refine c_nil ?_
    have hE37 := hE36.sub (L' := [(0, .slice apA ((ap).length / 3 : Nat) apC), (11, .bool (decide (120 < (((ap).length / 3 : Nat) : Int))))]) ⟨rfl, rfl, trivial⟩; clear hE36
    refine p_tn ?_
    have hE38 := hE37.sub (L' := [(0, .slice apA ((ap).length / 3 : Nat) apC), (11, .bool (decide (120 < (((ap).length / 3 : Nat) : Int))))]) ⟨rfl, rfl, trivial⟩
    have hS39 := (St.pick (Γ' := [.rd 3 apA ((ap).length / 3 : Nat) apC ap]) hS1 [0] (by decide) rfl)
    exact ⟨(by rw [hb13]; exact hE38), hS39⟩
  ·
   rintro a40 w41 ⟨hE42, hS43⟩; clear hE4 hS1
   refine c_cond hE42 rfl (fun ht45 => ?_) (fun ht45 => ?_)
   ·
    have hE46 := hE42; rw [ht45] at hE46; clear hE42
    refine c_seq ?_
    refine c_reg ?_
    refine q_step (v := .bool false) hE46 (y_assign rfl) rfl rfl rfl ?_; intro a47 hE48; clear hE46
    refine c_nil ?_
    have hE49 := hE48.sub (L' := [(2, .bool false)]) ⟨rfl, trivial⟩; clear hE48
    refine p_tn ?_
    refine wp_ret ?_
    refine p_tr ?_
    have hF : F_s_IsPointFormula ap = false := by unfold F_s_IsPointFormula; rw [ht45]; first | done | rfl
    refine c_ret1 hE49 rfl rfl ?_
    exact ⟨(by rw [hF]; first | done | (dsimp only; done) | rfl), hS43.ext⟩
   ·
    obtain ⟨ht50, ht51⟩ := bor_f ht45
    have hp52 := of_decide_eq_false ht50
    have hp53 := of_decide_eq_false ht51
    have hE54 := hE42; rw [ht45] at hE54; clear hE42
    refine wp_skip ?_
    refine p_tn ?_
    refine c_seq ?_
    refine c_seq ?_
    refine c_reg ?_
    refine q_step (v := .int .i64 0) hE54 (y_assign rfl) rfl rfl rfl ?_; intro a55 hE56; clear hE54
    refine c_nil ?_
    have hE57 := hE56.sub (L' := [(0, .slice apA ((ap).length / 3 : Nat) apC), (3, .int .i64 0)]) ⟨rfl, rfl, trivial⟩; clear hE56
    refine p_tn ?_
    refine c_cut1 (fun a' w' => isOk (F_s_IsPointFormula_L1 ap (Int.toNat ((((ap).length / 3 : Nat) : Int) - 0) + 1) 0) = true ∧ (0 ≤ (okD (F_s_IsPointFormula_L1 ap (Int.toNat ((((ap).length / 3 : Nat) : Int) - 0) + 1) 0))) ∧ ((okD (F_s_IsPointFormula_L1 ap (Int.toNat ((((ap).length / 3 : Nat) : Int) - 0) + 1) 0)) ≤ (((ap).length / 3 : Nat) : Int)) ∧ E a' 38 [(0, .slice apA ((ap).length / 3 : Nat) apC), (3, .int .i64 (okD (F_s_IsPointFormula_L1 ap (Int.toNat ((((ap).length / 3 : Nat) : Int) - 0) + 1) 0)))] ∧ St w w' [.rd 3 apA ((ap).length / 3 : Nat) apC ap]) ?_ ?_
    ·
     refine wp_block ?_
     refine c_loop (fun r a' w' => ∃ i3 : Int, F_s_IsPointFormula_L1 ap r i3 = F_s_IsPointFormula_L1 ap (Int.toNat ((((ap).length / 3 : Nat) : Int) - 0) + 1) 0 ∧ Int.toNat ((((ap).length / 3 : Nat) : Int) - i3) < r ∧ (0 ≤ i3) ∧ (i3 ≤ (((ap).length / 3 : Nat) : Int)) ∧ E a' 38 [(0, .slice apA ((ap).length / 3 : Nat) apC), (3, .int .i64 i3)] ∧ St w w' [.rd 3 apA ((ap).length / 3 : Nat) apC ap]) (r := (Int.toNat ((((ap).length / 3 : Nat) : Int) - 0) + 1)) ?_ ?_
     · exact ⟨0, rfl, Nat.lt_succ_self _, (by first | omega | (simp only [sS_len, sL_len]; omega) | (simp only [List.length_replicate, sI_len]; omega) | (simp only [List.length_append, List.length_cons, List.length_nil, sI_len, cond_true, cond_false]; omega) | (simp only [List.length_append, List.length_cons, List.length_nil, sI_len, cond_eq_ite, apply_ite List.length]; split <;> simp only [List.length_append, List.length_cons, List.length_nil, sI_len] <;> omega) | grind), (by first | omega | (simp only [sS_len, sL_len]; omega) | (simp only [List.length_replicate, sI_len]; omega) | (simp only [List.length_append, List.length_cons, List.length_nil, sI_len, cond_true, cond_false]; omega) | (simp only [List.length_append, List.length_cons, List.length_nil, sI_len, cond_eq_ite, apply_ite List.length]; split <;> simp only [List.length_append, List.length_cons, List.length_nil, sI_len] <;> omega) | grind), (hE57.sub (L' := [(0, .slice apA ((ap).length / 3 : Nat) apC), (3, .int .i64 0)]) ⟨rfl, rfl, trivial⟩), (St.pick (Γ' := [.rd 3 apA ((ap).length / 3 : Nat) apC ap]) hS43 [0] (by decide) rfl)⟩
     ·
      clear hE57 hS43
      rintro r67 a59 w60 ⟨i3, hT63, hr64, hi65, hi66, hE61, hS62⟩
      obtain ⟨r67, rfl⟩ : ∃ r', r67 = r' + 1 := ⟨r67 - 1, by omega⟩
      refine c_seq ?_
      refine c_seq ?_
      refine c_reg ?_
      refine q_step (v := .int .i64 i3) hE61 (y_move rfl) rfl rfl rfl ?_; intro a68 hE69; clear hE61
      refine q_step (v := .slice apA ((ap).length / 3 : Nat) apC) hE69 (y_move rfl) rfl rfl rfl ?_; intro a70 hE71; clear hE69
      refine q_step (v := .int .i64 (((ap).length / 3 : Nat) : Int)) hE71 (y_len (e := 115) (by kernel_rfl) rfl) rfl rfl rfl ?_; intro a72 hE73; clear hE71
      refine q_step (v := .bool (decide (i3 < (((ap).length / 3 : Nat) : Int)))) hE73 (y_lss rfl rfl) rfl rfl rfl ?_; intro a74 hE75; clear hE73
      refine c_nil ?_
      have hE76 := hE75.sub (L' := [(0, .slice apA ((ap).length / 3 : Nat) apC), (3, .int .i64 i3), (15, .bool (decide (i3 < (((ap).length / 3 : Nat) : Int))))]) ⟨rfl, rfl, rfl, trivial⟩; clear hE75
      refine p_tn ?_
      refine c_cond hE76 rfl (fun ht77 => ?_) (fun ht77 => ?_)
      ·
       have hp78 := of_decide_eq_true ht77
       have hE79 := hE76; rw [ht77] at hE79; clear hE76
       refine wp_skip ?_
       refine p_tn ?_
       refine c_seq ?_
       refine wp_block ?_
       refine c_cut (fun a' w' => E a' 38 [(0, .slice apA ((ap).length / 3 : Nat) apC), (3, .int .i64 i3), (32, .bool ((decide ((F_l10Parts (gS 3 0 ap i3)) < 0)) || (!(F_l10Node (gS 3 0 ap i3) (gS 3 1 ap i3) (gS 3 2 ap i3)))))] ∧ St w w' [.rd 3 apA ((ap).length / 3 : Nat) apC ap]) ?_ ?_
       ·
        refine c_reg ?_
        refine q_step (v := .slice apA ((ap).length / 3 : Nat) apC) hE79 (y_move rfl) rfl rfl rfl ?_; intro a80 hE81; clear hE79
        refine q_step (v := .int .i64 i3) hE81 (y_move rfl) rfl rfl rfl ?_; intro a82 hE83; clear hE81
        refine q_step (v := .pointer (some (adr apA (Int.toNat i3 * 3)))) hE83 (y_idx (by kernel_rfl) (fun _ => by kernel_rfl) rfl rfl (RdS.isS (m := i3) (St.rdR (i := 0) hS62 rfl) (by omega) (by omega)) (by omega) (by omega) rfl) rfl rfl rfl ?_; intro a84 hE85; clear hE83
        refine q_step (v := .pointer (some (adr apA ((Int.toNat i3 * 3) + 0)))) hE85 (y_fieldE (o := 0) (fun _ _ => by kernel_rfl) rfl) rfl rfl rfl ?_; intro a86 hE87; clear hE85
        refine q_step (v := .int .i64 (gS 3 0 ap i3)) hE87 (y_load (fun _ => by kernel_rfl) rfl (RdS.eltS (j := 0) (St.rdR (i := 0) hS62 rfl) (by omega) (by omega) (by decide))) rfl rfl rfl ?_; intro a88 hE89; clear hE87
        refine l_step hE89 rfl (l_call (f := 161) (argv := [.int .i64 (gS 3 0 ap i3)]) hE89 (fun _ => cf_l10Parts _ _) rfl rfl (c_l10Parts (gS 3 0 ap i3) w60) ?_)
        rintro _ _ ⟨rfl, rfl⟩ a92 hE93; clear hE89
        have hf96 := l10Parts_bd (gS 3 0 ap i3)
        refine q_step (v := .bool (decide ((F_l10Parts (gS 3 0 ap i3)) < 0))) hE93 (y_lss rfl rfl) rfl rfl rfl ?_; intro a97 hE98; clear hE93
        refine q_step (v := .bool (decide ((F_l10Parts (gS 3 0 ap i3)) < 0))) hE98 (y_move rfl) rfl rfl rfl ?_; intro a99 hE100; clear hE98
        rcases Bool.eq_false_or_eq_true (decide ((F_l10Parts (gS 3 0 ap i3)) < 0)) with hb101 | hb101
        ·
         have hE102 := hE100; (try rw [hb101] at hE102); clear hE100
         have hp103 := of_decide_eq_true hb101
         refine q_skip hE102 rfl rfl rfl ?_; intro a104 hE105; clear hE102
         refine q_skip hE105 rfl rfl rfl ?_; intro a106 hE107; clear hE105
         refine q_skip hE107 rfl rfl rfl ?_; intro a108 hE109; clear hE107
         refine q_skip hE109 rfl rfl rfl ?_; intro a110 hE111; clear hE109
         refine q_skip hE111 rfl rfl rfl ?_; intro a112 hE113; clear hE111
         refine q_skip hE113 rfl rfl rfl ?_; intro a114 hE115; clear hE113
         refine q_step (v := .bool true) hE115 (y_pick (b := true) rfl rfl) rfl rfl rfl ?_; intro a116 hE117; clear hE115
         refine c_nil ?_
         have hE118 := hE117.sub (L' := [(0, .slice apA ((ap).length / 3 : Nat) apC), (3, .int .i64 i3), (32, .bool true)]) ⟨rfl, rfl, rfl, trivial⟩; clear hE117
         refine p_tn ?_
         have hE119 := hE118.sub (L' := [(0, .slice apA ((ap).length / 3 : Nat) apC), (3, .int .i64 i3), (32, .bool true)]) ⟨rfl, rfl, rfl, trivial⟩
         have hS120 := (St.pick (Γ' := [.rd 3 apA ((ap).length / 3 : Nat) apC ap]) hS62 [0] (by decide) rfl)
         exact ⟨(by rw [hb101]; exact hE119), hS120⟩
        ·
         have hE121 := hE100; (try rw [hb101] at hE121); clear hE100
         have hp122 := of_decide_eq_false hb101
         refine q_step (v := .slice apA ((ap).length / 3 : Nat) apC) hE121 (y_move rfl) rfl rfl rfl ?_; intro a123 hE124; clear hE121
         refine q_step (v := .int .i64 i3) hE124 (y_move rfl) rfl rfl rfl ?_; intro a125 hE126; clear hE124
         refine q_step (v := .pointer (some (adr apA (Int.toNat i3 * 3)))) hE126 (y_idx (by kernel_rfl) (fun _ => by kernel_rfl) rfl rfl (RdS.isS (m := i3) (St.rdR (i := 0) hS62 rfl) (by omega) (by omega)) (by omega) (by omega) rfl) rfl rfl rfl ?_; intro a127 hE128; clear hE126
         refine q_step (v := .agg #[.int .i64 (gS 3 0 ap i3), .int .i64 (gS 3 1 ap i3), .int .i64 (gS 3 2 ap i3)]) hE128 (y_loadE Try.underlying115 rfl (by kernel_rfl) rfl (RdS.rng3 (St.rdR (i := 0) hS62 rfl) (by omega) (by omega))) rfl rfl rfl ?_; intro a129 hE130; clear hE128
         refine l_step hE130 rfl (l_call (f := 162) (argv := [.agg #[.int .i64 (gS 3 0 ap i3), .int .i64 (gS 3 1 ap i3), .int .i64 (gS 3 2 ap i3)]]) hE130 (fun _ => cf_l10Node _ _) rfl rfl (c_l10Node (gS 3 0 ap i3) (gS 3 1 ap i3) (gS 3 2 ap i3) w60) ?_)
         rintro _ w132 ⟨rfl, he136⟩ a133 hE134; clear hE130
         have hS135 := St.go hS62 he136; clear hS62
         refine q_step (v := .bool (!(F_l10Node (gS 3 0 ap i3) (gS 3 1 ap i3) (gS 3 2 ap i3)))) hE134 (y_not rfl) rfl rfl rfl ?_; intro a137 hE138; clear hE134
         refine q_step (v := .bool (!(F_l10Node (gS 3 0 ap i3) (gS 3 1 ap i3) (gS 3 2 ap i3)))) hE138 (y_pick (b := false) rfl rfl) rfl rfl rfl ?_; intro a139 hE140; clear hE138
         refine c_nil ?_
         have hE141 := hE140.sub (L' := [(0, .slice apA ((ap).length / 3 : Nat) apC), (3, .int .i64 i3), (32, .bool (!(F_l10Node (gS 3 0 ap i3) (gS 3 1 ap i3) (gS 3 2 ap i3))))]) ⟨rfl, rfl, rfl, trivial⟩; clear hE140
         refine p_tn ?_
         have hE142 := hE141.sub (L' := [(0, .slice apA ((ap).length / 3 : Nat) apC), (3, .int .i64 i3), (32, .bool (!(F_l10Node (gS 3 0 ap i3) (gS 3 1 ap i3) (gS 3 2 ap i3))))]) ⟨rfl, rfl, rfl, trivial⟩
         have hS143 := (St.pick (Γ' := [.rd 3 apA ((ap).length / 3 : Nat) apC ap]) hS135 [0] (by decide) rfl)
         exact ⟨(by rw [hb101]; exact hE142), hS143⟩
       ·
        rintro a144 w145 ⟨hE146, hS147⟩; clear hE79 hS62
        refine c_cond hE146 rfl (fun ht149 => ?_) (fun ht149 => ?_)
        ·
         have hE150 := hE146; rw [ht149] at hE150; clear hE146
         refine c_seq ?_
         refine c_reg ?_
         refine q_step (v := .bool false) hE150 (y_assign rfl) rfl rfl rfl ?_; intro a151 hE152; clear hE150
         refine c_nil ?_
         have hE153 := hE152.sub (L' := [(2, .bool false)]) ⟨rfl, trivial⟩; clear hE152
         refine p_tn ?_
         refine wp_ret ?_
         refine p_br ?_
         refine p_tr ?_
         have hX154 : F_s_IsPointFormula_L1 ap (Int.toNat ((((ap).length / 3 : Nat) : Int) - 0) + 1) 0 = .error false := hT63.symm.trans (show F_s_IsPointFormula_L1b ap (F_s_IsPointFormula_L1 ap r67) i3 = .error false by unfold F_s_IsPointFormula_L1b; rw [ht149, ht77]; first | done | rfl)
         refine p_tr (p_br (p_tr ?_))
         refine p_tr ?_
         have hF : F_s_IsPointFormula ap = false := by unfold F_s_IsPointFormula; rw [hX154, ht45]; first | done | rfl
         refine c_ret1 hE153 rfl rfl ?_
         exact ⟨(by rw [hF]; first | done | (dsimp only; done) | rfl), hS147.ext⟩
        ·
         obtain ⟨ht155, ht156⟩ := bor_f ht149
         have hp157 := of_decide_eq_false ht155
         have ht158 := bn_f ht156
         have hE159 := hE146; rw [ht149] at hE159; clear hE146
         refine wp_skip ?_
         refine p_bn ?_
         refine p_tn ?_
         refine c_reg ?_
         refine q_step (v := .int .i64 i3) hE159 (y_move rfl) rfl rfl rfl ?_; intro a160 hE161; clear hE159
         refine q_step (v := .int .i64 (i3 + 1)) hE161 (y_add rfl rfl ⟨(by omega), (by omega)⟩) rfl rfl rfl ?_; intro a162 hE163; clear hE161
         refine q_step (v := .int .i64 (i3 + 1)) hE163 (y_assign rfl) rfl rfl rfl ?_; intro a164 hE165; clear hE163
         refine c_nil ?_
         have hE166 := hE165.sub (L' := [(0, .slice apA ((ap).length / 3 : Nat) apC), (3, .int .i64 (i3 + 1))]) ⟨rfl, rfl, trivial⟩; clear hE165
         refine p_tn ⟨r67, Nat.lt_succ_self _, i3 + 1, (hT63.symm.trans (show F_s_IsPointFormula_L1b ap (F_s_IsPointFormula_L1 ap r67) i3 = F_s_IsPointFormula_L1 ap r67 (i3 + 1) by unfold F_s_IsPointFormula_L1b; rw [ht149, ht77]; first | done | rfl)).symm, (by omega), (by first | omega | (simp only [sS_len, sL_len]; omega) | (simp only [List.length_replicate, sI_len]; omega) | (simp only [List.length_append, List.length_cons, List.length_nil, sI_len, cond_true, cond_false]; omega) | (simp only [List.length_append, List.length_cons, List.length_nil, sI_len, cond_eq_ite, apply_ite List.length]; split <;> simp only [List.length_append, List.length_cons, List.length_nil, sI_len] <;> omega) | grind), (by first | omega | (simp only [sS_len, sL_len]; omega) | (simp only [List.length_replicate, sI_len]; omega) | (simp only [List.length_append, List.length_cons, List.length_nil, sI_len, cond_true, cond_false]; omega) | (simp only [List.length_append, List.length_cons, List.length_nil, sI_len, cond_eq_ite, apply_ite List.length]; split <;> simp only [List.length_append, List.length_cons, List.length_nil, sI_len] <;> omega) | grind), (hE166.sub (L' := [(0, .slice apA ((ap).length / 3 : Nat) apC), (3, .int .i64 (i3 + 1))]) ⟨rfl, rfl, trivial⟩), (St.pick (Γ' := [.rd 3 apA ((ap).length / 3 : Nat) apC ap]) hS147 [0] (by decide) rfl)⟩
      ·
       have hp167 := of_decide_eq_false ht77
       have hE168 := hE76; rw [ht77] at hE168; clear hE76
       refine wp_exit ?_
       refine p_te ?_
       have hX169 : F_s_IsPointFormula_L1 ap (Int.toNat ((((ap).length / 3 : Nat) : Int) - 0) + 1) 0 = .ok i3 := hT63.symm.trans (show F_s_IsPointFormula_L1b ap (F_s_IsPointFormula_L1 ap r67) i3 = .ok i3 by unfold F_s_IsPointFormula_L1b; rw [ht77]; first | done | rfl)
       refine p_te (p_be (p_tn ?_))
       exact ⟨(by rw [hX169]; rfl), (by rw [hX169]; exact (show 0 ≤ i3 from (by first | omega | (simp only [sS_len, sL_len]; omega) | (simp only [List.length_replicate, sI_len]; omega) | (simp only [List.length_append, List.length_cons, List.length_nil, sI_len, cond_true, cond_false]; omega) | (simp only [List.length_append, List.length_cons, List.length_nil, sI_len, cond_eq_ite, apply_ite List.length]; split <;> simp only [List.length_append, List.length_cons, List.length_nil, sI_len] <;> omega) | grind))), (by rw [hX169]; exact (show i3 ≤ (((ap).length / 3 : Nat) : Int) from (by first | omega | (simp only [sS_len, sL_len]; omega) | (simp only [List.length_replicate, sI_len]; omega) | (simp only [List.length_append, List.length_cons, List.length_nil, sI_len, cond_true, cond_false]; omega) | (simp only [List.length_append, List.length_cons, List.length_nil, sI_len, cond_eq_ite, apply_ite List.length]; split <;> simp only [List.length_append, List.length_cons, List.length_nil, sI_len] <;> omega) | grind))), (by rw [hX169]; exact (hE168.sub (L' := [(0, .slice apA ((ap).length / 3 : Nat) apC), (3, .int .i64 i3)]) ⟨rfl, rfl, trivial⟩)), (St.pick (Γ' := [.rd 3 apA ((ap).length / 3 : Nat) apC ap]) hS62 [0] (by decide) rfl)⟩
    ·
     rintro a170 w171 ⟨hO174, hi175, hi176, hE172, hS173⟩; clear hE57 hS43
     refine p_tn ?_
     refine c_seq ?_
     refine c_reg ?_
     refine q_step (v := .slice apA ((ap).length / 3 : Nat) apC) hE172 (y_move rfl) rfl rfl rfl ?_; intro a177 hE178; clear hE172
     refine l_step hE178 rfl (l_call (f := 163) (argv := [.slice apA ((ap).length / 3 : Nat) apC, .int .i64 0]) hE178 (fun _ => cf_l10End _ _) rfl rfl (c_l10End apA ((ap).length / 3 : Nat) apC ap 0 w171 (St.rdR (i := 0) hS173 rfl) (by omega) (by omega)) ?_)
     rintro _ w180 ⟨rfl, he184⟩ a181 hE182; clear hE178
     have hS183 := St.go hS173 he184; clear hS173
     refine q_step (v := .slice apA ((ap).length / 3 : Nat) apC) hE182 (y_move rfl) rfl rfl rfl ?_; intro a185 hE186; clear hE182
     refine q_step (v := .int .i64 (((ap).length / 3 : Nat) : Int)) hE186 (y_len (e := 115) (by kernel_rfl) rfl) rfl rfl rfl ?_; intro a187 hE188; clear hE186
     refine q_step (v := .bool (decide ((F_l10End ap 0) = (((ap).length / 3 : Nat) : Int)))) hE188 (y_eql rfl rfl) rfl rfl rfl ?_; intro a189 hE190; clear hE188
     refine q_step (v := .bool (decide ((F_l10End ap 0) = (((ap).length / 3 : Nat) : Int)))) hE190 (y_assign rfl) rfl rfl rfl ?_; intro a191 hE192; clear hE190
     refine c_nil ?_
     have hE193 := hE192.sub (L' := [(2, .bool (decide ((F_l10End ap 0) = (((ap).length / 3 : Nat) : Int))))]) ⟨rfl, trivial⟩; clear hE192
     refine p_tn ?_
     refine wp_ret ?_
     have hF : F_s_IsPointFormula ap = decide ((F_l10End ap 0) = (((ap).length / 3 : Nat) : Int)) := by unfold F_s_IsPointFormula; rw [hO174, ht45]; first | done | rfl
     refine c_ret1 hE193 rfl rfl ?_
     exact ⟨(by rw [hF]; first | done | (dsimp only; done) | rfl), hS183.ext⟩
theorem indexPt_key (sp : List Int) (fp : Int → Int → Int → Bool) : ∀ (k : Nat) (i : Int), 0 ≤ i → ((sp.length / 3 : Nat) : Int) - i = (k : Int) →
    decide (0 ≤ (bif isOk (F_z_IndexFuncPointNode_L1 sp fp (k + 1) i) then (-1 : Int) else errD (F_z_IndexFuncPointNode_L1 sp fp (k + 1) i))) = !((List.range k).all fun j => !fp (gS 3 0 sp (i + (j : Int))) (gS 3 1 sp (i + (j : Int))) (gS 3 2 sp (i + (j : Int)))) := by
  intro k
  induction k with
  | zero =>
    intro i h0 h
    have e : F_z_IndexFuncPointNode_L1 sp fp (0 + 1) i = .ok i := by
      show F_z_IndexFuncPointNode_L1b sp fp _ i = _
      unfold F_z_IndexFuncPointNode_L1b; rw [decide_eq_false (by omega)]; rfl
    rw [e]; rfl
  | succ k ih =>
    intro i h0 h
    have e : F_z_IndexFuncPointNode_L1 sp fp (k + 1 + 1) i = bif fp (gS 3 0 sp i) (gS 3 1 sp i) (gS 3 2 sp i) then .error i else F_z_IndexFuncPointNode_L1 sp fp (k + 1) (i + 1) := by
      show F_z_IndexFuncPointNode_L1b sp fp _ i = _
      unfold F_z_IndexFuncPointNode_L1b; rw [decide_eq_true (by omega)]; rfl
    rw [e, List.range_succ_eq_map, List.all_cons, List.all_map]
    simp only [Int.natCast_zero, Int.add_zero, Function.comp_def]
    cases hp : fp (gS 3 0 sp i) (gS 3 1 sp i) (gS 3 2 sp i)
    · simp only [cond_false]
      rw [ih (i + 1) (by omega) (by omega)]
      simp only [Bool.not_false, Bool.true_and]
      congr 2; funext j
      rw [show i + 1 + (j : Int) = i + ((j + 1 : Nat) : Int) by omega]
    · simp [isOk, errD, h0]
theorem containsPt_eq (sp : List Int) (fp : Int → Int → Int → Bool) : F_z_ContainsFuncPointNode sp fp = !((List.range (sp.length / 3)).all fun (j : Nat) => !fp (gS 3 0 sp (j : Int)) (gS 3 1 sp (j : Int)) (gS 3 2 sp (j : Int))) := by
  unfold F_z_ContainsFuncPointNode F_z_IndexFuncPointNode
  rw [show Int.toNat (((sp.length / 3 : Nat) : Int) - 0) = sp.length / 3 by omega, indexPt_key sp fp (sp.length / 3) 0 (by omega) (by omega)]
  simp only [Int.zero_add]
/-- All nodes are as they should be. -/
def NdsB (ap : List Int) : Bool := (List.range (ap.length / 3)).all fun (j : Nat) => F_isPointNode (gS 3 0 ap (j : Int)) (gS 3 1 ap (j : Int)) (gS 3 2 ap (j : Int))
theorem NdsB_at {ap : List Int} (h : NdsB ap = true) {i : Int} (h0 : 0 ≤ i) (h1 : i < ((ap.length / 3 : Nat) : Int)) : F_isPointNode (gS 3 0 ap i) (gS 3 1 ap i) (gS 3 2 ap i) = true := by
  have := List.all_eq_true.1 h i.toNat (List.mem_range.2 (by omega))
  rwa [Int.toNat_of_nonneg h0] at this
theorem isPt_form (ap : List Int) : F_isPointFormula ap = (decide (1 ≤ ((ap.length / 3 : Nat) : Int)) && (decide (((ap.length / 3 : Nat) : Int) ≤ 120) && (NdsB ap && decide (F_pointEnd ap 0 = ((ap.length / 3 : Nat) : Int))))) := by
  unfold F_isPointFormula
  rw [containsPt_eq, Bool.not_not]
  unfold F_isPointFormula_k1 NdsB
  simp only [Bool.not_not]
theorem s_isPt_form (ap : List Int) : F_s_IsPointFormula ap = (decide (1 ≤ ((ap.length / 3 : Nat) : Int)) && (decide (((ap.length / 3 : Nat) : Int) ≤ 120) && (NdsB ap && decide (F_l10End ap 0 = ((ap.length / 3 : Nat) : Int))))) := by
  have e := allE (F_s_IsPointFormula_L1 ap) false ((ap.length / 3 : Nat) : Int) (fun i => !F_isPointNode (gS 3 0 ap i) (gS 3 1 ap i) (gS 3 2 ap i)) (by omega) (fun r i _ _ => by
    show F_s_IsPointFormula_L1b ap _ i = _
    unfold F_s_IsPointFormula_L1b
    rw [node_eq])
  unfold F_s_IsPointFormula
  rw [e, isOk_bif, errD_bif, Int.toNat_natCast]
  simp only [Bool.not_not]
  show (bif _ then false else bif NdsB ap then _ else false) = _
  by_cases h1 : 1 ≤ ((ap.length / 3 : Nat) : Int)
  · rw [decide_eq_false (show ¬ ((ap.length / 3 : Nat) : Int) = 0 by omega), decide_eq_true h1, Bool.false_or, Bool.true_and]
    by_cases h2 : ((ap.length / 3 : Nat) : Int) ≤ 120
    · rw [decide_eq_false (show ¬ 120 < ((ap.length / 3 : Nat) : Int) by omega), decide_eq_true h2, cond_false, Bool.true_and]
      cases NdsB ap <;> rfl
    · rw [decide_eq_true (show 120 < ((ap.length / 3 : Nat) : Int) by omega), decide_eq_false h2]; rfl
  · rw [decide_eq_true (show ((ap.length / 3 : Nat) : Int) = 0 by omega), decide_eq_false h1]; rfl
theorem node6 {k u v : Int} (h : F_isPointNode k u v = true) : k = 2 → u < 6 := by
  rintro rfl
  have h' : (F_isVariable u && F_isPoint v) = true := h
  rw [Bool.and_eq_true] at h'
  have : 0 ≤ u ∧ u ≤ 5 := F_inRange_t h'.1
  omega
theorem IsPm.run {ap : List Int} {bd : Int} (h : IsPm bd ap) : F_pointEnd ap 0 = ((ap.length / 3 : Nat) : Int) ∧ F_l10End ap 0 = ((ap.length / 3 : Nat) : Int) := by
  obtain ⟨t, ht, rfl⟩ := h
  have hs := t.code_half
  have hc : t.code = slI 3 t.code 0 (0 + (t.size : Int)) := by
    have := slI_all3 t.code_ev
    rw [hs] at this
    rw [Int.zero_add]; exact this.symm
  refine ⟨?_, ?_⟩
  · rw [pointEnd_code t.code_ev ht (by omega) hc (by rw [hs]; omega), hs]; omega
  · show F_l10End_r _ t.code 0 = _
    rw [l10End_code t.code bd t.code_ev t _ 0 ht (by omega) hc (by rw [hs]; omega) (by rw [hs]; omega), hs]; omega
theorem IsPm.of {ap : List Int} {bd : Int} (he : ap.length = ap.length / 3 * 3) (h : F_isPointFormula ap = true) (hv : ∀ i : Int, 0 ≤ i → i < ((ap.length / 3 : Nat) : Int) → gS 3 0 ap i = 2 → gS 3 1 ap i < bd) : IsPm bd ap := by
  rw [isPt_form] at h
  simp only [Bool.and_eq_true, decide_eq_true_eq] at h
  obtain ⟨h1, h2, h3, h4⟩ := h
  have hr : F_pointEnd_L1 ap (Int.toNat (((ap.length / 3 : Nat) : Int) - 0) + 1) 0 1 = .ok (((ap.length / 3 : Nat) : Int), 0) := by
    unfold F_pointEnd at h4
    have key : ∀ (r : Nat) (i o e : Int) , 0 ≤ o → ((ap.length / 3 : Nat) : Int) - i < (r : Int) → i ≤ ((ap.length / 3 : Nat) : Int) → (bif isOk (F_pointEnd_L1 ap r i o) then (okD (F_pointEnd_L1 ap r i o)).1 else errD (F_pointEnd_L1 ap r i o)) = e → 0 ≤ e → F_pointEnd_L1 ap r i o = .ok (e, 0) := by
      intro r
      induction r with
      | zero =>
        intro i o e ho hr hi h he
        exact absurd hr (by omega)
      | succ r ih =>
        intro i o e ho hr hi h he
        by_cases h0 : o = 0
        · subst h0
          rw [pend_zero] at h ⊢
          have h : i = e := h
          rw [h]
        · by_cases hl : i < ((ap.length / 3 : Nat) : Int)
          · have hb := pointParts_bd (gS 3 0 ap i)
            rw [pend_step ap r (by omega) hl] at h ⊢
            exact ih (i + 1) _ e (by omega) (by omega) (by omega) h he
          · exfalso
            have e1 : F_pointEnd_L1 ap (r + 1) i o = .error (-1) := by
              show F_pointEnd_L1b ap _ i o = _
              unfold F_pointEnd_L1b
              rw [decide_eq_true (show 0 < o by omega), cond_true, decide_eq_true (by omega), cond_true]
            rw [e1] at h
            have h : (-1 : Int) = e := h
            omega
    exact key _ 0 1 _ (by decide) (by omega) (by omega) h4 (by omega)
  obtain ⟨t, r', a1, a2, a3, a4, a5⟩ := pparse ap bd he (fun i h0 h1 => ⟨NdsB_at h3 h0 h1, hv i h0 h1⟩) (ap.length / 3) _ 0 1 _ (by omega) (by omega) (by omega) (by omega) hr
  rw [show (1 : Int) - 1 = 0 by rfl, pend_zero] at a5
  injection a5 with a5; injection a5 with a5 _
  refine ⟨t, a1, ?_⟩
  rw [a2, a5, slI_all3 he]
theorem IsPm.ofs {ap : List Int} (he : ap.length = ap.length / 3 * 3) (h : F_s_IsPointFormula ap = true) : IsPm 6 ap := by
  rw [s_isPt_form] at h
  simp only [Bool.and_eq_true, decide_eq_true_eq] at h
  obtain ⟨h1, h2, h3, h4⟩ := h
  have h4' : F_l10End_r ((((ap.length / 3 : Nat) : Int) - 0).toNat + 1) ap 0 = ((ap.length / 3 : Nat) : Int) := h4
  obtain ⟨t, a1, a2, a3, a4⟩ := l10parse ap 6 he (fun i h0 h1 => ⟨NdsB_at h3 h0 h1, node6 (NdsB_at h3 h0 h1)⟩) _ 0 (by omega) (Nat.lt_succ_self _) (by rw [h4']; omega)
  rw [h4'] at a4
  refine ⟨t, a1, ?_⟩
  rw [a2, ← a4, slI_all3 he]
theorem isPt_eq {ap : List Int} (he : ap.length = ap.length / 3 * 3) : F_isPointFormula ap = F_s_IsPointFormula ap := by
  rw [Bool.eq_iff_iff]
  constructor
  · intro h
    have hr := (IsPm.of (bd := 6) he h (fun i h0 h1 => by
      rw [isPt_form] at h
      simp only [Bool.and_eq_true, decide_eq_true_eq] at h
      exact node6 (NdsB_at h.2.2.1 h0 h1))).run
    rw [isPt_form] at h
    rw [s_isPt_form]
    simp only [Bool.and_eq_true, decide_eq_true_eq] at h ⊢
    exact ⟨h.1, h.2.1, h.2.2.1, hr.2⟩
  · intro h
    have hr := (IsPm.ofs he h).run
    rw [s_isPt_form] at h
    rw [isPt_form]
    simp only [Bool.and_eq_true, decide_eq_true_eq] at h ⊢
    exact ⟨h.1, h.2.1, h.2.2.1, hr.1⟩
end Go.Proofs.Ytkilkfhjfobcdaa
