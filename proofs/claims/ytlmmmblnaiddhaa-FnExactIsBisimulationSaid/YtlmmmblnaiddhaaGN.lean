/- GN: models and contracts, printed by wip/gen/gen.py -/
import Derived.Test.YtlmmmblnaiddhaaGL
import Derived.Test.YtlmmmblnaiddhaaPart
set_option linter.unusedVariables false
set_option linter.unusedSimpArgs false
namespace Go.Proofs.Ytlmmmblnaiddhaa
open Go.RowKit

def F_l06Is (mp0 : Int) (mp1 : List Int) (mp2 : List Int) : Bool :=
  ((F_l05Is mp0 mp1) && ((decide ((mp2.length : Int) = 6)) && (F_l01Masks mp0 mp2)))
theorem cf_l06Is (args : Array Value) (w : World) : (callFunc 66 args).run Try.prog w = .ok (.enter 66 args) w := by kernel_rfl
set_option maxRecDepth 100000 in
theorem c_l06Is (mp0 : Int) (mp1A : Option Addr) (mp1N mp1C : Nat) (mp1 : List Int) (mp2A : Option Addr) (mp2N mp2C : Nat) (mp2 : List Int) (w : World) (mp1R : RdS w 1 mp1A mp1N mp1C mp1) (mp2R : RdS w 1 mp2A mp2N mp2C mp2) :
    Calls Try.prog 66 #[.agg #[.int .i64 mp0, .slice mp1A mp1N mp1C, .slice mp2A mp2N mp2C]] w (Ret fun v w' => v = .bool (F_l06Is mp0 mp1 mp2) ∧ Ext w w') := by
  obtain rfl : mp1N = mp1.length := mp1R.len1.symm
  have mp1Le := mp1R.le
  obtain rfl : mp2N = mp2.length := mp2R.len1.symm
  have mp2Le := mp2R.le
  have hS := St.nil w
  have hS1 := St.rd0 hS rfl mp1R; clear hS
  have hS2 := St.rd0 hS1 rfl mp2R; clear hS1
  refine enter (args := [.agg #[.int .i64 mp0, .slice mp1A mp1.length mp1C, .slice mp2A mp2.length mp2C]]) Try.func66 rfl rfl ?_
  rw [Try.ntmps66]; intro a hE
  have hE := hE.sub (L' := [(0, .agg #[.int .i64 mp0, .slice mp1A mp1.length mp1C, .slice mp2A mp2.length mp2C])]) ⟨rfl, trivial⟩
  refine c_seq ?_
  refine c_reg ?_
  refine l_step hE rfl (l_box (v := .agg #[.int .i64 mp0, .slice mp1A mp1.length mp1C, .slice mp2A mp2.length mp2C]) (cs := #[.int .i64 mp0, .slice mp1A mp1.length mp1C, .slice mp2A mp2.length mp2C]) hS2 hE rfl rfl rfl ?_)
  intro b3 w4 hS7 he8 a5 hE6; clear hS2 hE
  refine q_step (v := .bool false) hE6 (y_assign rfl) rfl rfl rfl ?_; intro a9 hE10; clear hE6
  refine c_nil ?_
  have hE11 := hE10.sub (L' := [(1, .pointer (some ⟨b3, 0, none⟩))]) ⟨rfl, trivial⟩; clear hE10
  refine p_tn ?_
  refine c_cut (fun a' w' => E a' 20 [(2, .bool ((F_l05Is mp0 mp1) && ((decide ((mp2.length : Int) = 6)) && (F_l01Masks mp0 mp2))))] ∧ St w w' [.rd 1 mp1A mp1.length mp1C mp1, .rd 1 mp2A mp2.length mp2C mp2, .blk b3 #[.int .i64 mp0, .slice mp1A mp1.length mp1C, .slice mp2A mp2.length mp2C] 39]) ?_ ?_
  ·
    refine c_reg ?_
    refine q_step (v := .pointer (some ⟨b3, 0, none⟩)) hE11 (y_field rfl (fun _ => by kernel_rfl)) rfl rfl rfl ?_; intro a12 hE13; clear hE11
    refine q_step (v := .agg #[.int .i64 mp0, .slice mp1A mp1.length mp1C]) hE13 (y_loadP Try.underlying28 rfl (by kernel_rfl) rfl rfl (St.row (i := 0) hS7 rfl)) rfl rfl rfl ?_; intro a14 hE15; clear hE13
    refine l_step hE15 rfl (l_call (f := 62) (argv := [.agg #[.int .i64 mp0, .slice mp1A mp1.length mp1C]]) hE15 (fun _ => cf_l05Is _ _) rfl rfl (c_l05Is mp0 mp1A mp1.length mp1C mp1 w4 (St.rdR (i := 2) hS7 rfl)) ?_)
    rintro _ w17 ⟨rfl, he21⟩ a18 hE19; clear hE15
    have hS20 := St.go hS7 he21; clear hS7
    refine q_step (v := .bool (F_l05Is mp0 mp1)) hE19 (y_move rfl) rfl rfl rfl ?_; intro a22 hE23; clear hE19
    rcases Bool.eq_false_or_eq_true (F_l05Is mp0 mp1) with hb24 | hb24
    ·
      have hE25 := hE23; rw [hb24] at hE25; clear hE23
      have hp26 := l05Is_t hb24
      refine q_step (v := .pointer (some ⟨b3, 2, none⟩)) hE25 (y_field rfl (fun _ => by kernel_rfl)) rfl rfl rfl ?_; intro a27 hE28; clear hE25
      refine q_step (v := .slice mp2A mp2.length mp2C) hE28 (y_load (fun _ => by kernel_rfl) rfl (St.cell (i := 0) hS20 rfl rfl)) rfl rfl rfl ?_; intro a29 hE30; clear hE28
      refine q_step (v := .int .i64 (mp2.length : Int)) hE30 (y_len (e := 2) (by kernel_rfl) rfl) rfl rfl rfl ?_; intro a31 hE32; clear hE30
      refine q_step (v := .bool (decide ((mp2.length : Int) = 6))) hE32 (y_eql rfl rfl) rfl rfl rfl ?_; intro a33 hE34; clear hE32
      refine q_step (v := .bool (decide ((mp2.length : Int) = 6))) hE34 (y_pick (b := true) rfl rfl) rfl rfl rfl ?_; intro a35 hE36; clear hE34
      refine q_step (v := .bool (decide ((mp2.length : Int) = 6))) hE36 (y_move rfl) rfl rfl rfl ?_; intro a37 hE38; clear hE36
      rcases Bool.eq_false_or_eq_true (decide ((mp2.length : Int) = 6)) with hb39 | hb39
      ·
        have hE40 := hE38; rw [hb39] at hE40; clear hE38
        have hp41 := of_decide_eq_true hb39
        refine q_step (v := .pointer (some ⟨b3, 0, none⟩)) hE40 (y_field rfl (fun _ => by kernel_rfl)) rfl rfl rfl ?_; intro a42 hE43; clear hE40
        refine q_step (v := .pointer (some ⟨b3, 0, none⟩)) hE43 (y_field rfl (fun _ => by kernel_rfl)) rfl rfl rfl ?_; intro a44 hE45; clear hE43
        refine q_step (v := .int .i64 mp0) hE45 (y_load (fun _ => by kernel_rfl) rfl (St.cell (i := 0) hS20 rfl rfl)) rfl rfl rfl ?_; intro a46 hE47; clear hE45
        refine q_step (v := .pointer (some ⟨b3, 2, none⟩)) hE47 (y_field rfl (fun _ => by kernel_rfl)) rfl rfl rfl ?_; intro a48 hE49; clear hE47
        refine q_step (v := .slice mp2A mp2.length mp2C) hE49 (y_load (fun _ => by kernel_rfl) rfl (St.cell (i := 0) hS20 rfl rfl)) rfl rfl rfl ?_; intro a50 hE51; clear hE49
        refine l_step hE51 rfl (l_call (f := 134) (argv := [.int .i64 mp0, .slice mp2A mp2.length mp2C]) hE51 (fun _ => cf_l01Masks _ _) rfl rfl (c_l01Masks mp0 mp2A mp2.length mp2C mp2 w17 (St.rdR (i := 1) hS20 rfl) (by omega) (by omega)) ?_)
        rintro _ w53 ⟨rfl, he57⟩ a54 hE55; clear hE51
        have hS56 := St.go hS20 he57; clear hS20
        refine q_step (v := .bool (F_l01Masks mp0 mp2)) hE55 (y_pick (b := true) rfl rfl) rfl rfl rfl ?_; intro a58 hE59; clear hE55
        refine q_step (v := .bool (F_l01Masks mp0 mp2)) hE59 (y_assign rfl) rfl rfl rfl ?_; intro a60 hE61; clear hE59
        refine c_nil ?_
        have hE62 := hE61.sub (L' := [(2, .bool (F_l01Masks mp0 mp2))]) ⟨rfl, trivial⟩; clear hE61
        refine p_tn ?_
        have hE63 := hE62.sub (L' := [(2, .bool (F_l01Masks mp0 mp2))]) ⟨rfl, trivial⟩
        have hS64 := (St.pick (Γ' := [.rd 1 mp1A mp1.length mp1C mp1, .rd 1 mp2A mp2.length mp2C mp2, .blk b3 #[.int .i64 mp0, .slice mp1A mp1.length mp1C, .slice mp2A mp2.length mp2C] 39]) hS56 [2, 1, 0] (by decide) rfl)
        exact ⟨(by rw [hb39, hb24]; exact hE63), hS64⟩
      ·
        have hE65 := hE38; rw [hb39] at hE65; clear hE38
        have hp66 := of_decide_eq_false hb39
        refine q_skip hE65 rfl rfl rfl ?_; intro a67 hE68; clear hE65
        refine q_skip hE68 rfl rfl rfl ?_; intro a69 hE70; clear hE68
        refine q_skip hE70 rfl rfl rfl ?_; intro a71 hE72; clear hE70
        refine q_skip hE72 rfl rfl rfl ?_; intro a73 hE74; clear hE72
        refine q_skip hE74 rfl rfl rfl ?_; intro a75 hE76; clear hE74
        refine q_skip hE76 rfl rfl rfl ?_; intro a77 hE78; clear hE76
        refine q_step (v := .bool false) hE78 (y_pick (b := false) rfl rfl) rfl rfl rfl ?_; intro a79 hE80; clear hE78
        refine q_step (v := .bool false) hE80 (y_assign rfl) rfl rfl rfl ?_; intro a81 hE82; clear hE80
        refine c_nil ?_
        have hE83 := hE82.sub (L' := [(2, .bool false)]) ⟨rfl, trivial⟩; clear hE82
        refine p_tn ?_
        have hE84 := hE83.sub (L' := [(2, .bool false)]) ⟨rfl, trivial⟩
        have hS85 := (St.pick (Γ' := [.rd 1 mp1A mp1.length mp1C mp1, .rd 1 mp2A mp2.length mp2C mp2, .blk b3 #[.int .i64 mp0, .slice mp1A mp1.length mp1C, .slice mp2A mp2.length mp2C] 39]) hS20 [2, 1, 0] (by decide) rfl)
        exact ⟨(by rw [hb39, hb24]; exact hE84), hS85⟩
    ·
      have hE86 := hE23; rw [hb24] at hE86; clear hE23
      refine q_skip hE86 rfl rfl rfl ?_; intro a87 hE88; clear hE86
      refine q_skip hE88 rfl rfl rfl ?_; intro a89 hE90; clear hE88
      refine q_skip hE90 rfl rfl rfl ?_; intro a91 hE92; clear hE90
      refine q_skip hE92 rfl rfl rfl ?_; intro a93 hE94; clear hE92
      refine q_step (v := .bool false) hE94 (y_pick (b := false) rfl rfl) rfl rfl rfl ?_; intro a95 hE96; clear hE94
      refine q_step (v := .bool false) hE96 (y_move rfl) rfl rfl rfl ?_; intro a97 hE98; clear hE96
      refine q_skip hE98 rfl rfl rfl ?_; intro a99 hE100; clear hE98
      refine q_skip hE100 rfl rfl rfl ?_; intro a101 hE102; clear hE100
      refine q_skip hE102 rfl rfl rfl ?_; intro a103 hE104; clear hE102
      refine q_skip hE104 rfl rfl rfl ?_; intro a105 hE106; clear hE104
      refine q_skip hE106 rfl rfl rfl ?_; intro a107 hE108; clear hE106
      refine q_skip hE108 rfl rfl rfl ?_; intro a109 hE110; clear hE108
      refine q_step (v := .bool false) hE110 (y_pick (b := false) rfl rfl) rfl rfl rfl ?_; intro a111 hE112; clear hE110
      refine q_step (v := .bool false) hE112 (y_assign rfl) rfl rfl rfl ?_; intro a113 hE114; clear hE112
      refine c_nil ?_
      have hE115 := hE114.sub (L' := [(2, .bool false)]) ⟨rfl, trivial⟩; clear hE114
      refine p_tn ?_
      have hE116 := hE115.sub (L' := [(2, .bool false)]) ⟨rfl, trivial⟩
      have hS117 := (St.pick (Γ' := [.rd 1 mp1A mp1.length mp1C mp1, .rd 1 mp2A mp2.length mp2C mp2, .blk b3 #[.int .i64 mp0, .slice mp1A mp1.length mp1C, .slice mp2A mp2.length mp2C] 39]) hS20 [2, 1, 0] (by decide) rfl)
      exact ⟨(by rw [hb24]; exact hE116), hS117⟩
  ·
    rintro a118 w119 ⟨hE120, hS121⟩; clear hE11 hS7
    refine wp_ret ?_
    have hF : F_l06Is mp0 mp1 mp2 = ((F_l05Is mp0 mp1) && ((decide ((mp2.length : Int) = 6)) && (F_l01Masks mp0 mp2))) := by unfold F_l06Is; rfl
    refine c_ret1 hE120 rfl rfl ?_
    exact ⟨(by rw [hF]; first | done | rfl), hS121.ext⟩

theorem l06Is_t {mp0 : Int} {mp1 mp2 : List Int} (h : F_l06Is mp0 mp1 mp2 = true) : F_l05Is mp0 mp1 = true ∧ ((0 ≤ mp0 ∧ mp0 ≤ 8) ∧ (mp1.length : Int) = mp0) ∧ (mp2.length : Int) = 6 ∧ ∀ m : Int, 0 ≤ m → m < (mp2.length : Int) → 0 ≤ gI mp2 m ∧ gI mp2 m ≤ fullI mp0 := by
  unfold F_l06Is at h
  simp only [Bool.and_eq_true, decide_eq_true_eq] at h
  exact ⟨h.1, l05Is_t h.1, h.2.1, masks_mem h.2.2⟩

def F_isModel_k1 (mask : Int) (cap00 : Int) (cap01 : List Int) (cap02 : List Int) : Bool :=
  (!(F_isMask cap00 mask))
theorem cf_isModel_k1 (args : Array Value) (w : World) : (callFunc 142 args).run Try.prog w = .ok (.enter 142 args) w := by kernel_rfl
set_option maxRecDepth 100000 in
theorem c_isModel_k1 (mask : Int) (cap0B : Nat) (cap00 : Int) (cap01A : Option Addr) (cap01N cap01C : Nat) (cap01 : List Int) (cap02A : Option Addr) (cap02N cap02C : Nat) (cap02 : List Int) (w : World) (cap01R : RdS w 1 cap01A cap01N cap01C cap01) (cap02R : RdS w 1 cap02A cap02N cap02C cap02) (cap0H : w.heap[cap0B]? = some (.cells #[.int .i64 cap00, .slice cap01A cap01N cap01C, .slice cap02A cap02N cap02C] 39 (0, 0))) :
    Calls Try.prog 142 #[.int .i64 mask, .pointer (some ⟨cap0B, 0, none⟩)] w (Ret fun v w' => v = .bool (F_isModel_k1 mask cap00 cap01 cap02) ∧ w = w') := by
  obtain rfl : cap01N = cap01.length := cap01R.len1.symm
  have cap01Le := cap01R.le
  obtain rfl : cap02N = cap02.length := cap02R.len1.symm
  have cap02Le := cap02R.le
  have hS := St.nil w
  have hS1 := St.rd0 hS rfl cap01R; clear hS
  have hS2 := St.rd0 hS1 rfl cap02R; clear hS1
  have hS3 := St.rb0 hS2 rfl cap0H; clear hS2
  refine enter (args := [.int .i64 mask, .pointer (some ⟨cap0B, 0, none⟩)]) Try.func142 rfl rfl ?_
  rw [Try.ntmps142]; intro a hE
  have hE := hE.sub (L' := [(0, .int .i64 mask), (1, .pointer (some ⟨cap0B, 0, none⟩))]) ⟨rfl, rfl, trivial⟩
  refine c_seq ?_
  refine c_reg ?_
  refine q_step (v := .bool false) hE (y_assign rfl) rfl rfl rfl ?_; intro a4 hE5; clear hE
  refine c_nil ?_
  have hE6 := hE5.sub (L' := [(0, .int .i64 mask), (1, .pointer (some ⟨cap0B, 0, none⟩))]) ⟨rfl, rfl, trivial⟩; clear hE5
  refine p_tn ?_
  refine c_seq ?_
  refine c_reg ?_
  refine q_step (v := .pointer (some ⟨cap0B, 0, none⟩)) hE6 (y_field rfl (fun _ => by kernel_rfl)) rfl rfl rfl ?_; intro a7 hE8; clear hE6
  refine q_step (v := .pointer (some ⟨cap0B, 0, none⟩)) hE8 (y_field rfl (fun _ => by kernel_rfl)) rfl rfl rfl ?_; intro a9 hE10; clear hE8
  refine q_step (v := .int .i64 cap00) hE10 (y_load (fun _ => by kernel_rfl) rfl (St.cellR (i := 0) hS3 rfl rfl)) rfl rfl rfl ?_; intro a11 hE12; clear hE10
  refine q_step (v := .int .i64 mask) hE12 (y_move rfl) rfl rfl rfl ?_; intro a13 hE14; clear hE12
  refine l_step hE14 rfl (l_call (f := 97) (argv := [.int .i64 cap00, .int .i64 mask]) hE14 (fun _ => cf_isMask _ _) rfl rfl (c_isMask cap00 mask w) ?_)
  rintro _ _ ⟨rfl, rfl⟩ a17 hE18; clear hE14
  refine q_step (v := .bool (!(F_isMask cap00 mask))) hE18 (y_not rfl) rfl rfl rfl ?_; intro a21 hE22; clear hE18
  refine q_step (v := .bool (!(F_isMask cap00 mask))) hE22 (y_assign rfl) rfl rfl rfl ?_; intro a23 hE24; clear hE22
  refine c_nil ?_
  have hE25 := hE24.sub (L' := [(3, .bool (!(F_isMask cap00 mask)))]) ⟨rfl, trivial⟩; clear hE24
  refine p_tn ?_
  refine wp_ret ?_
  have hF : F_isModel_k1 mask cap00 cap01 cap02 = (!(F_isMask cap00 mask)) := by unfold F_isModel_k1; rfl
  refine c_ret1 hE25 rfl rfl ?_
  exact ⟨(by rw [hF]; first | done | rfl), rfl⟩

def F_isModel (mp0 : Int) (mp1 : List Int) (mp2 : List Int) : Bool :=
  ((F_isFrame mp0 mp1) && ((decide ((mp2.length : Int) = 6)) && (!(F_z_ContainsFunc mp2 (fun x0 => F_isModel_k1 x0 mp0 mp1 mp2)))))
theorem cf_isModel (args : Array Value) (w : World) : (callFunc 70 args).run Try.prog w = .ok (.enter 70 args) w := by kernel_rfl
set_option maxRecDepth 100000 in
theorem c_isModel (mp0 : Int) (mp1A : Option Addr) (mp1N mp1C : Nat) (mp1 : List Int) (mp2A : Option Addr) (mp2N mp2C : Nat) (mp2 : List Int) (w : World) (mp1R : RdS w 1 mp1A mp1N mp1C mp1) (mp2R : RdS w 1 mp2A mp2N mp2C mp2) :
    Calls Try.prog 70 #[.agg #[.int .i64 mp0, .slice mp1A mp1N mp1C, .slice mp2A mp2N mp2C]] w (Ret fun v w' => v = .bool (F_isModel mp0 mp1 mp2) ∧ Ext w w') := by
  obtain rfl : mp1N = mp1.length := mp1R.len1.symm
  have mp1Le := mp1R.le
  obtain rfl : mp2N = mp2.length := mp2R.len1.symm
  have mp2Le := mp2R.le
  have hS := St.nil w
  have hS1 := St.rd0 hS rfl mp1R; clear hS
  have hS2 := St.rd0 hS1 rfl mp2R; clear hS1
  refine enter (args := [.agg #[.int .i64 mp0, .slice mp1A mp1.length mp1C, .slice mp2A mp2.length mp2C]]) Try.func70 rfl rfl ?_
  rw [Try.ntmps70]; intro a hE
  have hE := hE.sub (L' := [(0, .agg #[.int .i64 mp0, .slice mp1A mp1.length mp1C, .slice mp2A mp2.length mp2C])]) ⟨rfl, trivial⟩
  refine c_seq ?_
  refine c_reg ?_
  refine l_step hE rfl (l_box (v := .agg #[.int .i64 mp0, .slice mp1A mp1.length mp1C, .slice mp2A mp2.length mp2C]) (cs := #[.int .i64 mp0, .slice mp1A mp1.length mp1C, .slice mp2A mp2.length mp2C]) hS2 hE rfl rfl rfl ?_)
  intro b3 w4 hS7 he8 a5 hE6; clear hS2 hE
  refine q_step (v := .bool false) hE6 (y_assign rfl) rfl rfl rfl ?_; intro a9 hE10; clear hE6
  refine c_nil ?_
  have hE11 := hE10.sub (L' := [(1, .pointer (some ⟨b3, 0, none⟩))]) ⟨rfl, trivial⟩; clear hE10
  refine p_tn ?_
  refine c_cut (fun a' w' => E a' 19 [(2, .bool ((F_isFrame mp0 mp1) && ((decide ((mp2.length : Int) = 6)) && (!(F_z_ContainsFunc mp2 (fun x0 => F_isModel_k1 x0 mp0 mp1 mp2))))))] ∧ St w w' [.rd 1 mp1A mp1.length mp1C mp1, .rd 1 mp2A mp2.length mp2C mp2, .blk b3 #[.int .i64 mp0, .slice mp1A mp1.length mp1C, .slice mp2A mp2.length mp2C] 39]) ?_ ?_
  ·
    refine c_reg ?_
    refine q_step (v := .pointer (some ⟨b3, 0, none⟩)) hE11 (y_field rfl (fun _ => by kernel_rfl)) rfl rfl rfl ?_; intro a12 hE13; clear hE11
    refine q_step (v := .agg #[.int .i64 mp0, .slice mp1A mp1.length mp1C]) hE13 (y_loadP Try.underlying28 rfl (by kernel_rfl) rfl rfl (St.row (i := 0) hS7 rfl)) rfl rfl rfl ?_; intro a14 hE15; clear hE13
    refine l_step hE15 rfl (l_call (f := 64) (argv := [.agg #[.int .i64 mp0, .slice mp1A mp1.length mp1C]]) hE15 (fun _ => cf_isFrame _ _) rfl rfl (c_isFrame mp0 mp1A mp1.length mp1C mp1 w4 (St.rdR (i := 2) hS7 rfl)) ?_)
    rintro _ w17 ⟨rfl, he21⟩ a18 hE19; clear hE15
    have hS20 := St.go hS7 he21; clear hS7
    refine q_step (v := .bool (F_isFrame mp0 mp1)) hE19 (y_move rfl) rfl rfl rfl ?_; intro a22 hE23; clear hE19
    rcases Bool.eq_false_or_eq_true (F_isFrame mp0 mp1) with hb24 | hb24
    ·
      have hE25 := hE23; rw [hb24] at hE25; clear hE23
      have hp26 := isFrame_t hb24
      refine q_step (v := .pointer (some ⟨b3, 2, none⟩)) hE25 (y_field rfl (fun _ => by kernel_rfl)) rfl rfl rfl ?_; intro a27 hE28; clear hE25
      refine q_step (v := .slice mp2A mp2.length mp2C) hE28 (y_load (fun _ => by kernel_rfl) rfl (St.cell (i := 0) hS20 rfl rfl)) rfl rfl rfl ?_; intro a29 hE30; clear hE28
      refine q_step (v := .int .i64 (mp2.length : Int)) hE30 (y_len (e := 2) (by kernel_rfl) rfl) rfl rfl rfl ?_; intro a31 hE32; clear hE30
      refine q_step (v := .bool (decide ((mp2.length : Int) = 6))) hE32 (y_eql rfl rfl) rfl rfl rfl ?_; intro a33 hE34; clear hE32
      refine q_step (v := .bool (decide ((mp2.length : Int) = 6))) hE34 (y_pick (b := true) rfl rfl) rfl rfl rfl ?_; intro a35 hE36; clear hE34
      refine q_step (v := .bool (decide ((mp2.length : Int) = 6))) hE36 (y_move rfl) rfl rfl rfl ?_; intro a37 hE38; clear hE36
      rcases Bool.eq_false_or_eq_true (decide ((mp2.length : Int) = 6)) with hb39 | hb39
      ·
        have hE40 := hE38; rw [hb39] at hE40; clear hE38
        have hp41 := of_decide_eq_true hb39
        refine q_step (v := .pointer (some ⟨b3, 2, none⟩)) hE40 (y_field rfl (fun _ => by kernel_rfl)) rfl rfl rfl ?_; intro a42 hE43; clear hE40
        refine q_step (v := .slice mp2A mp2.length mp2C) hE43 (y_load (fun _ => by kernel_rfl) rfl (St.cell (i := 0) hS20 rfl rfl)) rfl rfl rfl ?_; intro a44 hE45; clear hE43
        refine q_step (v := .func (.func 142) #[] #[.pointer (some ⟨b3, 0, none⟩)]) hE45 (y_makeFunc (vs := [.pointer (some ⟨b3, 0, none⟩)]) rfl) rfl rfl rfl ?_; intro a46 hE47; clear hE45
        refine l_step hE47 rfl (l_call (f := 141) (argv := [.slice mp2A mp2.length mp2C, .func (.func 142) #[] #[.pointer (some ⟨b3, 0, none⟩)]]) hE47 (fun _ => cf_z_ContainsFunc _ _) rfl rfl (c_z_ContainsFunc mp2A mp2.length mp2C mp2 142 [.pointer (some ⟨b3, 0, none⟩)] (fun x0 => F_isModel_k1 x0 mp0 mp1 mp2) (fun _ => True) w17 (St.rdR (i := 1) hS20 rfl) (fun _ _ => cf_isModel_k1 _ _) (fun x0 w' hx he => Ret.ext (c_isModel_k1 x0 b3 mp0 mp1A mp1.length mp1C mp1 mp2A mp2.length mp2C mp2 w' (RdS.ext (St.rdR (i := 2) hS20 rfl) he) (RdS.ext (St.rdR (i := 1) hS20 rfl) he) (St.row (i := 0) hS20 rfl w' he))) (fun _ _ _ => trivial)) ?_)
        rintro _ w49 ⟨rfl, he53⟩ a50 hE51; clear hE47
        have hS52 := St.go hS20 he53; clear hS20
        refine q_step (v := .bool (!(F_z_ContainsFunc mp2 (fun x0 => F_isModel_k1 x0 mp0 mp1 mp2)))) hE51 (y_not rfl) rfl rfl rfl ?_; intro a54 hE55; clear hE51
        refine q_step (v := .bool (!(F_z_ContainsFunc mp2 (fun x0 => F_isModel_k1 x0 mp0 mp1 mp2)))) hE55 (y_pick (b := true) rfl rfl) rfl rfl rfl ?_; intro a56 hE57; clear hE55
        refine q_step (v := .bool (!(F_z_ContainsFunc mp2 (fun x0 => F_isModel_k1 x0 mp0 mp1 mp2)))) hE57 (y_assign rfl) rfl rfl rfl ?_; intro a58 hE59; clear hE57
        refine c_nil ?_
        have hE60 := hE59.sub (L' := [(2, .bool (!(F_z_ContainsFunc mp2 (fun x0 => F_isModel_k1 x0 mp0 mp1 mp2))))]) ⟨rfl, trivial⟩; clear hE59
        refine p_tn ?_
        have hE61 := hE60.sub (L' := [(2, .bool (!(F_z_ContainsFunc mp2 (fun x0 => F_isModel_k1 x0 mp0 mp1 mp2))))]) ⟨rfl, trivial⟩
        have hS62 := (St.pick (Γ' := [.rd 1 mp1A mp1.length mp1C mp1, .rd 1 mp2A mp2.length mp2C mp2, .blk b3 #[.int .i64 mp0, .slice mp1A mp1.length mp1C, .slice mp2A mp2.length mp2C] 39]) hS52 [2, 1, 0] (by decide) rfl)
        exact ⟨(by rw [hb39, hb24]; exact hE61), hS62⟩
      ·
        have hE63 := hE38; rw [hb39] at hE63; clear hE38
        have hp64 := of_decide_eq_false hb39
        refine q_skip hE63 rfl rfl rfl ?_; intro a65 hE66; clear hE63
        refine q_skip hE66 rfl rfl rfl ?_; intro a67 hE68; clear hE66
        refine q_skip hE68 rfl rfl rfl ?_; intro a69 hE70; clear hE68
        refine q_skip hE70 rfl rfl rfl ?_; intro a71 hE72; clear hE70
        refine q_skip hE72 rfl rfl rfl ?_; intro a73 hE74; clear hE72
        refine q_step (v := .bool false) hE74 (y_pick (b := false) rfl rfl) rfl rfl rfl ?_; intro a75 hE76; clear hE74
        refine q_step (v := .bool false) hE76 (y_assign rfl) rfl rfl rfl ?_; intro a77 hE78; clear hE76
        refine c_nil ?_
        have hE79 := hE78.sub (L' := [(2, .bool false)]) ⟨rfl, trivial⟩; clear hE78
        refine p_tn ?_
        have hE80 := hE79.sub (L' := [(2, .bool false)]) ⟨rfl, trivial⟩
        have hS81 := (St.pick (Γ' := [.rd 1 mp1A mp1.length mp1C mp1, .rd 1 mp2A mp2.length mp2C mp2, .blk b3 #[.int .i64 mp0, .slice mp1A mp1.length mp1C, .slice mp2A mp2.length mp2C] 39]) hS20 [2, 1, 0] (by decide) rfl)
        exact ⟨(by rw [hb39, hb24]; exact hE80), hS81⟩
    ·
      have hE82 := hE23; rw [hb24] at hE82; clear hE23
      refine q_skip hE82 rfl rfl rfl ?_; intro a83 hE84; clear hE82
      refine q_skip hE84 rfl rfl rfl ?_; intro a85 hE86; clear hE84
      refine q_skip hE86 rfl rfl rfl ?_; intro a87 hE88; clear hE86
      refine q_skip hE88 rfl rfl rfl ?_; intro a89 hE90; clear hE88
      refine q_step (v := .bool false) hE90 (y_pick (b := false) rfl rfl) rfl rfl rfl ?_; intro a91 hE92; clear hE90
      refine q_step (v := .bool false) hE92 (y_move rfl) rfl rfl rfl ?_; intro a93 hE94; clear hE92
      refine q_skip hE94 rfl rfl rfl ?_; intro a95 hE96; clear hE94
      refine q_skip hE96 rfl rfl rfl ?_; intro a97 hE98; clear hE96
      refine q_skip hE98 rfl rfl rfl ?_; intro a99 hE100; clear hE98
      refine q_skip hE100 rfl rfl rfl ?_; intro a101 hE102; clear hE100
      refine q_skip hE102 rfl rfl rfl ?_; intro a103 hE104; clear hE102
      refine q_step (v := .bool false) hE104 (y_pick (b := false) rfl rfl) rfl rfl rfl ?_; intro a105 hE106; clear hE104
      refine q_step (v := .bool false) hE106 (y_assign rfl) rfl rfl rfl ?_; intro a107 hE108; clear hE106
      refine c_nil ?_
      have hE109 := hE108.sub (L' := [(2, .bool false)]) ⟨rfl, trivial⟩; clear hE108
      refine p_tn ?_
      have hE110 := hE109.sub (L' := [(2, .bool false)]) ⟨rfl, trivial⟩
      have hS111 := (St.pick (Γ' := [.rd 1 mp1A mp1.length mp1C mp1, .rd 1 mp2A mp2.length mp2C mp2, .blk b3 #[.int .i64 mp0, .slice mp1A mp1.length mp1C, .slice mp2A mp2.length mp2C] 39]) hS20 [2, 1, 0] (by decide) rfl)
      exact ⟨(by rw [hb24]; exact hE110), hS111⟩
  ·
    rintro a112 w113 ⟨hE114, hS115⟩; clear hE11 hS7
    refine wp_ret ?_
    have hF : F_isModel mp0 mp1 mp2 = ((F_isFrame mp0 mp1) && ((decide ((mp2.length : Int) = 6)) && (!(F_z_ContainsFunc mp2 (fun x0 => F_isModel_k1 x0 mp0 mp1 mp2))))) := by unfold F_isModel; rfl
    refine c_ret1 hE114 rfl rfl ?_
    exact ⟨(by rw [hF]; first | done | rfl), hS115.ext⟩

theorem isModel_eq (mp0 : Int) (mp1 mp2 : List Int) : F_isModel mp0 mp1 mp2 = F_l06Is mp0 mp1 mp2 := by
  unfold F_isModel F_l06Is
  rw [isFrame_eq]
  cases h : F_l05Is mp0 mp1
  · rfl
  · have hb := l05Is_t h
    congr 2
    rw [contains_eq, masks_eq, List.all_eq_not_any_not]
    congr 2; funext x
    unfold F_isModel_k1
    rw [isMask_eq (by omega) (by omega)]
theorem isModel_t {mp0 : Int} {mp1 mp2 : List Int} (h : F_isModel mp0 mp1 mp2 = true) : F_l05Is mp0 mp1 = true ∧ ((0 ≤ mp0 ∧ mp0 ≤ 8) ∧ (mp1.length : Int) = mp0) ∧ (mp2.length : Int) = 6 ∧ ∀ m : Int, 0 ≤ m → m < (mp2.length : Int) → 0 ≤ gI mp2 m ∧ gI mp2 m ≤ fullI mp0 := by
  rw [isModel_eq] at h; exact l06Is_t h
theorem isMap_t {f0 : Int} {f1 : List Int} {g0 : Int} {g1 images : List Int} (h : F_isMap f0 f1 g0 g1 images = true) : (images.length : Int) = f0 ∧ ∀ m : Int, 0 ≤ m → m < (images.length : Int) → 0 ≤ gI images m ∧ gI images m < g0 := by
  rw [isMap_eq] at h; exact l08Map_t h

def F_l07Atoms_L1b (mp2 : List Int) (np2 : List Int) (xp : Int) (yp : Int) (rec : Int → Except (Bool) (Int)) (v9 : Int) : Except (Bool) (Int) :=
  bif (decide (v9 < (mp2.length : Int))) then (bif ((F_l01Bit (gI mp2 v9) xp) != (F_l01Bit (gI np2 v9) yp)) then (.error false) else (rec (v9 + 1))) else (.ok v9)
def F_l07Atoms_L1 (mp2 : List Int) (np2 : List Int) (xp : Int) (yp : Int) : Nat → Int → Except (Bool) (Int)
  | 0, v9 => .ok v9
  | r + 1, v9 => F_l07Atoms_L1b mp2 np2 xp yp (F_l07Atoms_L1 mp2 np2 xp yp r) v9
def F_l07Atoms (mp0 : Int) (mp1 : List Int) (mp2 : List Int) (np0 : Int) (np1 : List Int) (np2 : List Int) (xp : Int) (yp : Int) : Bool :=
  bif (isOk (F_l07Atoms_L1 mp2 np2 xp yp (Int.toNat ((mp2.length : Int) - 0) + 1) 0)) then true else (errD (F_l07Atoms_L1 mp2 np2 xp yp (Int.toNat ((mp2.length : Int) - 0) + 1) 0))
theorem cf_l07Atoms (args : Array Value) (w : World) : (callFunc 68 args).run Try.prog w = .ok (.enter 68 args) w := by kernel_rfl
set_option maxRecDepth 100000 in
theorem c_l07Atoms (mp0 : Int) (mp1A : Option Addr) (mp1N mp1C : Nat) (mp1 : List Int) (mp2A : Option Addr) (mp2N mp2C : Nat) (mp2 : List Int) (np0 : Int) (np1A : Option Addr) (np1N np1C : Nat) (np1 : List Int) (np2A : Option Addr) (np2N np2C : Nat) (np2 : List Int) (xp : Int) (yp : Int) (w : World) (mp1R : RdS w 1 mp1A mp1N mp1C mp1) (mp2R : RdS w 1 mp2A mp2N mp2C mp2) (np1R : RdS w 1 np1A np1N np1C np1) (np2R : RdS w 1 np2A np2N np2C np2) (h6 : (mp2.length : Int) = 6) (h6n : (np2.length : Int) = 6) (hx : 0 ≤ xp ∧ xp ≤ 8) (hy : 0 ≤ yp ∧ yp ≤ 8) :
    Calls Try.prog 68 #[.agg #[.int .i64 mp0, .slice mp1A mp1N mp1C, .slice mp2A mp2N mp2C], .agg #[.int .i64 np0, .slice np1A np1N np1C, .slice np2A np2N np2C], .int .i64 xp, .int .i64 yp] w (Ret fun v w' => v = .bool (F_l07Atoms mp0 mp1 mp2 np0 np1 np2 xp yp) ∧ Ext w w') := by
  obtain rfl : mp1N = mp1.length := mp1R.len1.symm
  have mp1Le := mp1R.le
  obtain rfl : mp2N = mp2.length := mp2R.len1.symm
  have mp2Le := mp2R.le
  obtain rfl : np1N = np1.length := np1R.len1.symm
  have np1Le := np1R.le
  obtain rfl : np2N = np2.length := np2R.len1.symm
  have np2Le := np2R.le
  have hS := St.nil w
  have hS1 := St.rd0 hS rfl mp1R; clear hS
  have hS2 := St.rd0 hS1 rfl mp2R; clear hS1
  have hS3 := St.rd0 hS2 rfl np1R; clear hS2
  have hS4 := St.rd0 hS3 rfl np2R; clear hS3
  refine enter (args := [.agg #[.int .i64 mp0, .slice mp1A mp1.length mp1C, .slice mp2A mp2.length mp2C], .agg #[.int .i64 np0, .slice np1A np1.length np1C, .slice np2A np2.length np2C], .int .i64 xp, .int .i64 yp]) Try.func68 rfl rfl ?_
  rw [Try.ntmps68]; intro a hE
  have hE := hE.sub (L' := [(0, .agg #[.int .i64 mp0, .slice mp1A mp1.length mp1C, .slice mp2A mp2.length mp2C]), (1, .agg #[.int .i64 np0, .slice np1A np1.length np1C, .slice np2A np2.length np2C]), (2, .int .i64 xp), (3, .int .i64 yp)]) ⟨rfl, rfl, rfl, rfl, trivial⟩
  refine c_seq ?_
  refine c_reg ?_
  refine l_step hE rfl (l_box (v := .agg #[.int .i64 mp0, .slice mp1A mp1.length mp1C, .slice mp2A mp2.length mp2C]) (cs := #[.int .i64 mp0, .slice mp1A mp1.length mp1C, .slice mp2A mp2.length mp2C]) hS4 hE rfl rfl rfl ?_)
  intro b5 w6 hS9 he10 a7 hE8; clear hS4 hE
  refine l_step hE8 rfl (l_box (v := .agg #[.int .i64 np0, .slice np1A np1.length np1C, .slice np2A np2.length np2C]) (cs := #[.int .i64 np0, .slice np1A np1.length np1C, .slice np2A np2.length np2C]) hS9 hE8 rfl rfl rfl ?_)
  intro b11 w12 hS15 he16 a13 hE14; clear hS9 hE8
  refine q_step (v := .bool false) hE14 (y_assign rfl) rfl rfl rfl ?_; intro a17 hE18; clear hE14
  refine c_nil ?_
  have hE19 := hE18.sub (L' := [(2, .int .i64 xp), (3, .int .i64 yp), (4, .pointer (some ⟨b5, 0, none⟩)), (5, .pointer (some ⟨b11, 0, none⟩))]) ⟨rfl, rfl, rfl, rfl, trivial⟩; clear hE18
  refine p_tn ?_
  refine c_seq ?_
  refine c_seq ?_
  refine c_reg ?_
  refine q_step (v := .int .i64 0) hE19 (y_assign rfl) rfl rfl rfl ?_; intro a20 hE21; clear hE19
  refine c_nil ?_
  have hE22 := hE21.sub (L' := [(2, .int .i64 xp), (3, .int .i64 yp), (4, .pointer (some ⟨b5, 0, none⟩)), (5, .pointer (some ⟨b11, 0, none⟩)), (9, .int .i64 0)]) ⟨rfl, rfl, rfl, rfl, rfl, trivial⟩; clear hE21
  refine p_tn ?_
  refine c_cut1 (fun a' w' => isOk (F_l07Atoms_L1 mp2 np2 xp yp (Int.toNat ((mp2.length : Int) - 0) + 1) 0) = true ∧ (0 ≤ (okD (F_l07Atoms_L1 mp2 np2 xp yp (Int.toNat ((mp2.length : Int) - 0) + 1) 0))) ∧ ((okD (F_l07Atoms_L1 mp2 np2 xp yp (Int.toNat ((mp2.length : Int) - 0) + 1) 0)) ≤ (mp2.length : Int)) ∧ E a' 32 [(2, .int .i64 xp), (3, .int .i64 yp), (4, .pointer (some ⟨b5, 0, none⟩)), (5, .pointer (some ⟨b11, 0, none⟩)), (9, .int .i64 (okD (F_l07Atoms_L1 mp2 np2 xp yp (Int.toNat ((mp2.length : Int) - 0) + 1) 0)))] ∧ St w w' [.blk b11 #[.int .i64 np0, .slice np1A np1.length np1C, .slice np2A np2.length np2C] 39, .blk b5 #[.int .i64 mp0, .slice mp1A mp1.length mp1C, .slice mp2A mp2.length mp2C] 39, .rd 1 np2A np2.length np2C np2, .rd 1 np1A np1.length np1C np1, .rd 1 mp2A mp2.length mp2C mp2, .rd 1 mp1A mp1.length mp1C mp1]) ?_ ?_
  ·
    refine wp_block ?_
    refine c_loop (fun r a' w' => ∃ v9 : Int, F_l07Atoms_L1 mp2 np2 xp yp r v9 = F_l07Atoms_L1 mp2 np2 xp yp (Int.toNat ((mp2.length : Int) - 0) + 1) 0 ∧ Int.toNat ((mp2.length : Int) - v9) < r ∧ (0 ≤ v9) ∧ (v9 ≤ (mp2.length : Int)) ∧ E a' 32 [(2, .int .i64 xp), (3, .int .i64 yp), (4, .pointer (some ⟨b5, 0, none⟩)), (5, .pointer (some ⟨b11, 0, none⟩)), (9, .int .i64 v9)] ∧ St w w' [.blk b11 #[.int .i64 np0, .slice np1A np1.length np1C, .slice np2A np2.length np2C] 39, .blk b5 #[.int .i64 mp0, .slice mp1A mp1.length mp1C, .slice mp2A mp2.length mp2C] 39, .rd 1 np2A np2.length np2C np2, .rd 1 np1A np1.length np1C np1, .rd 1 mp2A mp2.length mp2C mp2, .rd 1 mp1A mp1.length mp1C mp1]) (r := (Int.toNat ((mp2.length : Int) - 0) + 1)) ?_ ?_
    · exact ⟨0, rfl, Nat.lt_succ_self _, (by first | omega | (simp only [List.length_append, List.length_cons, List.length_nil, sI_len, cond_true, cond_false]; omega) | (simp only [List.length_append, List.length_cons, List.length_nil, sI_len, cond_eq_ite, apply_ite List.length]; split <;> simp only [List.length_append, List.length_cons, List.length_nil, sI_len] <;> omega) | grind), (by first | omega | (simp only [List.length_append, List.length_cons, List.length_nil, sI_len, cond_true, cond_false]; omega) | (simp only [List.length_append, List.length_cons, List.length_nil, sI_len, cond_eq_ite, apply_ite List.length]; split <;> simp only [List.length_append, List.length_cons, List.length_nil, sI_len] <;> omega) | grind), (hE22.sub (L' := [(2, .int .i64 xp), (3, .int .i64 yp), (4, .pointer (some ⟨b5, 0, none⟩)), (5, .pointer (some ⟨b11, 0, none⟩)), (9, .int .i64 0)]) ⟨rfl, rfl, rfl, rfl, rfl, trivial⟩), (St.pick (Γ' := [.blk b11 #[.int .i64 np0, .slice np1A np1.length np1C, .slice np2A np2.length np2C] 39, .blk b5 #[.int .i64 mp0, .slice mp1A mp1.length mp1C, .slice mp2A mp2.length mp2C] 39, .rd 1 np2A np2.length np2C np2, .rd 1 np1A np1.length np1C np1, .rd 1 mp2A mp2.length mp2C mp2, .rd 1 mp1A mp1.length mp1C mp1]) hS15 [0, 1, 2, 3, 4, 5] (by decide) rfl)⟩
    ·
      clear hE22 hS15
      rintro r32 a24 w25 ⟨v9, hT28, hr29, hi30, hi31, hE26, hS27⟩
      obtain ⟨r32, rfl⟩ : ∃ r', r32 = r' + 1 := ⟨r32 - 1, by omega⟩
      refine c_seq ?_
      refine c_seq ?_
      refine c_reg ?_
      refine q_step (v := .int .i64 v9) hE26 (y_move rfl) rfl rfl rfl ?_; intro a33 hE34; clear hE26
      refine q_step (v := .pointer (some ⟨b5, 2, none⟩)) hE34 (y_field rfl (fun _ => by kernel_rfl)) rfl rfl rfl ?_; intro a35 hE36; clear hE34
      refine q_step (v := .slice mp2A mp2.length mp2C) hE36 (y_load (fun _ => by kernel_rfl) rfl (St.cell (i := 1) hS27 rfl rfl)) rfl rfl rfl ?_; intro a37 hE38; clear hE36
      refine q_step (v := .int .i64 (mp2.length : Int)) hE38 (y_len (e := 2) (by kernel_rfl) rfl) rfl rfl rfl ?_; intro a39 hE40; clear hE38
      refine q_step (v := .bool (decide (v9 < (mp2.length : Int)))) hE40 (y_lss rfl rfl) rfl rfl rfl ?_; intro a41 hE42; clear hE40
      refine c_nil ?_
      have hE43 := hE42.sub (L' := [(2, .int .i64 xp), (3, .int .i64 yp), (4, .pointer (some ⟨b5, 0, none⟩)), (5, .pointer (some ⟨b11, 0, none⟩)), (9, .int .i64 v9), (14, .bool (decide (v9 < (mp2.length : Int))))]) ⟨rfl, rfl, rfl, rfl, rfl, rfl, trivial⟩; clear hE42
      refine p_tn ?_
      refine c_cond hE43 rfl (fun ht44 => ?_) (fun ht44 => ?_)
      ·
        have hp45 := of_decide_eq_true ht44
        have hE46 := hE43; rw [ht44] at hE46; clear hE43
        refine wp_skip ?_
        refine p_tn ?_
        refine c_seq ?_
        refine wp_block ?_
        refine c_seq ?_
        refine d_start (fun w' => w'.cell? ⟨b5, 2, none⟩ = some (.slice mp2A mp2.length mp2C) ∧ w'.cell? (adr mp2A (Int.toNat v9)) = some (.int .i64 (gI mp2 v9)) ∧ w'.cell? ⟨b11, 2, none⟩ = some (.slice np2A np2.length np2C) ∧ w'.cell? (adr np2A (Int.toNat v9)) = some (.int .i64 (gI np2 v9)) ∧ True) [1, 4, 8, 11] 15 (by kernel_rfl) rfl ?_
        intro w47 he48; have hS49 := St.go hS27 he48; clear hS27
        refine d_pure (v := .pointer (some ⟨b5, 2, none⟩)) 0 rfl hE46 (y_field rfl (fun _ => by kernel_rfl)) rfl (by kernel_rfl) (by kernel_rfl) (by kernel_rfl) rfl rfl (fun _ _ _ h => h) ?_; intro a50 hE51; clear hE46
        refine d_take (v := .slice mp2A mp2.length mp2C) 1 rfl hE51 ⟨(St.cell (i := 1) hS49 rfl rfl _ (Ext.refl _)), (RdS.elt (St.rdR (i := 4) hS49 rfl) (by omega) (by omega) _ (Ext.refl _)), (St.cell (i := 0) hS49 rfl rfl _ (Ext.refl _)), (RdS.elt (St.rdR (i := 2) hS49 rfl) (by omega) (by omega) _ (Ext.refl _)), trivial⟩ (y_load (fun _ => by kernel_rfl) rfl (fun _ h => h.1)) rfl rfl (by kernel_rfl) (by kernel_rfl) (by kernel_rfl) rfl rfl (fun _ _ _ h => h) ?_; intro a52 hE53; clear hE51
        refine d_pure (v := .int .i64 v9) 2 rfl hE53 (y_move rfl) rfl (by kernel_rfl) (by kernel_rfl) (by kernel_rfl) rfl rfl (fun _ _ _ h => h) ?_; intro a54 hE55; clear hE53
        refine d_pure (v := .pointer (some (adr mp2A (Int.toNat v9)))) 3 rfl hE55 (y_idx (by kernel_rfl) (fun _ => by kernel_rfl) rfl rfl (RdS.isS (m := v9) (St.rdR (i := 4) hS49 rfl) (by omega) (by omega)) (by omega) (by omega) (Nat.mul_one _).symm) rfl (by kernel_rfl) (by kernel_rfl) (by kernel_rfl) rfl rfl (fun _ _ _ h => h) ?_; intro a56 hE57; clear hE55
        refine d_take (v := .int .i64 (gI mp2 v9)) 4 rfl hE57 ⟨(St.cell (i := 1) hS49 rfl rfl _ (Ext.refl _)), (RdS.elt (St.rdR (i := 4) hS49 rfl) (by omega) (by omega) _ (Ext.refl _)), (St.cell (i := 0) hS49 rfl rfl _ (Ext.refl _)), (RdS.elt (St.rdR (i := 2) hS49 rfl) (by omega) (by omega) _ (Ext.refl _)), trivial⟩ (y_load (fun _ => by kernel_rfl) rfl (fun _ h => h.2.1)) rfl rfl (by kernel_rfl) (by kernel_rfl) (by kernel_rfl) rfl rfl (fun _ _ _ h => h) ?_; intro a58 hE59; clear hE57
        refine d_pure (v := .int .i64 xp) 5 rfl hE59 (y_move rfl) rfl (by kernel_rfl) (by kernel_rfl) (by kernel_rfl) rfl rfl (fun _ _ _ h => h) ?_; intro a60 hE61; clear hE59
        refine d_pure (v := .pointer (some ⟨b11, 2, none⟩)) 7 rfl hE61 (y_field rfl (fun _ => by kernel_rfl)) rfl (by kernel_rfl) (by kernel_rfl) (by kernel_rfl) rfl rfl (fun _ _ _ h => h) ?_; intro a62 hE63; clear hE61
        refine d_take (v := .slice np2A np2.length np2C) 8 rfl hE63 ⟨(St.cell (i := 1) hS49 rfl rfl _ (Ext.refl _)), (RdS.elt (St.rdR (i := 4) hS49 rfl) (by omega) (by omega) _ (Ext.refl _)), (St.cell (i := 0) hS49 rfl rfl _ (Ext.refl _)), (RdS.elt (St.rdR (i := 2) hS49 rfl) (by omega) (by omega) _ (Ext.refl _)), trivial⟩ (y_load (fun _ => by kernel_rfl) rfl (fun _ h => h.2.2.1)) rfl rfl (by kernel_rfl) (by kernel_rfl) (by kernel_rfl) rfl rfl (fun _ _ _ h => h) ?_; intro a64 hE65; clear hE63
        refine d_pure (v := .int .i64 v9) 9 rfl hE65 (y_move rfl) rfl (by kernel_rfl) (by kernel_rfl) (by kernel_rfl) rfl rfl (fun _ _ _ h => h) ?_; intro a66 hE67; clear hE65
        refine d_pure (v := .pointer (some (adr np2A (Int.toNat v9)))) 10 rfl hE67 (y_idx (by kernel_rfl) (fun _ => by kernel_rfl) rfl rfl (RdS.isS (m := v9) (St.rdR (i := 2) hS49 rfl) (by omega) (by omega)) (by omega) (by omega) (Nat.mul_one _).symm) rfl (by kernel_rfl) (by kernel_rfl) (by kernel_rfl) rfl rfl (fun _ _ _ h => h) ?_; intro a68 hE69; clear hE67
        refine d_take (v := .int .i64 (gI np2 v9)) 11 rfl hE69 ⟨(St.cell (i := 1) hS49 rfl rfl _ (Ext.refl _)), (RdS.elt (St.rdR (i := 4) hS49 rfl) (by omega) (by omega) _ (Ext.refl _)), (St.cell (i := 0) hS49 rfl rfl _ (Ext.refl _)), (RdS.elt (St.rdR (i := 2) hS49 rfl) (by omega) (by omega) _ (Ext.refl _)), trivial⟩ (y_load (fun _ => by kernel_rfl) rfl (fun _ h => h.2.2.2.1)) rfl rfl (by kernel_rfl) (by kernel_rfl) (by kernel_rfl) rfl rfl (fun _ _ _ h => h) ?_; intro a70 hE71; clear hE69
        refine d_pure (v := .int .i64 yp) 12 rfl hE71 (y_move rfl) rfl (by kernel_rfl) (by kernel_rfl) (by kernel_rfl) rfl rfl (fun _ _ _ h => h) ?_; intro a72 hE73; clear hE71
        refine d_only 6 (by kernel_rfl) rfl hE73 rfl (l_call (f := 102) (argv := [.int .i64 (gI mp2 v9), .int .i64 xp]) hE73 (fun _ => cf_l01Bit _ _) rfl rfl (c_l01Bit (gI mp2 v9) xp w47 (by omega) (by omega)) ?_)
        rintro _ _ ⟨rfl, rfl⟩ a76 hE77; clear hE73
        refine ⟨fun _ _ => ⟨(St.cell (i := 1) hS49 rfl rfl _ (Ext.refl _)), (RdS.elt (St.rdR (i := 4) hS49 rfl) (by omega) (by omega) _ (Ext.refl _)), (St.cell (i := 0) hS49 rfl rfl _ (Ext.refl _)), (RdS.elt (St.rdR (i := 2) hS49 rfl) (by omega) (by omega) _ (Ext.refl _)), trivial⟩, ?_⟩
        refine d_only 13 (by kernel_rfl) rfl hE77 rfl (l_call (f := 102) (argv := [.int .i64 (gI np2 v9), .int .i64 yp]) hE77 (fun _ => cf_l01Bit _ _) rfl rfl (c_l01Bit (gI np2 v9) yp w47 (by omega) (by omega)) ?_)
        rintro _ _ ⟨rfl, rfl⟩ a82 hE83; clear hE77
        refine ⟨fun _ _ => ⟨(St.cell (i := 1) hS49 rfl rfl _ (Ext.refl _)), (RdS.elt (St.rdR (i := 4) hS49 rfl) (by omega) (by omega) _ (Ext.refl _)), (St.cell (i := 0) hS49 rfl rfl _ (Ext.refl _)), (RdS.elt (St.rdR (i := 2) hS49 rfl) (by omega) (by omega) _ (Ext.refl _)), trivial⟩, ?_⟩
        refine d_pure (v := .bool ((F_l01Bit (gI mp2 v9) xp) != (F_l01Bit (gI np2 v9) yp))) 14 rfl hE83 (y_neqb (by kernel_rfl) rfl rfl) rfl (by kernel_rfl) (by kernel_rfl) (by kernel_rfl) rfl rfl (fun _ _ _ h => h) ?_; intro a86 hE87; clear hE83
        refine d_done (by kernel_rfl) ?_
        have hE88 := hE87.sub (L' := [(2, .int .i64 xp), (3, .int .i64 yp), (4, .pointer (some ⟨b5, 0, none⟩)), (5, .pointer (some ⟨b11, 0, none⟩)), (9, .int .i64 v9), (31, .bool ((F_l01Bit (gI mp2 v9) xp) != (F_l01Bit (gI np2 v9) yp)))]) ⟨rfl, rfl, rfl, rfl, rfl, rfl, trivial⟩; clear hE87
        refine p_tn ?_
        refine c_cond hE88 rfl (fun ht89 => ?_) (fun ht89 => ?_)
        ·
          have hE90 := hE88; rw [ht89] at hE90; clear hE88
          refine c_seq ?_
          refine c_reg ?_
          refine q_step (v := .bool false) hE90 (y_assign rfl) rfl rfl rfl ?_; intro a91 hE92; clear hE90
          refine c_nil ?_
          have hE93 := hE92.sub (L' := [(8, .bool false)]) ⟨rfl, trivial⟩; clear hE92
          refine p_tn ?_
          refine wp_ret ?_
          refine p_br ?_
          refine p_tr ?_
          have hX94 : F_l07Atoms_L1 mp2 np2 xp yp (Int.toNat ((mp2.length : Int) - 0) + 1) 0 = .error false := hT28.symm.trans (show F_l07Atoms_L1b mp2 np2 xp yp (F_l07Atoms_L1 mp2 np2 xp yp r32) v9 = .error false by unfold F_l07Atoms_L1b; rw [ht89, ht44]; first | done | rfl)
          refine p_tr (p_br (p_tr ?_))
          refine p_tr ?_
          have hF : F_l07Atoms mp0 mp1 mp2 np0 np1 np2 xp yp = false := by unfold F_l07Atoms; rw [hX94]; first | done | rfl
          refine c_ret1 hE93 rfl rfl ?_
          exact ⟨(by rw [hF]; first | done | rfl), hS49.ext⟩
        ·
          have hE95 := hE88; rw [ht89] at hE95; clear hE88
          refine wp_skip ?_
          refine p_bn ?_
          refine p_tn ?_
          refine c_reg ?_
          refine q_step (v := .int .i64 v9) hE95 (y_move rfl) rfl rfl rfl ?_; intro a96 hE97; clear hE95
          refine q_step (v := .int .i64 (v9 + 1)) hE97 (y_add rfl rfl ⟨(by omega), (by omega)⟩) rfl rfl rfl ?_; intro a98 hE99; clear hE97
          refine q_step (v := .int .i64 (v9 + 1)) hE99 (y_assign rfl) rfl rfl rfl ?_; intro a100 hE101; clear hE99
          refine c_nil ?_
          have hE102 := hE101.sub (L' := [(2, .int .i64 xp), (3, .int .i64 yp), (4, .pointer (some ⟨b5, 0, none⟩)), (5, .pointer (some ⟨b11, 0, none⟩)), (9, .int .i64 (v9 + 1))]) ⟨rfl, rfl, rfl, rfl, rfl, trivial⟩; clear hE101
          refine p_tn ⟨r32, Nat.lt_succ_self _, v9 + 1, (hT28.symm.trans (show F_l07Atoms_L1b mp2 np2 xp yp (F_l07Atoms_L1 mp2 np2 xp yp r32) v9 = F_l07Atoms_L1 mp2 np2 xp yp r32 (v9 + 1) by unfold F_l07Atoms_L1b; rw [ht89, ht44]; first | done | rfl)).symm, (by omega), (by first | omega | (simp only [List.length_append, List.length_cons, List.length_nil, sI_len, cond_true, cond_false]; omega) | (simp only [List.length_append, List.length_cons, List.length_nil, sI_len, cond_eq_ite, apply_ite List.length]; split <;> simp only [List.length_append, List.length_cons, List.length_nil, sI_len] <;> omega) | grind), (by first | omega | (simp only [List.length_append, List.length_cons, List.length_nil, sI_len, cond_true, cond_false]; omega) | (simp only [List.length_append, List.length_cons, List.length_nil, sI_len, cond_eq_ite, apply_ite List.length]; split <;> simp only [List.length_append, List.length_cons, List.length_nil, sI_len] <;> omega) | grind), (hE102.sub (L' := [(2, .int .i64 xp), (3, .int .i64 yp), (4, .pointer (some ⟨b5, 0, none⟩)), (5, .pointer (some ⟨b11, 0, none⟩)), (9, .int .i64 (v9 + 1))]) ⟨rfl, rfl, rfl, rfl, rfl, trivial⟩), (St.pick (Γ' := [.blk b11 #[.int .i64 np0, .slice np1A np1.length np1C, .slice np2A np2.length np2C] 39, .blk b5 #[.int .i64 mp0, .slice mp1A mp1.length mp1C, .slice mp2A mp2.length mp2C] 39, .rd 1 np2A np2.length np2C np2, .rd 1 np1A np1.length np1C np1, .rd 1 mp2A mp2.length mp2C mp2, .rd 1 mp1A mp1.length mp1C mp1]) hS49 [0, 1, 2, 3, 4, 5] (by decide) rfl)⟩
      ·
        have hp103 := of_decide_eq_false ht44
        have hE104 := hE43; rw [ht44] at hE104; clear hE43
        refine wp_exit ?_
        refine p_te ?_
        have hX105 : F_l07Atoms_L1 mp2 np2 xp yp (Int.toNat ((mp2.length : Int) - 0) + 1) 0 = .ok v9 := hT28.symm.trans (show F_l07Atoms_L1b mp2 np2 xp yp (F_l07Atoms_L1 mp2 np2 xp yp r32) v9 = .ok v9 by unfold F_l07Atoms_L1b; rw [ht44]; first | done | rfl)
        refine p_te (p_be (p_tn ?_))
        exact ⟨(by rw [hX105]; rfl), (by rw [hX105]; exact (show 0 ≤ v9 from (by first | omega | (simp only [List.length_append, List.length_cons, List.length_nil, sI_len, cond_true, cond_false]; omega) | (simp only [List.length_append, List.length_cons, List.length_nil, sI_len, cond_eq_ite, apply_ite List.length]; split <;> simp only [List.length_append, List.length_cons, List.length_nil, sI_len] <;> omega) | grind))), (by rw [hX105]; exact (show v9 ≤ (mp2.length : Int) from (by first | omega | (simp only [List.length_append, List.length_cons, List.length_nil, sI_len, cond_true, cond_false]; omega) | (simp only [List.length_append, List.length_cons, List.length_nil, sI_len, cond_eq_ite, apply_ite List.length]; split <;> simp only [List.length_append, List.length_cons, List.length_nil, sI_len] <;> omega) | grind))), (by rw [hX105]; exact (hE104.sub (L' := [(2, .int .i64 xp), (3, .int .i64 yp), (4, .pointer (some ⟨b5, 0, none⟩)), (5, .pointer (some ⟨b11, 0, none⟩)), (9, .int .i64 v9)]) ⟨rfl, rfl, rfl, rfl, rfl, trivial⟩)), (St.pick (Γ' := [.blk b11 #[.int .i64 np0, .slice np1A np1.length np1C, .slice np2A np2.length np2C] 39, .blk b5 #[.int .i64 mp0, .slice mp1A mp1.length mp1C, .slice mp2A mp2.length mp2C] 39, .rd 1 np2A np2.length np2C np2, .rd 1 np1A np1.length np1C np1, .rd 1 mp2A mp2.length mp2C mp2, .rd 1 mp1A mp1.length mp1C mp1]) hS27 [0, 1, 2, 3, 4, 5] (by decide) rfl)⟩
  ·
    rintro a106 w107 ⟨hO110, hi111, hi112, hE108, hS109⟩; clear hE22 hS15
    refine p_tn ?_
    refine c_seq ?_
    refine c_reg ?_
    refine q_step (v := .bool true) hE108 (y_assign rfl) rfl rfl rfl ?_; intro a113 hE114; clear hE108
    refine c_nil ?_
    have hE115 := hE114.sub (L' := [(8, .bool true)]) ⟨rfl, trivial⟩; clear hE114
    refine p_tn ?_
    refine wp_ret ?_
    have hF : F_l07Atoms mp0 mp1 mp2 np0 np1 np2 xp yp = true := by unfold F_l07Atoms; rw [hO110]; first | done | rfl
    refine c_ret1 hE115 rfl rfl ?_
    exact ⟨(by rw [hF]; first | done | rfl), hS109.ext⟩

def F_s_IsModelMorphism_L1b (mp0 : Int) (mp1 : List Int) (mp2 : List Int) (np0 : Int) (np1 : List Int) (np2 : List Int) (images : List Int) (rec : Int → Except ((Bool) × (Int)) (Int)) (x8 : Int) : Except ((Bool) × (Int)) (Int) :=
  bif (decide (x8 < (images.length : Int))) then (bif (!(F_l07Atoms mp0 mp1 mp2 np0 np1 np2 x8 (gI images x8))) then (.error (false, 0)) else (rec (x8 + 1))) else (.ok x8)
def F_s_IsModelMorphism_L1 (mp0 : Int) (mp1 : List Int) (mp2 : List Int) (np0 : Int) (np1 : List Int) (np2 : List Int) (images : List Int) : Nat → Int → Except ((Bool) × (Int)) (Int)
  | 0, x8 => .ok x8
  | r + 1, x8 => F_s_IsModelMorphism_L1b mp0 mp1 mp2 np0 np1 np2 images (F_s_IsModelMorphism_L1 mp0 mp1 mp2 np0 np1 np2 images r) x8
def F_s_IsModelMorphism (mp0 : Int) (mp1 : List Int) (mp2 : List Int) (np0 : Int) (np1 : List Int) (np2 : List Int) (images : List Int) : (Bool) × (Int) :=
  bif ((!(F_l06Is mp0 mp1 mp2)) || ((!(F_l06Is np0 np1 np2)) || (!(F_l08Map mp0 mp1 np0 np1 images)))) then (false, 1) else (bif (isOk (F_s_IsModelMorphism_L1 mp0 mp1 mp2 np0 np1 np2 images (Int.toNat ((images.length : Int) - 0) + 1) 0)) then (F_l08Is mp0 mp1 np0 np1 images, 0) else (errD (F_s_IsModelMorphism_L1 mp0 mp1 mp2 np0 np1 np2 images (Int.toNat ((images.length : Int) - 0) + 1) 0)))
theorem cf_s_IsModelMorphism (args : Array Value) (w : World) : (callFunc 23 args).run Try.prog w = .ok (.enter 23 args) w := by kernel_rfl
set_option maxRecDepth 100000 in
theorem c_s_IsModelMorphism (mp0 : Int) (mp1A : Option Addr) (mp1N mp1C : Nat) (mp1 : List Int) (mp2A : Option Addr) (mp2N mp2C : Nat) (mp2 : List Int) (np0 : Int) (np1A : Option Addr) (np1N np1C : Nat) (np1 : List Int) (np2A : Option Addr) (np2N np2C : Nat) (np2 : List Int) (imagesA : Option Addr) (imagesN imagesC : Nat) (images : List Int) (w : World) (mp1R : RdS w 1 mp1A mp1N mp1C mp1) (mp2R : RdS w 1 mp2A mp2N mp2C mp2) (np1R : RdS w 1 np1A np1N np1C np1) (np2R : RdS w 1 np2A np2N np2C np2) (imagesR : RdS w 1 imagesA imagesN imagesC images) :
    Calls Try.prog 23 #[.agg #[.int .i64 mp0, .slice mp1A mp1N mp1C, .slice mp2A mp2N mp2C], .agg #[.int .i64 np0, .slice np1A np1N np1C, .slice np2A np2N np2C], .slice imagesA imagesN imagesC] w (Ret fun v w' => v = .tuple #[.bool ((F_s_IsModelMorphism mp0 mp1 mp2 np0 np1 np2 images).1), .int .i64 ((F_s_IsModelMorphism mp0 mp1 mp2 np0 np1 np2 images).2)] ∧ Ext w w') := by
  obtain rfl : mp1N = mp1.length := mp1R.len1.symm
  have mp1Le := mp1R.le
  obtain rfl : mp2N = mp2.length := mp2R.len1.symm
  have mp2Le := mp2R.le
  obtain rfl : np1N = np1.length := np1R.len1.symm
  have np1Le := np1R.le
  obtain rfl : np2N = np2.length := np2R.len1.symm
  have np2Le := np2R.le
  obtain rfl : imagesN = images.length := imagesR.len1.symm
  have imagesLe := imagesR.le
  have hS := St.nil w
  have hS1 := St.rd0 hS rfl mp1R; clear hS
  have hS2 := St.rd0 hS1 rfl mp2R; clear hS1
  have hS3 := St.rd0 hS2 rfl np1R; clear hS2
  have hS4 := St.rd0 hS3 rfl np2R; clear hS3
  have hS5 := St.rd0 hS4 rfl imagesR; clear hS4
  refine enter (args := [.agg #[.int .i64 mp0, .slice mp1A mp1.length mp1C, .slice mp2A mp2.length mp2C], .agg #[.int .i64 np0, .slice np1A np1.length np1C, .slice np2A np2.length np2C], .slice imagesA images.length imagesC]) Try.func23 rfl rfl ?_
  rw [Try.ntmps23]; intro a hE
  have hE := hE.sub (L' := [(0, .agg #[.int .i64 mp0, .slice mp1A mp1.length mp1C, .slice mp2A mp2.length mp2C]), (1, .agg #[.int .i64 np0, .slice np1A np1.length np1C, .slice np2A np2.length np2C]), (2, .slice imagesA images.length imagesC)]) ⟨rfl, rfl, rfl, trivial⟩
  refine c_seq ?_
  refine c_reg ?_
  refine l_step hE rfl (l_box (v := .agg #[.int .i64 mp0, .slice mp1A mp1.length mp1C, .slice mp2A mp2.length mp2C]) (cs := #[.int .i64 mp0, .slice mp1A mp1.length mp1C, .slice mp2A mp2.length mp2C]) hS5 hE rfl rfl rfl ?_)
  intro b6 w7 hS10 he11 a8 hE9; clear hS5 hE
  refine l_step hE9 rfl (l_box (v := .agg #[.int .i64 np0, .slice np1A np1.length np1C, .slice np2A np2.length np2C]) (cs := #[.int .i64 np0, .slice np1A np1.length np1C, .slice np2A np2.length np2C]) hS10 hE9 rfl rfl rfl ?_)
  intro b12 w13 hS16 he17 a14 hE15; clear hS10 hE9
  refine q_step (v := .bool false) hE15 (y_assign rfl) rfl rfl rfl ?_; intro a18 hE19; clear hE15
  refine q_step (v := .int .i64 0) hE19 (y_assign rfl) rfl rfl rfl ?_; intro a20 hE21; clear hE19
  refine c_nil ?_
  have hE22 := hE21.sub (L' := [(2, .slice imagesA images.length imagesC), (3, .pointer (some ⟨b6, 0, none⟩)), (4, .pointer (some ⟨b12, 0, none⟩))]) ⟨rfl, rfl, rfl, trivial⟩; clear hE21
  refine p_tn ?_
  refine c_seq ?_
  refine c_cut (fun a' w' => E a' 47 [(2, .slice imagesA images.length imagesC), (3, .pointer (some ⟨b6, 0, none⟩)), (4, .pointer (some ⟨b12, 0, none⟩)), (25, .bool ((!(F_l06Is mp0 mp1 mp2)) || ((!(F_l06Is np0 np1 np2)) || (!(F_l08Map mp0 mp1 np0 np1 images)))))] ∧ St w w' [.rd 1 np1A np1.length np1C np1, .rd 1 np2A np2.length np2C np2, .blk b12 #[.int .i64 np0, .slice np1A np1.length np1C, .slice np2A np2.length np2C] 39, .rd 1 mp1A mp1.length mp1C mp1, .rd 1 mp2A mp2.length mp2C mp2, .blk b6 #[.int .i64 mp0, .slice mp1A mp1.length mp1C, .slice mp2A mp2.length mp2C] 39, .rd 1 imagesA images.length imagesC images]) ?_ ?_
  ·
    refine c_reg ?_
    refine q_step (v := .agg #[.int .i64 mp0, .slice mp1A mp1.length mp1C, .slice mp2A mp2.length mp2C]) hE22 (y_loadS Try.underlying39 rfl (by kernel_rfl) rfl (St.row (i := 1) hS16 rfl)) rfl rfl rfl ?_; intro a23 hE24; clear hE22
    refine l_step hE24 rfl (l_call (f := 66) (argv := [.agg #[.int .i64 mp0, .slice mp1A mp1.length mp1C, .slice mp2A mp2.length mp2C]]) hE24 (fun _ => cf_l06Is _ _) rfl rfl (c_l06Is mp0 mp1A mp1.length mp1C mp1 mp2A mp2.length mp2C mp2 w13 (St.rdR (i := 6) hS16 rfl) (St.rdR (i := 5) hS16 rfl)) ?_)
    rintro _ w26 ⟨rfl, he30⟩ a27 hE28; clear hE24
    have hS29 := St.go hS16 he30; clear hS16
    refine q_step (v := .bool (!(F_l06Is mp0 mp1 mp2))) hE28 (y_not rfl) rfl rfl rfl ?_; intro a31 hE32; clear hE28
    refine q_step (v := .bool (!(F_l06Is mp0 mp1 mp2))) hE32 (y_move rfl) rfl rfl rfl ?_; intro a33 hE34; clear hE32
    rcases Bool.eq_false_or_eq_true (!(F_l06Is mp0 mp1 mp2)) with hb35 | hb35
    ·
      have hE36 := hE34; rw [hb35] at hE36; clear hE34
      have ht37 := bn_t hb35
      refine q_skip hE36 rfl rfl rfl ?_; intro a38 hE39; clear hE36
      refine q_skip hE39 rfl rfl rfl ?_; intro a40 hE41; clear hE39
      refine q_skip hE41 rfl rfl rfl ?_; intro a42 hE43; clear hE41
      refine q_step (v := .bool true) hE43 (y_pick (b := true) rfl rfl) rfl rfl rfl ?_; intro a44 hE45; clear hE43
      refine q_step (v := .bool true) hE45 (y_move rfl) rfl rfl rfl ?_; intro a46 hE47; clear hE45
      refine q_skip hE47 rfl rfl rfl ?_; intro a48 hE49; clear hE47
      refine q_skip hE49 rfl rfl rfl ?_; intro a50 hE51; clear hE49
      refine q_skip hE51 rfl rfl rfl ?_; intro a52 hE53; clear hE51
      refine q_skip hE53 rfl rfl rfl ?_; intro a54 hE55; clear hE53
      refine q_skip hE55 rfl rfl rfl ?_; intro a56 hE57; clear hE55
      refine q_skip hE57 rfl rfl rfl ?_; intro a58 hE59; clear hE57
      refine q_skip hE59 rfl rfl rfl ?_; intro a60 hE61; clear hE59
      refine q_step (v := .bool true) hE61 (y_pick (b := true) rfl rfl) rfl rfl rfl ?_; intro a62 hE63; clear hE61
      refine c_nil ?_
      have hE64 := hE63.sub (L' := [(2, .slice imagesA images.length imagesC), (3, .pointer (some ⟨b6, 0, none⟩)), (4, .pointer (some ⟨b12, 0, none⟩)), (25, .bool true)]) ⟨rfl, rfl, rfl, rfl, trivial⟩; clear hE63
      refine p_tn ?_
      have hE65 := hE64.sub (L' := [(2, .slice imagesA images.length imagesC), (3, .pointer (some ⟨b6, 0, none⟩)), (4, .pointer (some ⟨b12, 0, none⟩)), (25, .bool true)]) ⟨rfl, rfl, rfl, rfl, trivial⟩
      have hS66 := (St.pick (Γ' := [.rd 1 np1A np1.length np1C np1, .rd 1 np2A np2.length np2C np2, .blk b12 #[.int .i64 np0, .slice np1A np1.length np1C, .slice np2A np2.length np2C] 39, .rd 1 mp1A mp1.length mp1C mp1, .rd 1 mp2A mp2.length mp2C mp2, .blk b6 #[.int .i64 mp0, .slice mp1A mp1.length mp1C, .slice mp2A mp2.length mp2C] 39, .rd 1 imagesA images.length imagesC images]) hS29 [4, 3, 0, 6, 5, 1, 2] (by decide) rfl)
      exact ⟨(by rw [hb35]; exact hE65), hS66⟩
    ·
      have hE67 := hE34; rw [hb35] at hE67; clear hE34
      have ht68 := bn_f hb35
      have hp69 := l06Is_t ht68
      refine q_step (v := .agg #[.int .i64 np0, .slice np1A np1.length np1C, .slice np2A np2.length np2C]) hE67 (y_loadS Try.underlying39 rfl (by kernel_rfl) rfl (St.row (i := 0) hS29 rfl)) rfl rfl rfl ?_; intro a70 hE71; clear hE67
      refine l_step hE71 rfl (l_call (f := 66) (argv := [.agg #[.int .i64 np0, .slice np1A np1.length np1C, .slice np2A np2.length np2C]]) hE71 (fun _ => cf_l06Is _ _) rfl rfl (c_l06Is np0 np1A np1.length np1C np1 np2A np2.length np2C np2 w26 (St.rdR (i := 4) hS29 rfl) (St.rdR (i := 3) hS29 rfl)) ?_)
      rintro _ w73 ⟨rfl, he77⟩ a74 hE75; clear hE71
      have hS76 := St.go hS29 he77; clear hS29
      refine q_step (v := .bool (!(F_l06Is np0 np1 np2))) hE75 (y_not rfl) rfl rfl rfl ?_; intro a78 hE79; clear hE75
      refine q_step (v := .bool (!(F_l06Is np0 np1 np2))) hE79 (y_pick (b := false) rfl rfl) rfl rfl rfl ?_; intro a80 hE81; clear hE79
      refine q_step (v := .bool (!(F_l06Is np0 np1 np2))) hE81 (y_move rfl) rfl rfl rfl ?_; intro a82 hE83; clear hE81
      rcases Bool.eq_false_or_eq_true (!(F_l06Is np0 np1 np2)) with hb84 | hb84
      ·
        have hE85 := hE83; rw [hb84] at hE85; clear hE83
        have ht86 := bn_t hb84
        refine q_skip hE85 rfl rfl rfl ?_; intro a87 hE88; clear hE85
        refine q_skip hE88 rfl rfl rfl ?_; intro a89 hE90; clear hE88
        refine q_skip hE90 rfl rfl rfl ?_; intro a91 hE92; clear hE90
        refine q_skip hE92 rfl rfl rfl ?_; intro a93 hE94; clear hE92
        refine q_skip hE94 rfl rfl rfl ?_; intro a95 hE96; clear hE94
        refine q_skip hE96 rfl rfl rfl ?_; intro a97 hE98; clear hE96
        refine q_skip hE98 rfl rfl rfl ?_; intro a99 hE100; clear hE98
        refine q_step (v := .bool true) hE100 (y_pick (b := true) rfl rfl) rfl rfl rfl ?_; intro a101 hE102; clear hE100
        refine c_nil ?_
        have hE103 := hE102.sub (L' := [(2, .slice imagesA images.length imagesC), (3, .pointer (some ⟨b6, 0, none⟩)), (4, .pointer (some ⟨b12, 0, none⟩)), (25, .bool true)]) ⟨rfl, rfl, rfl, rfl, trivial⟩; clear hE102
        refine p_tn ?_
        have hE104 := hE103.sub (L' := [(2, .slice imagesA images.length imagesC), (3, .pointer (some ⟨b6, 0, none⟩)), (4, .pointer (some ⟨b12, 0, none⟩)), (25, .bool true)]) ⟨rfl, rfl, rfl, rfl, trivial⟩
        have hS105 := (St.pick (Γ' := [.rd 1 np1A np1.length np1C np1, .rd 1 np2A np2.length np2C np2, .blk b12 #[.int .i64 np0, .slice np1A np1.length np1C, .slice np2A np2.length np2C] 39, .rd 1 mp1A mp1.length mp1C mp1, .rd 1 mp2A mp2.length mp2C mp2, .blk b6 #[.int .i64 mp0, .slice mp1A mp1.length mp1C, .slice mp2A mp2.length mp2C] 39, .rd 1 imagesA images.length imagesC images]) hS76 [4, 3, 0, 6, 5, 1, 2] (by decide) rfl)
        exact ⟨(by rw [hb84, hb35]; exact hE104), hS105⟩
      ·
        have hE106 := hE83; rw [hb84] at hE106; clear hE83
        have ht107 := bn_f hb84
        have hp108 := l06Is_t ht107
        refine q_step (v := .pointer (some ⟨b6, 0, none⟩)) hE106 (y_field rfl (fun _ => by kernel_rfl)) rfl rfl rfl ?_; intro a109 hE110; clear hE106
        refine q_step (v := .agg #[.int .i64 mp0, .slice mp1A mp1.length mp1C]) hE110 (y_loadP Try.underlying28 rfl (by kernel_rfl) rfl rfl (St.row (i := 1) hS76 rfl)) rfl rfl rfl ?_; intro a111 hE112; clear hE110
        refine q_step (v := .pointer (some ⟨b12, 0, none⟩)) hE112 (y_field rfl (fun _ => by kernel_rfl)) rfl rfl rfl ?_; intro a113 hE114; clear hE112
        refine q_step (v := .agg #[.int .i64 np0, .slice np1A np1.length np1C]) hE114 (y_loadP Try.underlying28 rfl (by kernel_rfl) rfl rfl (St.row (i := 0) hS76 rfl)) rfl rfl rfl ?_; intro a115 hE116; clear hE114
        refine q_step (v := .slice imagesA images.length imagesC) hE116 (y_move rfl) rfl rfl rfl ?_; intro a117 hE118; clear hE116
        refine l_step hE118 rfl (l_call (f := 67) (argv := [.agg #[.int .i64 mp0, .slice mp1A mp1.length mp1C], .agg #[.int .i64 np0, .slice np1A np1.length np1C], .slice imagesA images.length imagesC]) hE118 (fun _ => cf_l08Map _ _) rfl rfl (c_l08Map mp0 mp1A mp1.length mp1C mp1 np0 np1A np1.length np1C np1 imagesA images.length imagesC images w73 (St.rdR (i := 6) hS76 rfl) (St.rdR (i := 4) hS76 rfl) (St.rdR (i := 2) hS76 rfl) (by omega) (by omega)) ?_)
        rintro _ w120 ⟨rfl, he124⟩ a121 hE122; clear hE118
        have hS123 := St.go hS76 he124; clear hS76
        refine q_step (v := .bool (!(F_l08Map mp0 mp1 np0 np1 images))) hE122 (y_not rfl) rfl rfl rfl ?_; intro a125 hE126; clear hE122
        refine q_step (v := .bool (!(F_l08Map mp0 mp1 np0 np1 images))) hE126 (y_pick (b := false) rfl rfl) rfl rfl rfl ?_; intro a127 hE128; clear hE126
        refine c_nil ?_
        have hE129 := hE128.sub (L' := [(2, .slice imagesA images.length imagesC), (3, .pointer (some ⟨b6, 0, none⟩)), (4, .pointer (some ⟨b12, 0, none⟩)), (25, .bool (!(F_l08Map mp0 mp1 np0 np1 images)))]) ⟨rfl, rfl, rfl, rfl, trivial⟩; clear hE128
        refine p_tn ?_
        have hE130 := hE129.sub (L' := [(2, .slice imagesA images.length imagesC), (3, .pointer (some ⟨b6, 0, none⟩)), (4, .pointer (some ⟨b12, 0, none⟩)), (25, .bool (!(F_l08Map mp0 mp1 np0 np1 images)))]) ⟨rfl, rfl, rfl, rfl, trivial⟩
        have hS131 := (St.pick (Γ' := [.rd 1 np1A np1.length np1C np1, .rd 1 np2A np2.length np2C np2, .blk b12 #[.int .i64 np0, .slice np1A np1.length np1C, .slice np2A np2.length np2C] 39, .rd 1 mp1A mp1.length mp1C mp1, .rd 1 mp2A mp2.length mp2C mp2, .blk b6 #[.int .i64 mp0, .slice mp1A mp1.length mp1C, .slice mp2A mp2.length mp2C] 39, .rd 1 imagesA images.length imagesC images]) hS123 [4, 3, 0, 6, 5, 1, 2] (by decide) rfl)
        exact ⟨(by rw [hb84, hb35]; exact hE130), hS131⟩
  ·
    rintro a132 w133 ⟨hE134, hS135⟩; clear hE22 hS16
    refine c_cond hE134 rfl (fun ht136 => ?_) (fun ht136 => ?_)
    ·
      have hE137 := hE134; rw [ht136] at hE137; clear hE134
      refine c_seq ?_
      refine c_reg ?_
      refine q_step (v := .bool false) hE137 (y_assign rfl) rfl rfl rfl ?_; intro a138 hE139; clear hE137
      refine q_step (v := .int .i64 1) hE139 (y_assign rfl) rfl rfl rfl ?_; intro a140 hE141; clear hE139
      refine c_nil ?_
      have hE142 := hE141.sub (L' := [(6, .bool false), (7, .int .i64 1)]) ⟨rfl, rfl, trivial⟩; clear hE141
      refine p_tn ?_
      refine wp_ret ?_
      refine p_tr ?_
      have hF : F_s_IsModelMorphism mp0 mp1 mp2 np0 np1 np2 images = (false, 1) := by unfold F_s_IsModelMorphism; rw [ht136]; first | done | rfl
      refine c_ret2 hE142 rfl rfl rfl ?_
      exact ⟨(by rw [hF]; first | done | rfl), hS135.ext⟩
    ·
      obtain ⟨ht143, ht144⟩ := bor_f ht136
      have ht145 := bn_f ht143
      have hp146 := l06Is_t ht145
      obtain ⟨ht147, ht148⟩ := bor_f ht144
      have ht149 := bn_f ht147
      have hp150 := l06Is_t ht149
      have ht151 := bn_f ht148
      have hp152 := l08Map_t ht151
      have hE153 := hE134; rw [ht136] at hE153; clear hE134
      refine wp_skip ?_
      refine p_tn ?_
      refine c_seq ?_
      refine c_seq ?_
      refine c_reg ?_
      refine q_step (v := .int .i64 0) hE153 (y_assign rfl) rfl rfl rfl ?_; intro a154 hE155; clear hE153
      refine c_nil ?_
      have hE156 := hE155.sub (L' := [(2, .slice imagesA images.length imagesC), (3, .pointer (some ⟨b6, 0, none⟩)), (4, .pointer (some ⟨b12, 0, none⟩)), (8, .int .i64 0)]) ⟨rfl, rfl, rfl, rfl, trivial⟩; clear hE155
      refine p_tn ?_
      refine c_cut1 (fun a' w' => isOk (F_s_IsModelMorphism_L1 mp0 mp1 mp2 np0 np1 np2 images (Int.toNat ((images.length : Int) - 0) + 1) 0) = true ∧ (0 ≤ (okD (F_s_IsModelMorphism_L1 mp0 mp1 mp2 np0 np1 np2 images (Int.toNat ((images.length : Int) - 0) + 1) 0))) ∧ ((okD (F_s_IsModelMorphism_L1 mp0 mp1 mp2 np0 np1 np2 images (Int.toNat ((images.length : Int) - 0) + 1) 0)) ≤ (images.length : Int)) ∧ E a' 47 [(2, .slice imagesA images.length imagesC), (3, .pointer (some ⟨b6, 0, none⟩)), (4, .pointer (some ⟨b12, 0, none⟩)), (8, .int .i64 (okD (F_s_IsModelMorphism_L1 mp0 mp1 mp2 np0 np1 np2 images (Int.toNat ((images.length : Int) - 0) + 1) 0)))] ∧ St w w' [.rd 1 np1A np1.length np1C np1, .rd 1 np2A np2.length np2C np2, .blk b12 #[.int .i64 np0, .slice np1A np1.length np1C, .slice np2A np2.length np2C] 39, .rd 1 mp1A mp1.length mp1C mp1, .rd 1 mp2A mp2.length mp2C mp2, .blk b6 #[.int .i64 mp0, .slice mp1A mp1.length mp1C, .slice mp2A mp2.length mp2C] 39, .rd 1 imagesA images.length imagesC images]) ?_ ?_
      ·
        refine wp_block ?_
        refine c_loop (fun r a' w' => ∃ x8 : Int, F_s_IsModelMorphism_L1 mp0 mp1 mp2 np0 np1 np2 images r x8 = F_s_IsModelMorphism_L1 mp0 mp1 mp2 np0 np1 np2 images (Int.toNat ((images.length : Int) - 0) + 1) 0 ∧ Int.toNat ((images.length : Int) - x8) < r ∧ (0 ≤ x8) ∧ (x8 ≤ (images.length : Int)) ∧ E a' 47 [(2, .slice imagesA images.length imagesC), (3, .pointer (some ⟨b6, 0, none⟩)), (4, .pointer (some ⟨b12, 0, none⟩)), (8, .int .i64 x8)] ∧ St w w' [.rd 1 np1A np1.length np1C np1, .rd 1 np2A np2.length np2C np2, .blk b12 #[.int .i64 np0, .slice np1A np1.length np1C, .slice np2A np2.length np2C] 39, .rd 1 mp1A mp1.length mp1C mp1, .rd 1 mp2A mp2.length mp2C mp2, .blk b6 #[.int .i64 mp0, .slice mp1A mp1.length mp1C, .slice mp2A mp2.length mp2C] 39, .rd 1 imagesA images.length imagesC images]) (r := (Int.toNat ((images.length : Int) - 0) + 1)) ?_ ?_
        · exact ⟨0, rfl, Nat.lt_succ_self _, (by first | omega | (simp only [List.length_append, List.length_cons, List.length_nil, sI_len, cond_true, cond_false]; omega) | (simp only [List.length_append, List.length_cons, List.length_nil, sI_len, cond_eq_ite, apply_ite List.length]; split <;> simp only [List.length_append, List.length_cons, List.length_nil, sI_len] <;> omega) | grind), (by first | omega | (simp only [List.length_append, List.length_cons, List.length_nil, sI_len, cond_true, cond_false]; omega) | (simp only [List.length_append, List.length_cons, List.length_nil, sI_len, cond_eq_ite, apply_ite List.length]; split <;> simp only [List.length_append, List.length_cons, List.length_nil, sI_len] <;> omega) | grind), (hE156.sub (L' := [(2, .slice imagesA images.length imagesC), (3, .pointer (some ⟨b6, 0, none⟩)), (4, .pointer (some ⟨b12, 0, none⟩)), (8, .int .i64 0)]) ⟨rfl, rfl, rfl, rfl, trivial⟩), (St.pick (Γ' := [.rd 1 np1A np1.length np1C np1, .rd 1 np2A np2.length np2C np2, .blk b12 #[.int .i64 np0, .slice np1A np1.length np1C, .slice np2A np2.length np2C] 39, .rd 1 mp1A mp1.length mp1C mp1, .rd 1 mp2A mp2.length mp2C mp2, .blk b6 #[.int .i64 mp0, .slice mp1A mp1.length mp1C, .slice mp2A mp2.length mp2C] 39, .rd 1 imagesA images.length imagesC images]) hS135 [0, 1, 2, 3, 4, 5, 6] (by decide) rfl)⟩
        ·
          clear hE156 hS135
          rintro r166 a158 w159 ⟨x8, hT162, hr163, hi164, hi165, hE160, hS161⟩
          obtain ⟨r166, rfl⟩ : ∃ r', r166 = r' + 1 := ⟨r166 - 1, by omega⟩
          refine c_seq ?_
          refine c_seq ?_
          refine c_reg ?_
          refine q_step (v := .int .i64 x8) hE160 (y_move rfl) rfl rfl rfl ?_; intro a167 hE168; clear hE160
          refine q_step (v := .slice imagesA images.length imagesC) hE168 (y_move rfl) rfl rfl rfl ?_; intro a169 hE170; clear hE168
          refine q_step (v := .int .i64 (images.length : Int)) hE170 (y_len (e := 2) (by kernel_rfl) rfl) rfl rfl rfl ?_; intro a171 hE172; clear hE170
          refine q_step (v := .bool (decide (x8 < (images.length : Int)))) hE172 (y_lss rfl rfl) rfl rfl rfl ?_; intro a173 hE174; clear hE172
          refine c_nil ?_
          have hE175 := hE174.sub (L' := [(2, .slice imagesA images.length imagesC), (3, .pointer (some ⟨b6, 0, none⟩)), (4, .pointer (some ⟨b12, 0, none⟩)), (8, .int .i64 x8), (29, .bool (decide (x8 < (images.length : Int))))]) ⟨rfl, rfl, rfl, rfl, rfl, trivial⟩; clear hE174
          refine p_tn ?_
          refine c_cond hE175 rfl (fun ht176 => ?_) (fun ht176 => ?_)
          ·
            have hp177 := of_decide_eq_true ht176
            have hE178 := hE175; rw [ht176] at hE178; clear hE175
            have hx1 := (l08Map_t (images := images) (by assumption)).2 x8 (by omega) (by omega)
            refine wp_skip ?_
            refine p_tn ?_
            refine c_seq ?_
            refine wp_block ?_
            refine c_seq ?_
            refine d_start (fun w' => w'.heap[b6]? = some (.cells #[.int .i64 mp0, .slice mp1A mp1.length mp1C, .slice mp2A mp2.length mp2C] 39 (0, 0)) ∧ w'.heap[b12]? = some (.cells #[.int .i64 np0, .slice np1A np1.length np1C, .slice np2A np2.length np2C] 39 (0, 0)) ∧ w'.cell? (adr imagesA (Int.toNat x8)) = some (.int .i64 (gI images x8)) ∧ True) [0, 1, 6] 9 (by kernel_rfl) rfl ?_
            intro w179 he180; have hS181 := St.go hS161 he180; clear hS161
            refine d_take (v := .agg #[.int .i64 mp0, .slice mp1A mp1.length mp1C, .slice mp2A mp2.length mp2C]) 0 rfl hE178 ⟨(St.row (i := 5) hS181 rfl _ (Ext.refl _)), (St.row (i := 2) hS181 rfl _ (Ext.refl _)), (RdS.elt (St.rdR (i := 6) hS181 rfl) (by omega) (by omega) _ (Ext.refl _)), trivial⟩ (y_loadS Try.underlying39 rfl (by kernel_rfl) rfl (fun _ h => h.1)) rfl rfl (by kernel_rfl) (by kernel_rfl) (by kernel_rfl) rfl rfl (fun _ _ _ h => h) ?_; intro a182 hE183; clear hE178
            refine d_take (v := .agg #[.int .i64 np0, .slice np1A np1.length np1C, .slice np2A np2.length np2C]) 1 rfl hE183 ⟨(St.row (i := 5) hS181 rfl _ (Ext.refl _)), (St.row (i := 2) hS181 rfl _ (Ext.refl _)), (RdS.elt (St.rdR (i := 6) hS181 rfl) (by omega) (by omega) _ (Ext.refl _)), trivial⟩ (y_loadS Try.underlying39 rfl (by kernel_rfl) rfl (fun _ h => h.2.1)) rfl rfl (by kernel_rfl) (by kernel_rfl) (by kernel_rfl) rfl rfl (fun _ _ _ h => h) ?_; intro a184 hE185; clear hE183
            refine d_pure (v := .int .i64 x8) 2 rfl hE185 (y_move rfl) rfl (by kernel_rfl) (by kernel_rfl) (by kernel_rfl) rfl rfl (fun _ _ _ h => h) ?_; intro a186 hE187; clear hE185
            refine d_pure (v := .slice imagesA images.length imagesC) 3 rfl hE187 (y_move rfl) rfl (by kernel_rfl) (by kernel_rfl) (by kernel_rfl) rfl rfl (fun _ _ _ h => h) ?_; intro a188 hE189; clear hE187
            refine d_pure (v := .int .i64 x8) 4 rfl hE189 (y_move rfl) rfl (by kernel_rfl) (by kernel_rfl) (by kernel_rfl) rfl rfl (fun _ _ _ h => h) ?_; intro a190 hE191; clear hE189
            refine d_pure (v := .pointer (some (adr imagesA (Int.toNat x8)))) 5 rfl hE191 (y_idx (by kernel_rfl) (fun _ => by kernel_rfl) rfl rfl (RdS.isS (m := x8) (St.rdR (i := 6) hS181 rfl) (by omega) (by omega)) (by omega) (by omega) (Nat.mul_one _).symm) rfl (by kernel_rfl) (by kernel_rfl) (by kernel_rfl) rfl rfl (fun _ _ _ h => h) ?_; intro a192 hE193; clear hE191
            refine d_take (v := .int .i64 (gI images x8)) 6 rfl hE193 ⟨(St.row (i := 5) hS181 rfl _ (Ext.refl _)), (St.row (i := 2) hS181 rfl _ (Ext.refl _)), (RdS.elt (St.rdR (i := 6) hS181 rfl) (by omega) (by omega) _ (Ext.refl _)), trivial⟩ (y_load (fun _ => by kernel_rfl) rfl (fun _ h => h.2.2.1)) rfl rfl (by kernel_rfl) (by kernel_rfl) (by kernel_rfl) rfl rfl (fun _ _ _ h => h) ?_; intro a194 hE195; clear hE193
            refine d_only 7 (by kernel_rfl) rfl hE195 rfl (l_call (f := 68) (argv := [.agg #[.int .i64 mp0, .slice mp1A mp1.length mp1C, .slice mp2A mp2.length mp2C], .agg #[.int .i64 np0, .slice np1A np1.length np1C, .slice np2A np2.length np2C], .int .i64 x8, .int .i64 (gI images x8)]) hE195 (fun _ => cf_l07Atoms _ _) rfl rfl (c_l07Atoms mp0 mp1A mp1.length mp1C mp1 mp2A mp2.length mp2C mp2 np0 np1A np1.length np1C np1 np2A np2.length np2C np2 x8 (gI images x8) w179 (St.rdR (i := 3) hS181 rfl) (St.rdR (i := 4) hS181 rfl) (St.rdR (i := 0) hS181 rfl) (St.rdR (i := 1) hS181 rfl) (by omega) (by omega) (by omega) (by omega)) ?_)
            rintro _ w197 ⟨rfl, he201⟩ a198 hE199; clear hE195
            have hS200 := St.go hS181 he201; clear hS181
            refine ⟨fun h => Bool.noConfusion (h.symm.trans (show exm _ _ _ = true by kernel_rfl)), ?_⟩
            refine d_pure (v := .bool (!(F_l07Atoms mp0 mp1 mp2 np0 np1 np2 x8 (gI images x8)))) 8 rfl hE199 (y_not rfl) rfl (by kernel_rfl) (by kernel_rfl) (by kernel_rfl) rfl rfl (fun _ _ _ h => h) ?_; intro a202 hE203; clear hE199
            refine d_done (by kernel_rfl) ?_
            have hE204 := hE203.sub (L' := [(2, .slice imagesA images.length imagesC), (3, .pointer (some ⟨b6, 0, none⟩)), (4, .pointer (some ⟨b12, 0, none⟩)), (8, .int .i64 x8), (40, .bool (!(F_l07Atoms mp0 mp1 mp2 np0 np1 np2 x8 (gI images x8))))]) ⟨rfl, rfl, rfl, rfl, rfl, trivial⟩; clear hE203
            refine p_tn ?_
            refine c_cond hE204 rfl (fun ht205 => ?_) (fun ht205 => ?_)
            ·
              have ht206 := bn_t ht205
              have hE207 := hE204; rw [ht205] at hE207; clear hE204
              refine c_seq ?_
              refine c_reg ?_
              refine q_step (v := .bool false) hE207 (y_assign rfl) rfl rfl rfl ?_; intro a208 hE209; clear hE207
              refine q_step (v := .int .i64 0) hE209 (y_assign rfl) rfl rfl rfl ?_; intro a210 hE211; clear hE209
              refine c_nil ?_
              have hE212 := hE211.sub (L' := [(6, .bool false), (7, .int .i64 0)]) ⟨rfl, rfl, trivial⟩; clear hE211
              refine p_tn ?_
              refine wp_ret ?_
              refine p_br ?_
              refine p_tr ?_
              have hX213 : F_s_IsModelMorphism_L1 mp0 mp1 mp2 np0 np1 np2 images (Int.toNat ((images.length : Int) - 0) + 1) 0 = .error (false, 0) := hT162.symm.trans (show F_s_IsModelMorphism_L1b mp0 mp1 mp2 np0 np1 np2 images (F_s_IsModelMorphism_L1 mp0 mp1 mp2 np0 np1 np2 images r166) x8 = .error (false, 0) by unfold F_s_IsModelMorphism_L1b; rw [ht205, ht176]; first | done | rfl)
              refine p_tr (p_br (p_tr ?_))
              refine p_tr ?_
              have hF : F_s_IsModelMorphism mp0 mp1 mp2 np0 np1 np2 images = (false, 0) := by unfold F_s_IsModelMorphism; rw [hX213, ht136]; first | done | rfl
              refine c_ret2 hE212 rfl rfl rfl ?_
              exact ⟨(by rw [hF]; first | done | rfl), hS200.ext⟩
            ·
              have ht214 := bn_f ht205
              have hE215 := hE204; rw [ht205] at hE215; clear hE204
              refine wp_skip ?_
              refine p_bn ?_
              refine p_tn ?_
              refine c_reg ?_
              refine q_step (v := .int .i64 x8) hE215 (y_move rfl) rfl rfl rfl ?_; intro a216 hE217; clear hE215
              refine q_step (v := .int .i64 (x8 + 1)) hE217 (y_add rfl rfl ⟨(by omega), (by omega)⟩) rfl rfl rfl ?_; intro a218 hE219; clear hE217
              refine q_step (v := .int .i64 (x8 + 1)) hE219 (y_assign rfl) rfl rfl rfl ?_; intro a220 hE221; clear hE219
              refine c_nil ?_
              have hE222 := hE221.sub (L' := [(2, .slice imagesA images.length imagesC), (3, .pointer (some ⟨b6, 0, none⟩)), (4, .pointer (some ⟨b12, 0, none⟩)), (8, .int .i64 (x8 + 1))]) ⟨rfl, rfl, rfl, rfl, trivial⟩; clear hE221
              refine p_tn ⟨r166, Nat.lt_succ_self _, x8 + 1, (hT162.symm.trans (show F_s_IsModelMorphism_L1b mp0 mp1 mp2 np0 np1 np2 images (F_s_IsModelMorphism_L1 mp0 mp1 mp2 np0 np1 np2 images r166) x8 = F_s_IsModelMorphism_L1 mp0 mp1 mp2 np0 np1 np2 images r166 (x8 + 1) by unfold F_s_IsModelMorphism_L1b; rw [ht205, ht176]; first | done | rfl)).symm, (by omega), (by first | omega | (simp only [List.length_append, List.length_cons, List.length_nil, sI_len, cond_true, cond_false]; omega) | (simp only [List.length_append, List.length_cons, List.length_nil, sI_len, cond_eq_ite, apply_ite List.length]; split <;> simp only [List.length_append, List.length_cons, List.length_nil, sI_len] <;> omega) | grind), (by first | omega | (simp only [List.length_append, List.length_cons, List.length_nil, sI_len, cond_true, cond_false]; omega) | (simp only [List.length_append, List.length_cons, List.length_nil, sI_len, cond_eq_ite, apply_ite List.length]; split <;> simp only [List.length_append, List.length_cons, List.length_nil, sI_len] <;> omega) | grind), (hE222.sub (L' := [(2, .slice imagesA images.length imagesC), (3, .pointer (some ⟨b6, 0, none⟩)), (4, .pointer (some ⟨b12, 0, none⟩)), (8, .int .i64 (x8 + 1))]) ⟨rfl, rfl, rfl, rfl, trivial⟩), (St.pick (Γ' := [.rd 1 np1A np1.length np1C np1, .rd 1 np2A np2.length np2C np2, .blk b12 #[.int .i64 np0, .slice np1A np1.length np1C, .slice np2A np2.length np2C] 39, .rd 1 mp1A mp1.length mp1C mp1, .rd 1 mp2A mp2.length mp2C mp2, .blk b6 #[.int .i64 mp0, .slice mp1A mp1.length mp1C, .slice mp2A mp2.length mp2C] 39, .rd 1 imagesA images.length imagesC images]) hS200 [0, 1, 2, 3, 4, 5, 6] (by decide) rfl)⟩
          ·
            have hp223 := of_decide_eq_false ht176
            have hE224 := hE175; rw [ht176] at hE224; clear hE175
            refine wp_exit ?_
            refine p_te ?_
            have hX225 : F_s_IsModelMorphism_L1 mp0 mp1 mp2 np0 np1 np2 images (Int.toNat ((images.length : Int) - 0) + 1) 0 = .ok x8 := hT162.symm.trans (show F_s_IsModelMorphism_L1b mp0 mp1 mp2 np0 np1 np2 images (F_s_IsModelMorphism_L1 mp0 mp1 mp2 np0 np1 np2 images r166) x8 = .ok x8 by unfold F_s_IsModelMorphism_L1b; rw [ht176]; first | done | rfl)
            refine p_te (p_be (p_tn ?_))
            exact ⟨(by rw [hX225]; rfl), (by rw [hX225]; exact (show 0 ≤ x8 from (by first | omega | (simp only [List.length_append, List.length_cons, List.length_nil, sI_len, cond_true, cond_false]; omega) | (simp only [List.length_append, List.length_cons, List.length_nil, sI_len, cond_eq_ite, apply_ite List.length]; split <;> simp only [List.length_append, List.length_cons, List.length_nil, sI_len] <;> omega) | grind))), (by rw [hX225]; exact (show x8 ≤ (images.length : Int) from (by first | omega | (simp only [List.length_append, List.length_cons, List.length_nil, sI_len, cond_true, cond_false]; omega) | (simp only [List.length_append, List.length_cons, List.length_nil, sI_len, cond_eq_ite, apply_ite List.length]; split <;> simp only [List.length_append, List.length_cons, List.length_nil, sI_len] <;> omega) | grind))), (by rw [hX225]; exact (hE224.sub (L' := [(2, .slice imagesA images.length imagesC), (3, .pointer (some ⟨b6, 0, none⟩)), (4, .pointer (some ⟨b12, 0, none⟩)), (8, .int .i64 x8)]) ⟨rfl, rfl, rfl, rfl, trivial⟩)), (St.pick (Γ' := [.rd 1 np1A np1.length np1C np1, .rd 1 np2A np2.length np2C np2, .blk b12 #[.int .i64 np0, .slice np1A np1.length np1C, .slice np2A np2.length np2C] 39, .rd 1 mp1A mp1.length mp1C mp1, .rd 1 mp2A mp2.length mp2C mp2, .blk b6 #[.int .i64 mp0, .slice mp1A mp1.length mp1C, .slice mp2A mp2.length mp2C] 39, .rd 1 imagesA images.length imagesC images]) hS161 [0, 1, 2, 3, 4, 5, 6] (by decide) rfl)⟩
      ·
        rintro a226 w227 ⟨hO230, hi231, hi232, hE228, hS229⟩; clear hE156 hS135
        refine p_tn ?_
        refine c_seq ?_
        refine c_reg ?_
        refine q_step (v := .pointer (some ⟨b6, 0, none⟩)) hE228 (y_field rfl (fun _ => by kernel_rfl)) rfl rfl rfl ?_; intro a233 hE234; clear hE228
        refine q_step (v := .agg #[.int .i64 mp0, .slice mp1A mp1.length mp1C]) hE234 (y_loadP Try.underlying28 rfl (by kernel_rfl) rfl rfl (St.row (i := 5) hS229 rfl)) rfl rfl rfl ?_; intro a235 hE236; clear hE234
        refine q_step (v := .pointer (some ⟨b12, 0, none⟩)) hE236 (y_field rfl (fun _ => by kernel_rfl)) rfl rfl rfl ?_; intro a237 hE238; clear hE236
        refine q_step (v := .agg #[.int .i64 np0, .slice np1A np1.length np1C]) hE238 (y_loadP Try.underlying28 rfl (by kernel_rfl) rfl rfl (St.row (i := 2) hS229 rfl)) rfl rfl rfl ?_; intro a239 hE240; clear hE238
        refine q_step (v := .slice imagesA images.length imagesC) hE240 (y_move rfl) rfl rfl rfl ?_; intro a241 hE242; clear hE240
        refine l_step hE242 rfl (l_call (f := 69) (argv := [.agg #[.int .i64 mp0, .slice mp1A mp1.length mp1C], .agg #[.int .i64 np0, .slice np1A np1.length np1C], .slice imagesA images.length imagesC]) hE242 (fun _ => cf_l08Is _ _) rfl rfl (c_l08Is mp0 mp1A mp1.length mp1C mp1 np0 np1A np1.length np1C np1 imagesA images.length imagesC images w227 (St.rdR (i := 3) hS229 rfl) (St.rdR (i := 0) hS229 rfl) (St.rdR (i := 6) hS229 rfl) (by omega) (by omega) (by omega) (by omega) (by omega) ((l08Map_t (by assumption)).2)) ?_)
        rintro _ w244 ⟨rfl, he248⟩ a245 hE246; clear hE242
        have hS247 := St.go hS229 he248; clear hS229
        refine q_step (v := .bool (F_l08Is mp0 mp1 np0 np1 images)) hE246 (y_assign rfl) rfl rfl rfl ?_; intro a249 hE250; clear hE246
        refine q_step (v := .int .i64 0) hE250 (y_assign rfl) rfl rfl rfl ?_; intro a251 hE252; clear hE250
        refine c_nil ?_
        have hE253 := hE252.sub (L' := [(6, .bool (F_l08Is mp0 mp1 np0 np1 images)), (7, .int .i64 0)]) ⟨rfl, rfl, trivial⟩; clear hE252
        refine p_tn ?_
        refine wp_ret ?_
        have hF : F_s_IsModelMorphism mp0 mp1 mp2 np0 np1 np2 images = (F_l08Is mp0 mp1 np0 np1 images, 0) := by unfold F_s_IsModelMorphism; rw [hO230, ht136]; first | done | rfl
        refine c_ret2 hE253 rfl rfl rfl ?_
        exact ⟨(by rw [hF]; first | done | rfl), hS247.ext⟩

def F_Model_truths_L1b (mp2 : List Int) (wp : Int) (rec : Int → Int → Int × Int) (mask5 : Int) (t11 : Int) : Int × Int :=
  bif (decide (t11 < (mp2.length : Int))) then (rec (bif (F_has (gI mp2 t11) wp) then orI mask5 (shlI 1 t11) else mask5) (t11 + 1)) else (mask5, t11)
def F_Model_truths_L1 (mp2 : List Int) (wp : Int) : Nat → Int → Int → Int × Int
  | 0, mask5, t11 => (mask5, t11)
  | r + 1, mask5, t11 => F_Model_truths_L1b mp2 wp (F_Model_truths_L1 mp2 wp r) mask5 t11
def F_Model_truths (mp0 : Int) (mp1 : List Int) (mp2 : List Int) (wp : Int) : Int :=
  (F_Model_truths_L1 mp2 wp (Int.toNat ((mp2.length : Int) - 0) + 1) 0 0).1
theorem cf_Model_truths (args : Array Value) (w : World) : (callFunc 75 args).run Try.prog w = .ok (.enter 75 args) w := by kernel_rfl
set_option maxRecDepth 100000 in
theorem c_Model_truths (mp0 : Int) (mp1A : Option Addr) (mp1N mp1C : Nat) (mp1 : List Int) (mp2A : Option Addr) (mp2N mp2C : Nat) (mp2 : List Int) (wp : Int) (w : World) (mp1R : RdS w 1 mp1A mp1N mp1C mp1) (mp2R : RdS w 1 mp2A mp2N mp2C mp2) (h6 : (mp2.length : Int) = 6) (hw : 0 ≤ wp) :
    Calls Try.prog 75 #[.agg #[.int .i64 mp0, .slice mp1A mp1N mp1C, .slice mp2A mp2N mp2C], .int .i64 wp] w (Ret fun v w' => v = .int .i64 (F_Model_truths mp0 mp1 mp2 wp) ∧ Ext w w') := by
  obtain rfl : mp1N = mp1.length := mp1R.len1.symm
  have mp1Le := mp1R.le
  obtain rfl : mp2N = mp2.length := mp2R.len1.symm
  have mp2Le := mp2R.le
  have hS := St.nil w
  have hS1 := St.rd0 hS rfl mp1R; clear hS
  have hS2 := St.rd0 hS1 rfl mp2R; clear hS1
  refine enter (args := [.agg #[.int .i64 mp0, .slice mp1A mp1.length mp1C, .slice mp2A mp2.length mp2C], .int .i64 wp]) Try.func75 rfl rfl ?_
  rw [Try.ntmps75]; intro a hE
  have hE := hE.sub (L' := [(0, .agg #[.int .i64 mp0, .slice mp1A mp1.length mp1C, .slice mp2A mp2.length mp2C]), (1, .int .i64 wp)]) ⟨rfl, rfl, trivial⟩
  refine c_seq ?_
  refine c_reg ?_
  refine l_step hE rfl (l_box (v := .agg #[.int .i64 mp0, .slice mp1A mp1.length mp1C, .slice mp2A mp2.length mp2C]) (cs := #[.int .i64 mp0, .slice mp1A mp1.length mp1C, .slice mp2A mp2.length mp2C]) hS2 hE rfl rfl rfl ?_)
  intro b3 w4 hS7 he8 a5 hE6; clear hS2 hE
  refine q_step (v := .int .i64 0) hE6 (y_assign rfl) rfl rfl rfl ?_; intro a9 hE10; clear hE6
  refine c_nil ?_
  have hE11 := hE10.sub (L' := [(1, .int .i64 wp), (2, .pointer (some ⟨b3, 0, none⟩))]) ⟨rfl, rfl, trivial⟩; clear hE10
  refine p_tn ?_
  refine c_seq ?_
  refine c_reg ?_
  refine q_step (v := .int .i64 0) hE11 (y_assign rfl) rfl rfl rfl ?_; intro a12 hE13; clear hE11
  refine c_nil ?_
  have hE14 := hE13.sub (L' := [(1, .int .i64 wp), (2, .pointer (some ⟨b3, 0, none⟩)), (5, .int .i64 0)]) ⟨rfl, rfl, rfl, trivial⟩; clear hE13
  refine p_tn ?_
  refine c_seq ?_
  refine c_seq ?_
  refine c_reg ?_
  refine q_step (v := .pointer (some ⟨b3, 2, none⟩)) hE14 (y_field rfl (fun _ => by kernel_rfl)) rfl rfl rfl ?_; intro a15 hE16; clear hE14
  refine q_step (v := .slice mp2A mp2.length mp2C) hE16 (y_load (fun _ => by kernel_rfl) rfl (St.cell (i := 0) hS7 rfl rfl)) rfl rfl rfl ?_; intro a17 hE18; clear hE16
  refine q_step (v := .int .i64 (mp2.length : Int)) hE18 (y_len (e := 2) (by kernel_rfl) rfl) rfl rfl rfl ?_; intro a19 hE20; clear hE18
  refine q_step (v := .int .i64 0) hE20 (y_move rfl) rfl rfl rfl ?_; intro a21 hE22; clear hE20
  refine c_nil ?_
  have hE23 := hE22.sub (L' := [(1, .int .i64 wp), (5, .int .i64 0), (9, .slice mp2A mp2.length mp2C), (10, .int .i64 (mp2.length : Int)), (11, .int .i64 0)]) ⟨rfl, rfl, rfl, rfl, rfl, trivial⟩; clear hE22
  refine p_tn ?_
  refine c_cut1 (fun a' w' => (0 ≤ ((F_Model_truths_L1 mp2 wp (Int.toNat ((mp2.length : Int) - 0) + 1) 0 0).2)) ∧ (((F_Model_truths_L1 mp2 wp (Int.toNat ((mp2.length : Int) - 0) + 1) 0 0).2) ≤ (mp2.length : Int)) ∧ E a' 25 [(1, .int .i64 wp), (5, .int .i64 ((F_Model_truths_L1 mp2 wp (Int.toNat ((mp2.length : Int) - 0) + 1) 0 0).1)), (9, .slice mp2A mp2.length mp2C), (10, .int .i64 (mp2.length : Int)), (11, .int .i64 ((F_Model_truths_L1 mp2 wp (Int.toNat ((mp2.length : Int) - 0) + 1) 0 0).2))] ∧ St w w' [.blk b3 #[.int .i64 mp0, .slice mp1A mp1.length mp1C, .slice mp2A mp2.length mp2C] 39, .rd 1 mp2A mp2.length mp2C mp2, .rd 1 mp1A mp1.length mp1C mp1]) ?_ ?_
  ·
    refine wp_block ?_
    refine c_loop (fun r a' w' => ∃ mask5 : Int, ∃ t11 : Int, F_Model_truths_L1 mp2 wp r mask5 t11 = F_Model_truths_L1 mp2 wp (Int.toNat ((mp2.length : Int) - 0) + 1) 0 0 ∧ Int.toNat ((mp2.length : Int) - t11) < r ∧ (0 ≤ t11) ∧ (t11 ≤ (mp2.length : Int)) ∧ E a' 25 [(1, .int .i64 wp), (5, .int .i64 mask5), (9, .slice mp2A mp2.length mp2C), (10, .int .i64 (mp2.length : Int)), (11, .int .i64 t11)] ∧ St w w' [.blk b3 #[.int .i64 mp0, .slice mp1A mp1.length mp1C, .slice mp2A mp2.length mp2C] 39, .rd 1 mp2A mp2.length mp2C mp2, .rd 1 mp1A mp1.length mp1C mp1]) (r := (Int.toNat ((mp2.length : Int) - 0) + 1)) ?_ ?_
    · exact ⟨0, 0, rfl, Nat.lt_succ_self _, (by first | omega | (simp only [List.length_append, List.length_cons, List.length_nil, sI_len, cond_true, cond_false]; omega) | (simp only [List.length_append, List.length_cons, List.length_nil, sI_len, cond_eq_ite, apply_ite List.length]; split <;> simp only [List.length_append, List.length_cons, List.length_nil, sI_len] <;> omega) | grind), (by first | omega | (simp only [List.length_append, List.length_cons, List.length_nil, sI_len, cond_true, cond_false]; omega) | (simp only [List.length_append, List.length_cons, List.length_nil, sI_len, cond_eq_ite, apply_ite List.length]; split <;> simp only [List.length_append, List.length_cons, List.length_nil, sI_len] <;> omega) | grind), (hE23.sub (L' := [(1, .int .i64 wp), (5, .int .i64 0), (9, .slice mp2A mp2.length mp2C), (10, .int .i64 (mp2.length : Int)), (11, .int .i64 0)]) ⟨rfl, rfl, rfl, rfl, rfl, trivial⟩), (St.pick (Γ' := [.blk b3 #[.int .i64 mp0, .slice mp1A mp1.length mp1C, .slice mp2A mp2.length mp2C] 39, .rd 1 mp2A mp2.length mp2C mp2, .rd 1 mp1A mp1.length mp1C mp1]) hS7 [0, 1, 2] (by decide) rfl)⟩
    ·
      clear hE23 hS7
      rintro r33 a25 w26 ⟨mask5, t11, hT29, hr30, hi31, hi32, hE27, hS28⟩
      obtain ⟨r33, rfl⟩ : ∃ r', r33 = r' + 1 := ⟨r33 - 1, by omega⟩
      refine c_seq ?_
      refine c_reg ?_
      refine q_step (v := .bool (decide (t11 < (mp2.length : Int)))) hE27 (y_lss rfl rfl) rfl rfl rfl ?_; intro a34 hE35; clear hE27
      refine c_nil ?_
      have hE36 := hE35.sub (L' := [(1, .int .i64 wp), (5, .int .i64 mask5), (9, .slice mp2A mp2.length mp2C), (10, .int .i64 (mp2.length : Int)), (11, .int .i64 t11), (12, .bool (decide (t11 < (mp2.length : Int))))]) ⟨rfl, rfl, rfl, rfl, rfl, rfl, trivial⟩; clear hE35
      refine p_tn ?_
      refine c_seq ?_
      refine c_cond hE36 rfl (fun ht37 => ?_) (fun ht37 => ?_)
      ·
        have hp38 := of_decide_eq_true ht37
        have hE39 := hE36; rw [ht37] at hE39; clear hE36
        refine wp_skip ?_
        refine p_tn ?_
        refine c_cut (fun a' w' => E a' 25 [(1, .int .i64 wp), (5, .int .i64 (bif (F_has (gI mp2 t11) wp) then orI mask5 (shlI 1 t11) else mask5)), (9, .slice mp2A mp2.length mp2C), (10, .int .i64 (mp2.length : Int)), (11, .int .i64 t11)] ∧ St w w' [.rd 1 mp1A mp1.length mp1C mp1, .rd 1 mp2A mp2.length mp2C mp2, .blk b3 #[.int .i64 mp0, .slice mp1A mp1.length mp1C, .slice mp2A mp2.length mp2C] 39]) ?_ ?_
        ·
          refine wp_block ?_
          refine c_seq ?_
          refine c_reg ?_
          refine q_step (v := .int .i64 t11) hE39 (y_move rfl) rfl rfl rfl ?_; intro a40 hE41; clear hE39
          refine q_step (v := .pointer (some (adr mp2A (Int.toNat t11)))) hE41 (y_idx (by kernel_rfl) (fun _ => by kernel_rfl) rfl rfl (RdS.isS (m := t11) (St.rdR (i := 1) hS28 rfl) (by omega) (by omega)) (by omega) (by omega) (Nat.mul_one _).symm) rfl rfl rfl ?_; intro a42 hE43; clear hE41
          refine q_step (v := .int .i64 (gI mp2 t11)) hE43 (y_load (fun _ => by kernel_rfl) rfl (RdS.elt (St.rdR (i := 1) hS28 rfl) (by omega) (by omega))) rfl rfl rfl ?_; intro a44 hE45; clear hE43
          refine q_step (v := .int .i64 t11) hE45 (y_assign rfl) rfl rfl rfl ?_; intro a46 hE47; clear hE45
          refine q_step (v := .int .i64 (gI mp2 t11)) hE47 (y_assign rfl) rfl rfl rfl ?_; intro a48 hE49; clear hE47
          refine c_nil ?_
          have hE50 := hE49.sub (L' := [(1, .int .i64 wp), (5, .int .i64 mask5), (6, .int .i64 t11), (7, .int .i64 (gI mp2 t11)), (9, .slice mp2A mp2.length mp2C), (10, .int .i64 (mp2.length : Int)), (11, .int .i64 t11)]) ⟨rfl, rfl, rfl, rfl, rfl, rfl, rfl, trivial⟩; clear hE49
          refine p_tn ?_
          refine c_seq ?_
          refine c_reg ?_
          refine q_step (v := .int .i64 (gI mp2 t11)) hE50 (y_move rfl) rfl rfl rfl ?_; intro a51 hE52; clear hE50
          refine q_step (v := .int .i64 wp) hE52 (y_move rfl) rfl rfl rfl ?_; intro a53 hE54; clear hE52
          refine l_step hE54 rfl (l_call (f := 147) (argv := [.int .i64 (gI mp2 t11), .int .i64 wp]) hE54 (fun _ => cf_has _ _) rfl rfl (c_has (gI mp2 t11) wp w26 (by omega)) ?_)
          rintro _ _ ⟨rfl, rfl⟩ a57 hE58; clear hE54
          refine c_nil ?_
          have hE61 := hE58.sub (L' := [(1, .int .i64 wp), (5, .int .i64 mask5), (6, .int .i64 t11), (9, .slice mp2A mp2.length mp2C), (10, .int .i64 (mp2.length : Int)), (11, .int .i64 t11), (18, .bool (F_has (gI mp2 t11) wp))]) ⟨rfl, rfl, rfl, rfl, rfl, rfl, rfl, trivial⟩; clear hE58
          refine p_tn ?_
          refine c_cond hE61 rfl (fun ht62 => ?_) (fun ht62 => ?_)
          ·
            have hE63 := hE61; rw [ht62] at hE63; clear hE61
            refine c_reg ?_
            refine q_step (v := .int .i64 mask5) hE63 (y_move rfl) rfl rfl rfl ?_; intro a64 hE65; clear hE63
            refine q_step (v := .int .i64 t11) hE65 (y_move rfl) rfl rfl rfl ?_; intro a66 hE67; clear hE65
            refine q_step (v := .int .i64 (shlI 1 t11)) hE67 (y_shl rfl rfl (by omega)) rfl rfl rfl ?_; intro a68 hE69; clear hE67
            refine q_step (v := .int .i64 (orI mask5 (shlI 1 t11))) hE69 (y_or rfl rfl) rfl rfl rfl ?_; intro a70 hE71; clear hE69
            refine q_step (v := .int .i64 (orI mask5 (shlI 1 t11))) hE71 (y_assign rfl) rfl rfl rfl ?_; intro a72 hE73; clear hE71
            refine c_nil ?_
            have hE74 := hE73.sub (L' := [(1, .int .i64 wp), (5, .int .i64 (orI mask5 (shlI 1 t11))), (9, .slice mp2A mp2.length mp2C), (10, .int .i64 (mp2.length : Int)), (11, .int .i64 t11)]) ⟨rfl, rfl, rfl, rfl, rfl, trivial⟩; clear hE73
            refine p_bn ?_
            refine p_tn ?_
            have hE75 := hE74.sub (L' := [(1, .int .i64 wp), (5, .int .i64 (orI mask5 (shlI 1 t11))), (9, .slice mp2A mp2.length mp2C), (10, .int .i64 (mp2.length : Int)), (11, .int .i64 t11)]) ⟨rfl, rfl, rfl, rfl, rfl, trivial⟩
            have hS76 := (St.pick (Γ' := [.rd 1 mp1A mp1.length mp1C mp1, .rd 1 mp2A mp2.length mp2C mp2, .blk b3 #[.int .i64 mp0, .slice mp1A mp1.length mp1C, .slice mp2A mp2.length mp2C] 39]) hS28 [2, 1, 0] (by decide) rfl)
            exact ⟨(by rw [ht62]; exact hE75), hS76⟩
          ·
            have hE77 := hE61; rw [ht62] at hE77; clear hE61
            refine wp_skip ?_
            refine p_bn ?_
            refine p_tn ?_
            have hE78 := hE77.sub (L' := [(1, .int .i64 wp), (5, .int .i64 mask5), (9, .slice mp2A mp2.length mp2C), (10, .int .i64 (mp2.length : Int)), (11, .int .i64 t11)]) ⟨rfl, rfl, rfl, rfl, rfl, trivial⟩
            have hS79 := (St.pick (Γ' := [.rd 1 mp1A mp1.length mp1C mp1, .rd 1 mp2A mp2.length mp2C mp2, .blk b3 #[.int .i64 mp0, .slice mp1A mp1.length mp1C, .slice mp2A mp2.length mp2C] 39]) hS28 [2, 1, 0] (by decide) rfl)
            exact ⟨(by rw [ht62]; exact hE78), hS79⟩
        ·
          rintro a80 w81 ⟨hE82, hS83⟩; clear hE39 hS28
          refine c_reg ?_
          refine q_step (v := .int .i64 (t11 + 1)) hE82 (y_add rfl rfl ⟨(by omega), (by omega)⟩) rfl rfl rfl ?_; intro a84 hE85; clear hE82
          refine q_step (v := .int .i64 (t11 + 1)) hE85 (y_move rfl) rfl rfl rfl ?_; intro a86 hE87; clear hE85
          refine c_nil ?_
          have hE88 := hE87.sub (L' := [(1, .int .i64 wp), (5, .int .i64 (bif (F_has (gI mp2 t11) wp) then orI mask5 (shlI 1 t11) else mask5)), (9, .slice mp2A mp2.length mp2C), (10, .int .i64 (mp2.length : Int)), (11, .int .i64 (t11 + 1))]) ⟨rfl, rfl, rfl, rfl, rfl, trivial⟩; clear hE87
          refine p_tn ⟨r33, Nat.lt_succ_self _, bif (F_has (gI mp2 t11) wp) then orI mask5 (shlI 1 t11) else mask5, t11 + 1, (hT29.symm.trans (show F_Model_truths_L1b mp2 wp (F_Model_truths_L1 mp2 wp r33) mask5 t11 = F_Model_truths_L1 mp2 wp r33 (bif (F_has (gI mp2 t11) wp) then orI mask5 (shlI 1 t11) else mask5) (t11 + 1) by unfold F_Model_truths_L1b; rw [ht37]; first | done | rfl)).symm, (by omega), (by first | omega | (simp only [List.length_append, List.length_cons, List.length_nil, sI_len, cond_true, cond_false]; omega) | (simp only [List.length_append, List.length_cons, List.length_nil, sI_len, cond_eq_ite, apply_ite List.length]; split <;> simp only [List.length_append, List.length_cons, List.length_nil, sI_len] <;> omega) | grind), (by first | omega | (simp only [List.length_append, List.length_cons, List.length_nil, sI_len, cond_true, cond_false]; omega) | (simp only [List.length_append, List.length_cons, List.length_nil, sI_len, cond_eq_ite, apply_ite List.length]; split <;> simp only [List.length_append, List.length_cons, List.length_nil, sI_len] <;> omega) | grind), (hE88.sub (L' := [(1, .int .i64 wp), (5, .int .i64 (bif (F_has (gI mp2 t11) wp) then orI mask5 (shlI 1 t11) else mask5)), (9, .slice mp2A mp2.length mp2C), (10, .int .i64 (mp2.length : Int)), (11, .int .i64 (t11 + 1))]) ⟨rfl, rfl, rfl, rfl, rfl, trivial⟩), (St.pick (Γ' := [.blk b3 #[.int .i64 mp0, .slice mp1A mp1.length mp1C, .slice mp2A mp2.length mp2C] 39, .rd 1 mp2A mp2.length mp2C mp2, .rd 1 mp1A mp1.length mp1C mp1]) hS83 [2, 1, 0] (by decide) rfl)⟩
      ·
        have hp89 := of_decide_eq_false ht37
        have hE90 := hE36; rw [ht37] at hE90; clear hE36
        refine wp_exit ?_
        refine p_te ?_
        have hX91 : F_Model_truths_L1 mp2 wp (Int.toNat ((mp2.length : Int) - 0) + 1) 0 0 = (mask5, t11) := hT29.symm.trans (show F_Model_truths_L1b mp2 wp (F_Model_truths_L1 mp2 wp r33) mask5 t11 = (mask5, t11) by unfold F_Model_truths_L1b; rw [ht37]; first | done | rfl)
        refine p_te (p_be (p_tn ?_))
        exact ⟨(by rw [hX91]; exact (show 0 ≤ t11 from (by first | omega | (simp only [List.length_append, List.length_cons, List.length_nil, sI_len, cond_true, cond_false]; omega) | (simp only [List.length_append, List.length_cons, List.length_nil, sI_len, cond_eq_ite, apply_ite List.length]; split <;> simp only [List.length_append, List.length_cons, List.length_nil, sI_len] <;> omega) | grind))), (by rw [hX91]; exact (show t11 ≤ (mp2.length : Int) from (by first | omega | (simp only [List.length_append, List.length_cons, List.length_nil, sI_len, cond_true, cond_false]; omega) | (simp only [List.length_append, List.length_cons, List.length_nil, sI_len, cond_eq_ite, apply_ite List.length]; split <;> simp only [List.length_append, List.length_cons, List.length_nil, sI_len] <;> omega) | grind))), (by rw [hX91]; exact (hE90.sub (L' := [(1, .int .i64 wp), (5, .int .i64 mask5), (9, .slice mp2A mp2.length mp2C), (10, .int .i64 (mp2.length : Int)), (11, .int .i64 t11)]) ⟨rfl, rfl, rfl, rfl, rfl, trivial⟩)), (St.pick (Γ' := [.blk b3 #[.int .i64 mp0, .slice mp1A mp1.length mp1C, .slice mp2A mp2.length mp2C] 39, .rd 1 mp2A mp2.length mp2C mp2, .rd 1 mp1A mp1.length mp1C mp1]) hS28 [0, 1, 2] (by decide) rfl)⟩
  ·
    rintro a92 w93 ⟨hi97, hi98, hE94, hS95⟩; clear hE23 hS7
    refine p_tn ?_
    refine c_seq ?_
    refine c_reg ?_
    refine q_step (v := .int .i64 ((F_Model_truths_L1 mp2 wp (Int.toNat ((mp2.length : Int) - 0) + 1) 0 0).1)) hE94 (y_move rfl) rfl rfl rfl ?_; intro a99 hE100; clear hE94
    refine q_step (v := .int .i64 ((F_Model_truths_L1 mp2 wp (Int.toNat ((mp2.length : Int) - 0) + 1) 0 0).1)) hE100 (y_assign rfl) rfl rfl rfl ?_; intro a101 hE102; clear hE100
    refine c_nil ?_
    have hE103 := hE102.sub (L' := [(4, .int .i64 ((F_Model_truths_L1 mp2 wp (Int.toNat ((mp2.length : Int) - 0) + 1) 0 0).1))]) ⟨rfl, trivial⟩; clear hE102
    refine p_tn ?_
    refine wp_ret ?_
    have hF : F_Model_truths mp0 mp1 mp2 wp = (F_Model_truths_L1 mp2 wp (Int.toNat ((mp2.length : Int) - 0) + 1) 0 0).1 := by unfold F_Model_truths; rfl
    refine c_ret1 hE103 rfl rfl ?_
    exact ⟨(by rw [hF]; first | done | rfl), hS95.ext⟩

theorem truths_bits {mp0 : Int} {mp1 mp2 : List Int} (x : Int) (h6 : (mp2.length : Int) = 6) : Mk 6 (F_Model_truths mp0 mp1 mp2 x) ∧ ∀ j, (tb (F_Model_truths mp0 mp1 mp2 x) j = true ↔ j < 6 ∧ F_has (gI mp2 (j : Int)) x = true) := by
  have e : F_Model_truths mp0 mp1 mp2 x = (List.range 6).foldl (fun o (i : Nat) => bif F_has (gI mp2 (i : Int)) x then orI o (powI (i : Int)) else o) 0 := by
    unfold F_Model_truths
    rw [rangeLoop0 (mp2.length : Int) (by omega) (fun o i => bif F_has (gI mp2 i) x then orI o (shlI 1 i) else o) (F_Model_truths_L1 mp2 x) (fun _ _ _ => rfl), show (mp2.length : Int).toNat = 6 by omega]
    apply foldl_ext'
    intro j hj o
    have hj := List.mem_range.1 hj
    rw [pow_shl (i := (j : Int)) (by omega) (by omega)]
  rw [e]
  obtain ⟨h1, h2⟩ := fold_or (n := 6) (by omega) (fun i => F_has (gI mp2 (i : Int)) x) (fun i => powI (i : Int)) (List.range 6) 0 (Mk.zero 6) (fun i hi _ => Mk.pow (List.mem_range.1 hi))
  refine ⟨h1, fun j => (h2 j).trans ⟨?_, ?_⟩⟩
  · rintro (h | ⟨i, hi, h3, h4⟩)
    · rw [tb_zero] at h; cases h
    · rw [tb_pow] at h4
      have := of_decide_eq_true h4
      subst this
      exact ⟨List.mem_range.1 hi, h3⟩
  · rintro ⟨h3, h4⟩
    exact .inr ⟨j, List.mem_range.2 h3, h4, by rw [tb_pow]; simp⟩
theorem atoms_all {mp0 np0 : Int} {mp1 mp2 np1 np2 : List Int} (x y : Int) (hm : (mp2.length : Int) = 6) : F_l07Atoms mp0 mp1 mp2 np0 np1 np2 x y = true ↔ ∀ j : Nat, j < 6 → F_has (gI mp2 (j : Int)) x = F_has (gI np2 (j : Int)) y := by
  unfold F_l07Atoms
  rw [show Int.toNat ((mp2.length : Int) - 0) = 6 by omega, allLoop (F_l07Atoms_L1 mp2 np2 x y) (mp2.length : Int) (fun i => (F_l01Bit (gI mp2 i) x) != (F_l01Bit (gI np2 i) y)) (fun _ _ => rfl) 6 0 (by omega), List.all_eq_true]
  constructor
  · intro h j hj
    have := h j (List.mem_range.2 hj)
    rw [show (0 : Int) + (j : Int) = (j : Int) by omega] at this
    have h2 : F_l01Bit (gI mp2 (j : Int)) x = F_l01Bit (gI np2 (j : Int)) y := by simpa using this
    exact h2
  · intro h j hj
    rw [show (0 : Int) + (j : Int) = (j : Int) by omega]
    have h2 : F_l01Bit (gI mp2 (j : Int)) x = F_l01Bit (gI np2 (j : Int)) y := h j (List.mem_range.1 hj)
    simp [h2]
theorem atoms_eq {mp0 np0 : Int} {mp1 mp2 np1 np2 : List Int} (x y : Int) (hm : (mp2.length : Int) = 6) (hn : (np2.length : Int) = 6) : F_l07Atoms mp0 mp1 mp2 np0 np1 np2 x y = decide (F_Model_truths mp0 mp1 mp2 x = F_Model_truths np0 np1 np2 y) := by
  rw [Bool.eq_iff_iff, atoms_all x y hm, decide_eq_true_iff]
  obtain ⟨a1, a2⟩ := truths_bits (mp0 := mp0) (mp1 := mp1) x hm
  obtain ⟨b1, b2⟩ := truths_bits (mp0 := np0) (mp1 := np1) y hn
  constructor
  · intro h
    apply tb_ext a1.1 b1.1
    intro j
    rw [Bool.eq_iff_iff, a2 j, b2 j]
    constructor
    · rintro ⟨h1, h2⟩; exact ⟨h1, by rw [← h j h1]; exact h2⟩
    · rintro ⟨h1, h2⟩; exact ⟨h1, by rw [h j h1]; exact h2⟩
  · intro h j hj
    rw [Bool.eq_iff_iff]
    have e := a2 j
    rw [h] at e
    have e2 := e.symm.trans (b2 j)
    constructor
    · intro h1; exact (e2.1 ⟨hj, h1⟩).2
    · intro h1; exact (e2.2 ⟨hj, h1⟩).2

def F_IsModelMorphism_k1 (xp : Int) (cap00 : Int) (cap01 : List Int) (cap02 : List Int) (cap10 : Int) (cap11 : List Int) (cap12 : List Int) (cap2 : List Int) : Bool :=
  decide ((F_Model_truths cap00 cap01 cap02 xp) = (F_Model_truths cap10 cap11 cap12 (gI cap2 xp)))
theorem cf_IsModelMorphism_k1 (args : Array Value) (w : World) : (callFunc 74 args).run Try.prog w = .ok (.enter 74 args) w := by kernel_rfl
set_option maxRecDepth 100000 in
theorem c_IsModelMorphism_k1 (xp : Int) (cap0B : Nat) (cap00 : Int) (cap01A : Option Addr) (cap01N cap01C : Nat) (cap01 : List Int) (cap02A : Option Addr) (cap02N cap02C : Nat) (cap02 : List Int) (cap1B : Nat) (cap10 : Int) (cap11A : Option Addr) (cap11N cap11C : Nat) (cap11 : List Int) (cap12A : Option Addr) (cap12N cap12C : Nat) (cap12 : List Int) (cap2B : Nat) (cap2A : Option Addr) (cap2N cap2C : Nat) (cap2 : List Int) (w : World) (cap01R : RdS w 1 cap01A cap01N cap01C cap01) (cap02R : RdS w 1 cap02A cap02N cap02C cap02) (cap0H : w.heap[cap0B]? = some (.cells #[.int .i64 cap00, .slice cap01A cap01N cap01C, .slice cap02A cap02N cap02C] 39 (0, 0))) (cap11R : RdS w 1 cap11A cap11N cap11C cap11) (cap12R : RdS w 1 cap12A cap12N cap12C cap12) (cap1H : w.heap[cap1B]? = some (.cells #[.int .i64 cap10, .slice cap11A cap11N cap11C, .slice cap12A cap12N cap12C] 39 (0, 0))) (cap2R : RdS w 1 cap2A cap2N cap2C cap2) (cap2H : w.heap[cap2B]? = some (.cells #[.slice cap2A cap2N cap2C] 22 (0, 0))) (hx : 0 ≤ xp ∧ xp < cap00) (hil : (cap2.length : Int) = cap00) (h6 : (cap02.length : Int) = 6) (h6n : (cap12.length : Int) = 6) (him : ∀ m : Int, 0 ≤ m → m < (cap2.length : Int) → 0 ≤ gI cap2 m ∧ gI cap2 m < cap10) :
    Calls Try.prog 74 #[.int .i64 xp, .pointer (some ⟨cap0B, 0, none⟩), .pointer (some ⟨cap1B, 0, none⟩), .pointer (some ⟨cap2B, 0, none⟩)] w (Ret fun v w' => v = .bool (F_IsModelMorphism_k1 xp cap00 cap01 cap02 cap10 cap11 cap12 cap2) ∧ Ext w w') := by
  obtain rfl : cap01N = cap01.length := cap01R.len1.symm
  have cap01Le := cap01R.le
  obtain rfl : cap02N = cap02.length := cap02R.len1.symm
  have cap02Le := cap02R.le
  obtain rfl : cap11N = cap11.length := cap11R.len1.symm
  have cap11Le := cap11R.le
  obtain rfl : cap12N = cap12.length := cap12R.len1.symm
  have cap12Le := cap12R.le
  obtain rfl : cap2N = cap2.length := cap2R.len1.symm
  have cap2Le := cap2R.le
  have hm1 := him xp (by omega) (by omega)
  have hS := St.nil w
  have hS1 := St.rd0 hS rfl cap01R; clear hS
  have hS2 := St.rd0 hS1 rfl cap02R; clear hS1
  have hS3 := St.rb0 hS2 rfl cap0H; clear hS2
  have hS4 := St.rd0 hS3 rfl cap11R; clear hS3
  have hS5 := St.rd0 hS4 rfl cap12R; clear hS4
  have hS6 := St.rb0 hS5 rfl cap1H; clear hS5
  have hS7 := St.rd0 hS6 rfl cap2R; clear hS6
  have hS8 := St.rb0 hS7 rfl cap2H; clear hS7
  refine enter (args := [.int .i64 xp, .pointer (some ⟨cap0B, 0, none⟩), .pointer (some ⟨cap1B, 0, none⟩), .pointer (some ⟨cap2B, 0, none⟩)]) Try.func74 rfl rfl ?_
  rw [Try.ntmps74]; intro a hE
  have hE := hE.sub (L' := [(0, .int .i64 xp), (1, .pointer (some ⟨cap0B, 0, none⟩)), (2, .pointer (some ⟨cap1B, 0, none⟩)), (3, .pointer (some ⟨cap2B, 0, none⟩))]) ⟨rfl, rfl, rfl, rfl, trivial⟩
  refine c_seq ?_
  refine c_reg ?_
  refine q_step (v := .bool false) hE (y_assign rfl) rfl rfl rfl ?_; intro a9 hE10; clear hE
  refine c_nil ?_
  have hE11 := hE10.sub (L' := [(0, .int .i64 xp), (1, .pointer (some ⟨cap0B, 0, none⟩)), (2, .pointer (some ⟨cap1B, 0, none⟩)), (3, .pointer (some ⟨cap2B, 0, none⟩))]) ⟨rfl, rfl, rfl, rfl, trivial⟩; clear hE10
  refine p_tn ?_
  refine c_seq ?_
  refine d_start (fun w' => w'.heap[cap0B]? = some (.cells #[.int .i64 cap00, .slice cap01A cap01.length cap01C, .slice cap02A cap02.length cap02C] 39 (0, 0)) ∧ w'.heap[cap1B]? = some (.cells #[.int .i64 cap10, .slice cap11A cap11.length cap11C, .slice cap12A cap12.length cap12C] 39 (0, 0)) ∧ w'.cell? ⟨cap2B, 0, none⟩ = some (.slice cap2A cap2.length cap2C) ∧ w'.cell? (adr cap2A (Int.toNat xp)) = some (.int .i64 (gI cap2 xp)) ∧ True) [0, 3, 4, 7] 11 (by kernel_rfl) rfl ?_
  intro w12 he13; have hS14 := St.go hS8 he13; clear hS8
  refine d_take (v := .agg #[.int .i64 cap00, .slice cap01A cap01.length cap01C, .slice cap02A cap02.length cap02C]) 0 rfl hE11 ⟨(St.rowR (i := 5) hS14 rfl _ (Ext.refl _)), (St.rowR (i := 2) hS14 rfl _ (Ext.refl _)), (St.cellR (i := 0) hS14 rfl rfl _ (Ext.refl _)), (RdS.elt (St.rdR (i := 1) hS14 rfl) (by omega) (by omega) _ (Ext.refl _)), trivial⟩ (y_loadS Try.underlying39 rfl (by kernel_rfl) rfl (fun _ h => h.1)) rfl rfl (by kernel_rfl) (by kernel_rfl) (by kernel_rfl) rfl rfl (fun _ _ _ h => h) ?_; intro a15 hE16; clear hE11
  refine d_pure (v := .int .i64 xp) 1 rfl hE16 (y_move rfl) rfl (by kernel_rfl) (by kernel_rfl) (by kernel_rfl) rfl rfl (fun _ _ _ h => h) ?_; intro a17 hE18; clear hE16
  refine d_take (v := .agg #[.int .i64 cap10, .slice cap11A cap11.length cap11C, .slice cap12A cap12.length cap12C]) 3 rfl hE18 ⟨(St.rowR (i := 5) hS14 rfl _ (Ext.refl _)), (St.rowR (i := 2) hS14 rfl _ (Ext.refl _)), (St.cellR (i := 0) hS14 rfl rfl _ (Ext.refl _)), (RdS.elt (St.rdR (i := 1) hS14 rfl) (by omega) (by omega) _ (Ext.refl _)), trivial⟩ (y_loadS Try.underlying39 rfl (by kernel_rfl) rfl (fun _ h => h.2.1)) rfl rfl (by kernel_rfl) (by kernel_rfl) (by kernel_rfl) rfl rfl (fun _ _ _ h => h) ?_; intro a19 hE20; clear hE18
  refine d_take (v := .slice cap2A cap2.length cap2C) 4 rfl hE20 ⟨(St.rowR (i := 5) hS14 rfl _ (Ext.refl _)), (St.rowR (i := 2) hS14 rfl _ (Ext.refl _)), (St.cellR (i := 0) hS14 rfl rfl _ (Ext.refl _)), (RdS.elt (St.rdR (i := 1) hS14 rfl) (by omega) (by omega) _ (Ext.refl _)), trivial⟩ (y_load (fun _ => by kernel_rfl) rfl (fun _ h => h.2.2.1)) rfl rfl (by kernel_rfl) (by kernel_rfl) (by kernel_rfl) rfl rfl (fun _ _ _ h => h) ?_; intro a21 hE22; clear hE20
  refine d_pure (v := .int .i64 xp) 5 rfl hE22 (y_move rfl) rfl (by kernel_rfl) (by kernel_rfl) (by kernel_rfl) rfl rfl (fun _ _ _ h => h) ?_; intro a23 hE24; clear hE22
  refine d_pure (v := .pointer (some (adr cap2A (Int.toNat xp)))) 6 rfl hE24 (y_idx (by kernel_rfl) (fun _ => by kernel_rfl) rfl rfl (RdS.isS (m := xp) (St.rdR (i := 1) hS14 rfl) (by omega) (by omega)) (by omega) (by omega) (Nat.mul_one _).symm) rfl (by kernel_rfl) (by kernel_rfl) (by kernel_rfl) rfl rfl (fun _ _ _ h => h) ?_; intro a25 hE26; clear hE24
  refine d_take (v := .int .i64 (gI cap2 xp)) 7 rfl hE26 ⟨(St.rowR (i := 5) hS14 rfl _ (Ext.refl _)), (St.rowR (i := 2) hS14 rfl _ (Ext.refl _)), (St.cellR (i := 0) hS14 rfl rfl _ (Ext.refl _)), (RdS.elt (St.rdR (i := 1) hS14 rfl) (by omega) (by omega) _ (Ext.refl _)), trivial⟩ (y_load (fun _ => by kernel_rfl) rfl (fun _ h => h.2.2.2.1)) rfl rfl (by kernel_rfl) (by kernel_rfl) (by kernel_rfl) rfl rfl (fun _ _ _ h => h) ?_; intro a27 hE28; clear hE26
  refine d_only 2 (by kernel_rfl) rfl hE28 rfl (l_call (f := 75) (argv := [.agg #[.int .i64 cap00, .slice cap01A cap01.length cap01C, .slice cap02A cap02.length cap02C], .int .i64 xp]) hE28 (fun _ => cf_Model_truths _ _) rfl rfl (c_Model_truths cap00 cap01A cap01.length cap01C cap01 cap02A cap02.length cap02C cap02 xp w12 (St.rdR (i := 7) hS14 rfl) (St.rdR (i := 6) hS14 rfl) (by omega) (by omega)) ?_)
  rintro _ w30 ⟨rfl, he34⟩ a31 hE32; clear hE28
  have hS33 := St.go hS14 he34; clear hS14
  refine ⟨fun _ _ => ⟨(St.rowR (i := 5) hS33 rfl _ (Ext.refl _)), (St.rowR (i := 2) hS33 rfl _ (Ext.refl _)), (St.cellR (i := 0) hS33 rfl rfl _ (Ext.refl _)), (RdS.elt (St.rdR (i := 1) hS33 rfl) (by omega) (by omega) _ (Ext.refl _)), trivial⟩, ?_⟩
  refine d_only 8 (by kernel_rfl) rfl hE32 rfl (l_call (f := 75) (argv := [.agg #[.int .i64 cap10, .slice cap11A cap11.length cap11C, .slice cap12A cap12.length cap12C], .int .i64 (gI cap2 xp)]) hE32 (fun _ => cf_Model_truths _ _) rfl rfl (c_Model_truths cap10 cap11A cap11.length cap11C cap11 cap12A cap12.length cap12C cap12 (gI cap2 xp) w30 (St.rdR (i := 4) hS33 rfl) (St.rdR (i := 3) hS33 rfl) (by omega) (by omega)) ?_)
  rintro _ w36 ⟨rfl, he40⟩ a37 hE38; clear hE32
  have hS39 := St.go hS33 he40; clear hS33
  refine ⟨fun _ _ => ⟨(St.rowR (i := 5) hS39 rfl _ (Ext.refl _)), (St.rowR (i := 2) hS39 rfl _ (Ext.refl _)), (St.cellR (i := 0) hS39 rfl rfl _ (Ext.refl _)), (RdS.elt (St.rdR (i := 1) hS39 rfl) (by omega) (by omega) _ (Ext.refl _)), trivial⟩, ?_⟩
  refine d_pure (v := .bool (decide ((F_Model_truths cap00 cap01 cap02 xp) = (F_Model_truths cap10 cap11 cap12 (gI cap2 xp))))) 9 rfl hE38 (y_eql rfl rfl) rfl (by kernel_rfl) (by kernel_rfl) (by kernel_rfl) rfl rfl (fun _ _ _ h => h) ?_; intro a41 hE42; clear hE38
  refine d_pure (v := .bool (decide ((F_Model_truths cap00 cap01 cap02 xp) = (F_Model_truths cap10 cap11 cap12 (gI cap2 xp))))) 10 rfl hE42 (y_assign rfl) rfl (by kernel_rfl) (by kernel_rfl) (by kernel_rfl) rfl rfl (fun _ _ _ h => h) ?_; intro a43 hE44; clear hE42
  refine d_done (by kernel_rfl) ?_
  have hE45 := hE44.sub (L' := [(5, .bool (decide ((F_Model_truths cap00 cap01 cap02 xp) = (F_Model_truths cap10 cap11 cap12 (gI cap2 xp)))))]) ⟨rfl, trivial⟩; clear hE44
  refine p_tn ?_
  refine wp_ret ?_
  have hF : F_IsModelMorphism_k1 xp cap00 cap01 cap02 cap10 cap11 cap12 cap2 = decide ((F_Model_truths cap00 cap01 cap02 xp) = (F_Model_truths cap10 cap11 cap12 (gI cap2 xp))) := by unfold F_IsModelMorphism_k1; rfl
  refine c_ret1 hE45 rfl rfl ?_
  exact ⟨(by rw [hF]; first | done | rfl), hS39.ext⟩

def F_IsModelMorphism (mp0 : Int) (mp1 : List Int) (mp2 : List Int) (np0 : Int) (np1 : List Int) (np2 : List Int) (images : List Int) : (Bool) × (Int) :=
  bif ((!(F_isModel mp0 mp1 mp2)) || ((!(F_isModel np0 np1 np2)) || (!(F_isMap mp0 mp1 np0 np1 images)))) then (false, 1) else (((F_isMorphism mp0 mp1 np0 np1 images) && (F_Frame_everyWorld mp0 mp1 (fun x0 => F_IsModelMorphism_k1 x0 mp0 mp1 mp2 np0 np1 np2 images))), 0)
theorem cf_IsModelMorphism (args : Array Value) (w : World) : (callFunc 25 args).run Try.prog w = .ok (.enter 25 args) w := by kernel_rfl
set_option maxRecDepth 100000 in
theorem c_IsModelMorphism (mp0 : Int) (mp1A : Option Addr) (mp1N mp1C : Nat) (mp1 : List Int) (mp2A : Option Addr) (mp2N mp2C : Nat) (mp2 : List Int) (np0 : Int) (np1A : Option Addr) (np1N np1C : Nat) (np1 : List Int) (np2A : Option Addr) (np2N np2C : Nat) (np2 : List Int) (imagesA : Option Addr) (imagesN imagesC : Nat) (images : List Int) (w : World) (mp1R : RdS w 1 mp1A mp1N mp1C mp1) (mp2R : RdS w 1 mp2A mp2N mp2C mp2) (np1R : RdS w 1 np1A np1N np1C np1) (np2R : RdS w 1 np2A np2N np2C np2) (imagesR : RdS w 1 imagesA imagesN imagesC images) :
    Calls Try.prog 25 #[.agg #[.int .i64 mp0, .slice mp1A mp1N mp1C, .slice mp2A mp2N mp2C], .agg #[.int .i64 np0, .slice np1A np1N np1C, .slice np2A np2N np2C], .slice imagesA imagesN imagesC] w (Ret fun v w' => v = .tuple #[.bool ((F_IsModelMorphism mp0 mp1 mp2 np0 np1 np2 images).1), .int .i64 ((F_IsModelMorphism mp0 mp1 mp2 np0 np1 np2 images).2)] ∧ Ext w w') := by
  obtain rfl : mp1N = mp1.length := mp1R.len1.symm
  have mp1Le := mp1R.le
  obtain rfl : mp2N = mp2.length := mp2R.len1.symm
  have mp2Le := mp2R.le
  obtain rfl : np1N = np1.length := np1R.len1.symm
  have np1Le := np1R.le
  obtain rfl : np2N = np2.length := np2R.len1.symm
  have np2Le := np2R.le
  obtain rfl : imagesN = images.length := imagesR.len1.symm
  have imagesLe := imagesR.le
  have hS := St.nil w
  have hS1 := St.rd0 hS rfl mp1R; clear hS
  have hS2 := St.rd0 hS1 rfl mp2R; clear hS1
  have hS3 := St.rd0 hS2 rfl np1R; clear hS2
  have hS4 := St.rd0 hS3 rfl np2R; clear hS3
  have hS5 := St.rd0 hS4 rfl imagesR; clear hS4
  refine enter (args := [.agg #[.int .i64 mp0, .slice mp1A mp1.length mp1C, .slice mp2A mp2.length mp2C], .agg #[.int .i64 np0, .slice np1A np1.length np1C, .slice np2A np2.length np2C], .slice imagesA images.length imagesC]) Try.func25 rfl rfl ?_
  rw [Try.ntmps25]; intro a hE
  have hE := hE.sub (L' := [(0, .agg #[.int .i64 mp0, .slice mp1A mp1.length mp1C, .slice mp2A mp2.length mp2C]), (1, .agg #[.int .i64 np0, .slice np1A np1.length np1C, .slice np2A np2.length np2C]), (2, .slice imagesA images.length imagesC)]) ⟨rfl, rfl, rfl, trivial⟩
  refine c_seq ?_
  refine c_reg ?_
  refine l_step hE rfl (l_box (v := .agg #[.int .i64 mp0, .slice mp1A mp1.length mp1C, .slice mp2A mp2.length mp2C]) (cs := #[.int .i64 mp0, .slice mp1A mp1.length mp1C, .slice mp2A mp2.length mp2C]) hS5 hE rfl rfl rfl ?_)
  intro b6 w7 hS10 he11 a8 hE9; clear hS5 hE
  refine l_step hE9 rfl (l_box (v := .agg #[.int .i64 np0, .slice np1A np1.length np1C, .slice np2A np2.length np2C]) (cs := #[.int .i64 np0, .slice np1A np1.length np1C, .slice np2A np2.length np2C]) hS10 hE9 rfl rfl rfl ?_)
  intro b12 w13 hS16 he17 a14 hE15; clear hS10 hE9
  refine l_step hE15 rfl (l_box (v := .slice imagesA images.length imagesC) (cs := #[.slice imagesA images.length imagesC]) hS16 hE15 rfl rfl rfl ?_)
  intro b18 w19 hS22 he23 a20 hE21; clear hS16 hE15
  refine q_step (v := .bool false) hE21 (y_assign rfl) rfl rfl rfl ?_; intro a24 hE25; clear hE21
  refine q_step (v := .int .i64 0) hE25 (y_assign rfl) rfl rfl rfl ?_; intro a26 hE27; clear hE25
  refine c_nil ?_
  have hE28 := hE27.sub (L' := [(3, .pointer (some ⟨b6, 0, none⟩)), (4, .pointer (some ⟨b12, 0, none⟩)), (5, .pointer (some ⟨b18, 0, none⟩))]) ⟨rfl, rfl, rfl, trivial⟩; clear hE27
  refine p_tn ?_
  refine c_seq ?_
  refine c_cut (fun a' w' => E a' 37 [(3, .pointer (some ⟨b6, 0, none⟩)), (4, .pointer (some ⟨b12, 0, none⟩)), (5, .pointer (some ⟨b18, 0, none⟩)), (24, .bool ((!(F_isModel mp0 mp1 mp2)) || ((!(F_isModel np0 np1 np2)) || (!(F_isMap mp0 mp1 np0 np1 images)))))] ∧ St w w' [.rd 1 imagesA images.length imagesC images, .blk b18 #[.slice imagesA images.length imagesC] 22, .rd 1 np1A np1.length np1C np1, .rd 1 np2A np2.length np2C np2, .blk b12 #[.int .i64 np0, .slice np1A np1.length np1C, .slice np2A np2.length np2C] 39, .rd 1 mp1A mp1.length mp1C mp1, .rd 1 mp2A mp2.length mp2C mp2, .blk b6 #[.int .i64 mp0, .slice mp1A mp1.length mp1C, .slice mp2A mp2.length mp2C] 39]) ?_ ?_
  ·
    refine c_reg ?_
    refine q_step (v := .agg #[.int .i64 mp0, .slice mp1A mp1.length mp1C, .slice mp2A mp2.length mp2C]) hE28 (y_loadS Try.underlying39 rfl (by kernel_rfl) rfl (St.row (i := 2) hS22 rfl)) rfl rfl rfl ?_; intro a29 hE30; clear hE28
    refine l_step hE30 rfl (l_call (f := 70) (argv := [.agg #[.int .i64 mp0, .slice mp1A mp1.length mp1C, .slice mp2A mp2.length mp2C]]) hE30 (fun _ => cf_isModel _ _) rfl rfl (c_isModel mp0 mp1A mp1.length mp1C mp1 mp2A mp2.length mp2C mp2 w19 (St.rdR (i := 7) hS22 rfl) (St.rdR (i := 6) hS22 rfl)) ?_)
    rintro _ w32 ⟨rfl, he36⟩ a33 hE34; clear hE30
    have hS35 := St.go hS22 he36; clear hS22
    refine q_step (v := .bool (!(F_isModel mp0 mp1 mp2))) hE34 (y_not rfl) rfl rfl rfl ?_; intro a37 hE38; clear hE34
    refine q_step (v := .bool (!(F_isModel mp0 mp1 mp2))) hE38 (y_move rfl) rfl rfl rfl ?_; intro a39 hE40; clear hE38
    rcases Bool.eq_false_or_eq_true (!(F_isModel mp0 mp1 mp2)) with hb41 | hb41
    ·
      have hE42 := hE40; rw [hb41] at hE42; clear hE40
      have ht43 := bn_t hb41
      refine q_skip hE42 rfl rfl rfl ?_; intro a44 hE45; clear hE42
      refine q_skip hE45 rfl rfl rfl ?_; intro a46 hE47; clear hE45
      refine q_skip hE47 rfl rfl rfl ?_; intro a48 hE49; clear hE47
      refine q_step (v := .bool true) hE49 (y_pick (b := true) rfl rfl) rfl rfl rfl ?_; intro a50 hE51; clear hE49
      refine q_step (v := .bool true) hE51 (y_move rfl) rfl rfl rfl ?_; intro a52 hE53; clear hE51
      refine q_skip hE53 rfl rfl rfl ?_; intro a54 hE55; clear hE53
      refine q_skip hE55 rfl rfl rfl ?_; intro a56 hE57; clear hE55
      refine q_skip hE57 rfl rfl rfl ?_; intro a58 hE59; clear hE57
      refine q_skip hE59 rfl rfl rfl ?_; intro a60 hE61; clear hE59
      refine q_skip hE61 rfl rfl rfl ?_; intro a62 hE63; clear hE61
      refine q_skip hE63 rfl rfl rfl ?_; intro a64 hE65; clear hE63
      refine q_skip hE65 rfl rfl rfl ?_; intro a66 hE67; clear hE65
      refine q_step (v := .bool true) hE67 (y_pick (b := true) rfl rfl) rfl rfl rfl ?_; intro a68 hE69; clear hE67
      refine c_nil ?_
      have hE70 := hE69.sub (L' := [(3, .pointer (some ⟨b6, 0, none⟩)), (4, .pointer (some ⟨b12, 0, none⟩)), (5, .pointer (some ⟨b18, 0, none⟩)), (24, .bool true)]) ⟨rfl, rfl, rfl, rfl, trivial⟩; clear hE69
      refine p_tn ?_
      have hE71 := hE70.sub (L' := [(3, .pointer (some ⟨b6, 0, none⟩)), (4, .pointer (some ⟨b12, 0, none⟩)), (5, .pointer (some ⟨b18, 0, none⟩)), (24, .bool true)]) ⟨rfl, rfl, rfl, rfl, trivial⟩
      have hS72 := (St.pick (Γ' := [.rd 1 imagesA images.length imagesC images, .blk b18 #[.slice imagesA images.length imagesC] 22, .rd 1 np1A np1.length np1C np1, .rd 1 np2A np2.length np2C np2, .blk b12 #[.int .i64 np0, .slice np1A np1.length np1C, .slice np2A np2.length np2C] 39, .rd 1 mp1A mp1.length mp1C mp1, .rd 1 mp2A mp2.length mp2C mp2, .blk b6 #[.int .i64 mp0, .slice mp1A mp1.length mp1C, .slice mp2A mp2.length mp2C] 39]) hS35 [3, 0, 5, 4, 1, 7, 6, 2] (by decide) rfl)
      exact ⟨(by rw [hb41]; exact hE71), hS72⟩
    ·
      have hE73 := hE40; rw [hb41] at hE73; clear hE40
      have ht74 := bn_f hb41
      have hp75 := isModel_t ht74
      refine q_step (v := .agg #[.int .i64 np0, .slice np1A np1.length np1C, .slice np2A np2.length np2C]) hE73 (y_loadS Try.underlying39 rfl (by kernel_rfl) rfl (St.row (i := 1) hS35 rfl)) rfl rfl rfl ?_; intro a76 hE77; clear hE73
      refine l_step hE77 rfl (l_call (f := 70) (argv := [.agg #[.int .i64 np0, .slice np1A np1.length np1C, .slice np2A np2.length np2C]]) hE77 (fun _ => cf_isModel _ _) rfl rfl (c_isModel np0 np1A np1.length np1C np1 np2A np2.length np2C np2 w32 (St.rdR (i := 5) hS35 rfl) (St.rdR (i := 4) hS35 rfl)) ?_)
      rintro _ w79 ⟨rfl, he83⟩ a80 hE81; clear hE77
      have hS82 := St.go hS35 he83; clear hS35
      refine q_step (v := .bool (!(F_isModel np0 np1 np2))) hE81 (y_not rfl) rfl rfl rfl ?_; intro a84 hE85; clear hE81
      refine q_step (v := .bool (!(F_isModel np0 np1 np2))) hE85 (y_pick (b := false) rfl rfl) rfl rfl rfl ?_; intro a86 hE87; clear hE85
      refine q_step (v := .bool (!(F_isModel np0 np1 np2))) hE87 (y_move rfl) rfl rfl rfl ?_; intro a88 hE89; clear hE87
      rcases Bool.eq_false_or_eq_true (!(F_isModel np0 np1 np2)) with hb90 | hb90
      ·
        have hE91 := hE89; rw [hb90] at hE91; clear hE89
        have ht92 := bn_t hb90
        refine q_skip hE91 rfl rfl rfl ?_; intro a93 hE94; clear hE91
        refine q_skip hE94 rfl rfl rfl ?_; intro a95 hE96; clear hE94
        refine q_skip hE96 rfl rfl rfl ?_; intro a97 hE98; clear hE96
        refine q_skip hE98 rfl rfl rfl ?_; intro a99 hE100; clear hE98
        refine q_skip hE100 rfl rfl rfl ?_; intro a101 hE102; clear hE100
        refine q_skip hE102 rfl rfl rfl ?_; intro a103 hE104; clear hE102
        refine q_skip hE104 rfl rfl rfl ?_; intro a105 hE106; clear hE104
        refine q_step (v := .bool true) hE106 (y_pick (b := true) rfl rfl) rfl rfl rfl ?_; intro a107 hE108; clear hE106
        refine c_nil ?_
        have hE109 := hE108.sub (L' := [(3, .pointer (some ⟨b6, 0, none⟩)), (4, .pointer (some ⟨b12, 0, none⟩)), (5, .pointer (some ⟨b18, 0, none⟩)), (24, .bool true)]) ⟨rfl, rfl, rfl, rfl, trivial⟩; clear hE108
        refine p_tn ?_
        have hE110 := hE109.sub (L' := [(3, .pointer (some ⟨b6, 0, none⟩)), (4, .pointer (some ⟨b12, 0, none⟩)), (5, .pointer (some ⟨b18, 0, none⟩)), (24, .bool true)]) ⟨rfl, rfl, rfl, rfl, trivial⟩
        have hS111 := (St.pick (Γ' := [.rd 1 imagesA images.length imagesC images, .blk b18 #[.slice imagesA images.length imagesC] 22, .rd 1 np1A np1.length np1C np1, .rd 1 np2A np2.length np2C np2, .blk b12 #[.int .i64 np0, .slice np1A np1.length np1C, .slice np2A np2.length np2C] 39, .rd 1 mp1A mp1.length mp1C mp1, .rd 1 mp2A mp2.length mp2C mp2, .blk b6 #[.int .i64 mp0, .slice mp1A mp1.length mp1C, .slice mp2A mp2.length mp2C] 39]) hS82 [3, 0, 5, 4, 1, 7, 6, 2] (by decide) rfl)
        exact ⟨(by rw [hb90, hb41]; exact hE110), hS111⟩
      ·
        have hE112 := hE89; rw [hb90] at hE112; clear hE89
        have ht113 := bn_f hb90
        have hp114 := isModel_t ht113
        refine q_step (v := .pointer (some ⟨b6, 0, none⟩)) hE112 (y_field rfl (fun _ => by kernel_rfl)) rfl rfl rfl ?_; intro a115 hE116; clear hE112
        refine q_step (v := .agg #[.int .i64 mp0, .slice mp1A mp1.length mp1C]) hE116 (y_loadP Try.underlying28 rfl (by kernel_rfl) rfl rfl (St.row (i := 2) hS82 rfl)) rfl rfl rfl ?_; intro a117 hE118; clear hE116
        refine q_step (v := .pointer (some ⟨b12, 0, none⟩)) hE118 (y_field rfl (fun _ => by kernel_rfl)) rfl rfl rfl ?_; intro a119 hE120; clear hE118
        refine q_step (v := .agg #[.int .i64 np0, .slice np1A np1.length np1C]) hE120 (y_loadP Try.underlying28 rfl (by kernel_rfl) rfl rfl (St.row (i := 1) hS82 rfl)) rfl rfl rfl ?_; intro a121 hE122; clear hE120
        refine q_step (v := .slice imagesA images.length imagesC) hE122 (y_load (fun _ => by kernel_rfl) rfl (St.cell (i := 0) hS82 rfl rfl)) rfl rfl rfl ?_; intro a123 hE124; clear hE122
        refine l_step hE124 rfl (l_call (f := 71) (argv := [.agg #[.int .i64 mp0, .slice mp1A mp1.length mp1C], .agg #[.int .i64 np0, .slice np1A np1.length np1C], .slice imagesA images.length imagesC]) hE124 (fun _ => cf_isMap _ _) rfl rfl (c_isMap mp0 mp1A mp1.length mp1C mp1 np0 np1A np1.length np1C np1 imagesA images.length imagesC images w79 (St.rdR (i := 7) hS82 rfl) (St.rdR (i := 5) hS82 rfl) (St.rdR (i := 3) hS82 rfl) (by omega) (by omega)) ?_)
        rintro _ w126 ⟨rfl, he130⟩ a127 hE128; clear hE124
        have hS129 := St.go hS82 he130; clear hS82
        refine q_step (v := .bool (!(F_isMap mp0 mp1 np0 np1 images))) hE128 (y_not rfl) rfl rfl rfl ?_; intro a131 hE132; clear hE128
        refine q_step (v := .bool (!(F_isMap mp0 mp1 np0 np1 images))) hE132 (y_pick (b := false) rfl rfl) rfl rfl rfl ?_; intro a133 hE134; clear hE132
        refine c_nil ?_
        have hE135 := hE134.sub (L' := [(3, .pointer (some ⟨b6, 0, none⟩)), (4, .pointer (some ⟨b12, 0, none⟩)), (5, .pointer (some ⟨b18, 0, none⟩)), (24, .bool (!(F_isMap mp0 mp1 np0 np1 images)))]) ⟨rfl, rfl, rfl, rfl, trivial⟩; clear hE134
        refine p_tn ?_
        have hE136 := hE135.sub (L' := [(3, .pointer (some ⟨b6, 0, none⟩)), (4, .pointer (some ⟨b12, 0, none⟩)), (5, .pointer (some ⟨b18, 0, none⟩)), (24, .bool (!(F_isMap mp0 mp1 np0 np1 images)))]) ⟨rfl, rfl, rfl, rfl, trivial⟩
        have hS137 := (St.pick (Γ' := [.rd 1 imagesA images.length imagesC images, .blk b18 #[.slice imagesA images.length imagesC] 22, .rd 1 np1A np1.length np1C np1, .rd 1 np2A np2.length np2C np2, .blk b12 #[.int .i64 np0, .slice np1A np1.length np1C, .slice np2A np2.length np2C] 39, .rd 1 mp1A mp1.length mp1C mp1, .rd 1 mp2A mp2.length mp2C mp2, .blk b6 #[.int .i64 mp0, .slice mp1A mp1.length mp1C, .slice mp2A mp2.length mp2C] 39]) hS129 [3, 0, 5, 4, 1, 7, 6, 2] (by decide) rfl)
        exact ⟨(by rw [hb90, hb41]; exact hE136), hS137⟩
  ·
    rintro a138 w139 ⟨hE140, hS141⟩; clear hE28 hS22
    refine c_cond hE140 rfl (fun ht142 => ?_) (fun ht142 => ?_)
    ·
      have hE143 := hE140; rw [ht142] at hE143; clear hE140
      refine c_seq ?_
      refine c_reg ?_
      refine q_step (v := .bool false) hE143 (y_assign rfl) rfl rfl rfl ?_; intro a144 hE145; clear hE143
      refine q_step (v := .int .i64 1) hE145 (y_assign rfl) rfl rfl rfl ?_; intro a146 hE147; clear hE145
      refine c_nil ?_
      have hE148 := hE147.sub (L' := [(6, .bool false), (7, .int .i64 1)]) ⟨rfl, rfl, trivial⟩; clear hE147
      refine p_tn ?_
      refine wp_ret ?_
      refine p_tr ?_
      have hF : F_IsModelMorphism mp0 mp1 mp2 np0 np1 np2 images = (false, 1) := by unfold F_IsModelMorphism; rw [ht142]; first | done | rfl
      refine c_ret2 hE148 rfl rfl rfl ?_
      exact ⟨(by rw [hF]; first | done | rfl), hS141.ext⟩
    ·
      obtain ⟨ht149, ht150⟩ := bor_f ht142
      have ht151 := bn_f ht149
      have hp152 := isModel_t ht151
      obtain ⟨ht153, ht154⟩ := bor_f ht150
      have ht155 := bn_f ht153
      have hp156 := isModel_t ht155
      have ht157 := bn_f ht154
      have hp158 := isMap_t ht157
      have hE159 := hE140; rw [ht142] at hE159; clear hE140
      refine wp_skip ?_
      refine p_tn ?_
      refine c_cut (fun a' w' => E a' 37 [(6, .bool ((F_isMorphism mp0 mp1 np0 np1 images) && (F_Frame_everyWorld mp0 mp1 (fun x0 => F_IsModelMorphism_k1 x0 mp0 mp1 mp2 np0 np1 np2 images)))), (7, .int .i64 0)] ∧ St w w' [.rd 1 imagesA images.length imagesC images, .blk b18 #[.slice imagesA images.length imagesC] 22, .rd 1 np1A np1.length np1C np1, .rd 1 np2A np2.length np2C np2, .blk b12 #[.int .i64 np0, .slice np1A np1.length np1C, .slice np2A np2.length np2C] 39, .rd 1 mp1A mp1.length mp1C mp1, .rd 1 mp2A mp2.length mp2C mp2, .blk b6 #[.int .i64 mp0, .slice mp1A mp1.length mp1C, .slice mp2A mp2.length mp2C] 39]) ?_ ?_
      ·
        refine c_reg ?_
        refine q_step (v := .pointer (some ⟨b6, 0, none⟩)) hE159 (y_field rfl (fun _ => by kernel_rfl)) rfl rfl rfl ?_; intro a160 hE161; clear hE159
        refine q_step (v := .agg #[.int .i64 mp0, .slice mp1A mp1.length mp1C]) hE161 (y_loadP Try.underlying28 rfl (by kernel_rfl) rfl rfl (St.row (i := 7) hS141 rfl)) rfl rfl rfl ?_; intro a162 hE163; clear hE161
        refine q_step (v := .pointer (some ⟨b12, 0, none⟩)) hE163 (y_field rfl (fun _ => by kernel_rfl)) rfl rfl rfl ?_; intro a164 hE165; clear hE163
        refine q_step (v := .agg #[.int .i64 np0, .slice np1A np1.length np1C]) hE165 (y_loadP Try.underlying28 rfl (by kernel_rfl) rfl rfl (St.row (i := 4) hS141 rfl)) rfl rfl rfl ?_; intro a166 hE167; clear hE165
        refine q_step (v := .slice imagesA images.length imagesC) hE167 (y_load (fun _ => by kernel_rfl) rfl (St.cell (i := 1) hS141 rfl rfl)) rfl rfl rfl ?_; intro a168 hE169; clear hE167
        refine l_step hE169 rfl (l_call (f := 72) (argv := [.agg #[.int .i64 mp0, .slice mp1A mp1.length mp1C], .agg #[.int .i64 np0, .slice np1A np1.length np1C], .slice imagesA images.length imagesC]) hE169 (fun _ => cf_isMorphism _ _) rfl rfl (c_isMorphism mp0 mp1A mp1.length mp1C mp1 np0 np1A np1.length np1C np1 imagesA images.length imagesC images w139 (St.rdR (i := 5) hS141 rfl) (St.rdR (i := 2) hS141 rfl) (St.rdR (i := 0) hS141 rfl) (by omega) (by omega) (by omega) (by omega) (by omega) (by omega) ((isMap_t (by assumption)).2) (l05Is_m (isModel_t (by assumption)).1)) ?_)
        rintro _ w171 ⟨rfl, he175⟩ a172 hE173; clear hE169
        have hS174 := St.go hS141 he175; clear hS141
        refine q_step (v := .bool (F_isMorphism mp0 mp1 np0 np1 images)) hE173 (y_move rfl) rfl rfl rfl ?_; intro a176 hE177; clear hE173
        rcases Bool.eq_false_or_eq_true (F_isMorphism mp0 mp1 np0 np1 images) with hb178 | hb178
        ·
          have hE179 := hE177; rw [hb178] at hE179; clear hE177
          refine q_step (v := .pointer (some ⟨b6, 0, none⟩)) hE179 (y_field rfl (fun _ => by kernel_rfl)) rfl rfl rfl ?_; intro a180 hE181; clear hE179
          refine q_step (v := .agg #[.int .i64 mp0, .slice mp1A mp1.length mp1C]) hE181 (y_loadP Try.underlying28 rfl (by kernel_rfl) rfl rfl (St.row (i := 7) hS174 rfl)) rfl rfl rfl ?_; intro a182 hE183; clear hE181
          refine q_step (v := .func (.func 74) #[] #[.pointer (some ⟨b6, 0, none⟩), .pointer (some ⟨b12, 0, none⟩), .pointer (some ⟨b18, 0, none⟩)]) hE183 (y_makeFunc (vs := [.pointer (some ⟨b6, 0, none⟩), .pointer (some ⟨b12, 0, none⟩), .pointer (some ⟨b18, 0, none⟩)]) rfl) rfl rfl rfl ?_; intro a184 hE185; clear hE183
          refine l_step hE185 rfl (l_call (f := 73) (argv := [.agg #[.int .i64 mp0, .slice mp1A mp1.length mp1C], .func (.func 74) #[] #[.pointer (some ⟨b6, 0, none⟩), .pointer (some ⟨b12, 0, none⟩), .pointer (some ⟨b18, 0, none⟩)]]) hE185 (fun _ => cf_Frame_everyWorld _ _) rfl rfl (c_Frame_everyWorld mp0 mp1A mp1.length mp1C mp1 74 [.pointer (some ⟨b6, 0, none⟩), .pointer (some ⟨b12, 0, none⟩), .pointer (some ⟨b18, 0, none⟩)] (fun x0 => F_IsModelMorphism_k1 x0 mp0 mp1 mp2 np0 np1 np2 images) (fun x => 0 ≤ x ∧ x < mp0) w171 (St.rdR (i := 5) hS174 rfl) (fun _ _ => cf_IsModelMorphism_k1 _ _) (fun x0 w' hx he => c_IsModelMorphism_k1 x0 b6 mp0 mp1A mp1.length mp1C mp1 mp2A mp2.length mp2C mp2 b12 np0 np1A np1.length np1C np1 np2A np2.length np2C np2 b18 imagesA images.length imagesC images w' (RdS.ext (St.rdR (i := 5) hS174 rfl) he) (RdS.ext (St.rdR (i := 6) hS174 rfl) he) (St.row (i := 7) hS174 rfl w' he) (RdS.ext (St.rdR (i := 2) hS174 rfl) he) (RdS.ext (St.rdR (i := 3) hS174 rfl) he) (St.row (i := 4) hS174 rfl w' he) (RdS.ext (St.rdR (i := 0) hS174 rfl) he) (St.row (i := 1) hS174 rfl w' he) hx (by omega) (by omega) (by omega) ((isMap_t (by assumption)).2)) (by omega) (by omega) (fun m h0 h1 => ⟨h0, h1⟩)) ?_)
          rintro _ w187 ⟨rfl, he191⟩ a188 hE189; clear hE185
          have hS190 := St.go hS174 he191; clear hS174
          refine q_step (v := .bool (F_Frame_everyWorld mp0 mp1 (fun x0 => F_IsModelMorphism_k1 x0 mp0 mp1 mp2 np0 np1 np2 images))) hE189 (y_pick (b := true) rfl rfl) rfl rfl rfl ?_; intro a192 hE193; clear hE189
          refine q_step (v := .bool (F_Frame_everyWorld mp0 mp1 (fun x0 => F_IsModelMorphism_k1 x0 mp0 mp1 mp2 np0 np1 np2 images))) hE193 (y_assign rfl) rfl rfl rfl ?_; intro a194 hE195; clear hE193
          refine q_step (v := .int .i64 0) hE195 (y_assign rfl) rfl rfl rfl ?_; intro a196 hE197; clear hE195
          refine c_nil ?_
          have hE198 := hE197.sub (L' := [(6, .bool (F_Frame_everyWorld mp0 mp1 (fun x0 => F_IsModelMorphism_k1 x0 mp0 mp1 mp2 np0 np1 np2 images))), (7, .int .i64 0)]) ⟨rfl, rfl, trivial⟩; clear hE197
          refine p_tn ?_
          have hE199 := hE198.sub (L' := [(6, .bool (F_Frame_everyWorld mp0 mp1 (fun x0 => F_IsModelMorphism_k1 x0 mp0 mp1 mp2 np0 np1 np2 images))), (7, .int .i64 0)]) ⟨rfl, rfl, trivial⟩
          have hS200 := (St.pick (Γ' := [.rd 1 imagesA images.length imagesC images, .blk b18 #[.slice imagesA images.length imagesC] 22, .rd 1 np1A np1.length np1C np1, .rd 1 np2A np2.length np2C np2, .blk b12 #[.int .i64 np0, .slice np1A np1.length np1C, .slice np2A np2.length np2C] 39, .rd 1 mp1A mp1.length mp1C mp1, .rd 1 mp2A mp2.length mp2C mp2, .blk b6 #[.int .i64 mp0, .slice mp1A mp1.length mp1C, .slice mp2A mp2.length mp2C] 39]) hS190 [0, 1, 2, 3, 4, 5, 6, 7] (by decide) rfl)
          exact ⟨(by rw [hb178]; exact hE199), hS200⟩
        ·
          have hE201 := hE177; rw [hb178] at hE201; clear hE177
          refine q_skip hE201 rfl rfl rfl ?_; intro a202 hE203; clear hE201
          refine q_skip hE203 rfl rfl rfl ?_; intro a204 hE205; clear hE203
          refine q_skip hE205 rfl rfl rfl ?_; intro a206 hE207; clear hE205
          refine q_skip hE207 rfl rfl rfl ?_; intro a208 hE209; clear hE207
          refine q_step (v := .bool false) hE209 (y_pick (b := false) rfl rfl) rfl rfl rfl ?_; intro a210 hE211; clear hE209
          refine q_step (v := .bool false) hE211 (y_assign rfl) rfl rfl rfl ?_; intro a212 hE213; clear hE211
          refine q_step (v := .int .i64 0) hE213 (y_assign rfl) rfl rfl rfl ?_; intro a214 hE215; clear hE213
          refine c_nil ?_
          have hE216 := hE215.sub (L' := [(6, .bool false), (7, .int .i64 0)]) ⟨rfl, rfl, trivial⟩; clear hE215
          refine p_tn ?_
          have hE217 := hE216.sub (L' := [(6, .bool false), (7, .int .i64 0)]) ⟨rfl, rfl, trivial⟩
          have hS218 := (St.pick (Γ' := [.rd 1 imagesA images.length imagesC images, .blk b18 #[.slice imagesA images.length imagesC] 22, .rd 1 np1A np1.length np1C np1, .rd 1 np2A np2.length np2C np2, .blk b12 #[.int .i64 np0, .slice np1A np1.length np1C, .slice np2A np2.length np2C] 39, .rd 1 mp1A mp1.length mp1C mp1, .rd 1 mp2A mp2.length mp2C mp2, .blk b6 #[.int .i64 mp0, .slice mp1A mp1.length mp1C, .slice mp2A mp2.length mp2C] 39]) hS174 [0, 1, 2, 3, 4, 5, 6, 7] (by decide) rfl)
          exact ⟨(by rw [hb178]; exact hE217), hS218⟩
      ·
        rintro a219 w220 ⟨hE221, hS222⟩; clear hE159 hS141
        refine wp_ret ?_
        have hF : F_IsModelMorphism mp0 mp1 mp2 np0 np1 np2 images = (((F_isMorphism mp0 mp1 np0 np1 images) && (F_Frame_everyWorld mp0 mp1 (fun x0 => F_IsModelMorphism_k1 x0 mp0 mp1 mp2 np0 np1 np2 images))), 0) := by unfold F_IsModelMorphism; rw [ht142]; first | done | rfl
        refine c_ret2 hE221 rfl rfl rfl ?_
        exact ⟨(by rw [hF]; first | done | rfl), hS222.ext⟩

theorem allLoopE {ε : Type} (L : Nat → Int → Except ε Int) (e : ε) (n : Int) (p : Int → Bool) (hL : ∀ r i, L (r + 1) i = bif decide (i < n) then (bif p i then .error e else L r (i + 1)) else .ok i) :
    ∀ (k : Nat) (i : Int), n - i = (k : Int) → ((∃ j, L (k + 1) i = .ok j) ∧ ((List.range k).all fun j => !p (i + (j : Int))) = true) ∨ (L (k + 1) i = .error e ∧ ((List.range k).all fun j => !p (i + (j : Int))) = false) := by
  intro k
  induction k with
  | zero => intro i h; rw [hL, decide_eq_false (by omega)]; exact .inl ⟨⟨i, rfl⟩, rfl⟩
  | succ k ih =>
    intro i h
    rw [hL, decide_eq_true (by omega), cond_true, List.range_succ_eq_map, List.all_cons, List.all_map, show i + ((0 : Nat) : Int) = i by omega]
    have e2 : ((fun j : Nat => !p (i + (j : Int))) ∘ Nat.succ) = fun j : Nat => !p (i + 1 + (j : Int)) := by
      funext j; show (!p (i + ((j + 1 : Nat) : Int))) = _; congr 2; omega
    rw [e2]
    cases hp : p i
    · rw [cond_false, Bool.not_false, Bool.true_and]; exact ih (i + 1) (by omega)
    · exact .inr ⟨rfl, rfl⟩
theorem IsModelMorphism_eq (mp0 : Int) (mp1 mp2 : List Int) (np0 : Int) (np1 np2 images : List Int) : F_IsModelMorphism mp0 mp1 mp2 np0 np1 np2 images = F_s_IsModelMorphism mp0 mp1 mp2 np0 np1 np2 images := by
  unfold F_IsModelMorphism F_s_IsModelMorphism
  rw [isModel_eq, isModel_eq, isMap_eq]
  cases h : ((!(F_l06Is mp0 mp1 mp2)) || ((!(F_l06Is np0 np1 np2)) || (!(F_l08Map mp0 mp1 np0 np1 images))))
  · obtain ⟨h1, h⟩ := bor_f h
    obtain ⟨h2, h3⟩ := bor_f h
    have hm := l06Is_t (bn_f h1)
    have hn := l06Is_t (bn_f h2)
    have hl := l08Map_t (bn_f h3)
    rw [cond_false, cond_false, isMorphism_is hm.1 (by omega) hl.1 hl.2]
    unfold F_Frame_everyWorld
    rw [show Int.toNat (mp0 - 0) = images.length by omega, show Int.toNat ((images.length : Int) - 0) = images.length by omega,
      allLoop (F_Frame_everyWorld_L1 mp0 _) mp0 (fun i => !(F_IsModelMorphism_k1 i mp0 mp1 mp2 np0 np1 np2 images)) (fun _ _ => rfl) images.length 0 (by omega)]
    have e : ((List.range images.length).all fun j => !!(F_IsModelMorphism_k1 (0 + (j : Int)) mp0 mp1 mp2 np0 np1 np2 images)) = ((List.range images.length).all fun j => !!(F_l07Atoms mp0 mp1 mp2 np0 np1 np2 (0 + (j : Int)) (gI images (0 + (j : Int))))) := by
      congr 1; funext j
      rw [atoms_eq _ _ hm.2.2.1 hn.2.2.1]; rfl
    rw [e]
    rcases allLoopE (F_s_IsModelMorphism_L1 mp0 mp1 mp2 np0 np1 np2 images) (false, 0) images.length (fun i => !(F_l07Atoms mp0 mp1 mp2 np0 np1 np2 i (gI images i))) (fun _ _ => rfl) images.length 0 (by omega) with ⟨⟨j, hj⟩, ha⟩ | ⟨hj, ha⟩
    · rw [hj, ha, Bool.and_true]; rfl
    · rw [hj, ha, Bool.and_false]; rfl
  · rw [cond_true, cond_true]

end Go.Proofs.Ytlmmmblnaiddhaa
