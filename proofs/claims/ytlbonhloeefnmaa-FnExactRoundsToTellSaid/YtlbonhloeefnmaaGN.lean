/- GN: models and contracts, printed by wip/gen/gen.py -/
import Derived.Test.YtlbonhloeefnmaaGL
import Derived.Test.YtlbonhloeefnmaaPart
set_option linter.unusedVariables false
set_option linter.unusedSimpArgs false
namespace Go.Proofs.Ytlbonhloeefnmaa
open Go.RowKit

def F_l06Is (mp0 : Int) (mp1 : List Int) (mp2 : List Int) : Bool :=
  ((F_l05Is mp0 mp1) && ((decide ((mp2.length : Int) = 6)) && (F_l01Masks mp0 mp2)))
theorem cf_l06Is (args : Array Value) (w : World) : (callFunc 145 args).run Try.prog w = .ok (.enter 145 args) w := by kernel_rfl
set_option maxRecDepth 100000 in
theorem c_l06Is (mp0 : Int) (mp1A : Option Addr) (mp1N mp1C : Nat) (mp1 : List Int) (mp2A : Option Addr) (mp2N mp2C : Nat) (mp2 : List Int) (w : World) (mp1R : RdS w 1 mp1A mp1N mp1C mp1) (mp2R : RdS w 1 mp2A mp2N mp2C mp2) :
    Calls Try.prog 145 #[.agg #[.int .i64 mp0, .slice mp1A mp1N mp1C, .slice mp2A mp2N mp2C]] w (Ret fun v w' => v = .bool (F_l06Is mp0 mp1 mp2) ∧ Ext w w') := by
  obtain rfl : mp1N = mp1.length := mp1R.len1.symm
  have mp1Le := mp1R.le
  obtain rfl : mp2N = mp2.length := mp2R.len1.symm
  have mp2Le := mp2R.le
  have hS := St.nil w
  have hS1 := St.rd0 hS rfl mp1R; clear hS
  have hS2 := St.rd0 hS1 rfl mp2R; clear hS1
  refine enter (args := [.agg #[.int .i64 mp0, .slice mp1A mp1.length mp1C, .slice mp2A mp2.length mp2C]]) Try.func145 rfl rfl ?_
  rw [Try.ntmps145]; intro a hE
  have hE := hE.sub (L' := [(0, .agg #[.int .i64 mp0, .slice mp1A mp1.length mp1C, .slice mp2A mp2.length mp2C])]) ⟨rfl, trivial⟩
  refine c_seq ?_
  refine c_reg ?_
  refine l_step hE rfl (l_box (v := .agg #[.int .i64 mp0, .slice mp1A mp1.length mp1C, .slice mp2A mp2.length mp2C]) (cs := #[.int .i64 mp0, .slice mp1A mp1.length mp1C, .slice mp2A mp2.length mp2C]) hS2 hE rfl rfl rfl ?_)
  intro b3 w4 hS7 he8 a5 hE6; clear hS2 hE
  refine q_step (v := .bool false) hE6 (y_assign rfl) rfl rfl rfl ?_; intro a9 hE10; clear hE6
  refine c_nil ?_
  have hE11 := hE10.sub (L' := [(1, .pointer (some ⟨b3, 0, none⟩))]) ⟨rfl, trivial⟩; clear hE10
  refine p_tn ?_
  refine c_cut (fun a' w' => E a' 20 [(2, .bool ((F_l05Is mp0 mp1) && ((decide ((mp2.length : Int) = 6)) && (F_l01Masks mp0 mp2))))] ∧ St w w' [.rd 1 mp1A mp1.length mp1C mp1, .rd 1 mp2A mp2.length mp2C mp2, .blk b3 #[.int .i64 mp0, .slice mp1A mp1.length mp1C, .slice mp2A mp2.length mp2C] 32]) ?_ ?_
  ·
    refine c_reg ?_
    refine q_step (v := .pointer (some ⟨b3, 0, none⟩)) hE11 (y_field rfl (fun _ => by kernel_rfl)) rfl rfl rfl ?_; intro a12 hE13; clear hE11
    refine q_step (v := .agg #[.int .i64 mp0, .slice mp1A mp1.length mp1C]) hE13 (y_loadP Try.underlying30 rfl (by kernel_rfl) rfl rfl (St.row (i := 0) hS7 rfl)) rfl rfl rfl ?_; intro a14 hE15; clear hE13
    refine l_step hE15 rfl (l_call (f := 94) (argv := [.agg #[.int .i64 mp0, .slice mp1A mp1.length mp1C]]) hE15 (fun _ => cf_l05Is _ _) rfl rfl (c_l05Is mp0 mp1A mp1.length mp1C mp1 w4 (St.rdR (i := 2) hS7 rfl)) ?_)
    rintro _ w17 ⟨rfl, he21⟩ a18 hE19; clear hE15
    have hS20 := St.go hS7 he21; clear hS7
    refine q_step (v := .bool (F_l05Is mp0 mp1)) hE19 (y_move rfl) rfl rfl rfl ?_; intro a22 hE23; clear hE19
    rcases Bool.eq_false_or_eq_true (F_l05Is mp0 mp1) with hb24 | hb24
    ·
      have hE25 := hE23; (try rw [hb24] at hE25); clear hE23
      have hp26 := l05Is_t hb24
      refine q_step (v := .pointer (some ⟨b3, 2, none⟩)) hE25 (y_field rfl (fun _ => by kernel_rfl)) rfl rfl rfl ?_; intro a27 hE28; clear hE25
      refine q_step (v := .slice mp2A mp2.length mp2C) hE28 (y_load (fun _ => by kernel_rfl) rfl (St.cell (i := 0) hS20 rfl rfl)) rfl rfl rfl ?_; intro a29 hE30; clear hE28
      refine q_step (v := .int .i64 (mp2.length : Int)) hE30 (y_len (e := 2) (by kernel_rfl) rfl) rfl rfl rfl ?_; intro a31 hE32; clear hE30
      refine q_step (v := .bool (decide ((mp2.length : Int) = 6))) hE32 (y_eql rfl rfl) rfl rfl rfl ?_; intro a33 hE34; clear hE32
      refine q_step (v := .bool (decide ((mp2.length : Int) = 6))) hE34 (y_pick (b := true) rfl rfl) rfl rfl rfl ?_; intro a35 hE36; clear hE34
      refine q_step (v := .bool (decide ((mp2.length : Int) = 6))) hE36 (y_move rfl) rfl rfl rfl ?_; intro a37 hE38; clear hE36
      rcases Bool.eq_false_or_eq_true (decide ((mp2.length : Int) = 6)) with hb39 | hb39
      ·
        have hE40 := hE38; (try rw [hb39] at hE40); clear hE38
        have hp41 := of_decide_eq_true hb39
        refine q_step (v := .pointer (some ⟨b3, 0, none⟩)) hE40 (y_field rfl (fun _ => by kernel_rfl)) rfl rfl rfl ?_; intro a42 hE43; clear hE40
        refine q_step (v := .pointer (some ⟨b3, 0, none⟩)) hE43 (y_field rfl (fun _ => by kernel_rfl)) rfl rfl rfl ?_; intro a44 hE45; clear hE43
        refine q_step (v := .int .i64 mp0) hE45 (y_load (fun _ => by kernel_rfl) rfl (St.cell (i := 0) hS20 rfl rfl)) rfl rfl rfl ?_; intro a46 hE47; clear hE45
        refine q_step (v := .pointer (some ⟨b3, 2, none⟩)) hE47 (y_field rfl (fun _ => by kernel_rfl)) rfl rfl rfl ?_; intro a48 hE49; clear hE47
        refine q_step (v := .slice mp2A mp2.length mp2C) hE49 (y_load (fun _ => by kernel_rfl) rfl (St.cell (i := 0) hS20 rfl rfl)) rfl rfl rfl ?_; intro a50 hE51; clear hE49
        refine l_step hE51 rfl (l_call (f := 162) (argv := [.int .i64 mp0, .slice mp2A mp2.length mp2C]) hE51 (fun _ => cf_l01Masks _ _) rfl rfl (c_l01Masks mp0 mp2A mp2.length mp2C mp2 w17 (St.rdR (i := 1) hS20 rfl) (by omega) (by omega)) ?_)
        rintro _ w53 ⟨rfl, he57⟩ a54 hE55; clear hE51
        have hS56 := St.go hS20 he57; clear hS20
        refine q_step (v := .bool (F_l01Masks mp0 mp2)) hE55 (y_pick (b := true) rfl rfl) rfl rfl rfl ?_; intro a58 hE59; clear hE55
        refine q_step (v := .bool (F_l01Masks mp0 mp2)) hE59 (y_assign rfl) rfl rfl rfl ?_; intro a60 hE61; clear hE59
        refine c_nil ?_
        have hE62 := hE61.sub (L' := [(2, .bool (F_l01Masks mp0 mp2))]) ⟨rfl, trivial⟩; clear hE61
        refine p_tn ?_
        have hE63 := hE62.sub (L' := [(2, .bool (F_l01Masks mp0 mp2))]) ⟨rfl, trivial⟩
        have hS64 := (St.pick (Γ' := [.rd 1 mp1A mp1.length mp1C mp1, .rd 1 mp2A mp2.length mp2C mp2, .blk b3 #[.int .i64 mp0, .slice mp1A mp1.length mp1C, .slice mp2A mp2.length mp2C] 32]) hS56 [2, 1, 0] (by decide) rfl)
        exact ⟨(by rw [hb39, hb24]; exact hE63), hS64⟩
      ·
        have hE65 := hE38; (try rw [hb39] at hE65); clear hE38
        have hp66 := of_decide_eq_false hb39
        refine q_skip hE65 rfl rfl rfl ?_; intro a67 hE68; clear hE65
        refine q_skip hE68 rfl rfl rfl ?_; intro a69 hE70; clear hE68
        refine q_skip hE70 rfl rfl rfl ?_; intro a71 hE72; clear hE70
        refine q_skip hE72 rfl rfl rfl ?_; intro a73 hE74; clear hE72
        refine q_skip hE74 rfl rfl rfl ?_; intro a75 hE76; clear hE74
        refine q_skip hE76 rfl rfl rfl ?_; intro a77 hE78; clear hE76
        refine q_step (v := .bool false) hE78 (y_pick (b := false) rfl rfl) rfl rfl rfl ?_; intro a79 hE80; clear hE78
        refine q_step (v := .bool false) hE80 (y_assign rfl) rfl rfl rfl ?_; intro a81 hE82; clear hE80
        refine c_nil ?_
        have hE83 := hE82.sub (L' := [(2, .bool false)]) ⟨rfl, trivial⟩; clear hE82
        refine p_tn ?_
        have hE84 := hE83.sub (L' := [(2, .bool false)]) ⟨rfl, trivial⟩
        have hS85 := (St.pick (Γ' := [.rd 1 mp1A mp1.length mp1C mp1, .rd 1 mp2A mp2.length mp2C mp2, .blk b3 #[.int .i64 mp0, .slice mp1A mp1.length mp1C, .slice mp2A mp2.length mp2C] 32]) hS20 [2, 1, 0] (by decide) rfl)
        exact ⟨(by rw [hb39, hb24]; exact hE84), hS85⟩
    ·
      have hE86 := hE23; (try rw [hb24] at hE86); clear hE23
      refine q_skip hE86 rfl rfl rfl ?_; intro a87 hE88; clear hE86
      refine q_skip hE88 rfl rfl rfl ?_; intro a89 hE90; clear hE88
      refine q_skip hE90 rfl rfl rfl ?_; intro a91 hE92; clear hE90
      refine q_skip hE92 rfl rfl rfl ?_; intro a93 hE94; clear hE92
      refine q_step (v := .bool false) hE94 (y_pick (b := false) rfl rfl) rfl rfl rfl ?_; intro a95 hE96; clear hE94
      refine q_step (v := .bool false) hE96 (y_move rfl) rfl rfl rfl ?_; intro a97 hE98; clear hE96
      refine q_skip hE98 rfl rfl rfl ?_; intro a99 hE100; clear hE98
      refine q_skip hE100 rfl rfl rfl ?_; intro a101 hE102; clear hE100
      refine q_skip hE102 rfl rfl rfl ?_; intro a103 hE104; clear hE102
      refine q_skip hE104 rfl rfl rfl ?_; intro a105 hE106; clear hE104
      refine q_skip hE106 rfl rfl rfl ?_; intro a107 hE108; clear hE106
      refine q_skip hE108 rfl rfl rfl ?_; intro a109 hE110; clear hE108
      refine q_step (v := .bool false) hE110 (y_pick (b := false) rfl rfl) rfl rfl rfl ?_; intro a111 hE112; clear hE110
      refine q_step (v := .bool false) hE112 (y_assign rfl) rfl rfl rfl ?_; intro a113 hE114; clear hE112
      refine c_nil ?_
      have hE115 := hE114.sub (L' := [(2, .bool false)]) ⟨rfl, trivial⟩; clear hE114
      refine p_tn ?_
      have hE116 := hE115.sub (L' := [(2, .bool false)]) ⟨rfl, trivial⟩
      have hS117 := (St.pick (Γ' := [.rd 1 mp1A mp1.length mp1C mp1, .rd 1 mp2A mp2.length mp2C mp2, .blk b3 #[.int .i64 mp0, .slice mp1A mp1.length mp1C, .slice mp2A mp2.length mp2C] 32]) hS20 [2, 1, 0] (by decide) rfl)
      exact ⟨(by rw [hb24]; exact hE116), hS117⟩
  ·
    rintro a118 w119 ⟨hE120, hS121⟩; clear hE11 hS7
    refine wp_ret ?_
    have hF : F_l06Is mp0 mp1 mp2 = ((F_l05Is mp0 mp1) && ((decide ((mp2.length : Int) = 6)) && (F_l01Masks mp0 mp2))) := by unfold F_l06Is; rfl
    refine c_ret1 hE120 rfl rfl ?_
    exact ⟨(by rw [hF]; first | done | (dsimp only; done) | rfl), hS121.ext⟩

theorem l06Is_t {mp0 : Int} {mp1 mp2 : List Int} (h : F_l06Is mp0 mp1 mp2 = true) : F_l05Is mp0 mp1 = true ∧ ((0 ≤ mp0 ∧ mp0 ≤ 8) ∧ (mp1.length : Int) = mp0) ∧ (mp2.length : Int) = 6 ∧ ∀ m : Int, 0 ≤ m → m < (mp2.length : Int) → 0 ≤ gI mp2 m ∧ gI mp2 m ≤ fullI mp0 := by
  unfold F_l06Is at h
  simp only [Bool.and_eq_true, decide_eq_true_eq] at h
  exact ⟨h.1, l05Is_t h.1, h.2.1, masks_mem h.2.2⟩

def F_isModel_k1 (mask : Int) (cap00 : Int) (cap01 : List Int) (cap02 : List Int) : Bool :=
  (!(F_isMask cap00 mask))
theorem cf_isModel_k1 (args : Array Value) (w : World) : (callFunc 147 args).run Try.prog w = .ok (.enter 147 args) w := by kernel_rfl
set_option maxRecDepth 100000 in
theorem c_isModel_k1 (mask : Int) (cap0B : Nat) (cap00 : Int) (cap01A : Option Addr) (cap01N cap01C : Nat) (cap01 : List Int) (cap02A : Option Addr) (cap02N cap02C : Nat) (cap02 : List Int) (w : World) (cap01R : RdS w 1 cap01A cap01N cap01C cap01) (cap02R : RdS w 1 cap02A cap02N cap02C cap02) (cap0H : w.heap[cap0B]? = some (.cells #[.int .i64 cap00, .slice cap01A cap01N cap01C, .slice cap02A cap02N cap02C] 32 (0, 0))) :
    Calls Try.prog 147 #[.int .i64 mask, .pointer (some ⟨cap0B, 0, none⟩)] w (Ret fun v w' => v = .bool (F_isModel_k1 mask cap00 cap01 cap02) ∧ w = w') := by
  obtain rfl : cap01N = cap01.length := cap01R.len1.symm
  have cap01Le := cap01R.le
  obtain rfl : cap02N = cap02.length := cap02R.len1.symm
  have cap02Le := cap02R.le
  have hS := St.nil w
  have hS1 := St.rd0 hS rfl cap01R; clear hS
  have hS2 := St.rd0 hS1 rfl cap02R; clear hS1
  have hS3 := St.rb0 hS2 rfl cap0H; clear hS2
  refine enter (args := [.int .i64 mask, .pointer (some ⟨cap0B, 0, none⟩)]) Try.func147 rfl rfl ?_
  rw [Try.ntmps147]; intro a hE
  have hE := hE.sub (L' := [(0, .int .i64 mask), (1, .pointer (some ⟨cap0B, 0, none⟩))]) ⟨rfl, rfl, trivial⟩
  refine c_seq ?_
  refine c_reg ?_
  refine q_step (v := .bool false) hE (y_assign rfl) rfl rfl rfl ?_; intro a4 hE5; clear hE
  refine c_nil ?_
  have hE6 := hE5.sub (L' := [(0, .int .i64 mask), (1, .pointer (some ⟨cap0B, 0, none⟩))]) ⟨rfl, rfl, trivial⟩; clear hE5
  refine p_tn ?_
  refine c_seq ?_
  refine c_reg ?_
  refine q_step (v := .pointer (some ⟨cap0B, 0, none⟩)) hE6 (y_field rfl (fun _ => by kernel_rfl)) rfl rfl rfl ?_; intro a7 hE8; clear hE6
  refine q_step (v := .pointer (some ⟨cap0B, 0, none⟩)) hE8 (y_field rfl (fun _ => by kernel_rfl)) rfl rfl rfl ?_; intro a9 hE10; clear hE8
  refine q_step (v := .int .i64 cap00) hE10 (y_load (fun _ => by kernel_rfl) rfl (St.cellR (i := 0) hS3 rfl rfl)) rfl rfl rfl ?_; intro a11 hE12; clear hE10
  refine q_step (v := .int .i64 mask) hE12 (y_move rfl) rfl rfl rfl ?_; intro a13 hE14; clear hE12
  refine l_step hE14 rfl (l_call (f := 148) (argv := [.int .i64 cap00, .int .i64 mask]) hE14 (fun _ => cf_isMask _ _) rfl rfl (c_isMask cap00 mask w) ?_)
  rintro _ _ ⟨rfl, rfl⟩ a17 hE18; clear hE14
  refine q_step (v := .bool (!(F_isMask cap00 mask))) hE18 (y_not rfl) rfl rfl rfl ?_; intro a21 hE22; clear hE18
  refine q_step (v := .bool (!(F_isMask cap00 mask))) hE22 (y_assign rfl) rfl rfl rfl ?_; intro a23 hE24; clear hE22
  refine c_nil ?_
  have hE25 := hE24.sub (L' := [(3, .bool (!(F_isMask cap00 mask)))]) ⟨rfl, trivial⟩; clear hE24
  refine p_tn ?_
  refine wp_ret ?_
  have hF : F_isModel_k1 mask cap00 cap01 cap02 = (!(F_isMask cap00 mask)) := by unfold F_isModel_k1; rfl
  refine c_ret1 hE25 rfl rfl ?_
  exact ⟨(by rw [hF]; first | done | (dsimp only; done) | rfl), rfl⟩

def F_isModel (mp0 : Int) (mp1 : List Int) (mp2 : List Int) : Bool :=
  ((F_isFrame mp0 mp1) && ((decide ((mp2.length : Int) = 6)) && (!(F_z_ContainsFunc mp2 (fun x0 => F_isModel_k1 x0 mp0 mp1 mp2)))))
theorem cf_isModel (args : Array Value) (w : World) : (callFunc 83 args).run Try.prog w = .ok (.enter 83 args) w := by kernel_rfl
set_option maxRecDepth 100000 in
theorem c_isModel (mp0 : Int) (mp1A : Option Addr) (mp1N mp1C : Nat) (mp1 : List Int) (mp2A : Option Addr) (mp2N mp2C : Nat) (mp2 : List Int) (w : World) (mp1R : RdS w 1 mp1A mp1N mp1C mp1) (mp2R : RdS w 1 mp2A mp2N mp2C mp2) :
    Calls Try.prog 83 #[.agg #[.int .i64 mp0, .slice mp1A mp1N mp1C, .slice mp2A mp2N mp2C]] w (Ret fun v w' => v = .bool (F_isModel mp0 mp1 mp2) ∧ Ext w w') := by
  obtain rfl : mp1N = mp1.length := mp1R.len1.symm
  have mp1Le := mp1R.le
  obtain rfl : mp2N = mp2.length := mp2R.len1.symm
  have mp2Le := mp2R.le
  have hS := St.nil w
  have hS1 := St.rd0 hS rfl mp1R; clear hS
  have hS2 := St.rd0 hS1 rfl mp2R; clear hS1
  refine enter (args := [.agg #[.int .i64 mp0, .slice mp1A mp1.length mp1C, .slice mp2A mp2.length mp2C]]) Try.func83 rfl rfl ?_
  rw [Try.ntmps83]; intro a hE
  have hE := hE.sub (L' := [(0, .agg #[.int .i64 mp0, .slice mp1A mp1.length mp1C, .slice mp2A mp2.length mp2C])]) ⟨rfl, trivial⟩
  refine c_seq ?_
  refine c_reg ?_
  refine l_step hE rfl (l_box (v := .agg #[.int .i64 mp0, .slice mp1A mp1.length mp1C, .slice mp2A mp2.length mp2C]) (cs := #[.int .i64 mp0, .slice mp1A mp1.length mp1C, .slice mp2A mp2.length mp2C]) hS2 hE rfl rfl rfl ?_)
  intro b3 w4 hS7 he8 a5 hE6; clear hS2 hE
  refine q_step (v := .bool false) hE6 (y_assign rfl) rfl rfl rfl ?_; intro a9 hE10; clear hE6
  refine c_nil ?_
  have hE11 := hE10.sub (L' := [(1, .pointer (some ⟨b3, 0, none⟩))]) ⟨rfl, trivial⟩; clear hE10
  refine p_tn ?_
  refine c_cut (fun a' w' => E a' 19 [(2, .bool ((F_isFrame mp0 mp1) && ((decide ((mp2.length : Int) = 6)) && (!(F_z_ContainsFunc mp2 (fun x0 => F_isModel_k1 x0 mp0 mp1 mp2))))))] ∧ St w w' [.rd 1 mp1A mp1.length mp1C mp1, .rd 1 mp2A mp2.length mp2C mp2, .blk b3 #[.int .i64 mp0, .slice mp1A mp1.length mp1C, .slice mp2A mp2.length mp2C] 32]) ?_ ?_
  ·
    refine c_reg ?_
    refine q_step (v := .pointer (some ⟨b3, 0, none⟩)) hE11 (y_field rfl (fun _ => by kernel_rfl)) rfl rfl rfl ?_; intro a12 hE13; clear hE11
    refine q_step (v := .agg #[.int .i64 mp0, .slice mp1A mp1.length mp1C]) hE13 (y_loadP Try.underlying30 rfl (by kernel_rfl) rfl rfl (St.row (i := 0) hS7 rfl)) rfl rfl rfl ?_; intro a14 hE15; clear hE13
    refine l_step hE15 rfl (l_call (f := 96) (argv := [.agg #[.int .i64 mp0, .slice mp1A mp1.length mp1C]]) hE15 (fun _ => cf_isFrame _ _) rfl rfl (c_isFrame mp0 mp1A mp1.length mp1C mp1 w4 (St.rdR (i := 2) hS7 rfl)) ?_)
    rintro _ w17 ⟨rfl, he21⟩ a18 hE19; clear hE15
    have hS20 := St.go hS7 he21; clear hS7
    refine q_step (v := .bool (F_isFrame mp0 mp1)) hE19 (y_move rfl) rfl rfl rfl ?_; intro a22 hE23; clear hE19
    rcases Bool.eq_false_or_eq_true (F_isFrame mp0 mp1) with hb24 | hb24
    ·
      have hE25 := hE23; (try rw [hb24] at hE25); clear hE23
      have hp26 := isFrame_t hb24
      refine q_step (v := .pointer (some ⟨b3, 2, none⟩)) hE25 (y_field rfl (fun _ => by kernel_rfl)) rfl rfl rfl ?_; intro a27 hE28; clear hE25
      refine q_step (v := .slice mp2A mp2.length mp2C) hE28 (y_load (fun _ => by kernel_rfl) rfl (St.cell (i := 0) hS20 rfl rfl)) rfl rfl rfl ?_; intro a29 hE30; clear hE28
      refine q_step (v := .int .i64 (mp2.length : Int)) hE30 (y_len (e := 2) (by kernel_rfl) rfl) rfl rfl rfl ?_; intro a31 hE32; clear hE30
      refine q_step (v := .bool (decide ((mp2.length : Int) = 6))) hE32 (y_eql rfl rfl) rfl rfl rfl ?_; intro a33 hE34; clear hE32
      refine q_step (v := .bool (decide ((mp2.length : Int) = 6))) hE34 (y_pick (b := true) rfl rfl) rfl rfl rfl ?_; intro a35 hE36; clear hE34
      refine q_step (v := .bool (decide ((mp2.length : Int) = 6))) hE36 (y_move rfl) rfl rfl rfl ?_; intro a37 hE38; clear hE36
      rcases Bool.eq_false_or_eq_true (decide ((mp2.length : Int) = 6)) with hb39 | hb39
      ·
        have hE40 := hE38; (try rw [hb39] at hE40); clear hE38
        have hp41 := of_decide_eq_true hb39
        refine q_step (v := .pointer (some ⟨b3, 2, none⟩)) hE40 (y_field rfl (fun _ => by kernel_rfl)) rfl rfl rfl ?_; intro a42 hE43; clear hE40
        refine q_step (v := .slice mp2A mp2.length mp2C) hE43 (y_load (fun _ => by kernel_rfl) rfl (St.cell (i := 0) hS20 rfl rfl)) rfl rfl rfl ?_; intro a44 hE45; clear hE43
        refine q_step (v := .func (.func 147) #[] #[.pointer (some ⟨b3, 0, none⟩)]) hE45 (y_makeFunc (vs := [.pointer (some ⟨b3, 0, none⟩)]) rfl) rfl rfl rfl ?_; intro a46 hE47; clear hE45
        refine l_step hE47 rfl (l_call (f := 146) (argv := [.slice mp2A mp2.length mp2C, .func (.func 147) #[] #[.pointer (some ⟨b3, 0, none⟩)]]) hE47 (fun _ => cf_z_ContainsFunc _ _) rfl rfl (c_z_ContainsFunc mp2A mp2.length mp2C mp2 147 [.pointer (some ⟨b3, 0, none⟩)] (fun x0 => F_isModel_k1 x0 mp0 mp1 mp2) (fun _ => True) w17 (St.rdR (i := 1) hS20 rfl) (fun _ _ => cf_isModel_k1 _ _) (fun x0 w' hx he => Ret.ext (c_isModel_k1 x0 b3 mp0 mp1A mp1.length mp1C mp1 mp2A mp2.length mp2C mp2 w' (RdS.ext (St.rdR (i := 2) hS20 rfl) he) (RdS.ext (St.rdR (i := 1) hS20 rfl) he) (St.row (i := 0) hS20 rfl w' he))) (fun _ _ _ => trivial)) ?_)
        rintro _ w49 ⟨rfl, he53⟩ a50 hE51; clear hE47
        have hS52 := St.go hS20 he53; clear hS20
        refine q_step (v := .bool (!(F_z_ContainsFunc mp2 (fun x0 => F_isModel_k1 x0 mp0 mp1 mp2)))) hE51 (y_not rfl) rfl rfl rfl ?_; intro a54 hE55; clear hE51
        refine q_step (v := .bool (!(F_z_ContainsFunc mp2 (fun x0 => F_isModel_k1 x0 mp0 mp1 mp2)))) hE55 (y_pick (b := true) rfl rfl) rfl rfl rfl ?_; intro a56 hE57; clear hE55
        refine q_step (v := .bool (!(F_z_ContainsFunc mp2 (fun x0 => F_isModel_k1 x0 mp0 mp1 mp2)))) hE57 (y_assign rfl) rfl rfl rfl ?_; intro a58 hE59; clear hE57
        refine c_nil ?_
        have hE60 := hE59.sub (L' := [(2, .bool (!(F_z_ContainsFunc mp2 (fun x0 => F_isModel_k1 x0 mp0 mp1 mp2))))]) ⟨rfl, trivial⟩; clear hE59
        refine p_tn ?_
        have hE61 := hE60.sub (L' := [(2, .bool (!(F_z_ContainsFunc mp2 (fun x0 => F_isModel_k1 x0 mp0 mp1 mp2))))]) ⟨rfl, trivial⟩
        have hS62 := (St.pick (Γ' := [.rd 1 mp1A mp1.length mp1C mp1, .rd 1 mp2A mp2.length mp2C mp2, .blk b3 #[.int .i64 mp0, .slice mp1A mp1.length mp1C, .slice mp2A mp2.length mp2C] 32]) hS52 [2, 1, 0] (by decide) rfl)
        exact ⟨(by rw [hb39, hb24]; exact hE61), hS62⟩
      ·
        have hE63 := hE38; (try rw [hb39] at hE63); clear hE38
        have hp64 := of_decide_eq_false hb39
        refine q_skip hE63 rfl rfl rfl ?_; intro a65 hE66; clear hE63
        refine q_skip hE66 rfl rfl rfl ?_; intro a67 hE68; clear hE66
        refine q_skip hE68 rfl rfl rfl ?_; intro a69 hE70; clear hE68
        refine q_skip hE70 rfl rfl rfl ?_; intro a71 hE72; clear hE70
        refine q_skip hE72 rfl rfl rfl ?_; intro a73 hE74; clear hE72
        refine q_step (v := .bool false) hE74 (y_pick (b := false) rfl rfl) rfl rfl rfl ?_; intro a75 hE76; clear hE74
        refine q_step (v := .bool false) hE76 (y_assign rfl) rfl rfl rfl ?_; intro a77 hE78; clear hE76
        refine c_nil ?_
        have hE79 := hE78.sub (L' := [(2, .bool false)]) ⟨rfl, trivial⟩; clear hE78
        refine p_tn ?_
        have hE80 := hE79.sub (L' := [(2, .bool false)]) ⟨rfl, trivial⟩
        have hS81 := (St.pick (Γ' := [.rd 1 mp1A mp1.length mp1C mp1, .rd 1 mp2A mp2.length mp2C mp2, .blk b3 #[.int .i64 mp0, .slice mp1A mp1.length mp1C, .slice mp2A mp2.length mp2C] 32]) hS20 [2, 1, 0] (by decide) rfl)
        exact ⟨(by rw [hb39, hb24]; exact hE80), hS81⟩
    ·
      have hE82 := hE23; (try rw [hb24] at hE82); clear hE23
      refine q_skip hE82 rfl rfl rfl ?_; intro a83 hE84; clear hE82
      refine q_skip hE84 rfl rfl rfl ?_; intro a85 hE86; clear hE84
      refine q_skip hE86 rfl rfl rfl ?_; intro a87 hE88; clear hE86
      refine q_skip hE88 rfl rfl rfl ?_; intro a89 hE90; clear hE88
      refine q_step (v := .bool false) hE90 (y_pick (b := false) rfl rfl) rfl rfl rfl ?_; intro a91 hE92; clear hE90
      refine q_step (v := .bool false) hE92 (y_move rfl) rfl rfl rfl ?_; intro a93 hE94; clear hE92
      refine q_skip hE94 rfl rfl rfl ?_; intro a95 hE96; clear hE94
      refine q_skip hE96 rfl rfl rfl ?_; intro a97 hE98; clear hE96
      refine q_skip hE98 rfl rfl rfl ?_; intro a99 hE100; clear hE98
      refine q_skip hE100 rfl rfl rfl ?_; intro a101 hE102; clear hE100
      refine q_skip hE102 rfl rfl rfl ?_; intro a103 hE104; clear hE102
      refine q_step (v := .bool false) hE104 (y_pick (b := false) rfl rfl) rfl rfl rfl ?_; intro a105 hE106; clear hE104
      refine q_step (v := .bool false) hE106 (y_assign rfl) rfl rfl rfl ?_; intro a107 hE108; clear hE106
      refine c_nil ?_
      have hE109 := hE108.sub (L' := [(2, .bool false)]) ⟨rfl, trivial⟩; clear hE108
      refine p_tn ?_
      have hE110 := hE109.sub (L' := [(2, .bool false)]) ⟨rfl, trivial⟩
      have hS111 := (St.pick (Γ' := [.rd 1 mp1A mp1.length mp1C mp1, .rd 1 mp2A mp2.length mp2C mp2, .blk b3 #[.int .i64 mp0, .slice mp1A mp1.length mp1C, .slice mp2A mp2.length mp2C] 32]) hS20 [2, 1, 0] (by decide) rfl)
      exact ⟨(by rw [hb24]; exact hE110), hS111⟩
  ·
    rintro a112 w113 ⟨hE114, hS115⟩; clear hE11 hS7
    refine wp_ret ?_
    have hF : F_isModel mp0 mp1 mp2 = ((F_isFrame mp0 mp1) && ((decide ((mp2.length : Int) = 6)) && (!(F_z_ContainsFunc mp2 (fun x0 => F_isModel_k1 x0 mp0 mp1 mp2))))) := by unfold F_isModel; rfl
    refine c_ret1 hE114 rfl rfl ?_
    exact ⟨(by rw [hF]; first | done | (dsimp only; done) | rfl), hS115.ext⟩

theorem isModel_eq (mp0 : Int) (mp1 mp2 : List Int) : F_isModel mp0 mp1 mp2 = F_l06Is mp0 mp1 mp2 := by
  unfold F_isModel F_l06Is
  rw [isFrame_eq]
  cases h : F_l05Is mp0 mp1
  · rfl
  · have hb := l05Is_t h
    congr 2
    rw [contains_eq, masks_eq, List.all_eq_not_any_not]
    congr 2; funext x
    unfold F_isModel_k1
    rw [isMask_eq (by omega) (by omega)]
theorem isModel_t {mp0 : Int} {mp1 mp2 : List Int} (h : F_isModel mp0 mp1 mp2 = true) : F_l05Is mp0 mp1 = true ∧ ((0 ≤ mp0 ∧ mp0 ≤ 8) ∧ (mp1.length : Int) = mp0) ∧ (mp2.length : Int) = 6 ∧ ∀ m : Int, 0 ≤ m → m < (mp2.length : Int) → 0 ≤ gI mp2 m ∧ gI mp2 m ≤ fullI mp0 := by
  rw [isModel_eq] at h; exact l06Is_t h

def F_l07Atoms_L1b (mp2 : List Int) (np2 : List Int) (xp : Int) (yp : Int) (rec : Int → Except (Bool) (Int)) (v9 : Int) : Except (Bool) (Int) :=
  bif (decide (v9 < (mp2.length : Int))) then (bif ((F_l01Bit (gI mp2 v9) xp) != (F_l01Bit (gI np2 v9) yp)) then (.error false) else (rec (v9 + 1))) else (.ok v9)
def F_l07Atoms_L1 (mp2 : List Int) (np2 : List Int) (xp : Int) (yp : Int) : Nat → Int → Except (Bool) (Int)
  | 0, v9 => .ok v9
  | r + 1, v9 => F_l07Atoms_L1b mp2 np2 xp yp (F_l07Atoms_L1 mp2 np2 xp yp r) v9
def F_l07Atoms (mp0 : Int) (mp1 : List Int) (mp2 : List Int) (np0 : Int) (np1 : List Int) (np2 : List Int) (xp : Int) (yp : Int) : Bool :=
  bif (isOk (F_l07Atoms_L1 mp2 np2 xp yp (Int.toNat ((mp2.length : Int) - 0) + 1) 0)) then true else (errD (F_l07Atoms_L1 mp2 np2 xp yp (Int.toNat ((mp2.length : Int) - 0) + 1) 0))
theorem cf_l07Atoms (args : Array Value) (w : World) : (callFunc 213 args).run Try.prog w = .ok (.enter 213 args) w := by kernel_rfl
set_option maxRecDepth 100000 in
theorem c_l07Atoms (mp0 : Int) (mp1A : Option Addr) (mp1N mp1C : Nat) (mp1 : List Int) (mp2A : Option Addr) (mp2N mp2C : Nat) (mp2 : List Int) (np0 : Int) (np1A : Option Addr) (np1N np1C : Nat) (np1 : List Int) (np2A : Option Addr) (np2N np2C : Nat) (np2 : List Int) (xp : Int) (yp : Int) (w : World) (mp1R : RdS w 1 mp1A mp1N mp1C mp1) (mp2R : RdS w 1 mp2A mp2N mp2C mp2) (np1R : RdS w 1 np1A np1N np1C np1) (np2R : RdS w 1 np2A np2N np2C np2) (h6 : (mp2.length : Int) = 6) (h6n : (np2.length : Int) = 6) (hx : 0 ≤ xp ∧ xp ≤ 8) (hy : 0 ≤ yp ∧ yp ≤ 8) :
    Calls Try.prog 213 #[.agg #[.int .i64 mp0, .slice mp1A mp1N mp1C, .slice mp2A mp2N mp2C], .agg #[.int .i64 np0, .slice np1A np1N np1C, .slice np2A np2N np2C], .int .i64 xp, .int .i64 yp] w (Ret fun v w' => v = .bool (F_l07Atoms mp0 mp1 mp2 np0 np1 np2 xp yp) ∧ Ext w w') := by
  obtain rfl : mp1N = mp1.length := mp1R.len1.symm
  have mp1Le := mp1R.le
  obtain rfl : mp2N = mp2.length := mp2R.len1.symm
  have mp2Le := mp2R.le
  obtain rfl : np1N = np1.length := np1R.len1.symm
  have np1Le := np1R.le
  obtain rfl : np2N = np2.length := np2R.len1.symm
  have np2Le := np2R.le
  have hS := St.nil w
  have hS1 := St.rd0 hS rfl mp1R; clear hS
  have hS2 := St.rd0 hS1 rfl mp2R; clear hS1
  have hS3 := St.rd0 hS2 rfl np1R; clear hS2
  have hS4 := St.rd0 hS3 rfl np2R; clear hS3
  refine enter (args := [.agg #[.int .i64 mp0, .slice mp1A mp1.length mp1C, .slice mp2A mp2.length mp2C], .agg #[.int .i64 np0, .slice np1A np1.length np1C, .slice np2A np2.length np2C], .int .i64 xp, .int .i64 yp]) Try.func213 rfl rfl ?_
  rw [Try.ntmps213]; intro a hE
  have hE := hE.sub (L' := [(0, .agg #[.int .i64 mp0, .slice mp1A mp1.length mp1C, .slice mp2A mp2.length mp2C]), (1, .agg #[.int .i64 np0, .slice np1A np1.length np1C, .slice np2A np2.length np2C]), (2, .int .i64 xp), (3, .int .i64 yp)]) ⟨rfl, rfl, rfl, rfl, trivial⟩
  refine c_seq ?_
  refine c_reg ?_
  refine l_step hE rfl (l_box (v := .agg #[.int .i64 mp0, .slice mp1A mp1.length mp1C, .slice mp2A mp2.length mp2C]) (cs := #[.int .i64 mp0, .slice mp1A mp1.length mp1C, .slice mp2A mp2.length mp2C]) hS4 hE rfl rfl rfl ?_)
  intro b5 w6 hS9 he10 a7 hE8; clear hS4 hE
  refine l_step hE8 rfl (l_box (v := .agg #[.int .i64 np0, .slice np1A np1.length np1C, .slice np2A np2.length np2C]) (cs := #[.int .i64 np0, .slice np1A np1.length np1C, .slice np2A np2.length np2C]) hS9 hE8 rfl rfl rfl ?_)
  intro b11 w12 hS15 he16 a13 hE14; clear hS9 hE8
  refine q_step (v := .bool false) hE14 (y_assign rfl) rfl rfl rfl ?_; intro a17 hE18; clear hE14
  refine c_nil ?_
  have hE19 := hE18.sub (L' := [(2, .int .i64 xp), (3, .int .i64 yp), (4, .pointer (some ⟨b5, 0, none⟩)), (5, .pointer (some ⟨b11, 0, none⟩))]) ⟨rfl, rfl, rfl, rfl, trivial⟩; clear hE18
  refine p_tn ?_
  refine c_seq ?_
  refine c_seq ?_
  refine c_reg ?_
  refine q_step (v := .int .i64 0) hE19 (y_assign rfl) rfl rfl rfl ?_; intro a20 hE21; clear hE19
  refine c_nil ?_
  have hE22 := hE21.sub (L' := [(2, .int .i64 xp), (3, .int .i64 yp), (4, .pointer (some ⟨b5, 0, none⟩)), (5, .pointer (some ⟨b11, 0, none⟩)), (9, .int .i64 0)]) ⟨rfl, rfl, rfl, rfl, rfl, trivial⟩; clear hE21
  refine p_tn ?_
  refine c_cut1 (fun a' w' => isOk (F_l07Atoms_L1 mp2 np2 xp yp (Int.toNat ((mp2.length : Int) - 0) + 1) 0) = true ∧ (0 ≤ (okD (F_l07Atoms_L1 mp2 np2 xp yp (Int.toNat ((mp2.length : Int) - 0) + 1) 0))) ∧ ((okD (F_l07Atoms_L1 mp2 np2 xp yp (Int.toNat ((mp2.length : Int) - 0) + 1) 0)) ≤ (mp2.length : Int)) ∧ E a' 32 [(2, .int .i64 xp), (3, .int .i64 yp), (4, .pointer (some ⟨b5, 0, none⟩)), (5, .pointer (some ⟨b11, 0, none⟩)), (9, .int .i64 (okD (F_l07Atoms_L1 mp2 np2 xp yp (Int.toNat ((mp2.length : Int) - 0) + 1) 0)))] ∧ St w w' [.blk b11 #[.int .i64 np0, .slice np1A np1.length np1C, .slice np2A np2.length np2C] 32, .blk b5 #[.int .i64 mp0, .slice mp1A mp1.length mp1C, .slice mp2A mp2.length mp2C] 32, .rd 1 np2A np2.length np2C np2, .rd 1 np1A np1.length np1C np1, .rd 1 mp2A mp2.length mp2C mp2, .rd 1 mp1A mp1.length mp1C mp1]) ?_ ?_
  ·
    refine wp_block ?_
    refine c_loop (fun r a' w' => ∃ v9 : Int, F_l07Atoms_L1 mp2 np2 xp yp r v9 = F_l07Atoms_L1 mp2 np2 xp yp (Int.toNat ((mp2.length : Int) - 0) + 1) 0 ∧ Int.toNat ((mp2.length : Int) - v9) < r ∧ (0 ≤ v9) ∧ (v9 ≤ (mp2.length : Int)) ∧ E a' 32 [(2, .int .i64 xp), (3, .int .i64 yp), (4, .pointer (some ⟨b5, 0, none⟩)), (5, .pointer (some ⟨b11, 0, none⟩)), (9, .int .i64 v9)] ∧ St w w' [.blk b11 #[.int .i64 np0, .slice np1A np1.length np1C, .slice np2A np2.length np2C] 32, .blk b5 #[.int .i64 mp0, .slice mp1A mp1.length mp1C, .slice mp2A mp2.length mp2C] 32, .rd 1 np2A np2.length np2C np2, .rd 1 np1A np1.length np1C np1, .rd 1 mp2A mp2.length mp2C mp2, .rd 1 mp1A mp1.length mp1C mp1]) (r := (Int.toNat ((mp2.length : Int) - 0) + 1)) ?_ ?_
    · exact ⟨0, rfl, Nat.lt_succ_self _, (by first | omega | (simp only [sS_len, sL_len]; omega) | (simp only [List.length_replicate, sI_len]; omega) | (simp only [List.length_append, List.length_cons, List.length_nil, sI_len, cond_true, cond_false]; omega) | (simp only [List.length_append, List.length_cons, List.length_nil, sI_len, cond_eq_ite, apply_ite List.length]; split <;> simp only [List.length_append, List.length_cons, List.length_nil, sI_len] <;> omega) | grind), (by first | omega | (simp only [sS_len, sL_len]; omega) | (simp only [List.length_replicate, sI_len]; omega) | (simp only [List.length_append, List.length_cons, List.length_nil, sI_len, cond_true, cond_false]; omega) | (simp only [List.length_append, List.length_cons, List.length_nil, sI_len, cond_eq_ite, apply_ite List.length]; split <;> simp only [List.length_append, List.length_cons, List.length_nil, sI_len] <;> omega) | grind), (hE22.sub (L' := [(2, .int .i64 xp), (3, .int .i64 yp), (4, .pointer (some ⟨b5, 0, none⟩)), (5, .pointer (some ⟨b11, 0, none⟩)), (9, .int .i64 0)]) ⟨rfl, rfl, rfl, rfl, rfl, trivial⟩), (St.pick (Γ' := [.blk b11 #[.int .i64 np0, .slice np1A np1.length np1C, .slice np2A np2.length np2C] 32, .blk b5 #[.int .i64 mp0, .slice mp1A mp1.length mp1C, .slice mp2A mp2.length mp2C] 32, .rd 1 np2A np2.length np2C np2, .rd 1 np1A np1.length np1C np1, .rd 1 mp2A mp2.length mp2C mp2, .rd 1 mp1A mp1.length mp1C mp1]) hS15 [0, 1, 2, 3, 4, 5] (by decide) rfl)⟩
    ·
      clear hE22 hS15
      rintro r32 a24 w25 ⟨v9, hT28, hr29, hi30, hi31, hE26, hS27⟩
      obtain ⟨r32, rfl⟩ : ∃ r', r32 = r' + 1 := ⟨r32 - 1, by omega⟩
      refine c_seq ?_
      refine c_seq ?_
      refine c_reg ?_
      refine q_step (v := .int .i64 v9) hE26 (y_move rfl) rfl rfl rfl ?_; intro a33 hE34; clear hE26
      refine q_step (v := .pointer (some ⟨b5, 2, none⟩)) hE34 (y_field rfl (fun _ => by kernel_rfl)) rfl rfl rfl ?_; intro a35 hE36; clear hE34
      refine q_step (v := .slice mp2A mp2.length mp2C) hE36 (y_load (fun _ => by kernel_rfl) rfl (St.cell (i := 1) hS27 rfl rfl)) rfl rfl rfl ?_; intro a37 hE38; clear hE36
      refine q_step (v := .int .i64 (mp2.length : Int)) hE38 (y_len (e := 2) (by kernel_rfl) rfl) rfl rfl rfl ?_; intro a39 hE40; clear hE38
      refine q_step (v := .bool (decide (v9 < (mp2.length : Int)))) hE40 (y_lss rfl rfl) rfl rfl rfl ?_; intro a41 hE42; clear hE40
      refine c_nil ?_
      have hE43 := hE42.sub (L' := [(2, .int .i64 xp), (3, .int .i64 yp), (4, .pointer (some ⟨b5, 0, none⟩)), (5, .pointer (some ⟨b11, 0, none⟩)), (9, .int .i64 v9), (14, .bool (decide (v9 < (mp2.length : Int))))]) ⟨rfl, rfl, rfl, rfl, rfl, rfl, trivial⟩; clear hE42
      refine p_tn ?_
      refine c_cond hE43 rfl (fun ht44 => ?_) (fun ht44 => ?_)
      ·
        have hp45 := of_decide_eq_true ht44
        have hE46 := hE43; rw [ht44] at hE46; clear hE43
        refine wp_skip ?_
        refine p_tn ?_
        refine c_seq ?_
        refine wp_block ?_
        refine c_seq ?_
        refine d_start (fun w w' => (fun w' => w'.cell? ⟨b5, 2, none⟩ = some (.slice mp2A mp2.length mp2C) ∧ w'.cell? (adr mp2A (Int.toNat v9)) = some (.int .i64 (gI mp2 v9)) ∧ w'.cell? ⟨b11, 2, none⟩ = some (.slice np2A np2.length np2C) ∧ w'.cell? (adr np2A (Int.toNat v9)) = some (.int .i64 (gI np2 v9)) ∧ True) w → (fun w' => w'.cell? ⟨b5, 2, none⟩ = some (.slice mp2A mp2.length mp2C) ∧ w'.cell? (adr mp2A (Int.toNat v9)) = some (.int .i64 (gI mp2 v9)) ∧ w'.cell? ⟨b11, 2, none⟩ = some (.slice np2A np2.length np2C) ∧ w'.cell? (adr np2A (Int.toNat v9)) = some (.int .i64 (gI np2 v9)) ∧ True) w') [1, 4, 8, 11] 15 (by kernel_rfl) rfl ?_
        intro w47 he48; have hS49 := St.go hS27 he48; clear hS27
        refine d_pure (fun _ h => h) (v := .pointer (some ⟨b5, 2, none⟩)) 0 rfl hE46 (y_field rfl (fun _ => by kernel_rfl)) rfl (by kernel_rfl) (by kernel_rfl) (by kernel_rfl) rfl rfl (fun _ _ _ h => h) ?_; intro a50 hE51; clear hE46
        refine d_take (fun _ h => h) (fun _ _ h k => h k) (v := .slice mp2A mp2.length mp2C) 1 rfl hE51 (S := fun w' => w'.cell? ⟨b5, 2, none⟩ = some (.slice mp2A mp2.length mp2C) ∧ w'.cell? (adr mp2A (Int.toNat v9)) = some (.int .i64 (gI mp2 v9)) ∧ w'.cell? ⟨b11, 2, none⟩ = some (.slice np2A np2.length np2C) ∧ w'.cell? (adr np2A (Int.toNat v9)) = some (.int .i64 (gI np2 v9)) ∧ True) ⟨(St.cell (i := 1) hS49 rfl rfl _ (Ext.refl _)), (RdS.elt (St.rdR (i := 4) hS49 rfl) (by omega) (by omega) _ (Ext.refl _)), (St.cell (i := 0) hS49 rfl rfl _ (Ext.refl _)), (RdS.elt (St.rdR (i := 2) hS49 rfl) (by omega) (by omega) _ (Ext.refl _)), trivial⟩ (y_load (fun _ => by kernel_rfl) rfl (fun _ h => h.1)) rfl rfl (by kernel_rfl) (by kernel_rfl) (by kernel_rfl) (by kernel_rfl) rfl rfl (fun _ _ _ h => h) ?_; intro a52 hE53; clear hE51
        refine d_pure (fun _ h => h) (v := .int .i64 v9) 2 rfl hE53 (y_move rfl) rfl (by kernel_rfl) (by kernel_rfl) (by kernel_rfl) rfl rfl (fun _ _ _ h => h) ?_; intro a54 hE55; clear hE53
        refine d_pure (fun _ h => h) (v := .pointer (some (adr mp2A (Int.toNat v9)))) 3 rfl hE55 (y_idx (by kernel_rfl) (fun _ => by kernel_rfl) rfl rfl (RdS.isS (m := v9) (St.rdR (i := 4) hS49 rfl) (by omega) (by omega)) (by omega) (by omega) (Nat.mul_one _).symm) rfl (by kernel_rfl) (by kernel_rfl) (by kernel_rfl) rfl rfl (fun _ _ _ h => h) ?_; intro a56 hE57; clear hE55
        refine d_take (fun _ h => h) (fun _ _ h k => h k) (v := .int .i64 (gI mp2 v9)) 4 rfl hE57 (S := fun w' => w'.cell? ⟨b5, 2, none⟩ = some (.slice mp2A mp2.length mp2C) ∧ w'.cell? (adr mp2A (Int.toNat v9)) = some (.int .i64 (gI mp2 v9)) ∧ w'.cell? ⟨b11, 2, none⟩ = some (.slice np2A np2.length np2C) ∧ w'.cell? (adr np2A (Int.toNat v9)) = some (.int .i64 (gI np2 v9)) ∧ True) ⟨(St.cell (i := 1) hS49 rfl rfl _ (Ext.refl _)), (RdS.elt (St.rdR (i := 4) hS49 rfl) (by omega) (by omega) _ (Ext.refl _)), (St.cell (i := 0) hS49 rfl rfl _ (Ext.refl _)), (RdS.elt (St.rdR (i := 2) hS49 rfl) (by omega) (by omega) _ (Ext.refl _)), trivial⟩ (y_load (fun _ => by kernel_rfl) rfl (fun _ h => h.2.1)) rfl rfl (by kernel_rfl) (by kernel_rfl) (by kernel_rfl) (by kernel_rfl) rfl rfl (fun _ _ _ h => h) ?_; intro a58 hE59; clear hE57
        refine d_pure (fun _ h => h) (v := .int .i64 xp) 5 rfl hE59 (y_move rfl) rfl (by kernel_rfl) (by kernel_rfl) (by kernel_rfl) rfl rfl (fun _ _ _ h => h) ?_; intro a60 hE61; clear hE59
        refine d_pure (fun _ h => h) (v := .pointer (some ⟨b11, 2, none⟩)) 7 rfl hE61 (y_field rfl (fun _ => by kernel_rfl)) rfl (by kernel_rfl) (by kernel_rfl) (by kernel_rfl) rfl rfl (fun _ _ _ h => h) ?_; intro a62 hE63; clear hE61
        refine d_take (fun _ h => h) (fun _ _ h k => h k) (v := .slice np2A np2.length np2C) 8 rfl hE63 (S := fun w' => w'.cell? ⟨b5, 2, none⟩ = some (.slice mp2A mp2.length mp2C) ∧ w'.cell? (adr mp2A (Int.toNat v9)) = some (.int .i64 (gI mp2 v9)) ∧ w'.cell? ⟨b11, 2, none⟩ = some (.slice np2A np2.length np2C) ∧ w'.cell? (adr np2A (Int.toNat v9)) = some (.int .i64 (gI np2 v9)) ∧ True) ⟨(St.cell (i := 1) hS49 rfl rfl _ (Ext.refl _)), (RdS.elt (St.rdR (i := 4) hS49 rfl) (by omega) (by omega) _ (Ext.refl _)), (St.cell (i := 0) hS49 rfl rfl _ (Ext.refl _)), (RdS.elt (St.rdR (i := 2) hS49 rfl) (by omega) (by omega) _ (Ext.refl _)), trivial⟩ (y_load (fun _ => by kernel_rfl) rfl (fun _ h => h.2.2.1)) rfl rfl (by kernel_rfl) (by kernel_rfl) (by kernel_rfl) (by kernel_rfl) rfl rfl (fun _ _ _ h => h) ?_; intro a64 hE65; clear hE63
        refine d_pure (fun _ h => h) (v := .int .i64 v9) 9 rfl hE65 (y_move rfl) rfl (by kernel_rfl) (by kernel_rfl) (by kernel_rfl) rfl rfl (fun _ _ _ h => h) ?_; intro a66 hE67; clear hE65
        refine d_pure (fun _ h => h) (v := .pointer (some (adr np2A (Int.toNat v9)))) 10 rfl hE67 (y_idx (by kernel_rfl) (fun _ => by kernel_rfl) rfl rfl (RdS.isS (m := v9) (St.rdR (i := 2) hS49 rfl) (by omega) (by omega)) (by omega) (by omega) (Nat.mul_one _).symm) rfl (by kernel_rfl) (by kernel_rfl) (by kernel_rfl) rfl rfl (fun _ _ _ h => h) ?_; intro a68 hE69; clear hE67
        refine d_take (fun _ h => h) (fun _ _ h k => h k) (v := .int .i64 (gI np2 v9)) 11 rfl hE69 (S := fun w' => w'.cell? ⟨b5, 2, none⟩ = some (.slice mp2A mp2.length mp2C) ∧ w'.cell? (adr mp2A (Int.toNat v9)) = some (.int .i64 (gI mp2 v9)) ∧ w'.cell? ⟨b11, 2, none⟩ = some (.slice np2A np2.length np2C) ∧ w'.cell? (adr np2A (Int.toNat v9)) = some (.int .i64 (gI np2 v9)) ∧ True) ⟨(St.cell (i := 1) hS49 rfl rfl _ (Ext.refl _)), (RdS.elt (St.rdR (i := 4) hS49 rfl) (by omega) (by omega) _ (Ext.refl _)), (St.cell (i := 0) hS49 rfl rfl _ (Ext.refl _)), (RdS.elt (St.rdR (i := 2) hS49 rfl) (by omega) (by omega) _ (Ext.refl _)), trivial⟩ (y_load (fun _ => by kernel_rfl) rfl (fun _ h => h.2.2.2.1)) rfl rfl (by kernel_rfl) (by kernel_rfl) (by kernel_rfl) (by kernel_rfl) rfl rfl (fun _ _ _ h => h) ?_; intro a70 hE71; clear hE69
        refine d_pure (fun _ h => h) (v := .int .i64 yp) 12 rfl hE71 (y_move rfl) rfl (by kernel_rfl) (by kernel_rfl) (by kernel_rfl) rfl rfl (fun _ _ _ h => h) ?_; intro a72 hE73; clear hE71
        refine d_only 6 (by kernel_rfl) rfl hE73 rfl (l_call (f := 144) (argv := [.int .i64 (gI mp2 v9), .int .i64 xp]) hE73 (fun _ => cf_l01Bit _ _) rfl rfl (c_l01Bit (gI mp2 v9) xp w47 (by omega) (by omega)) ?_)
        rintro _ _ ⟨rfl, rfl⟩ a76 hE77; clear hE73
        refine ⟨fun _ _ => ⟨(St.cell (i := 1) hS49 rfl rfl _ (Ext.refl _)), (RdS.elt (St.rdR (i := 4) hS49 rfl) (by omega) (by omega) _ (Ext.refl _)), (St.cell (i := 0) hS49 rfl rfl _ (Ext.refl _)), (RdS.elt (St.rdR (i := 2) hS49 rfl) (by omega) (by omega) _ (Ext.refl _)), trivial⟩, ?_⟩
        refine d_only 13 (by kernel_rfl) rfl hE77 rfl (l_call (f := 144) (argv := [.int .i64 (gI np2 v9), .int .i64 yp]) hE77 (fun _ => cf_l01Bit _ _) rfl rfl (c_l01Bit (gI np2 v9) yp w47 (by omega) (by omega)) ?_)
        rintro _ _ ⟨rfl, rfl⟩ a82 hE83; clear hE77
        refine ⟨fun h => Bool.noConfusion (h.symm.trans (show exm _ _ _ = true by kernel_rfl)), ?_⟩
        refine d_pure (fun _ h => h) (v := .bool ((F_l01Bit (gI mp2 v9) xp) != (F_l01Bit (gI np2 v9) yp))) 14 rfl hE83 (y_neqb (by kernel_rfl) rfl rfl) rfl (by kernel_rfl) (by kernel_rfl) (by kernel_rfl) rfl rfl (fun _ _ _ h => h) ?_; intro a86 hE87; clear hE83
        refine d_done (by kernel_rfl) ?_
        have hE88 := hE87.sub (L' := [(2, .int .i64 xp), (3, .int .i64 yp), (4, .pointer (some ⟨b5, 0, none⟩)), (5, .pointer (some ⟨b11, 0, none⟩)), (9, .int .i64 v9), (31, .bool ((F_l01Bit (gI mp2 v9) xp) != (F_l01Bit (gI np2 v9) yp)))]) ⟨rfl, rfl, rfl, rfl, rfl, rfl, trivial⟩; clear hE87
        refine p_tn ?_
        refine c_cond hE88 rfl (fun ht89 => ?_) (fun ht89 => ?_)
        ·
          have hE90 := hE88; rw [ht89] at hE90; clear hE88
          refine c_seq ?_
          refine c_reg ?_
          refine q_step (v := .bool false) hE90 (y_assign rfl) rfl rfl rfl ?_; intro a91 hE92; clear hE90
          refine c_nil ?_
          have hE93 := hE92.sub (L' := [(8, .bool false)]) ⟨rfl, trivial⟩; clear hE92
          refine p_tn ?_
          refine wp_ret ?_
          refine p_br ?_
          refine p_tr ?_
          have hX94 : F_l07Atoms_L1 mp2 np2 xp yp (Int.toNat ((mp2.length : Int) - 0) + 1) 0 = .error false := hT28.symm.trans (show F_l07Atoms_L1b mp2 np2 xp yp (F_l07Atoms_L1 mp2 np2 xp yp r32) v9 = .error false by unfold F_l07Atoms_L1b; rw [ht89, ht44]; first | done | rfl)
          refine p_tr (p_br (p_tr ?_))
          refine p_tr ?_
          have hF : F_l07Atoms mp0 mp1 mp2 np0 np1 np2 xp yp = false := by unfold F_l07Atoms; rw [hX94]; first | done | rfl
          refine c_ret1 hE93 rfl rfl ?_
          exact ⟨(by rw [hF]; first | done | (dsimp only; done) | rfl), hS49.ext⟩
        ·
          have hE95 := hE88; rw [ht89] at hE95; clear hE88
          refine wp_skip ?_
          refine p_bn ?_
          refine p_tn ?_
          refine c_reg ?_
          refine q_step (v := .int .i64 v9) hE95 (y_move rfl) rfl rfl rfl ?_; intro a96 hE97; clear hE95
          refine q_step (v := .int .i64 (v9 + 1)) hE97 (y_add rfl rfl ⟨(by omega), (by omega)⟩) rfl rfl rfl ?_; intro a98 hE99; clear hE97
          refine q_step (v := .int .i64 (v9 + 1)) hE99 (y_assign rfl) rfl rfl rfl ?_; intro a100 hE101; clear hE99
          refine c_nil ?_
          have hE102 := hE101.sub (L' := [(2, .int .i64 xp), (3, .int .i64 yp), (4, .pointer (some ⟨b5, 0, none⟩)), (5, .pointer (some ⟨b11, 0, none⟩)), (9, .int .i64 (v9 + 1))]) ⟨rfl, rfl, rfl, rfl, rfl, trivial⟩; clear hE101
          refine p_tn ⟨r32, Nat.lt_succ_self _, v9 + 1, (hT28.symm.trans (show F_l07Atoms_L1b mp2 np2 xp yp (F_l07Atoms_L1 mp2 np2 xp yp r32) v9 = F_l07Atoms_L1 mp2 np2 xp yp r32 (v9 + 1) by unfold F_l07Atoms_L1b; rw [ht89, ht44]; first | done | rfl)).symm, (by omega), (by first | omega | (simp only [sS_len, sL_len]; omega) | (simp only [List.length_replicate, sI_len]; omega) | (simp only [List.length_append, List.length_cons, List.length_nil, sI_len, cond_true, cond_false]; omega) | (simp only [List.length_append, List.length_cons, List.length_nil, sI_len, cond_eq_ite, apply_ite List.length]; split <;> simp only [List.length_append, List.length_cons, List.length_nil, sI_len] <;> omega) | grind), (by first | omega | (simp only [sS_len, sL_len]; omega) | (simp only [List.length_replicate, sI_len]; omega) | (simp only [List.length_append, List.length_cons, List.length_nil, sI_len, cond_true, cond_false]; omega) | (simp only [List.length_append, List.length_cons, List.length_nil, sI_len, cond_eq_ite, apply_ite List.length]; split <;> simp only [List.length_append, List.length_cons, List.length_nil, sI_len] <;> omega) | grind), (hE102.sub (L' := [(2, .int .i64 xp), (3, .int .i64 yp), (4, .pointer (some ⟨b5, 0, none⟩)), (5, .pointer (some ⟨b11, 0, none⟩)), (9, .int .i64 (v9 + 1))]) ⟨rfl, rfl, rfl, rfl, rfl, trivial⟩), (St.pick (Γ' := [.blk b11 #[.int .i64 np0, .slice np1A np1.length np1C, .slice np2A np2.length np2C] 32, .blk b5 #[.int .i64 mp0, .slice mp1A mp1.length mp1C, .slice mp2A mp2.length mp2C] 32, .rd 1 np2A np2.length np2C np2, .rd 1 np1A np1.length np1C np1, .rd 1 mp2A mp2.length mp2C mp2, .rd 1 mp1A mp1.length mp1C mp1]) hS49 [0, 1, 2, 3, 4, 5] (by decide) rfl)⟩
      ·
        have hp103 := of_decide_eq_false ht44
        have hE104 := hE43; rw [ht44] at hE104; clear hE43
        refine wp_exit ?_
        refine p_te ?_
        have hX105 : F_l07Atoms_L1 mp2 np2 xp yp (Int.toNat ((mp2.length : Int) - 0) + 1) 0 = .ok v9 := hT28.symm.trans (show F_l07Atoms_L1b mp2 np2 xp yp (F_l07Atoms_L1 mp2 np2 xp yp r32) v9 = .ok v9 by unfold F_l07Atoms_L1b; rw [ht44]; first | done | rfl)
        refine p_te (p_be (p_tn ?_))
        exact ⟨(by rw [hX105]; rfl), (by rw [hX105]; exact (show 0 ≤ v9 from (by first | omega | (simp only [sS_len, sL_len]; omega) | (simp only [List.length_replicate, sI_len]; omega) | (simp only [List.length_append, List.length_cons, List.length_nil, sI_len, cond_true, cond_false]; omega) | (simp only [List.length_append, List.length_cons, List.length_nil, sI_len, cond_eq_ite, apply_ite List.length]; split <;> simp only [List.length_append, List.length_cons, List.length_nil, sI_len] <;> omega) | grind))), (by rw [hX105]; exact (show v9 ≤ (mp2.length : Int) from (by first | omega | (simp only [sS_len, sL_len]; omega) | (simp only [List.length_replicate, sI_len]; omega) | (simp only [List.length_append, List.length_cons, List.length_nil, sI_len, cond_true, cond_false]; omega) | (simp only [List.length_append, List.length_cons, List.length_nil, sI_len, cond_eq_ite, apply_ite List.length]; split <;> simp only [List.length_append, List.length_cons, List.length_nil, sI_len] <;> omega) | grind))), (by rw [hX105]; exact (hE104.sub (L' := [(2, .int .i64 xp), (3, .int .i64 yp), (4, .pointer (some ⟨b5, 0, none⟩)), (5, .pointer (some ⟨b11, 0, none⟩)), (9, .int .i64 v9)]) ⟨rfl, rfl, rfl, rfl, rfl, trivial⟩)), (St.pick (Γ' := [.blk b11 #[.int .i64 np0, .slice np1A np1.length np1C, .slice np2A np2.length np2C] 32, .blk b5 #[.int .i64 mp0, .slice mp1A mp1.length mp1C, .slice mp2A mp2.length mp2C] 32, .rd 1 np2A np2.length np2C np2, .rd 1 np1A np1.length np1C np1, .rd 1 mp2A mp2.length mp2C mp2, .rd 1 mp1A mp1.length mp1C mp1]) hS27 [0, 1, 2, 3, 4, 5] (by decide) rfl)⟩
  ·
    rintro a106 w107 ⟨hO110, hi111, hi112, hE108, hS109⟩; clear hE22 hS15
    refine p_tn ?_
    refine c_seq ?_
    refine c_reg ?_
    refine q_step (v := .bool true) hE108 (y_assign rfl) rfl rfl rfl ?_; intro a113 hE114; clear hE108
    refine c_nil ?_
    have hE115 := hE114.sub (L' := [(8, .bool true)]) ⟨rfl, trivial⟩; clear hE114
    refine p_tn ?_
    refine wp_ret ?_
    have hF : F_l07Atoms mp0 mp1 mp2 np0 np1 np2 xp yp = true := by unfold F_l07Atoms; rw [hO110]; first | done | rfl
    refine c_ret1 hE115 rfl rfl ?_
    exact ⟨(by rw [hF]; first | done | (dsimp only; done) | rfl), hS109.ext⟩

def F_Model_truths_L1b (mp2 : List Int) (wp : Int) (rec : Int → Int → Int × Int) (mask5 : Int) (t11 : Int) : Int × Int :=
  bif (decide (t11 < (mp2.length : Int))) then (rec (bif (F_has (gI mp2 t11) wp) then orI mask5 (shlI 1 t11) else mask5) (t11 + 1)) else (mask5, t11)
def F_Model_truths_L1 (mp2 : List Int) (wp : Int) : Nat → Int → Int → Int × Int
  | 0, mask5, t11 => (mask5, t11)
  | r + 1, mask5, t11 => F_Model_truths_L1b mp2 wp (F_Model_truths_L1 mp2 wp r) mask5 t11
def F_Model_truths (mp0 : Int) (mp1 : List Int) (mp2 : List Int) (wp : Int) : Int :=
  (F_Model_truths_L1 mp2 wp (Int.toNat ((mp2.length : Int) - 0) + 1) 0 0).1
theorem cf_Model_truths (args : Array Value) (w : World) : (callFunc 153 args).run Try.prog w = .ok (.enter 153 args) w := by kernel_rfl
set_option maxRecDepth 100000 in
theorem c_Model_truths (mp0 : Int) (mp1A : Option Addr) (mp1N mp1C : Nat) (mp1 : List Int) (mp2A : Option Addr) (mp2N mp2C : Nat) (mp2 : List Int) (wp : Int) (w : World) (mp1R : RdS w 1 mp1A mp1N mp1C mp1) (mp2R : RdS w 1 mp2A mp2N mp2C mp2) (h6 : (mp2.length : Int) = 6) (hw : 0 ≤ wp) :
    Calls Try.prog 153 #[.agg #[.int .i64 mp0, .slice mp1A mp1N mp1C, .slice mp2A mp2N mp2C], .int .i64 wp] w (Ret fun v w' => v = .int .i64 (F_Model_truths mp0 mp1 mp2 wp) ∧ Ext w w') := by
  obtain rfl : mp1N = mp1.length := mp1R.len1.symm
  have mp1Le := mp1R.le
  obtain rfl : mp2N = mp2.length := mp2R.len1.symm
  have mp2Le := mp2R.le
  have hS := St.nil w
  have hS1 := St.rd0 hS rfl mp1R; clear hS
  have hS2 := St.rd0 hS1 rfl mp2R; clear hS1
  refine enter (args := [.agg #[.int .i64 mp0, .slice mp1A mp1.length mp1C, .slice mp2A mp2.length mp2C], .int .i64 wp]) Try.func153 rfl rfl ?_
  rw [Try.ntmps153]; intro a hE
  have hE := hE.sub (L' := [(0, .agg #[.int .i64 mp0, .slice mp1A mp1.length mp1C, .slice mp2A mp2.length mp2C]), (1, .int .i64 wp)]) ⟨rfl, rfl, trivial⟩
  refine c_seq ?_
  refine c_reg ?_
  refine l_step hE rfl (l_box (v := .agg #[.int .i64 mp0, .slice mp1A mp1.length mp1C, .slice mp2A mp2.length mp2C]) (cs := #[.int .i64 mp0, .slice mp1A mp1.length mp1C, .slice mp2A mp2.length mp2C]) hS2 hE rfl rfl rfl ?_)
  intro b3 w4 hS7 he8 a5 hE6; clear hS2 hE
  refine q_step (v := .int .i64 0) hE6 (y_assign rfl) rfl rfl rfl ?_; intro a9 hE10; clear hE6
  refine c_nil ?_
  have hE11 := hE10.sub (L' := [(1, .int .i64 wp), (2, .pointer (some ⟨b3, 0, none⟩))]) ⟨rfl, rfl, trivial⟩; clear hE10
  refine p_tn ?_
  refine c_seq ?_
  refine c_reg ?_
  refine q_step (v := .int .i64 0) hE11 (y_assign rfl) rfl rfl rfl ?_; intro a12 hE13; clear hE11
  refine c_nil ?_
  have hE14 := hE13.sub (L' := [(1, .int .i64 wp), (2, .pointer (some ⟨b3, 0, none⟩)), (5, .int .i64 0)]) ⟨rfl, rfl, rfl, trivial⟩; clear hE13
  refine p_tn ?_
  refine c_seq ?_
  refine c_seq ?_
  refine c_reg ?_
  refine q_step (v := .pointer (some ⟨b3, 2, none⟩)) hE14 (y_field rfl (fun _ => by kernel_rfl)) rfl rfl rfl ?_; intro a15 hE16; clear hE14
  refine q_step (v := .slice mp2A mp2.length mp2C) hE16 (y_load (fun _ => by kernel_rfl) rfl (St.cell (i := 0) hS7 rfl rfl)) rfl rfl rfl ?_; intro a17 hE18; clear hE16
  refine q_step (v := .int .i64 (mp2.length : Int)) hE18 (y_len (e := 2) (by kernel_rfl) rfl) rfl rfl rfl ?_; intro a19 hE20; clear hE18
  refine q_step (v := .int .i64 0) hE20 (y_move rfl) rfl rfl rfl ?_; intro a21 hE22; clear hE20
  refine c_nil ?_
  have hE23 := hE22.sub (L' := [(1, .int .i64 wp), (5, .int .i64 0), (9, .slice mp2A mp2.length mp2C), (10, .int .i64 (mp2.length : Int)), (11, .int .i64 0)]) ⟨rfl, rfl, rfl, rfl, rfl, trivial⟩; clear hE22
  refine p_tn ?_
  refine c_cut1 (fun a' w' => (0 ≤ ((F_Model_truths_L1 mp2 wp (Int.toNat ((mp2.length : Int) - 0) + 1) 0 0).2)) ∧ (((F_Model_truths_L1 mp2 wp (Int.toNat ((mp2.length : Int) - 0) + 1) 0 0).2) ≤ (mp2.length : Int)) ∧ E a' 25 [(1, .int .i64 wp), (5, .int .i64 ((F_Model_truths_L1 mp2 wp (Int.toNat ((mp2.length : Int) - 0) + 1) 0 0).1)), (9, .slice mp2A mp2.length mp2C), (10, .int .i64 (mp2.length : Int)), (11, .int .i64 ((F_Model_truths_L1 mp2 wp (Int.toNat ((mp2.length : Int) - 0) + 1) 0 0).2))] ∧ St w w' [.blk b3 #[.int .i64 mp0, .slice mp1A mp1.length mp1C, .slice mp2A mp2.length mp2C] 32, .rd 1 mp2A mp2.length mp2C mp2, .rd 1 mp1A mp1.length mp1C mp1]) ?_ ?_
  ·
    refine wp_block ?_
    refine c_loop (fun r a' w' => ∃ mask5 : Int, ∃ t11 : Int, F_Model_truths_L1 mp2 wp r mask5 t11 = F_Model_truths_L1 mp2 wp (Int.toNat ((mp2.length : Int) - 0) + 1) 0 0 ∧ Int.toNat ((mp2.length : Int) - t11) < r ∧ (0 ≤ t11) ∧ (t11 ≤ (mp2.length : Int)) ∧ E a' 25 [(1, .int .i64 wp), (5, .int .i64 mask5), (9, .slice mp2A mp2.length mp2C), (10, .int .i64 (mp2.length : Int)), (11, .int .i64 t11)] ∧ St w w' [.blk b3 #[.int .i64 mp0, .slice mp1A mp1.length mp1C, .slice mp2A mp2.length mp2C] 32, .rd 1 mp2A mp2.length mp2C mp2, .rd 1 mp1A mp1.length mp1C mp1]) (r := (Int.toNat ((mp2.length : Int) - 0) + 1)) ?_ ?_
    · exact ⟨0, 0, rfl, Nat.lt_succ_self _, (by first | omega | (simp only [sS_len, sL_len]; omega) | (simp only [List.length_replicate, sI_len]; omega) | (simp only [List.length_append, List.length_cons, List.length_nil, sI_len, cond_true, cond_false]; omega) | (simp only [List.length_append, List.length_cons, List.length_nil, sI_len, cond_eq_ite, apply_ite List.length]; split <;> simp only [List.length_append, List.length_cons, List.length_nil, sI_len] <;> omega) | grind), (by first | omega | (simp only [sS_len, sL_len]; omega) | (simp only [List.length_replicate, sI_len]; omega) | (simp only [List.length_append, List.length_cons, List.length_nil, sI_len, cond_true, cond_false]; omega) | (simp only [List.length_append, List.length_cons, List.length_nil, sI_len, cond_eq_ite, apply_ite List.length]; split <;> simp only [List.length_append, List.length_cons, List.length_nil, sI_len] <;> omega) | grind), (hE23.sub (L' := [(1, .int .i64 wp), (5, .int .i64 0), (9, .slice mp2A mp2.length mp2C), (10, .int .i64 (mp2.length : Int)), (11, .int .i64 0)]) ⟨rfl, rfl, rfl, rfl, rfl, trivial⟩), (St.pick (Γ' := [.blk b3 #[.int .i64 mp0, .slice mp1A mp1.length mp1C, .slice mp2A mp2.length mp2C] 32, .rd 1 mp2A mp2.length mp2C mp2, .rd 1 mp1A mp1.length mp1C mp1]) hS7 [0, 1, 2] (by decide) rfl)⟩
    ·
      clear hE23 hS7
      rintro r33 a25 w26 ⟨mask5, t11, hT29, hr30, hi31, hi32, hE27, hS28⟩
      obtain ⟨r33, rfl⟩ : ∃ r', r33 = r' + 1 := ⟨r33 - 1, by omega⟩
      refine c_seq ?_
      refine c_reg ?_
      refine q_step (v := .bool (decide (t11 < (mp2.length : Int)))) hE27 (y_lss rfl rfl) rfl rfl rfl ?_; intro a34 hE35; clear hE27
      refine c_nil ?_
      have hE36 := hE35.sub (L' := [(1, .int .i64 wp), (5, .int .i64 mask5), (9, .slice mp2A mp2.length mp2C), (10, .int .i64 (mp2.length : Int)), (11, .int .i64 t11), (12, .bool (decide (t11 < (mp2.length : Int))))]) ⟨rfl, rfl, rfl, rfl, rfl, rfl, trivial⟩; clear hE35
      refine p_tn ?_
      refine c_seq ?_
      refine c_cond hE36 rfl (fun ht37 => ?_) (fun ht37 => ?_)
      ·
        have hp38 := of_decide_eq_true ht37
        have hE39 := hE36; rw [ht37] at hE39; clear hE36
        refine wp_skip ?_
        refine p_tn ?_
        refine c_cut (fun a' w' => E a' 25 [(1, .int .i64 wp), (5, .int .i64 (bif (F_has (gI mp2 t11) wp) then orI mask5 (shlI 1 t11) else mask5)), (9, .slice mp2A mp2.length mp2C), (10, .int .i64 (mp2.length : Int)), (11, .int .i64 t11)] ∧ St w w' [.rd 1 mp1A mp1.length mp1C mp1, .rd 1 mp2A mp2.length mp2C mp2, .blk b3 #[.int .i64 mp0, .slice mp1A mp1.length mp1C, .slice mp2A mp2.length mp2C] 32]) ?_ ?_
        ·
          refine wp_block ?_
          refine c_seq ?_
          refine c_reg ?_
          refine q_step (v := .int .i64 t11) hE39 (y_move rfl) rfl rfl rfl ?_; intro a40 hE41; clear hE39
          refine q_step (v := .pointer (some (adr mp2A (Int.toNat t11)))) hE41 (y_idx (by kernel_rfl) (fun _ => by kernel_rfl) rfl rfl (RdS.isS (m := t11) (St.rdR (i := 1) hS28 rfl) (by omega) (by omega)) (by omega) (by omega) (Nat.mul_one _).symm) rfl rfl rfl ?_; intro a42 hE43; clear hE41
          refine q_step (v := .int .i64 (gI mp2 t11)) hE43 (y_load (fun _ => by kernel_rfl) rfl (RdS.elt (St.rdR (i := 1) hS28 rfl) (by omega) (by omega))) rfl rfl rfl ?_; intro a44 hE45; clear hE43
          refine q_step (v := .int .i64 t11) hE45 (y_assign rfl) rfl rfl rfl ?_; intro a46 hE47; clear hE45
          refine q_step (v := .int .i64 (gI mp2 t11)) hE47 (y_assign rfl) rfl rfl rfl ?_; intro a48 hE49; clear hE47
          refine c_nil ?_
          have hE50 := hE49.sub (L' := [(1, .int .i64 wp), (5, .int .i64 mask5), (6, .int .i64 t11), (7, .int .i64 (gI mp2 t11)), (9, .slice mp2A mp2.length mp2C), (10, .int .i64 (mp2.length : Int)), (11, .int .i64 t11)]) ⟨rfl, rfl, rfl, rfl, rfl, rfl, rfl, trivial⟩; clear hE49
          refine p_tn ?_
          refine c_seq ?_
          refine c_reg ?_
          refine q_step (v := .int .i64 (gI mp2 t11)) hE50 (y_move rfl) rfl rfl rfl ?_; intro a51 hE52; clear hE50
          refine q_step (v := .int .i64 wp) hE52 (y_move rfl) rfl rfl rfl ?_; intro a53 hE54; clear hE52
          refine l_step hE54 rfl (l_call (f := 155) (argv := [.int .i64 (gI mp2 t11), .int .i64 wp]) hE54 (fun _ => cf_has _ _) rfl rfl (c_has (gI mp2 t11) wp w26 (by omega)) ?_)
          rintro _ _ ⟨rfl, rfl⟩ a57 hE58; clear hE54
          refine c_nil ?_
          have hE61 := hE58.sub (L' := [(1, .int .i64 wp), (5, .int .i64 mask5), (6, .int .i64 t11), (9, .slice mp2A mp2.length mp2C), (10, .int .i64 (mp2.length : Int)), (11, .int .i64 t11), (18, .bool (F_has (gI mp2 t11) wp))]) ⟨rfl, rfl, rfl, rfl, rfl, rfl, rfl, trivial⟩; clear hE58
          refine p_tn ?_
          refine c_cond hE61 rfl (fun ht62 => ?_) (fun ht62 => ?_)
          ·
            have hE63 := hE61; rw [ht62] at hE63; clear hE61
            refine c_reg ?_
            refine q_step (v := .int .i64 mask5) hE63 (y_move rfl) rfl rfl rfl ?_; intro a64 hE65; clear hE63
            refine q_step (v := .int .i64 t11) hE65 (y_move rfl) rfl rfl rfl ?_; intro a66 hE67; clear hE65
            refine q_step (v := .int .i64 (shlI 1 t11)) hE67 (y_shl rfl rfl (by omega)) rfl rfl rfl ?_; intro a68 hE69; clear hE67
            refine q_step (v := .int .i64 (orI mask5 (shlI 1 t11))) hE69 (y_or rfl rfl) rfl rfl rfl ?_; intro a70 hE71; clear hE69
            refine q_step (v := .int .i64 (orI mask5 (shlI 1 t11))) hE71 (y_assign rfl) rfl rfl rfl ?_; intro a72 hE73; clear hE71
            refine c_nil ?_
            have hE74 := hE73.sub (L' := [(1, .int .i64 wp), (5, .int .i64 (orI mask5 (shlI 1 t11))), (9, .slice mp2A mp2.length mp2C), (10, .int .i64 (mp2.length : Int)), (11, .int .i64 t11)]) ⟨rfl, rfl, rfl, rfl, rfl, trivial⟩; clear hE73
            refine p_bn ?_
            refine p_tn ?_
            have hE75 := hE74.sub (L' := [(1, .int .i64 wp), (5, .int .i64 (orI mask5 (shlI 1 t11))), (9, .slice mp2A mp2.length mp2C), (10, .int .i64 (mp2.length : Int)), (11, .int .i64 t11)]) ⟨rfl, rfl, rfl, rfl, rfl, trivial⟩
            have hS76 := (St.pick (Γ' := [.rd 1 mp1A mp1.length mp1C mp1, .rd 1 mp2A mp2.length mp2C mp2, .blk b3 #[.int .i64 mp0, .slice mp1A mp1.length mp1C, .slice mp2A mp2.length mp2C] 32]) hS28 [2, 1, 0] (by decide) rfl)
            exact ⟨(by rw [ht62]; exact hE75), hS76⟩
          ·
            have hE77 := hE61; rw [ht62] at hE77; clear hE61
            refine wp_skip ?_
            refine p_bn ?_
            refine p_tn ?_
            have hE78 := hE77.sub (L' := [(1, .int .i64 wp), (5, .int .i64 mask5), (9, .slice mp2A mp2.length mp2C), (10, .int .i64 (mp2.length : Int)), (11, .int .i64 t11)]) ⟨rfl, rfl, rfl, rfl, rfl, trivial⟩
            have hS79 := (St.pick (Γ' := [.rd 1 mp1A mp1.length mp1C mp1, .rd 1 mp2A mp2.length mp2C mp2, .blk b3 #[.int .i64 mp0, .slice mp1A mp1.length mp1C, .slice mp2A mp2.length mp2C] 32]) hS28 [2, 1, 0] (by decide) rfl)
            exact ⟨(by rw [ht62]; exact hE78), hS79⟩
        ·
          rintro a80 w81 ⟨hE82, hS83⟩; clear hE39 hS28
          refine c_reg ?_
          refine q_step (v := .int .i64 (t11 + 1)) hE82 (y_add rfl rfl ⟨(by omega), (by omega)⟩) rfl rfl rfl ?_; intro a85 hE86; clear hE82
          refine q_step (v := .int .i64 (t11 + 1)) hE86 (y_move rfl) rfl rfl rfl ?_; intro a87 hE88; clear hE86
          refine c_nil ?_
          have hE89 := hE88.sub (L' := [(1, .int .i64 wp), (5, .int .i64 (bif (F_has (gI mp2 t11) wp) then orI mask5 (shlI 1 t11) else mask5)), (9, .slice mp2A mp2.length mp2C), (10, .int .i64 (mp2.length : Int)), (11, .int .i64 (t11 + 1))]) ⟨rfl, rfl, rfl, rfl, rfl, trivial⟩; clear hE88
          refine p_tn ⟨r33, Nat.lt_succ_self _, bif (F_has (gI mp2 t11) wp) then orI mask5 (shlI 1 t11) else mask5, t11 + 1, (hT29.symm.trans (show F_Model_truths_L1b mp2 wp (F_Model_truths_L1 mp2 wp r33) mask5 t11 = F_Model_truths_L1 mp2 wp r33 (bif (F_has (gI mp2 t11) wp) then orI mask5 (shlI 1 t11) else mask5) (t11 + 1) by unfold F_Model_truths_L1b; rw [ht37]; first | done | rfl)).symm, (by omega), (by first | omega | (simp only [sS_len, sL_len]; omega) | (simp only [List.length_replicate, sI_len]; omega) | (simp only [List.length_append, List.length_cons, List.length_nil, sI_len, cond_true, cond_false]; omega) | (simp only [List.length_append, List.length_cons, List.length_nil, sI_len, cond_eq_ite, apply_ite List.length]; split <;> simp only [List.length_append, List.length_cons, List.length_nil, sI_len] <;> omega) | grind), (by first | omega | (simp only [sS_len, sL_len]; omega) | (simp only [List.length_replicate, sI_len]; omega) | (simp only [List.length_append, List.length_cons, List.length_nil, sI_len, cond_true, cond_false]; omega) | (simp only [List.length_append, List.length_cons, List.length_nil, sI_len, cond_eq_ite, apply_ite List.length]; split <;> simp only [List.length_append, List.length_cons, List.length_nil, sI_len] <;> omega) | grind), (hE89.sub (L' := [(1, .int .i64 wp), (5, .int .i64 (bif (F_has (gI mp2 t11) wp) then orI mask5 (shlI 1 t11) else mask5)), (9, .slice mp2A mp2.length mp2C), (10, .int .i64 (mp2.length : Int)), (11, .int .i64 (t11 + 1))]) ⟨rfl, rfl, rfl, rfl, rfl, trivial⟩), (St.pick (Γ' := [.blk b3 #[.int .i64 mp0, .slice mp1A mp1.length mp1C, .slice mp2A mp2.length mp2C] 32, .rd 1 mp2A mp2.length mp2C mp2, .rd 1 mp1A mp1.length mp1C mp1]) hS83 [2, 1, 0] (by decide) rfl)⟩
      ·
        have hp90 := of_decide_eq_false ht37
        have hE91 := hE36; rw [ht37] at hE91; clear hE36
        refine wp_exit ?_
        refine p_te ?_
        have hX92 : F_Model_truths_L1 mp2 wp (Int.toNat ((mp2.length : Int) - 0) + 1) 0 0 = (mask5, t11) := hT29.symm.trans (show F_Model_truths_L1b mp2 wp (F_Model_truths_L1 mp2 wp r33) mask5 t11 = (mask5, t11) by unfold F_Model_truths_L1b; rw [ht37]; first | done | rfl)
        refine p_te (p_be (p_tn ?_))
        exact ⟨(by rw [hX92]; exact (show 0 ≤ t11 from (by first | omega | (simp only [sS_len, sL_len]; omega) | (simp only [List.length_replicate, sI_len]; omega) | (simp only [List.length_append, List.length_cons, List.length_nil, sI_len, cond_true, cond_false]; omega) | (simp only [List.length_append, List.length_cons, List.length_nil, sI_len, cond_eq_ite, apply_ite List.length]; split <;> simp only [List.length_append, List.length_cons, List.length_nil, sI_len] <;> omega) | grind))), (by rw [hX92]; exact (show t11 ≤ (mp2.length : Int) from (by first | omega | (simp only [sS_len, sL_len]; omega) | (simp only [List.length_replicate, sI_len]; omega) | (simp only [List.length_append, List.length_cons, List.length_nil, sI_len, cond_true, cond_false]; omega) | (simp only [List.length_append, List.length_cons, List.length_nil, sI_len, cond_eq_ite, apply_ite List.length]; split <;> simp only [List.length_append, List.length_cons, List.length_nil, sI_len] <;> omega) | grind))), (by rw [hX92]; exact (hE91.sub (L' := [(1, .int .i64 wp), (5, .int .i64 mask5), (9, .slice mp2A mp2.length mp2C), (10, .int .i64 (mp2.length : Int)), (11, .int .i64 t11)]) ⟨rfl, rfl, rfl, rfl, rfl, trivial⟩)), (St.pick (Γ' := [.blk b3 #[.int .i64 mp0, .slice mp1A mp1.length mp1C, .slice mp2A mp2.length mp2C] 32, .rd 1 mp2A mp2.length mp2C mp2, .rd 1 mp1A mp1.length mp1C mp1]) hS28 [0, 1, 2] (by decide) rfl)⟩
  ·
    rintro a93 w94 ⟨hi98, hi99, hE95, hS96⟩; clear hE23 hS7
    refine p_tn ?_
    refine c_seq ?_
    refine c_reg ?_
    refine q_step (v := .int .i64 ((F_Model_truths_L1 mp2 wp (Int.toNat ((mp2.length : Int) - 0) + 1) 0 0).1)) hE95 (y_move rfl) rfl rfl rfl ?_; intro a100 hE101; clear hE95
    refine q_step (v := .int .i64 ((F_Model_truths_L1 mp2 wp (Int.toNat ((mp2.length : Int) - 0) + 1) 0 0).1)) hE101 (y_assign rfl) rfl rfl rfl ?_; intro a102 hE103; clear hE101
    refine c_nil ?_
    have hE104 := hE103.sub (L' := [(4, .int .i64 ((F_Model_truths_L1 mp2 wp (Int.toNat ((mp2.length : Int) - 0) + 1) 0 0).1))]) ⟨rfl, trivial⟩; clear hE103
    refine p_tn ?_
    refine wp_ret ?_
    have hF : F_Model_truths mp0 mp1 mp2 wp = (F_Model_truths_L1 mp2 wp (Int.toNat ((mp2.length : Int) - 0) + 1) 0 0).1 := by unfold F_Model_truths; rfl
    refine c_ret1 hE104 rfl rfl ?_
    exact ⟨(by rw [hF]; first | done | (dsimp only; done) | rfl), hS96.ext⟩

theorem truths_bits {mp0 : Int} {mp1 mp2 : List Int} (x : Int) (h6 : (mp2.length : Int) = 6) : Mk 6 (F_Model_truths mp0 mp1 mp2 x) ∧ ∀ j, (tb (F_Model_truths mp0 mp1 mp2 x) j = true ↔ j < 6 ∧ F_has (gI mp2 (j : Int)) x = true) := by
  have e : F_Model_truths mp0 mp1 mp2 x = (List.range 6).foldl (fun o (i : Nat) => bif F_has (gI mp2 (i : Int)) x then orI o (powI (i : Int)) else o) 0 := by
    unfold F_Model_truths
    rw [rangeLoop0 (mp2.length : Int) (by omega) (fun o i => bif F_has (gI mp2 i) x then orI o (shlI 1 i) else o) (F_Model_truths_L1 mp2 x) (fun _ _ _ => rfl), show (mp2.length : Int).toNat = 6 by omega]
    apply foldl_ext'
    intro j hj o
    have hj := List.mem_range.1 hj
    rw [pow_shl (i := (j : Int)) (by omega) (by omega)]
  rw [e]
  obtain ⟨h1, h2⟩ := fold_or (n := 6) (by omega) (fun i => F_has (gI mp2 (i : Int)) x) (fun i => powI (i : Int)) (List.range 6) 0 (Mk.zero 6) (fun i hi _ => Mk.pow (List.mem_range.1 hi))
  refine ⟨h1, fun j => (h2 j).trans ⟨?_, ?_⟩⟩
  · rintro (h | ⟨i, hi, h3, h4⟩)
    · rw [tb_zero] at h; cases h
    · rw [tb_pow] at h4
      have := of_decide_eq_true h4
      subst this
      exact ⟨List.mem_range.1 hi, h3⟩
  · rintro ⟨h3, h4⟩
    exact .inr ⟨j, List.mem_range.2 h3, h4, by rw [tb_pow]; simp⟩
theorem atoms_all {mp0 np0 : Int} {mp1 mp2 np1 np2 : List Int} (x y : Int) (hm : (mp2.length : Int) = 6) : F_l07Atoms mp0 mp1 mp2 np0 np1 np2 x y = true ↔ ∀ j : Nat, j < 6 → F_has (gI mp2 (j : Int)) x = F_has (gI np2 (j : Int)) y := by
  unfold F_l07Atoms
  rw [show Int.toNat ((mp2.length : Int) - 0) = 6 by omega, allLoop (F_l07Atoms_L1 mp2 np2 x y) (mp2.length : Int) (fun i => (F_l01Bit (gI mp2 i) x) != (F_l01Bit (gI np2 i) y)) (fun _ _ => rfl) 6 0 (by omega), List.all_eq_true]
  constructor
  · intro h j hj
    have := h j (List.mem_range.2 hj)
    rw [show (0 : Int) + (j : Int) = (j : Int) by omega] at this
    have h2 : F_l01Bit (gI mp2 (j : Int)) x = F_l01Bit (gI np2 (j : Int)) y := by simpa using this
    exact h2
  · intro h j hj
    rw [show (0 : Int) + (j : Int) = (j : Int) by omega]
    have h2 : F_l01Bit (gI mp2 (j : Int)) x = F_l01Bit (gI np2 (j : Int)) y := h j (List.mem_range.1 hj)
    simp [h2]
theorem atoms_eq {mp0 np0 : Int} {mp1 mp2 np1 np2 : List Int} (x y : Int) (hm : (mp2.length : Int) = 6) (hn : (np2.length : Int) = 6) : F_l07Atoms mp0 mp1 mp2 np0 np1 np2 x y = decide (F_Model_truths mp0 mp1 mp2 x = F_Model_truths np0 np1 np2 y) := by
  rw [Bool.eq_iff_iff, atoms_all x y hm, decide_eq_true_iff]
  obtain ⟨a1, a2⟩ := truths_bits (mp0 := mp0) (mp1 := mp1) x hm
  obtain ⟨b1, b2⟩ := truths_bits (mp0 := np0) (mp1 := np1) y hn
  constructor
  · intro h
    apply tb_ext a1.1 b1.1
    intro j
    rw [Bool.eq_iff_iff, a2 j, b2 j]
    constructor
    · rintro ⟨h1, h2⟩; exact ⟨h1, by rw [← h j h1]; exact h2⟩
    · rintro ⟨h1, h2⟩; exact ⟨h1, by rw [h j h1]; exact h2⟩
  · intro h j hj
    rw [Bool.eq_iff_iff]
    have e := a2 j
    rw [h] at e
    have e2 := e.symm.trans (b2 j)
    constructor
    · intro h1; exact (e2.1 ⟨hj, h1⟩).2
    · intro h1; exact (e2.2 ⟨hj, h1⟩).2

theorem allLoopE {ε : Type} (L : Nat → Int → Except ε Int) (e : ε) (n : Int) (p : Int → Bool) (hL : ∀ r i, L (r + 1) i = bif decide (i < n) then (bif p i then .error e else L r (i + 1)) else .ok i) :
    ∀ (k : Nat) (i : Int), n - i = (k : Int) → ((∃ j, L (k + 1) i = .ok j) ∧ ((List.range k).all fun j => !p (i + (j : Int))) = true) ∨ (L (k + 1) i = .error e ∧ ((List.range k).all fun j => !p (i + (j : Int))) = false) := by
  intro k
  induction k with
  | zero => intro i h; rw [hL, decide_eq_false (by omega)]; exact .inl ⟨⟨i, rfl⟩, rfl⟩
  | succ k ih =>
    intro i h
    rw [hL, decide_eq_true (by omega), cond_true, List.range_succ_eq_map, List.all_cons, List.all_map, show i + ((0 : Nat) : Int) = i by omega]
    have e2 : ((fun j : Nat => !p (i + (j : Int))) ∘ Nat.succ) = fun j : Nat => !p (i + 1 + (j : Int)) := by
      funext j; show (!p (i + ((j + 1 : Nat) : Int))) = _; congr 2; omega
    rw [e2]
    cases hp : p i
    · rw [cond_false, Bool.not_false, Bool.true_and]; exact ih (i + 1) (by omega)
    · exact .inr ⟨rfl, rfl⟩

end Go.Proofs.Ytlbonhloeefnmaa
