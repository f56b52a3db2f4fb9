/- GN: models and contracts, printed by wip/gen/gen.py -/
import Derived.Test.YtkilkfhjfobcdaaKPTGL
import Derived.Test.YtkilkfhjfobcdaaKPTPart
set_option linter.unusedVariables false
set_option linter.unusedSimpArgs false
namespace Go.Proofs.Ytkilkfhjfobcdaa
open Go.RowKit
def F_l06Is (mp0 : Int) (mp1 : List Int) (mp2 : List Int) : Bool :=
  ((F_l05Is mp0 mp1) && ((decide ((mp2.length : Int) = 6)) && (F_l01Masks mp0 mp2)))
theorem cf_l06Is (args : Array Value) (w : World) : (callFunc 112 args).run Try.prog w = .ok (.enter 112 args) w := by kernel_rfl
set_option maxRecDepth 100000 in
theorem c_l06Is (mp0 : Int) (mp1A : Option Addr) (mp1N mp1C : Nat) (mp1 : List Int) (mp2A : Option Addr) (mp2N mp2C : Nat) (mp2 : List Int) (w : World) (mp1R : RdS w 1 mp1A mp1N mp1C mp1) (mp2R : RdS w 1 mp2A mp2N mp2C mp2) :
    Calls Try.prog 112 #[.agg #[.int .i64 mp0, .slice mp1A mp1N mp1C, .slice mp2A mp2N mp2C]] w (Ret fun v w' => v = .bool (F_l06Is mp0 mp1 mp2) ∧ Ext w w') := by
  obtain rfl : mp1N = mp1.length := mp1R.len1.symm
  have mp1Le := mp1R.le
  obtain rfl : mp2N = mp2.length := mp2R.len1.symm
  have mp2Le := mp2R.le
  have hS := St.nil w
  have hS1 := St.rd0 hS rfl mp1R; clear hS
  have hS2 := St.rd0 hS1 rfl mp2R; clear hS1
  refine enter (args := [.agg #[.int .i64 mp0, .slice mp1A mp1.length mp1C, .slice mp2A mp2.length mp2C]]) Try.func112 rfl rfl ?_
  rw [Try.ntmps112]; intro a hE
  have hE := hE.sub (L' := [(0, .agg #[.int .i64 mp0, .slice mp1A mp1.length mp1C, .slice mp2A mp2.length mp2C])]) ⟨rfl, trivial⟩
  refine c_seq ?_
  refine c_reg ?_
  refine l_step hE rfl (l_box (v := .agg #[.int .i64 mp0, .slice mp1A mp1.length mp1C, .slice mp2A mp2.length mp2C]) (cs := #[.int .i64 mp0, .slice mp1A mp1.length mp1C, .slice mp2A mp2.length mp2C]) hS2 hE rfl rfl rfl ?_)
  intro b3 w4 hS7 he8 a5 hE6; clear hS2 hE
  refine q_step (v := .bool false) hE6 (y_assign rfl) rfl rfl rfl ?_; intro a9 hE10; clear hE6
  refine c_nil ?_
  have hE11 := hE10.sub (L' := [(1, .pointer (some ⟨b3, 0, none⟩))]) ⟨rfl, trivial⟩; clear hE10
  refine p_tn ?_
  refine c_cut (fun a' w' => E a' 20 [(2, .bool ((F_l05Is mp0 mp1) && ((decide ((mp2.length : Int) = 6)) && (F_l01Masks mp0 mp2))))] ∧ St w w' [.rd 1 mp1A mp1.length mp1C mp1, .rd 1 mp2A mp2.length mp2C mp2, .blk b3 #[.int .i64 mp0, .slice mp1A mp1.length mp1C, .slice mp2A mp2.length mp2C] 69]) ?_ ?_
  ·
   refine c_reg ?_
   refine q_step (v := .pointer (some ⟨b3, 0, none⟩)) hE11 (y_field rfl (fun _ => by kernel_rfl)) rfl rfl rfl ?_; intro a12 hE13; clear hE11
   refine q_step (v := .agg #[.int .i64 mp0, .slice mp1A mp1.length mp1C]) hE13 (y_loadP Try.underlying57 rfl (by kernel_rfl) rfl rfl (St.row (i := 0) hS7 rfl)) rfl rfl rfl ?_; intro a14 hE15; clear hE13
   refine l_step hE15 rfl (l_call (f := 97) (argv := [.agg #[.int .i64 mp0, .slice mp1A mp1.length mp1C]]) hE15 (fun _ => cf_l05Is _ _) rfl rfl (c_l05Is mp0 mp1A mp1.length mp1C mp1 w4 (St.rdR (i := 2) hS7 rfl)) ?_)
   rintro _ w17 ⟨rfl, he21⟩ a18 hE19; clear hE15
   have hS20 := St.go hS7 he21; clear hS7
   refine q_step (v := .bool (F_l05Is mp0 mp1)) hE19 (y_move rfl) rfl rfl rfl ?_; intro a22 hE23; clear hE19
   rcases Bool.eq_false_or_eq_true (F_l05Is mp0 mp1) with hb24 | hb24
   ·
    have hE25 := hE23; (try rw [hb24] at hE25); clear hE23
    have hp26 := l05Is_t hb24
    refine q_step (v := .pointer (some ⟨b3, 2, none⟩)) hE25 (y_field rfl (fun _ => by kernel_rfl)) rfl rfl rfl ?_; intro a27 hE28; clear hE25
    refine q_step (v := .slice mp2A mp2.length mp2C) hE28 (y_load (fun _ => by kernel_rfl) rfl (St.cell (i := 0) hS20 rfl rfl)) rfl rfl rfl ?_; intro a29 hE30; clear hE28
    refine q_step (v := .int .i64 (mp2.length : Int)) hE30 (y_len (e := 2) (by kernel_rfl) rfl) rfl rfl rfl ?_; intro a31 hE32; clear hE30
    refine q_step (v := .bool (decide ((mp2.length : Int) = 6))) hE32 (y_eql rfl rfl) rfl rfl rfl ?_; intro a33 hE34; clear hE32
    refine q_step (v := .bool (decide ((mp2.length : Int) = 6))) hE34 (y_pick (b := true) rfl rfl) rfl rfl rfl ?_; intro a35 hE36; clear hE34
    refine q_step (v := .bool (decide ((mp2.length : Int) = 6))) hE36 (y_move rfl) rfl rfl rfl ?_; intro a37 hE38; clear hE36
    rcases Bool.eq_false_or_eq_true (decide ((mp2.length : Int) = 6)) with hb39 | hb39
    ·
     have hE40 := hE38; (try rw [hb39] at hE40); clear hE38
     have hp41 := of_decide_eq_true hb39
     refine q_step (v := .pointer (some ⟨b3, 0, none⟩)) hE40 (y_field rfl (fun _ => by kernel_rfl)) rfl rfl rfl ?_; intro a42 hE43; clear hE40
     refine q_step (v := .pointer (some ⟨b3, 0, none⟩)) hE43 (y_field rfl (fun _ => by kernel_rfl)) rfl rfl rfl ?_; intro a44 hE45; clear hE43
     refine q_step (v := .int .i64 mp0) hE45 (y_load (fun _ => by kernel_rfl) rfl (St.cell (i := 0) hS20 rfl rfl)) rfl rfl rfl ?_; intro a46 hE47; clear hE45
     refine q_step (v := .pointer (some ⟨b3, 2, none⟩)) hE47 (y_field rfl (fun _ => by kernel_rfl)) rfl rfl rfl ?_; intro a48 hE49; clear hE47
     refine q_step (v := .slice mp2A mp2.length mp2C) hE49 (y_load (fun _ => by kernel_rfl) rfl (St.cell (i := 0) hS20 rfl rfl)) rfl rfl rfl ?_; intro a50 hE51; clear hE49
     refine l_step hE51 rfl (l_call (f := 130) (argv := [.int .i64 mp0, .slice mp2A mp2.length mp2C]) hE51 (fun _ => cf_l01Masks _ _) rfl rfl (c_l01Masks mp0 mp2A mp2.length mp2C mp2 w17 (St.rdR (i := 1) hS20 rfl) (by omega) (by omega)) ?_)
     rintro _ w53 ⟨rfl, he57⟩ a54 hE55; clear hE51
     have hS56 := St.go hS20 he57; clear hS20
     refine q_step (v := .bool (F_l01Masks mp0 mp2)) hE55 (y_pick (b := true) rfl rfl) rfl rfl rfl ?_; intro a58 hE59; clear hE55
     refine q_step (v := .bool (F_l01Masks mp0 mp2)) hE59 (y_assign rfl) rfl rfl rfl ?_; intro a60 hE61; clear hE59
     refine c_nil ?_
     have hE62 := hE61.sub (L' := [(2, .bool (F_l01Masks mp0 mp2))]) ⟨rfl, trivial⟩; clear hE61
     refine p_tn ?_
     have hE63 := hE62.sub (L' := [(2, .bool (F_l01Masks mp0 mp2))]) ⟨rfl, trivial⟩
     have hS64 := (St.pick (Γ' := [.rd 1 mp1A mp1.length mp1C mp1, .rd 1 mp2A mp2.length mp2C mp2, .blk b3 #[.int .i64 mp0, .slice mp1A mp1.length mp1C, .slice mp2A mp2.length mp2C] 69]) hS56 [2, 1, 0] (by decide) rfl)
     exact ⟨(by rw [hb39, hb24]; exact hE63), hS64⟩
    ·
     have hE65 := hE38; (try rw [hb39] at hE65); clear hE38
     have hp66 := of_decide_eq_false hb39
     refine q_skip hE65 rfl rfl rfl ?_; intro a67 hE68; clear hE65
     refine q_skip hE68 rfl rfl rfl ?_; intro a69 hE70; clear hE68
     refine q_skip hE70 rfl rfl rfl ?_; intro a71 hE72; clear hE70
     refine q_skip hE72 rfl rfl rfl ?_; intro a73 hE74; clear hE72
     refine q_skip hE74 rfl rfl rfl ?_; intro a75 hE76; clear hE74
     refine q_skip hE76 rfl rfl rfl ?_; intro a77 hE78; clear hE76
     refine q_step (v := .bool false) hE78 (y_pick (b := false) rfl rfl) rfl rfl rfl ?_; intro a79 hE80; clear hE78
     refine q_step (v := .bool false) hE80 (y_assign rfl) rfl rfl rfl ?_; intro a81 hE82; clear hE80
     refine c_nil ?_
     have hE83 := hE82.sub (L' := [(2, .bool false)]) ⟨rfl, trivial⟩; clear hE82
     refine p_tn ?_
     have hE84 := hE83.sub (L' := [(2, .bool false)]) ⟨rfl, trivial⟩
     have hS85 := (St.pick (Γ' := [.rd 1 mp1A mp1.length mp1C mp1, .rd 1 mp2A mp2.length mp2C mp2, .blk b3 #[.int .i64 mp0, .slice mp1A mp1.length mp1C, .slice mp2A mp2.length mp2C] 69]) hS20 [2, 1, 0] (by decide) rfl)
     exact ⟨(by rw [hb39, hb24]; exact hE84), hS85⟩
   ·
    have hE86 := hE23; (try rw [hb24] at hE86); clear hE23
    refine q_skip hE86 rfl rfl rfl ?_; intro a87 hE88; clear hE86
    refine q_skip hE88 rfl rfl rfl ?_; intro a89 hE90; clear hE88
    refine q_skip hE90 rfl rfl rfl ?_; intro a91 hE92; clear hE90
    refine q_skip hE92 rfl rfl rfl ?_; intro a93 hE94; clear hE92
    refine q_step (v := .bool false) hE94 (y_pick (b := false) rfl rfl) rfl rfl rfl ?_; intro a95 hE96; clear hE94
    refine q_step (v := .bool false) hE96 (y_move rfl) rfl rfl rfl ?_; intro a97 hE98; clear hE96
    refine q_skip hE98 rfl rfl rfl ?_; intro a99 hE100; clear hE98
    refine q_skip hE100 rfl rfl rfl ?_; intro a101 hE102; clear hE100
    refine q_skip hE102 rfl rfl rfl ?_; intro a103 hE104; clear hE102
    refine q_skip hE104 rfl rfl rfl ?_; intro a105 hE106; clear hE104
    refine q_skip hE106 rfl rfl rfl ?_; intro a107 hE108; clear hE106
    refine q_skip hE108 rfl rfl rfl ?_; intro a109 hE110; clear hE108
    refine q_step (v := .bool false) hE110 (y_pick (b := false) rfl rfl) rfl rfl rfl ?_; intro a111 hE112; clear hE110
    refine q_step (v := .bool false) hE112 (y_assign rfl) rfl rfl rfl ?_; intro a113 hE114; clear hE112
    refine c_nil ?_
    have hE115 := hE114.sub (L' := [(2, .bool false)]) ⟨rfl, trivial⟩; clear hE114
    refine p_tn ?_
    have hE116 := hE115.sub (L' := [(2, .bool false)]) ⟨rfl, trivial⟩
    have hS117 := (St.pick (Γ' := [.rd 1 mp1A mp1.length mp1C mp1, .rd 1 mp2A mp2.length mp2C mp2, .blk b3 #[.int .i64 mp0, .slice mp1A mp1.length mp1C, .slice mp2A mp2.length mp2C] 69]) hS20 [2, 1, 0] (by decide) rfl)
    exact ⟨(by rw [hb24]; exact hE116), hS117⟩
  ·
   rintro a118 w119 ⟨hE120, hS121⟩; clear hE11 hS7
   refine wp_ret ?_
   have hF : F_l06Is mp0 mp1 mp2 = ((F_l05Is mp0 mp1) && ((decide ((mp2.length : Int) = 6)) && (F_l01Masks mp0 mp2))) := by unfold F_l06Is; rfl
   refine c_ret1 hE120 rfl rfl ?_
   exact ⟨(by rw [hF]; first | done | (dsimp only; done) | rfl), hS121.ext⟩
theorem l06Is_t {mp0 : Int} {mp1 mp2 : List Int} (h : F_l06Is mp0 mp1 mp2 = true) : F_l05Is mp0 mp1 = true ∧ ((0 ≤ mp0 ∧ mp0 ≤ 8) ∧ (mp1.length : Int) = mp0) ∧ (mp2.length : Int) = 6 ∧ ∀ m : Int, 0 ≤ m → m < (mp2.length : Int) → 0 ≤ gI mp2 m ∧ gI mp2 m ≤ fullI mp0 := by
  unfold F_l06Is at h
  simp only [Bool.and_eq_true, decide_eq_true_eq] at h
  exact ⟨h.1, l05Is_t h.1, h.2.1, masks_mem h.2.2⟩
def F_isModel_k1 (mask : Int) (cap00 : Int) (cap01 : List Int) (cap02 : List Int) : Bool :=
  (!(F_isMask cap00 mask))
theorem cf_isModel_k1 (args : Array Value) (w : World) : (callFunc 181 args).run Try.prog w = .ok (.enter 181 args) w := by kernel_rfl
set_option maxRecDepth 100000 in
theorem c_isModel_k1 (mask : Int) (cap0B : Nat) (cap00 : Int) (cap01A : Option Addr) (cap01N cap01C : Nat) (cap01 : List Int) (cap02A : Option Addr) (cap02N cap02C : Nat) (cap02 : List Int) (w : World) (cap01R : RdS w 1 cap01A cap01N cap01C cap01) (cap02R : RdS w 1 cap02A cap02N cap02C cap02) (cap0H : w.heap[cap0B]? = some (.cells #[.int .i64 cap00, .slice cap01A cap01N cap01C, .slice cap02A cap02N cap02C] 69 (0, 0))) :
    Calls Try.prog 181 #[.int .i64 mask, .pointer (some ⟨cap0B, 0, none⟩)] w (Ret fun v w' => v = .bool (F_isModel_k1 mask cap00 cap01 cap02) ∧ w = w') := by
  obtain rfl : cap01N = cap01.length := cap01R.len1.symm
  have cap01Le := cap01R.le
  obtain rfl : cap02N = cap02.length := cap02R.len1.symm
  have cap02Le := cap02R.le
  have hS := St.nil w
  have hS1 := St.rd0 hS rfl cap01R; clear hS
  have hS2 := St.rd0 hS1 rfl cap02R; clear hS1
  have hS3 := St.rb0 hS2 rfl cap0H; clear hS2
  refine enter (args := [.int .i64 mask, .pointer (some ⟨cap0B, 0, none⟩)]) Try.func181 rfl rfl ?_
  rw [Try.ntmps181]; intro a hE
  have hE := hE.sub (L' := [(0, .int .i64 mask), (1, .pointer (some ⟨cap0B, 0, none⟩))]) ⟨rfl, rfl, trivial⟩
  refine c_seq ?_
  refine c_reg ?_
  refine q_step (v := .bool false) hE (y_assign rfl) rfl rfl rfl ?_; intro a4 hE5; clear hE
  refine c_nil ?_
  have hE6 := hE5.sub (L' := [(0, .int .i64 mask), (1, .pointer (some ⟨cap0B, 0, none⟩))]) ⟨rfl, rfl, trivial⟩; clear hE5
  refine p_tn ?_
  refine c_seq ?_
  refine c_reg ?_
  refine q_step (v := .pointer (some ⟨cap0B, 0, none⟩)) hE6 (y_field rfl (fun _ => by kernel_rfl)) rfl rfl rfl ?_; intro a7 hE8; clear hE6
  refine q_step (v := .pointer (some ⟨cap0B, 0, none⟩)) hE8 (y_field rfl (fun _ => by kernel_rfl)) rfl rfl rfl ?_; intro a9 hE10; clear hE8
  refine q_step (v := .int .i64 cap00) hE10 (y_load (fun _ => by kernel_rfl) rfl (St.cellR (i := 0) hS3 rfl rfl)) rfl rfl rfl ?_; intro a11 hE12; clear hE10
  refine q_step (v := .int .i64 mask) hE12 (y_move rfl) rfl rfl rfl ?_; intro a13 hE14; clear hE12
  refine l_step hE14 rfl (l_call (f := 182) (argv := [.int .i64 cap00, .int .i64 mask]) hE14 (fun _ => cf_isMask _ _) rfl rfl (c_isMask cap00 mask w) ?_)
  rintro _ _ ⟨rfl, rfl⟩ a17 hE18; clear hE14
  refine q_step (v := .bool (!(F_isMask cap00 mask))) hE18 (y_not rfl) rfl rfl rfl ?_; intro a21 hE22; clear hE18
  refine q_step (v := .bool (!(F_isMask cap00 mask))) hE22 (y_assign rfl) rfl rfl rfl ?_; intro a23 hE24; clear hE22
  refine c_nil ?_
  have hE25 := hE24.sub (L' := [(3, .bool (!(F_isMask cap00 mask)))]) ⟨rfl, trivial⟩; clear hE24
  refine p_tn ?_
  refine wp_ret ?_
  have hF : F_isModel_k1 mask cap00 cap01 cap02 = (!(F_isMask cap00 mask)) := by unfold F_isModel_k1; rfl
  refine c_ret1 hE25 rfl rfl ?_
  exact ⟨(by rw [hF]; first | done | (dsimp only; done) | rfl), rfl⟩
def F_isModel (mp0 : Int) (mp1 : List Int) (mp2 : List Int) : Bool :=
  ((F_isFrame mp0 mp1) && ((decide ((mp2.length : Int) = 6)) && (!(F_z_ContainsFunc mp2 (fun x0 => F_isModel_k1 x0 mp0 mp1 mp2)))))
theorem cf_isModel (args : Array Value) (w : World) : (callFunc 115 args).run Try.prog w = .ok (.enter 115 args) w := by kernel_rfl
set_option maxRecDepth 100000 in
theorem c_isModel (mp0 : Int) (mp1A : Option Addr) (mp1N mp1C : Nat) (mp1 : List Int) (mp2A : Option Addr) (mp2N mp2C : Nat) (mp2 : List Int) (w : World) (mp1R : RdS w 1 mp1A mp1N mp1C mp1) (mp2R : RdS w 1 mp2A mp2N mp2C mp2) :
    Calls Try.prog 115 #[.agg #[.int .i64 mp0, .slice mp1A mp1N mp1C, .slice mp2A mp2N mp2C]] w (Ret fun v w' => v = .bool (F_isModel mp0 mp1 mp2) ∧ Ext w w') := by
  obtain rfl : mp1N = mp1.length := mp1R.len1.symm
  have mp1Le := mp1R.le
  obtain rfl : mp2N = mp2.length := mp2R.len1.symm
  have mp2Le := mp2R.le
  have hS := St.nil w
  have hS1 := St.rd0 hS rfl mp1R; clear hS
  have hS2 := St.rd0 hS1 rfl mp2R; clear hS1
  refine enter (args := [.agg #[.int .i64 mp0, .slice mp1A mp1.length mp1C, .slice mp2A mp2.length mp2C]]) Try.func115 rfl rfl ?_
  rw [Try.ntmps115]; intro a hE
  have hE := hE.sub (L' := [(0, .agg #[.int .i64 mp0, .slice mp1A mp1.length mp1C, .slice mp2A mp2.length mp2C])]) ⟨rfl, trivial⟩
  refine c_seq ?_
  refine c_reg ?_
  refine l_step hE rfl (l_box (v := .agg #[.int .i64 mp0, .slice mp1A mp1.length mp1C, .slice mp2A mp2.length mp2C]) (cs := #[.int .i64 mp0, .slice mp1A mp1.length mp1C, .slice mp2A mp2.length mp2C]) hS2 hE rfl rfl rfl ?_)
  intro b3 w4 hS7 he8 a5 hE6; clear hS2 hE
  refine q_step (v := .bool false) hE6 (y_assign rfl) rfl rfl rfl ?_; intro a9 hE10; clear hE6
  refine c_nil ?_
  have hE11 := hE10.sub (L' := [(1, .pointer (some ⟨b3, 0, none⟩))]) ⟨rfl, trivial⟩; clear hE10
  refine p_tn ?_
  refine c_cut (fun a' w' => E a' 19 [(2, .bool ((F_isFrame mp0 mp1) && ((decide ((mp2.length : Int) = 6)) && (!(F_z_ContainsFunc mp2 (fun x0 => F_isModel_k1 x0 mp0 mp1 mp2))))))] ∧ St w w' [.rd 1 mp1A mp1.length mp1C mp1, .rd 1 mp2A mp2.length mp2C mp2, .blk b3 #[.int .i64 mp0, .slice mp1A mp1.length mp1C, .slice mp2A mp2.length mp2C] 69]) ?_ ?_
  ·
   refine c_reg ?_
   refine q_step (v := .pointer (some ⟨b3, 0, none⟩)) hE11 (y_field rfl (fun _ => by kernel_rfl)) rfl rfl rfl ?_; intro a12 hE13; clear hE11
   refine q_step (v := .agg #[.int .i64 mp0, .slice mp1A mp1.length mp1C]) hE13 (y_loadP Try.underlying57 rfl (by kernel_rfl) rfl rfl (St.row (i := 0) hS7 rfl)) rfl rfl rfl ?_; intro a14 hE15; clear hE13
   refine l_step hE15 rfl (l_call (f := 104) (argv := [.agg #[.int .i64 mp0, .slice mp1A mp1.length mp1C]]) hE15 (fun _ => cf_isFrame _ _) rfl rfl (c_isFrame mp0 mp1A mp1.length mp1C mp1 w4 (St.rdR (i := 2) hS7 rfl)) ?_)
   rintro _ w17 ⟨rfl, he21⟩ a18 hE19; clear hE15
   have hS20 := St.go hS7 he21; clear hS7
   refine q_step (v := .bool (F_isFrame mp0 mp1)) hE19 (y_move rfl) rfl rfl rfl ?_; intro a22 hE23; clear hE19
   rcases Bool.eq_false_or_eq_true (F_isFrame mp0 mp1) with hb24 | hb24
   ·
    have hE25 := hE23; (try rw [hb24] at hE25); clear hE23
    have hp26 := isFrame_t hb24
    refine q_step (v := .pointer (some ⟨b3, 2, none⟩)) hE25 (y_field rfl (fun _ => by kernel_rfl)) rfl rfl rfl ?_; intro a27 hE28; clear hE25
    refine q_step (v := .slice mp2A mp2.length mp2C) hE28 (y_load (fun _ => by kernel_rfl) rfl (St.cell (i := 0) hS20 rfl rfl)) rfl rfl rfl ?_; intro a29 hE30; clear hE28
    refine q_step (v := .int .i64 (mp2.length : Int)) hE30 (y_len (e := 2) (by kernel_rfl) rfl) rfl rfl rfl ?_; intro a31 hE32; clear hE30
    refine q_step (v := .bool (decide ((mp2.length : Int) = 6))) hE32 (y_eql rfl rfl) rfl rfl rfl ?_; intro a33 hE34; clear hE32
    refine q_step (v := .bool (decide ((mp2.length : Int) = 6))) hE34 (y_pick (b := true) rfl rfl) rfl rfl rfl ?_; intro a35 hE36; clear hE34
    refine q_step (v := .bool (decide ((mp2.length : Int) = 6))) hE36 (y_move rfl) rfl rfl rfl ?_; intro a37 hE38; clear hE36
    rcases Bool.eq_false_or_eq_true (decide ((mp2.length : Int) = 6)) with hb39 | hb39
    ·
     have hE40 := hE38; (try rw [hb39] at hE40); clear hE38
     have hp41 := of_decide_eq_true hb39
     refine q_step (v := .pointer (some ⟨b3, 2, none⟩)) hE40 (y_field rfl (fun _ => by kernel_rfl)) rfl rfl rfl ?_; intro a42 hE43; clear hE40
     refine q_step (v := .slice mp2A mp2.length mp2C) hE43 (y_load (fun _ => by kernel_rfl) rfl (St.cell (i := 0) hS20 rfl rfl)) rfl rfl rfl ?_; intro a44 hE45; clear hE43
     refine q_step (v := .func (.func 181) #[] #[.pointer (some ⟨b3, 0, none⟩)]) hE45 (y_makeFunc (vs := [.pointer (some ⟨b3, 0, none⟩)]) rfl) rfl rfl rfl ?_; intro a46 hE47; clear hE45
     refine l_step hE47 rfl (l_call (f := 116) (argv := [.slice mp2A mp2.length mp2C, .func (.func 181) #[] #[.pointer (some ⟨b3, 0, none⟩)]]) hE47 (fun _ => cf_z_ContainsFunc _ _) rfl rfl (c_z_ContainsFunc mp2A mp2.length mp2C mp2 181 [.pointer (some ⟨b3, 0, none⟩)] (fun x0 => F_isModel_k1 x0 mp0 mp1 mp2) (fun _ => True) w17 (St.rdR (i := 1) hS20 rfl) (fun _ _ => cf_isModel_k1 _ _) (fun x0 w' hx he => Ret.ext (c_isModel_k1 x0 b3 mp0 mp1A mp1.length mp1C mp1 mp2A mp2.length mp2C mp2 w' (RdS.ext (St.rdR (i := 2) hS20 rfl) he) (RdS.ext (St.rdR (i := 1) hS20 rfl) he) (St.row (i := 0) hS20 rfl w' he))) (fun _ _ _ => trivial)) ?_)
     rintro _ w49 ⟨rfl, he53⟩ a50 hE51; clear hE47
     have hS52 := St.go hS20 he53; clear hS20
     refine q_step (v := .bool (!(F_z_ContainsFunc mp2 (fun x0 => F_isModel_k1 x0 mp0 mp1 mp2)))) hE51 (y_not rfl) rfl rfl rfl ?_; intro a54 hE55; clear hE51
     refine q_step (v := .bool (!(F_z_ContainsFunc mp2 (fun x0 => F_isModel_k1 x0 mp0 mp1 mp2)))) hE55 (y_pick (b := true) rfl rfl) rfl rfl rfl ?_; intro a56 hE57; clear hE55
     refine q_step (v := .bool (!(F_z_ContainsFunc mp2 (fun x0 => F_isModel_k1 x0 mp0 mp1 mp2)))) hE57 (y_assign rfl) rfl rfl rfl ?_; intro a58 hE59; clear hE57
     refine c_nil ?_
     have hE60 := hE59.sub (L' := [(2, .bool (!(F_z_ContainsFunc mp2 (fun x0 => F_isModel_k1 x0 mp0 mp1 mp2))))]) ⟨rfl, trivial⟩; clear hE59
     refine p_tn ?_
     have hE61 := hE60.sub (L' := [(2, .bool (!(F_z_ContainsFunc mp2 (fun x0 => F_isModel_k1 x0 mp0 mp1 mp2))))]) ⟨rfl, trivial⟩
     have hS62 := (St.pick (Γ' := [.rd 1 mp1A mp1.length mp1C mp1, .rd 1 mp2A mp2.length mp2C mp2, .blk b3 #[.int .i64 mp0, .slice mp1A mp1.length mp1C, .slice mp2A mp2.length mp2C] 69]) hS52 [2, 1, 0] (by decide) rfl)
     exact ⟨(by rw [hb39, hb24]; exact hE61), hS62⟩
    ·
     have hE63 := hE38; (try rw [hb39] at hE63); clear hE38
     have hp64 := of_decide_eq_false hb39
     refine q_skip hE63 rfl rfl rfl ?_; intro a65 hE66; clear hE63
     refine q_skip hE66 rfl rfl rfl ?_; intro a67 hE68; clear hE66
     refine q_skip hE68 rfl rfl rfl ?_; intro a69 hE70; clear hE68
     refine q_skip hE70 rfl rfl rfl ?_; intro a71 hE72; clear hE70
     refine q_skip hE72 rfl rfl rfl ?_; intro a73 hE74; clear hE72
     refine q_step (v := .bool false) hE74 (y_pick (b := false) rfl rfl) rfl rfl rfl ?_; intro a75 hE76; clear hE74
     refine q_step (v := .bool false) hE76 (y_assign rfl) rfl rfl rfl ?_; intro a77 hE78; clear hE76
     refine c_nil ?_
     have hE79 := hE78.sub (L' := [(2, .bool false)]) ⟨rfl, trivial⟩; clear hE78
     refine p_tn ?_
     have hE80 := hE79.sub (L' := [(2, .bool false)]) ⟨rfl, trivial⟩
     have hS81 := (St.pick (Γ' := [.rd 1 mp1A mp1.length mp1C mp1, .rd 1 mp2A mp2.length mp2C mp2, .blk b3 #[.int .i64 mp0, .slice mp1A mp1.length mp1C, .slice mp2A mp2.length mp2C] 69]) hS20 [2, 1, 0] (by decide) rfl)
     exact ⟨(by rw [hb39, hb24]; exact hE80), hS81⟩
   ·
    have hE82 := hE23; (try rw [hb24] at hE82); clear hE23
    refine q_skip hE82 rfl rfl rfl ?_; intro a83 hE84; clear hE82
    refine q_skip hE84 rfl rfl rfl ?_; intro a85 hE86; clear hE84
    refine q_skip hE86 rfl rfl rfl ?_; intro a87 hE88; clear hE86
    refine q_skip hE88 rfl rfl rfl ?_; intro a89 hE90; clear hE88
    refine q_step (v := .bool false) hE90 (y_pick (b := false) rfl rfl) rfl rfl rfl ?_; intro a91 hE92; clear hE90
    refine q_step (v := .bool false) hE92 (y_move rfl) rfl rfl rfl ?_; intro a93 hE94; clear hE92
    refine q_skip hE94 rfl rfl rfl ?_; intro a95 hE96; clear hE94
    refine q_skip hE96 rfl rfl rfl ?_; intro a97 hE98; clear hE96
    refine q_skip hE98 rfl rfl rfl ?_; intro a99 hE100; clear hE98
    refine q_skip hE100 rfl rfl rfl ?_; intro a101 hE102; clear hE100
    refine q_skip hE102 rfl rfl rfl ?_; intro a103 hE104; clear hE102
    refine q_step (v := .bool false) hE104 (y_pick (b := false) rfl rfl) rfl rfl rfl ?_; intro a105 hE106; clear hE104
    refine q_step (v := .bool false) hE106 (y_assign rfl) rfl rfl rfl ?_; intro a107 hE108; clear hE106
    refine c_nil ?_
    have hE109 := hE108.sub (L' := [(2, .bool false)]) ⟨rfl, trivial⟩; clear hE108
    refine p_tn ?_
    have hE110 := hE109.sub (L' := [(2, .bool false)]) ⟨rfl, trivial⟩
    have hS111 := (St.pick (Γ' := [.rd 1 mp1A mp1.length mp1C mp1, .rd 1 mp2A mp2.length mp2C mp2, .blk b3 #[.int .i64 mp0, .slice mp1A mp1.length mp1C, .slice mp2A mp2.length mp2C] 69]) hS20 [2, 1, 0] (by decide) rfl)
    exact ⟨(by rw [hb24]; exact hE110), hS111⟩
  ·
   rintro a112 w113 ⟨hE114, hS115⟩; clear hE11 hS7
   refine wp_ret ?_
   have hF : F_isModel mp0 mp1 mp2 = ((F_isFrame mp0 mp1) && ((decide ((mp2.length : Int) = 6)) && (!(F_z_ContainsFunc mp2 (fun x0 => F_isModel_k1 x0 mp0 mp1 mp2))))) := by unfold F_isModel; rfl
   refine c_ret1 hE114 rfl rfl ?_
   exact ⟨(by rw [hF]; first | done | (dsimp only; done) | rfl), hS115.ext⟩
theorem isModel_eq (mp0 : Int) (mp1 mp2 : List Int) : F_isModel mp0 mp1 mp2 = F_l06Is mp0 mp1 mp2 := by
  unfold F_isModel F_l06Is
  rw [isFrame_eq]
  cases h : F_l05Is mp0 mp1
  · rfl
  · have hb := l05Is_t h
    congr 2
    rw [contains_eq, masks_eq, List.all_eq_not_any_not]
    congr 2; funext x
    unfold F_isModel_k1
    rw [isMask_eq (by omega) (by omega)]
theorem isModel_t {mp0 : Int} {mp1 mp2 : List Int} (h : F_isModel mp0 mp1 mp2 = true) : F_l05Is mp0 mp1 = true ∧ ((0 ≤ mp0 ∧ mp0 ≤ 8) ∧ (mp1.length : Int) = mp0) ∧ (mp2.length : Int) = 6 ∧ ∀ m : Int, 0 ≤ m → m < (mp2.length : Int) → 0 ≤ gI mp2 m ∧ gI mp2 m ≤ fullI mp0 := by
  rw [isModel_eq] at h; exact l06Is_t h
end Go.Proofs.Ytkilkfhjfobcdaa
