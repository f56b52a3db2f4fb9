/- GK: models and contracts, printed by wip/gen/gen.py -/
import Derived.Test.YtfilpikakdlgbaaGQ
set_option linter.unusedVariables false
set_option linter.unusedSimpArgs false
namespace Go.Proofs.Ytfilpikakdlgbaa
open Go.RowKit

theorem mul_bd {a b : Int} (ha : 0 ≤ a) (ha1 : a ≤ 8) (hb : 0 ≤ b) (hb1 : b ≤ 8) : 0 ≤ a * b ∧ a * b ≤ 64 := by
  refine ⟨Int.mul_nonneg ha hb, ?_⟩
  have := Int.mul_le_mul ha1 hb1 hb (by omega)
  omega
theorem mul8 {a b : Int} (ha : 0 ≤ a) (hb : 0 ≤ b) (h : ¬ 8 < a * b) (x : Int) (hx : 0 ≤ x) (hxa : x < a) : 0 ≤ x * b ∧ x * b ≤ 8 := by
  refine ⟨Int.mul_nonneg hx hb, ?_⟩
  have := Int.mul_le_mul_of_nonneg_right (show x ≤ a by omega) hb
  omega

theorem frame_m {f0 : Int} {f1 : List Int} (h : F_isFrame f0 f1 = true) : ∀ m : Int, 0 ≤ m → m < (f1.length : Int) → 0 ≤ gI f1 m ∧ gI f1 m ≤ fullI (f1.length : Int) := by
  rw [isFrame_eq] at h
  have hl := (l05Is_t h).2
  intro m h0 h1
  rw [hl]; exact l05Is_m h m h0 h1

def F_s_ProductFrames_L3b (fp0 : Int) (fp1 : List Int) (gp0 : Int) (gp1 : List Int) (x7 : Int) (y8L2 : Int) (rec : Int → Int → Int × Int) (mask9L3 : Int) (z10L3 : Int) : Int × Int :=
  bif (decide (z10L3 < fp0)) then (rec (bif (F_l01Bit (gI fp1 x7) z10L3) then orI mask9L3 (shlI (gI gp1 y8L2) (z10L3 * gp0)) else mask9L3) (z10L3 + 1)) else (mask9L3, z10L3)
def F_s_ProductFrames_L3 (fp0 : Int) (fp1 : List Int) (gp0 : Int) (gp1 : List Int) (x7 : Int) (y8L2 : Int) : Nat → Int → Int → Int × Int
  | 0, mask9L3, z10L3 => (mask9L3, z10L3)
  | r + 1, mask9L3, z10L3 => F_s_ProductFrames_L3b fp0 fp1 gp0 gp1 x7 y8L2 (F_s_ProductFrames_L3 fp0 fp1 gp0 gp1 x7 y8L2 r) mask9L3 z10L3
def F_s_ProductFrames_L2b (fp0 : Int) (fp1 : List Int) (gp0 : Int) (gp1 : List Int) (x7 : Int) (rec : (List Int) → Int → (List Int) × Int) (arrows6L2 : List Int) (y8L2 : Int) : (List Int) × Int :=
  bif (decide (y8L2 < gp0)) then (rec (arrows6L2 ++ ([(F_s_ProductFrames_L3 fp0 fp1 gp0 gp1 x7 y8L2 (Int.toNat (fp0 - 0) + 1) 0 0).1])) (y8L2 + 1)) else (arrows6L2, y8L2)
def F_s_ProductFrames_L2 (fp0 : Int) (fp1 : List Int) (gp0 : Int) (gp1 : List Int) (x7 : Int) : Nat → (List Int) → Int → (List Int) × Int
  | 0, arrows6L2, y8L2 => (arrows6L2, y8L2)
  | r + 1, arrows6L2, y8L2 => F_s_ProductFrames_L2b fp0 fp1 gp0 gp1 x7 (F_s_ProductFrames_L2 fp0 fp1 gp0 gp1 x7 r) arrows6L2 y8L2
def F_s_ProductFrames_L1b (fp0 : Int) (fp1 : List Int) (gp0 : Int) (gp1 : List Int) (rec : (List Int) → Int → (List Int) × Int) (arrows6 : List Int) (x7 : Int) : (List Int) × Int :=
  bif (decide (x7 < fp0)) then (rec ((F_s_ProductFrames_L2 fp0 fp1 gp0 gp1 x7 (Int.toNat (gp0 - 0) + 1) arrows6 0).1) (x7 + 1)) else (arrows6, x7)
def F_s_ProductFrames_L1 (fp0 : Int) (fp1 : List Int) (gp0 : Int) (gp1 : List Int) : Nat → (List Int) → Int → (List Int) × Int
  | 0, arrows6, x7 => (arrows6, x7)
  | r + 1, arrows6, x7 => F_s_ProductFrames_L1b fp0 fp1 gp0 gp1 (F_s_ProductFrames_L1 fp0 fp1 gp0 gp1 r) arrows6 x7
def F_s_ProductFrames (fp0 : Int) (fp1 : List Int) (gp0 : Int) (gp1 : List Int) : (Int × List Int) × (Int) :=
  bif ((!(F_l05Is fp0 fp1)) || (!(F_l05Is gp0 gp1))) then ((0, []), 1) else (bif (decide (8 < (fp0 * gp0))) then ((0, []), 3) else (((((F_s_ProductFrames_L1 fp0 fp1 gp0 gp1 (Int.toNat (fp0 - 0) + 1) ([]) 0).1).length : Int), ((F_s_ProductFrames_L1 fp0 fp1 gp0 gp1 (Int.toNat (fp0 - 0) + 1) ([]) 0).1)), 0))
theorem cf_s_ProductFrames (args : Array Value) (w : World) : (callFunc 46 args).run Try.prog w = .ok (.enter 46 args) w := by kernel_rfl
set_option maxRecDepth 100000 in
theorem c_s_ProductFrames (fp0 : Int) (fp1A : Option Addr) (fp1N fp1C : Nat) (fp1 : List Int) (gp0 : Int) (gp1A : Option Addr) (gp1N gp1C : Nat) (gp1 : List Int) (w : World) (fp1R : RdS w 1 fp1A fp1N fp1C fp1) (gp1R : RdS w 1 gp1A gp1N gp1C gp1) :
    Calls Try.prog 46 #[.agg #[.int .i64 fp0, .slice fp1A fp1N fp1C], .agg #[.int .i64 gp0, .slice gp1A gp1N gp1C]] w (Ret fun v w' => ∃ b1 : Option Addr, ∃ c1 : Nat, v = .tuple #[.agg #[.int .i64 (((F_s_ProductFrames fp0 fp1 gp0 gp1).1).1), .slice b1 (((F_s_ProductFrames fp0 fp1 gp0 gp1).1).2).length c1], .int .i64 ((F_s_ProductFrames fp0 fp1 gp0 gp1).2)] ∧ OwnS w' w.heap.size 2 1 b1 (((F_s_ProductFrames fp0 fp1 gp0 gp1).1).2).length c1 (((F_s_ProductFrames fp0 fp1 gp0 gp1).1).2) ∧ Ext w w') := by
  obtain rfl : fp1N = fp1.length := fp1R.len1.symm
  have fp1Le := fp1R.le
  obtain rfl : gp1N = gp1.length := gp1R.len1.symm
  have gp1Le := gp1R.le
  have hS := St.nil w
  have hS1 := St.rd0 hS rfl fp1R; clear hS
  have hS2 := St.rd0 hS1 rfl gp1R; clear hS1
  refine enter (args := [.agg #[.int .i64 fp0, .slice fp1A fp1.length fp1C], .agg #[.int .i64 gp0, .slice gp1A gp1.length gp1C]]) Try.func46 rfl rfl ?_
  rw [Try.ntmps46]; intro a hE
  have hE := hE.sub (L' := [(0, .agg #[.int .i64 fp0, .slice fp1A fp1.length fp1C]), (1, .agg #[.int .i64 gp0, .slice gp1A gp1.length gp1C])]) ⟨rfl, rfl, trivial⟩
  refine c_seq ?_
  refine c_reg ?_
  refine l_step hE rfl (l_box (v := .agg #[.int .i64 fp0, .slice fp1A fp1.length fp1C]) (cs := #[.int .i64 fp0, .slice fp1A fp1.length fp1C]) hS2 hE rfl rfl rfl ?_)
  intro b3 w4 hS7 he8 a5 hE6; clear hS2 hE
  refine l_step hE6 rfl (l_box (v := .agg #[.int .i64 gp0, .slice gp1A gp1.length gp1C]) (cs := #[.int .i64 gp0, .slice gp1A gp1.length gp1C]) hS7 hE6 rfl rfl rfl ?_)
  intro b9 w10 hS13 he14 a11 hE12; clear hS7 hE6
  refine l_step hE12 rfl (l_alloc (z := .agg #[.int .i64 0, .slice none 0 0]) (cs := #[.int .i64 0, .slice none 0 0]) hS13 hE12 (fun _ => by kernel_rfl) rfl rfl ?_)
  intro b15 w16 hS19 he20 a17 hE18; clear hS13 hE12
  refine q_step (v := .int .i64 0) hE18 (y_assign rfl) rfl rfl rfl ?_; intro a21 hE22; clear hE18
  refine c_nil ?_
  have hE23 := hE22.sub (L' := [(2, .pointer (some ⟨b3, 0, none⟩)), (3, .pointer (some ⟨b9, 0, none⟩)), (4, .pointer (some ⟨b15, 0, none⟩))]) ⟨rfl, rfl, rfl, trivial⟩; clear hE22
  refine p_tn ?_
  refine c_seq ?_
  refine wp_block ?_
  refine c_cut (fun a' w' => E a' 74 [(2, .pointer (some ⟨b3, 0, none⟩)), (3, .pointer (some ⟨b9, 0, none⟩)), (4, .pointer (some ⟨b15, 0, none⟩)), (11, .bool ((!(F_l05Is fp0 fp1)) || (!(F_l05Is gp0 gp1))))] ∧ St w w' [.blk b15 #[.int .i64 0, .slice none 0 0] 53, .rd 1 gp1A gp1.length gp1C gp1, .blk b9 #[.int .i64 gp0, .slice gp1A gp1.length gp1C] 53, .rd 1 fp1A fp1.length fp1C fp1, .blk b3 #[.int .i64 fp0, .slice fp1A fp1.length fp1C] 53]) ?_ ?_
  ·
    refine c_reg ?_
    refine q_step (v := .agg #[.int .i64 fp0, .slice fp1A fp1.length fp1C]) hE23 (y_loadS Try.underlying53 rfl (by kernel_rfl) rfl (St.row (i := 2) hS19 rfl)) rfl rfl rfl ?_; intro a24 hE25; clear hE23
    refine l_step hE25 rfl (l_call (f := 80) (argv := [.agg #[.int .i64 fp0, .slice fp1A fp1.length fp1C]]) hE25 (fun _ => cf_l05Is _ _) rfl rfl (c_l05Is fp0 fp1A fp1.length fp1C fp1 w16 (St.rdR (i := 4) hS19 rfl)) ?_)
    rintro _ w27 ⟨rfl, he31⟩ a28 hE29; clear hE25
    have hS30 := St.go hS19 he31; clear hS19
    refine q_step (v := .bool (!(F_l05Is fp0 fp1))) hE29 (y_not rfl) rfl rfl rfl ?_; intro a32 hE33; clear hE29
    refine q_step (v := .bool (!(F_l05Is fp0 fp1))) hE33 (y_move rfl) rfl rfl rfl ?_; intro a34 hE35; clear hE33
    rcases Bool.eq_false_or_eq_true (!(F_l05Is fp0 fp1)) with hb36 | hb36
    ·
      have hE37 := hE35; rw [hb36] at hE37; clear hE35
      have ht38 := bn_t hb36
      refine q_skip hE37 rfl rfl rfl ?_; intro a39 hE40; clear hE37
      refine q_skip hE40 rfl rfl rfl ?_; intro a41 hE42; clear hE40
      refine q_skip hE42 rfl rfl rfl ?_; intro a43 hE44; clear hE42
      refine q_step (v := .bool true) hE44 (y_pick (b := true) rfl rfl) rfl rfl rfl ?_; intro a45 hE46; clear hE44
      refine q_step (v := .bool true) hE46 (y_assign rfl) rfl rfl rfl ?_; intro a47 hE48; clear hE46
      refine c_nil ?_
      have hE49 := hE48.sub (L' := [(2, .pointer (some ⟨b3, 0, none⟩)), (3, .pointer (some ⟨b9, 0, none⟩)), (4, .pointer (some ⟨b15, 0, none⟩)), (11, .bool true)]) ⟨rfl, rfl, rfl, rfl, trivial⟩; clear hE48
      refine p_tn ?_
      have hE50 := hE49.sub (L' := [(2, .pointer (some ⟨b3, 0, none⟩)), (3, .pointer (some ⟨b9, 0, none⟩)), (4, .pointer (some ⟨b15, 0, none⟩)), (11, .bool true)]) ⟨rfl, rfl, rfl, rfl, trivial⟩
      have hS51 := (St.pick (Γ' := [.blk b15 #[.int .i64 0, .slice none 0 0] 53, .rd 1 gp1A gp1.length gp1C gp1, .blk b9 #[.int .i64 gp0, .slice gp1A gp1.length gp1C] 53, .rd 1 fp1A fp1.length fp1C fp1, .blk b3 #[.int .i64 fp0, .slice fp1A fp1.length fp1C] 53]) hS30 [0, 3, 1, 4, 2] (by decide) rfl)
      exact ⟨(by rw [hb36]; exact hE50), hS51⟩
    ·
      have hE52 := hE35; rw [hb36] at hE52; clear hE35
      have ht53 := bn_f hb36
      have hp54 := l05Is_t ht53
      refine q_step (v := .agg #[.int .i64 gp0, .slice gp1A gp1.length gp1C]) hE52 (y_loadS Try.underlying53 rfl (by kernel_rfl) rfl (St.row (i := 1) hS30 rfl)) rfl rfl rfl ?_; intro a55 hE56; clear hE52
      refine l_step hE56 rfl (l_call (f := 80) (argv := [.agg #[.int .i64 gp0, .slice gp1A gp1.length gp1C]]) hE56 (fun _ => cf_l05Is _ _) rfl rfl (c_l05Is gp0 gp1A gp1.length gp1C gp1 w27 (St.rdR (i := 3) hS30 rfl)) ?_)
      rintro _ w58 ⟨rfl, he62⟩ a59 hE60; clear hE56
      have hS61 := St.go hS30 he62; clear hS30
      refine q_step (v := .bool (!(F_l05Is gp0 gp1))) hE60 (y_not rfl) rfl rfl rfl ?_; intro a63 hE64; clear hE60
      refine q_step (v := .bool (!(F_l05Is gp0 gp1))) hE64 (y_pick (b := false) rfl rfl) rfl rfl rfl ?_; intro a65 hE66; clear hE64
      refine q_step (v := .bool (!(F_l05Is gp0 gp1))) hE66 (y_assign rfl) rfl rfl rfl ?_; intro a67 hE68; clear hE66
      refine c_nil ?_
      have hE69 := hE68.sub (L' := [(2, .pointer (some ⟨b3, 0, none⟩)), (3, .pointer (some ⟨b9, 0, none⟩)), (4, .pointer (some ⟨b15, 0, none⟩)), (11, .bool (!(F_l05Is gp0 gp1)))]) ⟨rfl, rfl, rfl, rfl, trivial⟩; clear hE68
      refine p_tn ?_
      have hE70 := hE69.sub (L' := [(2, .pointer (some ⟨b3, 0, none⟩)), (3, .pointer (some ⟨b9, 0, none⟩)), (4, .pointer (some ⟨b15, 0, none⟩)), (11, .bool (!(F_l05Is gp0 gp1)))]) ⟨rfl, rfl, rfl, rfl, trivial⟩
      have hS71 := (St.pick (Γ' := [.blk b15 #[.int .i64 0, .slice none 0 0] 53, .rd 1 gp1A gp1.length gp1C gp1, .blk b9 #[.int .i64 gp0, .slice gp1A gp1.length gp1C] 53, .rd 1 fp1A fp1.length fp1C fp1, .blk b3 #[.int .i64 fp0, .slice fp1A fp1.length fp1C] 53]) hS61 [0, 3, 1, 4, 2] (by decide) rfl)
      exact ⟨(by rw [hb36]; exact hE70), hS71⟩
  ·
    rintro a72 w73 ⟨hE74, hS75⟩; clear hE23 hS19
    refine c_cond hE74 rfl (fun ht76 => ?_) (fun ht76 => ?_)
    ·
      have hE77 := hE74; rw [ht76] at hE77; clear hE74
      refine c_seq ?_
      refine c_reg ?_
      refine q_step (v := .agg #[.int .i64 0, .slice none 0 0]) hE77 (y_build (vs := #[]) (fun a n hE => by simp) (fun _ => by kernel_rfl)) rfl rfl rfl ?_; intro a78 hE79; clear hE77
      refine l_step hE79 rfl (l_storeS (k := 0) (cs' := #[.int .i64 0, .slice none 0 0]) hS75 hE79 (by kernel_rfl) rfl rfl (by kernel_rfl) rfl rfl ?_)
      intro w81 hS84 a82 hE83; clear hS75 hE79
      refine q_step (v := .int .i64 1) hE83 (y_assign rfl) rfl rfl rfl ?_; intro a86 hE87; clear hE83
      refine c_nil ?_
      have hE88 := hE87.sub (L' := [(4, .pointer (some ⟨b15, 0, none⟩)), (5, .int .i64 1)]) ⟨rfl, rfl, trivial⟩; clear hE87
      refine p_tn ?_
      refine wp_ret ?_
      refine p_br ?_
      refine p_tr ?_
      have hF : F_s_ProductFrames fp0 fp1 gp0 gp1 = ((0, []), 1) := by unfold F_s_ProductFrames; rw [ht76]; first | done | rfl
      refine c_retC2 hE88 rfl rfl rfl Try.underlying53 rfl (by kernel_rfl) (St.row (i := 0) hS84 rfl _ (Ext.refl _)) ?_
      exact ⟨none, 0, (by rw [hF]; first | done | rfl), (by rw [hF]; exact OwnS.nilS _ _ _ _), hS84.ext⟩
    ·
      obtain ⟨ht89, ht90⟩ := bor_f ht76
      have ht91 := bn_f ht89
      have hp92 := l05Is_t ht91
      have ht93 := bn_f ht90
      have hp94 := l05Is_t ht93
      have hE95 := hE74; rw [ht76] at hE95; clear hE74
      refine c_seq ?_
      refine c_reg ?_
      refine q_step (v := .pointer (some ⟨b3, 0, none⟩)) hE95 (y_field rfl (fun _ => by kernel_rfl)) rfl rfl rfl ?_; intro a96 hE97; clear hE95
      refine q_step (v := .int .i64 fp0) hE97 (y_load (fun _ => by kernel_rfl) rfl (St.cell (i := 4) hS75 rfl rfl)) rfl rfl rfl ?_; intro a98 hE99; clear hE97
      refine q_step (v := .pointer (some ⟨b9, 0, none⟩)) hE99 (y_field rfl (fun _ => by kernel_rfl)) rfl rfl rfl ?_; intro a100 hE101; clear hE99
      refine q_step (v := .int .i64 gp0) hE101 (y_load (fun _ => by kernel_rfl) rfl (St.cell (i := 2) hS75 rfl rfl)) rfl rfl rfl ?_; intro a102 hE103; clear hE101
      refine q_step (v := .int .i64 (fp0 * gp0)) hE103 (y_mul rfl rfl ⟨(by first | omega | (have hmul := mul_bd (a := fp0) (b := gp0) (by omega) (by omega) (by omega) (by omega); omega)), (by first | omega | (have hmul := mul_bd (a := fp0) (b := gp0) (by omega) (by omega) (by omega) (by omega); omega))⟩) rfl rfl rfl ?_; intro a104 hE105; clear hE103
      refine q_step (v := .bool (decide (8 < (fp0 * gp0)))) hE105 (y_gtr rfl rfl) rfl rfl rfl ?_; intro a106 hE107; clear hE105
      refine q_step (v := .bool (decide (8 < (fp0 * gp0)))) hE107 (y_assign rfl) rfl rfl rfl ?_; intro a108 hE109; clear hE107
      refine c_nil ?_
      have hE110 := hE109.sub (L' := [(2, .pointer (some ⟨b3, 0, none⟩)), (3, .pointer (some ⟨b9, 0, none⟩)), (4, .pointer (some ⟨b15, 0, none⟩)), (21, .bool (decide (8 < (fp0 * gp0))))]) ⟨rfl, rfl, rfl, rfl, trivial⟩; clear hE109
      refine p_tn ?_
      refine c_cond hE110 rfl (fun ht111 => ?_) (fun ht111 => ?_)
      ·
        have hp112 := of_decide_eq_true ht111
        have hE113 := hE110; rw [ht111] at hE113; clear hE110
        refine c_seq ?_
        refine c_reg ?_
        refine q_step (v := .agg #[.int .i64 0, .slice none 0 0]) hE113 (y_build (vs := #[]) (fun a n hE => by simp) (fun _ => by kernel_rfl)) rfl rfl rfl ?_; intro a114 hE115; clear hE113
        refine l_step hE115 rfl (l_storeS (k := 0) (cs' := #[.int .i64 0, .slice none 0 0]) hS75 hE115 (by kernel_rfl) rfl rfl (by kernel_rfl) rfl rfl ?_)
        intro w117 hS120 a118 hE119; clear hS75 hE115
        refine q_step (v := .int .i64 3) hE119 (y_assign rfl) rfl rfl rfl ?_; intro a122 hE123; clear hE119
        refine c_nil ?_
        have hE124 := hE123.sub (L' := [(4, .pointer (some ⟨b15, 0, none⟩)), (5, .int .i64 3)]) ⟨rfl, rfl, trivial⟩; clear hE123
        refine p_tn ?_
        refine wp_ret ?_
        refine p_br ?_
        refine p_tr ?_
        have hF : F_s_ProductFrames fp0 fp1 gp0 gp1 = ((0, []), 3) := by unfold F_s_ProductFrames; rw [ht111, ht76]; first | done | rfl
        refine c_retC2 hE124 rfl rfl rfl Try.underlying53 rfl (by kernel_rfl) (St.row (i := 0) hS120 rfl _ (Ext.refl _)) ?_
        exact ⟨none, 0, (by rw [hF]; first | done | rfl), (by rw [hF]; exact OwnS.nilS _ _ _ _), hS120.ext⟩
      ·
        have hp125 := of_decide_eq_false ht111
        have hE126 := hE110; rw [ht111] at hE126; clear hE110
        refine wp_skip ?_
        refine p_bn ?_
        refine p_tn ?_
        refine c_seq ?_
        refine c_reg ?_
        refine l_step hE126 rfl (l_lit (e := 2) (s := 1) (xs := []) (vs := []) hS75 hE126 rfl (fun _ => by kernel_rfl) rfl rfl rfl ?_)
        intro b127 w128 hS131 he132 a129 hE130; clear hS75 hE126
        refine q_step (v := .slice (some ⟨b127, 0, none⟩) 0 0) hE130 (y_assign rfl) rfl rfl rfl ?_; intro a133 hE134; clear hE130
        refine c_nil ?_
        have hE135 := hE134.sub (L' := [(2, .pointer (some ⟨b3, 0, none⟩)), (3, .pointer (some ⟨b9, 0, none⟩)), (4, .pointer (some ⟨b15, 0, none⟩)), (6, .slice (some ⟨b127, 0, none⟩) 0 0)]) ⟨rfl, rfl, rfl, rfl, trivial⟩; clear hE134
        refine p_tn ?_
        refine c_seq ?_
        refine c_seq ?_
        refine c_reg ?_
        refine q_step (v := .int .i64 0) hE135 (y_assign rfl) rfl rfl rfl ?_; intro a136 hE137; clear hE135
        refine c_nil ?_
        have hE138 := hE137.sub (L' := [(2, .pointer (some ⟨b3, 0, none⟩)), (3, .pointer (some ⟨b9, 0, none⟩)), (4, .pointer (some ⟨b15, 0, none⟩)), (6, .slice (some ⟨b127, 0, none⟩) 0 0), (7, .int .i64 0)]) ⟨rfl, rfl, rfl, rfl, rfl, trivial⟩; clear hE137
        refine p_tn ?_
        refine c_cut1 (fun a' w' => ∃ arrows6A_139 : Option Addr, ∃ arrows6C_139 : Nat, (0 ≤ ((F_s_ProductFrames_L1 fp0 fp1 gp0 gp1 (Int.toNat (fp0 - 0) + 1) ([]) 0).2)) ∧ (((F_s_ProductFrames_L1 fp0 fp1 gp0 gp1 (Int.toNat (fp0 - 0) + 1) ([]) 0).2) ≤ fp0) ∧ ((((F_s_ProductFrames_L1 fp0 fp1 gp0 gp1 (Int.toNat (fp0 - 0) + 1) ([]) 0).1).length : Int) ≤ 8 * ((F_s_ProductFrames_L1 fp0 fp1 gp0 gp1 (Int.toNat (fp0 - 0) + 1) ([]) 0).2)) ∧ E a' 74 [(2, .pointer (some ⟨b3, 0, none⟩)), (3, .pointer (some ⟨b9, 0, none⟩)), (4, .pointer (some ⟨b15, 0, none⟩)), (6, .slice arrows6A_139 (((F_s_ProductFrames_L1 fp0 fp1 gp0 gp1 (Int.toNat (fp0 - 0) + 1) ([]) 0).1).length) arrows6C_139), (7, .int .i64 ((F_s_ProductFrames_L1 fp0 fp1 gp0 gp1 (Int.toNat (fp0 - 0) + 1) ([]) 0).2))] ∧ St w w' [.own 2 1 arrows6A_139 (((F_s_ProductFrames_L1 fp0 fp1 gp0 gp1 (Int.toNat (fp0 - 0) + 1) ([]) 0).1).length) arrows6C_139 ((F_s_ProductFrames_L1 fp0 fp1 gp0 gp1 (Int.toNat (fp0 - 0) + 1) ([]) 0).1), .blk b15 #[.int .i64 0, .slice none 0 0] 53, .rd 1 gp1A gp1.length gp1C gp1, .blk b9 #[.int .i64 gp0, .slice gp1A gp1.length gp1C] 53, .rd 1 fp1A fp1.length fp1C fp1, .blk b3 #[.int .i64 fp0, .slice fp1A fp1.length fp1C] 53]) ?_ ?_
        ·
          refine wp_block ?_
          refine c_loop (fun r a' w' => ∃ arrows6 : List Int, ∃ x7 : Int, ∃ arrows6A : Option Addr, ∃ arrows6C : Nat, F_s_ProductFrames_L1 fp0 fp1 gp0 gp1 r arrows6 x7 = F_s_ProductFrames_L1 fp0 fp1 gp0 gp1 (Int.toNat (fp0 - 0) + 1) ([]) 0 ∧ Int.toNat (fp0 - x7) < r ∧ (0 ≤ x7) ∧ (x7 ≤ fp0) ∧ ((arrows6.length : Int) ≤ 8 * x7) ∧ E a' 74 [(2, .pointer (some ⟨b3, 0, none⟩)), (3, .pointer (some ⟨b9, 0, none⟩)), (4, .pointer (some ⟨b15, 0, none⟩)), (6, .slice arrows6A ((arrows6).length) arrows6C), (7, .int .i64 x7)] ∧ St w w' [.own 2 1 arrows6A ((arrows6).length) arrows6C arrows6, .blk b15 #[.int .i64 0, .slice none 0 0] 53, .rd 1 gp1A gp1.length gp1C gp1, .blk b9 #[.int .i64 gp0, .slice gp1A gp1.length gp1C] 53, .rd 1 fp1A fp1.length fp1C fp1, .blk b3 #[.int .i64 fp0, .slice fp1A fp1.length fp1C] 53]) (r := (Int.toNat (fp0 - 0) + 1)) ?_ ?_
          · exact ⟨[], 0, some ⟨b127, 0, none⟩, 0, rfl, Nat.lt_succ_self _, (by first | omega | (simp only [List.length_append, List.length_cons, List.length_nil, sI_len, cond_true, cond_false]; omega) | (simp only [List.length_append, List.length_cons, List.length_nil, sI_len, cond_eq_ite, apply_ite List.length]; split <;> simp only [List.length_append, List.length_cons, List.length_nil, sI_len] <;> omega) | grind), (by first | omega | (simp only [List.length_append, List.length_cons, List.length_nil, sI_len, cond_true, cond_false]; omega) | (simp only [List.length_append, List.length_cons, List.length_nil, sI_len, cond_eq_ite, apply_ite List.length]; split <;> simp only [List.length_append, List.length_cons, List.length_nil, sI_len] <;> omega) | grind), (by first | omega | (simp only [List.length_append, List.length_cons, List.length_nil, sI_len, cond_true, cond_false]; omega) | (simp only [List.length_append, List.length_cons, List.length_nil, sI_len, cond_eq_ite, apply_ite List.length]; split <;> simp only [List.length_append, List.length_cons, List.length_nil, sI_len] <;> omega) | grind), (hE138.sub (L' := [(2, .pointer (some ⟨b3, 0, none⟩)), (3, .pointer (some ⟨b9, 0, none⟩)), (4, .pointer (some ⟨b15, 0, none⟩)), (6, .slice (some ⟨b127, 0, none⟩) 0 0), (7, .int .i64 0)]) ⟨rfl, rfl, rfl, rfl, rfl, trivial⟩), (St.pick (Γ' := [.own 2 1 (some ⟨b127, 0, none⟩) 0 0 ([]), .blk b15 #[.int .i64 0, .slice none 0 0] 53, .rd 1 gp1A gp1.length gp1C gp1, .blk b9 #[.int .i64 gp0, .slice gp1A gp1.length gp1C] 53, .rd 1 fp1A fp1.length fp1C fp1, .blk b3 #[.int .i64 fp0, .slice fp1A fp1.length fp1C] 53]) hS131 [0, 1, 2, 3, 4, 5] (by decide) rfl)⟩
          ·
            clear hE138 hS131
            rintro r149 a140 w141 ⟨arrows6, x7, arrows6A, arrows6C, hT144, hr145, hi146, hi147, hi148, hE142, hS143⟩
            obtain ⟨r149, rfl⟩ : ∃ r', r149 = r' + 1 := ⟨r149 - 1, by omega⟩
            refine c_seq ?_
            refine c_seq ?_
            refine c_reg ?_
            refine q_step (v := .int .i64 x7) hE142 (y_move rfl) rfl rfl rfl ?_; intro a150 hE151; clear hE142
            refine q_step (v := .pointer (some ⟨b3, 0, none⟩)) hE151 (y_field rfl (fun _ => by kernel_rfl)) rfl rfl rfl ?_; intro a152 hE153; clear hE151
            refine q_step (v := .int .i64 fp0) hE153 (y_load (fun _ => by kernel_rfl) rfl (St.cell (i := 5) hS143 rfl rfl)) rfl rfl rfl ?_; intro a154 hE155; clear hE153
            refine q_step (v := .bool (decide (x7 < fp0))) hE155 (y_lss rfl rfl) rfl rfl rfl ?_; intro a156 hE157; clear hE155
            refine c_nil ?_
            have hE158 := hE157.sub (L' := [(2, .pointer (some ⟨b3, 0, none⟩)), (3, .pointer (some ⟨b9, 0, none⟩)), (4, .pointer (some ⟨b15, 0, none⟩)), (6, .slice arrows6A ((arrows6).length) arrows6C), (7, .int .i64 x7), (33, .bool (decide (x7 < fp0)))]) ⟨rfl, rfl, rfl, rfl, rfl, rfl, trivial⟩; clear hE157
            refine p_tn ?_
            refine c_cond hE158 rfl (fun ht159 => ?_) (fun ht159 => ?_)
            ·
              have hp160 := of_decide_eq_true ht159
              have hE161 := hE158; rw [ht159] at hE161; clear hE158
              refine wp_skip ?_
              refine p_tn ?_
              refine c_seq ?_
              refine wp_block ?_
              refine c_seq ?_
              refine c_reg ?_
              refine q_step (v := .int .i64 0) hE161 (y_assign rfl) rfl rfl rfl ?_; intro a162 hE163; clear hE161
              refine c_nil ?_
              have hE164 := hE163.sub (L' := [(2, .pointer (some ⟨b3, 0, none⟩)), (3, .pointer (some ⟨b9, 0, none⟩)), (4, .pointer (some ⟨b15, 0, none⟩)), (6, .slice arrows6A ((arrows6).length) arrows6C), (7, .int .i64 x7), (8, .int .i64 0)]) ⟨rfl, rfl, rfl, rfl, rfl, rfl, trivial⟩; clear hE163
              refine p_tn ?_
              refine c_cut1 (fun a' w' => ∃ arrows6L2A_165 : Option Addr, ∃ arrows6L2C_165 : Nat, (0 ≤ ((F_s_ProductFrames_L2 fp0 fp1 gp0 gp1 x7 (Int.toNat (gp0 - 0) + 1) arrows6 0).2)) ∧ (((F_s_ProductFrames_L2 fp0 fp1 gp0 gp1 x7 (Int.toNat (gp0 - 0) + 1) arrows6 0).2) ≤ gp0) ∧ ((((F_s_ProductFrames_L2 fp0 fp1 gp0 gp1 x7 (Int.toNat (gp0 - 0) + 1) arrows6 0).1).length : Int) ≤ 8 * x7 + ((F_s_ProductFrames_L2 fp0 fp1 gp0 gp1 x7 (Int.toNat (gp0 - 0) + 1) arrows6 0).2)) ∧ E a' 74 [(2, .pointer (some ⟨b3, 0, none⟩)), (3, .pointer (some ⟨b9, 0, none⟩)), (4, .pointer (some ⟨b15, 0, none⟩)), (6, .slice arrows6L2A_165 (((F_s_ProductFrames_L2 fp0 fp1 gp0 gp1 x7 (Int.toNat (gp0 - 0) + 1) arrows6 0).1).length) arrows6L2C_165), (7, .int .i64 x7), (8, .int .i64 ((F_s_ProductFrames_L2 fp0 fp1 gp0 gp1 x7 (Int.toNat (gp0 - 0) + 1) arrows6 0).2))] ∧ St w w' [.own 2 1 arrows6L2A_165 (((F_s_ProductFrames_L2 fp0 fp1 gp0 gp1 x7 (Int.toNat (gp0 - 0) + 1) arrows6 0).1).length) arrows6L2C_165 ((F_s_ProductFrames_L2 fp0 fp1 gp0 gp1 x7 (Int.toNat (gp0 - 0) + 1) arrows6 0).1), .blk b15 #[.int .i64 0, .slice none 0 0] 53, .rd 1 gp1A gp1.length gp1C gp1, .blk b9 #[.int .i64 gp0, .slice gp1A gp1.length gp1C] 53, .rd 1 fp1A fp1.length fp1C fp1, .blk b3 #[.int .i64 fp0, .slice fp1A fp1.length fp1C] 53]) ?_ ?_
              ·
                refine wp_block ?_
                refine c_loop (fun r a' w' => ∃ arrows6L2 : List Int, ∃ y8L2 : Int, ∃ arrows6L2A : Option Addr, ∃ arrows6L2C : Nat, F_s_ProductFrames_L2 fp0 fp1 gp0 gp1 x7 r arrows6L2 y8L2 = F_s_ProductFrames_L2 fp0 fp1 gp0 gp1 x7 (Int.toNat (gp0 - 0) + 1) arrows6 0 ∧ Int.toNat (gp0 - y8L2) < r ∧ (0 ≤ y8L2) ∧ (y8L2 ≤ gp0) ∧ ((arrows6L2.length : Int) ≤ 8 * x7 + y8L2) ∧ E a' 74 [(2, .pointer (some ⟨b3, 0, none⟩)), (3, .pointer (some ⟨b9, 0, none⟩)), (4, .pointer (some ⟨b15, 0, none⟩)), (6, .slice arrows6L2A ((arrows6L2).length) arrows6L2C), (7, .int .i64 x7), (8, .int .i64 y8L2)] ∧ St w w' [.own 2 1 arrows6L2A ((arrows6L2).length) arrows6L2C arrows6L2, .blk b15 #[.int .i64 0, .slice none 0 0] 53, .rd 1 gp1A gp1.length gp1C gp1, .blk b9 #[.int .i64 gp0, .slice gp1A gp1.length gp1C] 53, .rd 1 fp1A fp1.length fp1C fp1, .blk b3 #[.int .i64 fp0, .slice fp1A fp1.length fp1C] 53]) (r := (Int.toNat (gp0 - 0) + 1)) ?_ ?_
                · exact ⟨arrows6, 0, arrows6A, arrows6C, rfl, Nat.lt_succ_self _, (by first | omega | (simp only [List.length_append, List.length_cons, List.length_nil, sI_len, cond_true, cond_false]; omega) | (simp only [List.length_append, List.length_cons, List.length_nil, sI_len, cond_eq_ite, apply_ite List.length]; split <;> simp only [List.length_append, List.length_cons, List.length_nil, sI_len] <;> omega) | grind), (by first | omega | (simp only [List.length_append, List.length_cons, List.length_nil, sI_len, cond_true, cond_false]; omega) | (simp only [List.length_append, List.length_cons, List.length_nil, sI_len, cond_eq_ite, apply_ite List.length]; split <;> simp only [List.length_append, List.length_cons, List.length_nil, sI_len] <;> omega) | grind), (by first | omega | (simp only [List.length_append, List.length_cons, List.length_nil, sI_len, cond_true, cond_false]; omega) | (simp only [List.length_append, List.length_cons, List.length_nil, sI_len, cond_eq_ite, apply_ite List.length]; split <;> simp only [List.length_append, List.length_cons, List.length_nil, sI_len] <;> omega) | grind), (hE164.sub (L' := [(2, .pointer (some ⟨b3, 0, none⟩)), (3, .pointer (some ⟨b9, 0, none⟩)), (4, .pointer (some ⟨b15, 0, none⟩)), (6, .slice arrows6A ((arrows6).length) arrows6C), (7, .int .i64 x7), (8, .int .i64 0)]) ⟨rfl, rfl, rfl, rfl, rfl, rfl, trivial⟩), (St.pick (Γ' := [.own 2 1 arrows6A ((arrows6).length) arrows6C arrows6, .blk b15 #[.int .i64 0, .slice none 0 0] 53, .rd 1 gp1A gp1.length gp1C gp1, .blk b9 #[.int .i64 gp0, .slice gp1A gp1.length gp1C] 53, .rd 1 fp1A fp1.length fp1C fp1, .blk b3 #[.int .i64 fp0, .slice fp1A fp1.length fp1C] 53]) hS143 [0, 1, 2, 3, 4, 5] (by decide) rfl)⟩
                ·
                  clear hE164 hS143
                  rintro r175 a166 w167 ⟨arrows6L2, y8L2, arrows6L2A, arrows6L2C, hT170, hr171, hi172, hi173, hi174, hE168, hS169⟩
                  obtain ⟨r175, rfl⟩ : ∃ r', r175 = r' + 1 := ⟨r175 - 1, by omega⟩
                  refine c_seq ?_
                  refine c_seq ?_
                  refine c_reg ?_
                  refine q_step (v := .int .i64 y8L2) hE168 (y_move rfl) rfl rfl rfl ?_; intro a176 hE177; clear hE168
                  refine q_step (v := .pointer (some ⟨b9, 0, none⟩)) hE177 (y_field rfl (fun _ => by kernel_rfl)) rfl rfl rfl ?_; intro a178 hE179; clear hE177
                  refine q_step (v := .int .i64 gp0) hE179 (y_load (fun _ => by kernel_rfl) rfl (St.cell (i := 3) hS169 rfl rfl)) rfl rfl rfl ?_; intro a180 hE181; clear hE179
                  refine q_step (v := .bool (decide (y8L2 < gp0))) hE181 (y_lss rfl rfl) rfl rfl rfl ?_; intro a182 hE183; clear hE181
                  refine c_nil ?_
                  have hE184 := hE183.sub (L' := [(2, .pointer (some ⟨b3, 0, none⟩)), (3, .pointer (some ⟨b9, 0, none⟩)), (4, .pointer (some ⟨b15, 0, none⟩)), (6, .slice arrows6L2A ((arrows6L2).length) arrows6L2C), (7, .int .i64 x7), (8, .int .i64 y8L2), (39, .bool (decide (y8L2 < gp0)))]) ⟨rfl, rfl, rfl, rfl, rfl, rfl, rfl, trivial⟩; clear hE183
                  refine p_tn ?_
                  refine c_cond hE184 rfl (fun ht185 => ?_) (fun ht185 => ?_)
                  ·
                    have hp186 := of_decide_eq_true ht185
                    have hE187 := hE184; rw [ht185] at hE187; clear hE184
                    refine wp_skip ?_
                    refine p_tn ?_
                    refine c_seq ?_
                    refine wp_block ?_
                    refine c_seq ?_
                    refine c_reg ?_
                    refine q_step (v := .int .i64 0) hE187 (y_assign rfl) rfl rfl rfl ?_; intro a188 hE189; clear hE187
                    refine c_nil ?_
                    have hE190 := hE189.sub (L' := [(2, .pointer (some ⟨b3, 0, none⟩)), (3, .pointer (some ⟨b9, 0, none⟩)), (4, .pointer (some ⟨b15, 0, none⟩)), (6, .slice arrows6L2A ((arrows6L2).length) arrows6L2C), (7, .int .i64 x7), (8, .int .i64 y8L2), (9, .int .i64 0)]) ⟨rfl, rfl, rfl, rfl, rfl, rfl, rfl, trivial⟩; clear hE189
                    refine p_tn ?_
                    refine c_seq ?_
                    refine c_seq ?_
                    refine c_reg ?_
                    refine q_step (v := .int .i64 0) hE190 (y_assign rfl) rfl rfl rfl ?_; intro a191 hE192; clear hE190
                    refine c_nil ?_
                    have hE193 := hE192.sub (L' := [(2, .pointer (some ⟨b3, 0, none⟩)), (3, .pointer (some ⟨b9, 0, none⟩)), (4, .pointer (some ⟨b15, 0, none⟩)), (6, .slice arrows6L2A ((arrows6L2).length) arrows6L2C), (7, .int .i64 x7), (8, .int .i64 y8L2), (9, .int .i64 0), (10, .int .i64 0)]) ⟨rfl, rfl, rfl, rfl, rfl, rfl, rfl, rfl, trivial⟩; clear hE192
                    refine p_tn ?_
                    refine c_cut1 (fun a' w' => (0 ≤ ((F_s_ProductFrames_L3 fp0 fp1 gp0 gp1 x7 y8L2 (Int.toNat (fp0 - 0) + 1) 0 0).2)) ∧ E a' 74 [(2, .pointer (some ⟨b3, 0, none⟩)), (3, .pointer (some ⟨b9, 0, none⟩)), (4, .pointer (some ⟨b15, 0, none⟩)), (6, .slice arrows6L2A ((arrows6L2).length) arrows6L2C), (7, .int .i64 x7), (8, .int .i64 y8L2), (9, .int .i64 ((F_s_ProductFrames_L3 fp0 fp1 gp0 gp1 x7 y8L2 (Int.toNat (fp0 - 0) + 1) 0 0).1)), (10, .int .i64 ((F_s_ProductFrames_L3 fp0 fp1 gp0 gp1 x7 y8L2 (Int.toNat (fp0 - 0) + 1) 0 0).2))] ∧ St w w' [.own 2 1 arrows6L2A ((arrows6L2).length) arrows6L2C arrows6L2, .blk b15 #[.int .i64 0, .slice none 0 0] 53, .rd 1 gp1A gp1.length gp1C gp1, .blk b9 #[.int .i64 gp0, .slice gp1A gp1.length gp1C] 53, .rd 1 fp1A fp1.length fp1C fp1, .blk b3 #[.int .i64 fp0, .slice fp1A fp1.length fp1C] 53]) ?_ ?_
                    ·
                      refine wp_block ?_
                      refine c_loop (fun r a' w' => ∃ mask9L3 : Int, ∃ z10L3 : Int, F_s_ProductFrames_L3 fp0 fp1 gp0 gp1 x7 y8L2 r mask9L3 z10L3 = F_s_ProductFrames_L3 fp0 fp1 gp0 gp1 x7 y8L2 (Int.toNat (fp0 - 0) + 1) 0 0 ∧ Int.toNat (fp0 - z10L3) < r ∧ (0 ≤ z10L3) ∧ E a' 74 [(2, .pointer (some ⟨b3, 0, none⟩)), (3, .pointer (some ⟨b9, 0, none⟩)), (4, .pointer (some ⟨b15, 0, none⟩)), (6, .slice arrows6L2A ((arrows6L2).length) arrows6L2C), (7, .int .i64 x7), (8, .int .i64 y8L2), (9, .int .i64 mask9L3), (10, .int .i64 z10L3)] ∧ St w w' [.own 2 1 arrows6L2A ((arrows6L2).length) arrows6L2C arrows6L2, .blk b15 #[.int .i64 0, .slice none 0 0] 53, .rd 1 gp1A gp1.length gp1C gp1, .blk b9 #[.int .i64 gp0, .slice gp1A gp1.length gp1C] 53, .rd 1 fp1A fp1.length fp1C fp1, .blk b3 #[.int .i64 fp0, .slice fp1A fp1.length fp1C] 53]) (r := (Int.toNat (fp0 - 0) + 1)) ?_ ?_
                      · exact ⟨0, 0, rfl, Nat.lt_succ_self _, (by first | omega | (simp only [List.length_append, List.length_cons, List.length_nil, sI_len, cond_true, cond_false]; omega) | (simp only [List.length_append, List.length_cons, List.length_nil, sI_len, cond_eq_ite, apply_ite List.length]; split <;> simp only [List.length_append, List.length_cons, List.length_nil, sI_len] <;> omega) | grind), (hE193.sub (L' := [(2, .pointer (some ⟨b3, 0, none⟩)), (3, .pointer (some ⟨b9, 0, none⟩)), (4, .pointer (some ⟨b15, 0, none⟩)), (6, .slice arrows6L2A ((arrows6L2).length) arrows6L2C), (7, .int .i64 x7), (8, .int .i64 y8L2), (9, .int .i64 0), (10, .int .i64 0)]) ⟨rfl, rfl, rfl, rfl, rfl, rfl, rfl, rfl, trivial⟩), (St.pick (Γ' := [.own 2 1 arrows6L2A ((arrows6L2).length) arrows6L2C arrows6L2, .blk b15 #[.int .i64 0, .slice none 0 0] 53, .rd 1 gp1A gp1.length gp1C gp1, .blk b9 #[.int .i64 gp0, .slice gp1A gp1.length gp1C] 53, .rd 1 fp1A fp1.length fp1C fp1, .blk b3 #[.int .i64 fp0, .slice fp1A fp1.length fp1C] 53]) hS169 [0, 1, 2, 3, 4, 5] (by decide) rfl)⟩
                      ·
                        clear hE193 hS169
                        rintro r202 a195 w196 ⟨mask9L3, z10L3, hT199, hr200, hi201, hE197, hS198⟩
                        obtain ⟨r202, rfl⟩ : ∃ r', r202 = r' + 1 := ⟨r202 - 1, by omega⟩
                        refine c_seq ?_
                        refine c_seq ?_
                        refine c_reg ?_
                        refine q_step (v := .int .i64 z10L3) hE197 (y_move rfl) rfl rfl rfl ?_; intro a203 hE204; clear hE197
                        refine q_step (v := .pointer (some ⟨b3, 0, none⟩)) hE204 (y_field rfl (fun _ => by kernel_rfl)) rfl rfl rfl ?_; intro a205 hE206; clear hE204
                        refine q_step (v := .int .i64 fp0) hE206 (y_load (fun _ => by kernel_rfl) rfl (St.cell (i := 5) hS198 rfl rfl)) rfl rfl rfl ?_; intro a207 hE208; clear hE206
                        refine q_step (v := .bool (decide (z10L3 < fp0))) hE208 (y_lss rfl rfl) rfl rfl rfl ?_; intro a209 hE210; clear hE208
                        refine c_nil ?_
                        have hE211 := hE210.sub (L' := [(2, .pointer (some ⟨b3, 0, none⟩)), (3, .pointer (some ⟨b9, 0, none⟩)), (4, .pointer (some ⟨b15, 0, none⟩)), (6, .slice arrows6L2A ((arrows6L2).length) arrows6L2C), (7, .int .i64 x7), (8, .int .i64 y8L2), (9, .int .i64 mask9L3), (10, .int .i64 z10L3), (45, .bool (decide (z10L3 < fp0)))]) ⟨rfl, rfl, rfl, rfl, rfl, rfl, rfl, rfl, rfl, trivial⟩; clear hE210
                        refine p_tn ?_
                        refine c_cond hE211 rfl (fun ht212 => ?_) (fun ht212 => ?_)
                        ·
                          have hp213 := of_decide_eq_true ht212
                          have hE214 := hE211; rw [ht212] at hE214; clear hE211
                          have hz := mul_bd (a := z10L3) (b := gp0) (by omega) (by omega) (by omega) (by omega)
                          refine wp_skip ?_
                          refine p_tn ?_
                          refine c_cut (fun a' w' => E a' 74 [(2, .pointer (some ⟨b3, 0, none⟩)), (3, .pointer (some ⟨b9, 0, none⟩)), (4, .pointer (some ⟨b15, 0, none⟩)), (6, .slice arrows6L2A ((arrows6L2).length) arrows6L2C), (7, .int .i64 x7), (8, .int .i64 y8L2), (9, .int .i64 (bif (F_l01Bit (gI fp1 x7) z10L3) then orI mask9L3 (shlI (gI gp1 y8L2) (z10L3 * gp0)) else mask9L3)), (10, .int .i64 z10L3)] ∧ St w w' [.own 2 1 arrows6L2A ((arrows6L2).length) arrows6L2C arrows6L2, .blk b15 #[.int .i64 0, .slice none 0 0] 53, .rd 1 gp1A gp1.length gp1C gp1, .blk b9 #[.int .i64 gp0, .slice gp1A gp1.length gp1C] 53, .rd 1 fp1A fp1.length fp1C fp1, .blk b3 #[.int .i64 fp0, .slice fp1A fp1.length fp1C] 53]) ?_ ?_
                          ·
                            refine wp_block ?_
                            refine c_seq ?_
                            refine c_reg ?_
                            refine q_step (v := .pointer (some ⟨b3, 1, none⟩)) hE214 (y_field rfl (fun _ => by kernel_rfl)) rfl rfl rfl ?_; intro a215 hE216; clear hE214
                            refine q_step (v := .slice fp1A fp1.length fp1C) hE216 (y_load (fun _ => by kernel_rfl) rfl (St.cell (i := 5) hS198 rfl rfl)) rfl rfl rfl ?_; intro a217 hE218; clear hE216
                            refine q_step (v := .int .i64 x7) hE218 (y_move rfl) rfl rfl rfl ?_; intro a219 hE220; clear hE218
                            refine q_step (v := .pointer (some (adr fp1A (Int.toNat x7)))) hE220 (y_idx (by kernel_rfl) (fun _ => by kernel_rfl) rfl rfl (RdS.isS (m := x7) (St.rdR (i := 4) hS198 rfl) (by first | omega | (have hmul := mul_bd (a := fp0) (b := gp0) (by omega) (by omega) (by omega) (by omega); omega)) (by first | omega | (have hmul := mul_bd (a := fp0) (b := gp0) (by omega) (by omega) (by omega) (by omega); omega))) (by first | omega | (have hmul := mul_bd (a := fp0) (b := gp0) (by omega) (by omega) (by omega) (by omega); omega)) (by first | omega | (have hmul := mul_bd (a := fp0) (b := gp0) (by omega) (by omega) (by omega) (by omega); omega)) (Nat.mul_one _).symm) rfl rfl rfl ?_; intro a221 hE222; clear hE220
                            refine q_step (v := .int .i64 (gI fp1 x7)) hE222 (y_load (fun _ => by kernel_rfl) rfl (RdS.elt (St.rdR (i := 4) hS198 rfl) (by first | omega | (have hmul := mul_bd (a := fp0) (b := gp0) (by omega) (by omega) (by omega) (by omega); omega)) (by first | omega | (have hmul := mul_bd (a := fp0) (b := gp0) (by omega) (by omega) (by omega) (by omega); omega)))) rfl rfl rfl ?_; intro a223 hE224; clear hE222
                            refine q_step (v := .int .i64 z10L3) hE224 (y_move rfl) rfl rfl rfl ?_; intro a225 hE226; clear hE224
                            refine l_step hE226 rfl (l_call (f := 86) (argv := [.int .i64 (gI fp1 x7), .int .i64 z10L3]) hE226 (fun _ => cf_l01Bit _ _) rfl rfl (c_l01Bit (gI fp1 x7) z10L3 w196 (by first | omega | (have hmul := mul_bd (a := fp0) (b := gp0) (by omega) (by omega) (by omega) (by omega); omega)) (by first | omega | (have hmul := mul_bd (a := fp0) (b := gp0) (by omega) (by omega) (by omega) (by omega); omega))) ?_)
                            rintro _ _ ⟨rfl, rfl⟩ a229 hE230; clear hE226
                            refine c_nil ?_
                            have hE233 := hE230.sub (L' := [(2, .pointer (some ⟨b3, 0, none⟩)), (3, .pointer (some ⟨b9, 0, none⟩)), (4, .pointer (some ⟨b15, 0, none⟩)), (6, .slice arrows6L2A ((arrows6L2).length) arrows6L2C), (7, .int .i64 x7), (8, .int .i64 y8L2), (9, .int .i64 mask9L3), (10, .int .i64 z10L3), (54, .bool (F_l01Bit (gI fp1 x7) z10L3))]) ⟨rfl, rfl, rfl, rfl, rfl, rfl, rfl, rfl, rfl, trivial⟩; clear hE230
                            refine p_tn ?_
                            refine c_cond hE233 rfl (fun ht234 => ?_) (fun ht234 => ?_)
                            ·
                              have hE235 := hE233; rw [ht234] at hE235; clear hE233
                              refine d_start (fun w' => w'.cell? ⟨b9, 1, none⟩ = some (.slice gp1A gp1.length gp1C) ∧ w'.cell? (adr gp1A (Int.toNat y8L2)) = some (.int .i64 (gI gp1 y8L2)) ∧ w'.cell? ⟨b9, 0, none⟩ = some (.int .i64 gp0) ∧ True) [2, 5, 8] 14 (by kernel_rfl) rfl ?_
                              intro w236 he237; have hS238 := St.go hS198 he237; clear hS198
                              refine d_pure (v := .int .i64 mask9L3) 0 rfl hE235 (y_move rfl) rfl (by kernel_rfl) (by kernel_rfl) (by kernel_rfl) rfl rfl (fun _ _ _ h => h) ?_; intro a239 hE240; clear hE235
                              refine d_pure (v := .pointer (some ⟨b9, 1, none⟩)) 1 rfl hE240 (y_field rfl (fun _ => by kernel_rfl)) rfl (by kernel_rfl) (by kernel_rfl) (by kernel_rfl) rfl rfl (fun _ _ _ h => h) ?_; intro a241 hE242; clear hE240
                              refine d_take (v := .slice gp1A gp1.length gp1C) 2 rfl hE242 ⟨(St.cell (i := 3) hS238 rfl rfl _ (Ext.refl _)), (RdS.elt (St.rdR (i := 2) hS238 rfl) (by first | omega | (have hmul := mul_bd (a := fp0) (b := gp0) (by omega) (by omega) (by omega) (by omega); omega)) (by first | omega | (have hmul := mul_bd (a := fp0) (b := gp0) (by omega) (by omega) (by omega) (by omega); omega)) _ (Ext.refl _)), (St.cell (i := 3) hS238 rfl rfl _ (Ext.refl _)), trivial⟩ (y_load (fun _ => by kernel_rfl) rfl (fun _ h => h.1)) rfl rfl (by kernel_rfl) (by kernel_rfl) (by kernel_rfl) rfl rfl (fun _ _ _ h => h) ?_; intro a243 hE244; clear hE242
                              refine d_pure (v := .int .i64 y8L2) 3 rfl hE244 (y_move rfl) rfl (by kernel_rfl) (by kernel_rfl) (by kernel_rfl) rfl rfl (fun _ _ _ h => h) ?_; intro a245 hE246; clear hE244
                              refine d_pure (v := .pointer (some (adr gp1A (Int.toNat y8L2)))) 4 rfl hE246 (y_idx (by kernel_rfl) (fun _ => by kernel_rfl) rfl rfl (RdS.isS (m := y8L2) (St.rdR (i := 2) hS238 rfl) (by first | omega | (have hmul := mul_bd (a := fp0) (b := gp0) (by omega) (by omega) (by omega) (by omega); omega)) (by first | omega | (have hmul := mul_bd (a := fp0) (b := gp0) (by omega) (by omega) (by omega) (by omega); omega))) (by first | omega | (have hmul := mul_bd (a := fp0) (b := gp0) (by omega) (by omega) (by omega) (by omega); omega)) (by first | omega | (have hmul := mul_bd (a := fp0) (b := gp0) (by omega) (by omega) (by omega) (by omega); omega)) (Nat.mul_one _).symm) rfl (by kernel_rfl) (by kernel_rfl) (by kernel_rfl) rfl rfl (fun _ _ _ h => h) ?_; intro a247 hE248; clear hE246
                              refine d_take (v := .int .i64 (gI gp1 y8L2)) 5 rfl hE248 ⟨(St.cell (i := 3) hS238 rfl rfl _ (Ext.refl _)), (RdS.elt (St.rdR (i := 2) hS238 rfl) (by first | omega | (have hmul := mul_bd (a := fp0) (b := gp0) (by omega) (by omega) (by omega) (by omega); omega)) (by first | omega | (have hmul := mul_bd (a := fp0) (b := gp0) (by omega) (by omega) (by omega) (by omega); omega)) _ (Ext.refl _)), (St.cell (i := 3) hS238 rfl rfl _ (Ext.refl _)), trivial⟩ (y_load (fun _ => by kernel_rfl) rfl (fun _ h => h.2.1)) rfl rfl (by kernel_rfl) (by kernel_rfl) (by kernel_rfl) rfl rfl (fun _ _ _ h => h) ?_; intro a249 hE250; clear hE248
                              refine d_pure (v := .int .i64 z10L3) 6 rfl hE250 (y_move rfl) rfl (by kernel_rfl) (by kernel_rfl) (by kernel_rfl) rfl rfl (fun _ _ _ h => h) ?_; intro a251 hE252; clear hE250
                              refine d_pure (v := .pointer (some ⟨b9, 0, none⟩)) 7 rfl hE252 (y_field rfl (fun _ => by kernel_rfl)) rfl (by kernel_rfl) (by kernel_rfl) (by kernel_rfl) rfl rfl (fun _ _ _ h => h) ?_; intro a253 hE254; clear hE252
                              refine d_take (v := .int .i64 gp0) 8 rfl hE254 ⟨(St.cell (i := 3) hS238 rfl rfl _ (Ext.refl _)), (RdS.elt (St.rdR (i := 2) hS238 rfl) (by first | omega | (have hmul := mul_bd (a := fp0) (b := gp0) (by omega) (by omega) (by omega) (by omega); omega)) (by first | omega | (have hmul := mul_bd (a := fp0) (b := gp0) (by omega) (by omega) (by omega) (by omega); omega)) _ (Ext.refl _)), (St.cell (i := 3) hS238 rfl rfl _ (Ext.refl _)), trivial⟩ (y_load (fun _ => by kernel_rfl) rfl (fun _ h => h.2.2.1)) rfl rfl (by kernel_rfl) (by kernel_rfl) (by kernel_rfl) rfl rfl (fun _ _ _ h => h) ?_; intro a255 hE256; clear hE254
                              refine d_pure (v := .int .i64 (z10L3 * gp0)) 9 rfl hE256 (y_mul rfl rfl ⟨(by first | omega | (have hmul := mul_bd (a := fp0) (b := gp0) (by omega) (by omega) (by omega) (by omega); omega)), (by first | omega | (have hmul := mul_bd (a := fp0) (b := gp0) (by omega) (by omega) (by omega) (by omega); omega))⟩) rfl (by kernel_rfl) (by kernel_rfl) (by kernel_rfl) rfl rfl (fun _ _ _ h => h) ?_; intro a257 hE258; clear hE256
                              refine d_pure (v := .int .u64 (z10L3 * gp0)) 10 rfl hE258 (y_conv (ds := .int .i64) (by kernel_rfl) (by kernel_rfl) rfl (wU64 (by first | omega | (have hmul := mul_bd (a := fp0) (b := gp0) (by omega) (by omega) (by omega) (by omega); omega)) (by first | omega | (have hmul := mul_bd (a := fp0) (b := gp0) (by omega) (by omega) (by omega) (by omega); omega)))) rfl (by kernel_rfl) (by kernel_rfl) (by kernel_rfl) rfl rfl (fun _ _ _ h => h) ?_; intro a259 hE260; clear hE258
                              refine d_pure (v := .int .i64 (shlI (gI gp1 y8L2) (z10L3 * gp0))) 11 rfl hE260 (y_shl rfl rfl (by first | omega | (have hmul := mul_bd (a := fp0) (b := gp0) (by omega) (by omega) (by omega) (by omega); omega))) rfl (by kernel_rfl) (by kernel_rfl) (by kernel_rfl) rfl rfl (fun _ _ _ h => h) ?_; intro a261 hE262; clear hE260
                              refine d_pure (v := .int .i64 (orI mask9L3 (shlI (gI gp1 y8L2) (z10L3 * gp0)))) 12 rfl hE262 (y_or rfl rfl) rfl (by kernel_rfl) (by kernel_rfl) (by kernel_rfl) rfl rfl (fun _ _ _ h => h) ?_; intro a263 hE264; clear hE262
                              refine d_pure (v := .int .i64 (orI mask9L3 (shlI (gI gp1 y8L2) (z10L3 * gp0)))) 13 rfl hE264 (y_assign rfl) rfl (by kernel_rfl) (by kernel_rfl) (by kernel_rfl) rfl rfl (fun _ _ _ h => h) ?_; intro a265 hE266; clear hE264
                              refine d_done (by kernel_rfl) ?_
                              have hE267 := hE266.sub (L' := [(2, .pointer (some ⟨b3, 0, none⟩)), (3, .pointer (some ⟨b9, 0, none⟩)), (4, .pointer (some ⟨b15, 0, none⟩)), (6, .slice arrows6L2A ((arrows6L2).length) arrows6L2C), (7, .int .i64 x7), (8, .int .i64 y8L2), (9, .int .i64 (orI mask9L3 (shlI (gI gp1 y8L2) (z10L3 * gp0)))), (10, .int .i64 z10L3)]) ⟨rfl, rfl, rfl, rfl, rfl, rfl, rfl, rfl, trivial⟩; clear hE266
                              refine p_bn ?_
                              refine p_tn ?_
                              have hE268 := hE267.sub (L' := [(2, .pointer (some ⟨b3, 0, none⟩)), (3, .pointer (some ⟨b9, 0, none⟩)), (4, .pointer (some ⟨b15, 0, none⟩)), (6, .slice arrows6L2A ((arrows6L2).length) arrows6L2C), (7, .int .i64 x7), (8, .int .i64 y8L2), (9, .int .i64 (orI mask9L3 (shlI (gI gp1 y8L2) (z10L3 * gp0)))), (10, .int .i64 z10L3)]) ⟨rfl, rfl, rfl, rfl, rfl, rfl, rfl, rfl, trivial⟩
                              have hS269 := (St.pick (Γ' := [.own 2 1 arrows6L2A ((arrows6L2).length) arrows6L2C arrows6L2, .blk b15 #[.int .i64 0, .slice none 0 0] 53, .rd 1 gp1A gp1.length gp1C gp1, .blk b9 #[.int .i64 gp0, .slice gp1A gp1.length gp1C] 53, .rd 1 fp1A fp1.length fp1C fp1, .blk b3 #[.int .i64 fp0, .slice fp1A fp1.length fp1C] 53]) hS238 [0, 1, 2, 3, 4, 5] (by decide) rfl)
                              exact ⟨(by rw [ht234]; exact hE268), hS269⟩
                            ·
                              have hE270 := hE233; rw [ht234] at hE270; clear hE233
                              refine wp_skip ?_
                              refine p_bn ?_
                              refine p_tn ?_
                              have hE271 := hE270.sub (L' := [(2, .pointer (some ⟨b3, 0, none⟩)), (3, .pointer (some ⟨b9, 0, none⟩)), (4, .pointer (some ⟨b15, 0, none⟩)), (6, .slice arrows6L2A ((arrows6L2).length) arrows6L2C), (7, .int .i64 x7), (8, .int .i64 y8L2), (9, .int .i64 mask9L3), (10, .int .i64 z10L3)]) ⟨rfl, rfl, rfl, rfl, rfl, rfl, rfl, rfl, trivial⟩
                              have hS272 := (St.pick (Γ' := [.own 2 1 arrows6L2A ((arrows6L2).length) arrows6L2C arrows6L2, .blk b15 #[.int .i64 0, .slice none 0 0] 53, .rd 1 gp1A gp1.length gp1C gp1, .blk b9 #[.int .i64 gp0, .slice gp1A gp1.length gp1C] 53, .rd 1 fp1A fp1.length fp1C fp1, .blk b3 #[.int .i64 fp0, .slice fp1A fp1.length fp1C] 53]) hS198 [0, 1, 2, 3, 4, 5] (by decide) rfl)
                              exact ⟨(by rw [ht234]; exact hE271), hS272⟩
                          ·
                            rintro a273 w274 ⟨hE275, hS276⟩; clear hE214 hS198
                            refine c_reg ?_
                            refine q_step (v := .int .i64 z10L3) hE275 (y_move rfl) rfl rfl rfl ?_; intro a277 hE278; clear hE275
                            refine q_step (v := .int .i64 (z10L3 + 1)) hE278 (y_add rfl rfl ⟨(by first | omega | (have hmul := mul_bd (a := fp0) (b := gp0) (by omega) (by omega) (by omega) (by omega); omega)), (by first | omega | (have hmul := mul_bd (a := fp0) (b := gp0) (by omega) (by omega) (by omega) (by omega); omega))⟩) rfl rfl rfl ?_; intro a279 hE280; clear hE278
                            refine q_step (v := .int .i64 (z10L3 + 1)) hE280 (y_assign rfl) rfl rfl rfl ?_; intro a281 hE282; clear hE280
                            refine c_nil ?_
                            have hE283 := hE282.sub (L' := [(2, .pointer (some ⟨b3, 0, none⟩)), (3, .pointer (some ⟨b9, 0, none⟩)), (4, .pointer (some ⟨b15, 0, none⟩)), (6, .slice arrows6L2A ((arrows6L2).length) arrows6L2C), (7, .int .i64 x7), (8, .int .i64 y8L2), (9, .int .i64 (bif (F_l01Bit (gI fp1 x7) z10L3) then orI mask9L3 (shlI (gI gp1 y8L2) (z10L3 * gp0)) else mask9L3)), (10, .int .i64 (z10L3 + 1))]) ⟨rfl, rfl, rfl, rfl, rfl, rfl, rfl, rfl, trivial⟩; clear hE282
                            refine p_tn ⟨r202, Nat.lt_succ_self _, bif (F_l01Bit (gI fp1 x7) z10L3) then orI mask9L3 (shlI (gI gp1 y8L2) (z10L3 * gp0)) else mask9L3, z10L3 + 1, (hT199.symm.trans (show F_s_ProductFrames_L3b fp0 fp1 gp0 gp1 x7 y8L2 (F_s_ProductFrames_L3 fp0 fp1 gp0 gp1 x7 y8L2 r202) mask9L3 z10L3 = F_s_ProductFrames_L3 fp0 fp1 gp0 gp1 x7 y8L2 r202 (bif (F_l01Bit (gI fp1 x7) z10L3) then orI mask9L3 (shlI (gI gp1 y8L2) (z10L3 * gp0)) else mask9L3) (z10L3 + 1) by unfold F_s_ProductFrames_L3b; rw [ht212]; first | done | rfl)).symm, (by omega), (by first | omega | (simp only [List.length_append, List.length_cons, List.length_nil, sI_len, cond_true, cond_false]; omega) | (simp only [List.length_append, List.length_cons, List.length_nil, sI_len, cond_eq_ite, apply_ite List.length]; split <;> simp only [List.length_append, List.length_cons, List.length_nil, sI_len] <;> omega) | grind), (hE283.sub (L' := [(2, .pointer (some ⟨b3, 0, none⟩)), (3, .pointer (some ⟨b9, 0, none⟩)), (4, .pointer (some ⟨b15, 0, none⟩)), (6, .slice arrows6L2A ((arrows6L2).length) arrows6L2C), (7, .int .i64 x7), (8, .int .i64 y8L2), (9, .int .i64 (bif (F_l01Bit (gI fp1 x7) z10L3) then orI mask9L3 (shlI (gI gp1 y8L2) (z10L3 * gp0)) else mask9L3)), (10, .int .i64 (z10L3 + 1))]) ⟨rfl, rfl, rfl, rfl, rfl, rfl, rfl, rfl, trivial⟩), (St.pick (Γ' := [.own 2 1 arrows6L2A ((arrows6L2).length) arrows6L2C arrows6L2, .blk b15 #[.int .i64 0, .slice none 0 0] 53, .rd 1 gp1A gp1.length gp1C gp1, .blk b9 #[.int .i64 gp0, .slice gp1A gp1.length gp1C] 53, .rd 1 fp1A fp1.length fp1C fp1, .blk b3 #[.int .i64 fp0, .slice fp1A fp1.length fp1C] 53]) hS276 [0, 1, 2, 3, 4, 5] (by decide) rfl)⟩
                        ·
                          have hp284 := of_decide_eq_false ht212
                          have hE285 := hE211; rw [ht212] at hE285; clear hE211
                          refine wp_exit ?_
                          refine p_te ?_
                          have hX286 : F_s_ProductFrames_L3 fp0 fp1 gp0 gp1 x7 y8L2 (Int.toNat (fp0 - 0) + 1) 0 0 = (mask9L3, z10L3) := hT199.symm.trans (show F_s_ProductFrames_L3b fp0 fp1 gp0 gp1 x7 y8L2 (F_s_ProductFrames_L3 fp0 fp1 gp0 gp1 x7 y8L2 r202) mask9L3 z10L3 = (mask9L3, z10L3) by unfold F_s_ProductFrames_L3b; rw [ht212]; first | done | rfl)
                          refine p_te (p_be (p_tn ?_))
                          exact ⟨(by rw [hX286]; exact (show 0 ≤ z10L3 from (by first | omega | (simp only [List.length_append, List.length_cons, List.length_nil, sI_len, cond_true, cond_false]; omega) | (simp only [List.length_append, List.length_cons, List.length_nil, sI_len, cond_eq_ite, apply_ite List.length]; split <;> simp only [List.length_append, List.length_cons, List.length_nil, sI_len] <;> omega) | grind))), (by rw [hX286]; exact (hE285.sub (L' := [(2, .pointer (some ⟨b3, 0, none⟩)), (3, .pointer (some ⟨b9, 0, none⟩)), (4, .pointer (some ⟨b15, 0, none⟩)), (6, .slice arrows6L2A ((arrows6L2).length) arrows6L2C), (7, .int .i64 x7), (8, .int .i64 y8L2), (9, .int .i64 mask9L3), (10, .int .i64 z10L3)]) ⟨rfl, rfl, rfl, rfl, rfl, rfl, rfl, rfl, trivial⟩)), (St.pick (Γ' := [.own 2 1 arrows6L2A ((arrows6L2).length) arrows6L2C arrows6L2, .blk b15 #[.int .i64 0, .slice none 0 0] 53, .rd 1 gp1A gp1.length gp1C gp1, .blk b9 #[.int .i64 gp0, .slice gp1A gp1.length gp1C] 53, .rd 1 fp1A fp1.length fp1C fp1, .blk b3 #[.int .i64 fp0, .slice fp1A fp1.length fp1C] 53]) hS198 [0, 1, 2, 3, 4, 5] (by decide) rfl)⟩
                    ·
                      rintro a287 w288 ⟨hi292, hE289, hS290⟩; clear hE193 hS169
                      refine p_tn ?_
                      refine c_reg ?_
                      refine q_step (v := .slice arrows6L2A ((arrows6L2).length) arrows6L2C) hE289 (y_move rfl) rfl rfl rfl ?_; intro a293 hE294; clear hE289
                      refine q_step (v := .int .i64 ((F_s_ProductFrames_L3 fp0 fp1 gp0 gp1 x7 y8L2 (Int.toNat (fp0 - 0) + 1) 0 0).1)) hE294 (y_move rfl) rfl rfl rfl ?_; intro a295 hE296; clear hE294
                      refine l_step hE296 rfl (l_lit (e := 2) (s := 1) (xs := [(F_s_ProductFrames_L3 fp0 fp1 gp0 gp1 x7 y8L2 (Int.toNat (fp0 - 0) + 1) 0 0).1]) (vs := [.int .i64 ((F_s_ProductFrames_L3 fp0 fp1 gp0 gp1 x7 y8L2 (Int.toNat (fp0 - 0) + 1) 0 0).1)]) hS290 hE296 rfl (fun _ => by kernel_rfl) rfl rfl rfl ?_)
                      intro b297 w298 hS301 he302 a299 hE300; clear hS290 hE296
                      obtain ⟨_, hi1, hi2, hi3, hi4⟩ := info_parts (show (Try.prog.info? 2).map (fun i => (i.zero, i.size, i.bytes)) = some (some (.int .i64 0), 1, 8) by kernel_rfl)
                      refine l_step hE300 rfl (l_append (k := 1) (n' := (arrows6L2 ++ ([(F_s_ProductFrames_L3 fp0 fp1 gp0 gp1 x7 y8L2 (Int.toNat (fp0 - 0) + 1) 0 0).1])).length) hS301 hE300 (by kernel_rfl) hi1 hi2 hi3 rfl (by decide) (by rw [hi4]; decide) rfl rfl rfl (St.rdO (i := 0) hS301 rfl) (by first | omega | (simp only [List.length_append, List.length_cons, List.length_nil]; omega)) (by have h1 := (St.rdO (i := 1) hS301 rfl).len1; have h2 := (St.rdO (i := 0) hS301 rfl).len1; rw [List.length_append, h1, h2]) rfl ?_)
                      intro b303 c309 w304 hS307 a305 hE306; clear hS301 hE300 hi1 hi2 hi3 hi4
                      refine q_step (v := .slice b303 ((arrows6L2 ++ ([(F_s_ProductFrames_L3 fp0 fp1 gp0 gp1 x7 y8L2 (Int.toNat (fp0 - 0) + 1) 0 0).1])).length) c309) hE306 (y_assign rfl) rfl rfl rfl ?_; intro a310 hE311; clear hE306
                      refine c_nil ?_
                      have hE312 := hE311.sub (L' := [(2, .pointer (some ⟨b3, 0, none⟩)), (3, .pointer (some ⟨b9, 0, none⟩)), (4, .pointer (some ⟨b15, 0, none⟩)), (6, .slice b303 ((arrows6L2 ++ ([(F_s_ProductFrames_L3 fp0 fp1 gp0 gp1 x7 y8L2 (Int.toNat (fp0 - 0) + 1) 0 0).1])).length) c309), (7, .int .i64 x7), (8, .int .i64 y8L2)]) ⟨rfl, rfl, rfl, rfl, rfl, rfl, trivial⟩; clear hE311
                      refine p_bn ?_
                      refine p_tn ?_
                      refine c_reg ?_
                      refine q_step (v := .int .i64 y8L2) hE312 (y_move rfl) rfl rfl rfl ?_; intro a313 hE314; clear hE312
                      refine q_step (v := .int .i64 (y8L2 + 1)) hE314 (y_add rfl rfl ⟨(by first | omega | (have hmul := mul_bd (a := fp0) (b := gp0) (by omega) (by omega) (by omega) (by omega); omega)), (by first | omega | (have hmul := mul_bd (a := fp0) (b := gp0) (by omega) (by omega) (by omega) (by omega); omega))⟩) rfl rfl rfl ?_; intro a315 hE316; clear hE314
                      refine q_step (v := .int .i64 (y8L2 + 1)) hE316 (y_assign rfl) rfl rfl rfl ?_; intro a317 hE318; clear hE316
                      refine c_nil ?_
                      have hE319 := hE318.sub (L' := [(2, .pointer (some ⟨b3, 0, none⟩)), (3, .pointer (some ⟨b9, 0, none⟩)), (4, .pointer (some ⟨b15, 0, none⟩)), (6, .slice b303 ((arrows6L2 ++ ([(F_s_ProductFrames_L3 fp0 fp1 gp0 gp1 x7 y8L2 (Int.toNat (fp0 - 0) + 1) 0 0).1])).length) c309), (7, .int .i64 x7), (8, .int .i64 (y8L2 + 1))]) ⟨rfl, rfl, rfl, rfl, rfl, rfl, trivial⟩; clear hE318
                      refine p_tn ⟨r175, Nat.lt_succ_self _, arrows6L2 ++ ([(F_s_ProductFrames_L3 fp0 fp1 gp0 gp1 x7 y8L2 (Int.toNat (fp0 - 0) + 1) 0 0).1]), y8L2 + 1, b303, c309, (hT170.symm.trans (show F_s_ProductFrames_L2b fp0 fp1 gp0 gp1 x7 (F_s_ProductFrames_L2 fp0 fp1 gp0 gp1 x7 r175) arrows6L2 y8L2 = F_s_ProductFrames_L2 fp0 fp1 gp0 gp1 x7 r175 (arrows6L2 ++ ([(F_s_ProductFrames_L3 fp0 fp1 gp0 gp1 x7 y8L2 (Int.toNat (fp0 - 0) + 1) 0 0).1])) (y8L2 + 1) by unfold F_s_ProductFrames_L2b; rw [ht185]; first | done | rfl)).symm, (by omega), (by first | omega | (simp only [List.length_append, List.length_cons, List.length_nil, sI_len, cond_true, cond_false]; omega) | (simp only [List.length_append, List.length_cons, List.length_nil, sI_len, cond_eq_ite, apply_ite List.length]; split <;> simp only [List.length_append, List.length_cons, List.length_nil, sI_len] <;> omega) | grind), (by first | omega | (simp only [List.length_append, List.length_cons, List.length_nil, sI_len, cond_true, cond_false]; omega) | (simp only [List.length_append, List.length_cons, List.length_nil, sI_len, cond_eq_ite, apply_ite List.length]; split <;> simp only [List.length_append, List.length_cons, List.length_nil, sI_len] <;> omega) | grind), (by first | omega | (simp only [List.length_append, List.length_cons, List.length_nil, sI_len, cond_true, cond_false]; omega) | (simp only [List.length_append, List.length_cons, List.length_nil, sI_len, cond_eq_ite, apply_ite List.length]; split <;> simp only [List.length_append, List.length_cons, List.length_nil, sI_len] <;> omega) | grind), (hE319.sub (L' := [(2, .pointer (some ⟨b3, 0, none⟩)), (3, .pointer (some ⟨b9, 0, none⟩)), (4, .pointer (some ⟨b15, 0, none⟩)), (6, .slice b303 ((arrows6L2 ++ ([(F_s_ProductFrames_L3 fp0 fp1 gp0 gp1 x7 y8L2 (Int.toNat (fp0 - 0) + 1) 0 0).1])).length) c309), (7, .int .i64 x7), (8, .int .i64 (y8L2 + 1))]) ⟨rfl, rfl, rfl, rfl, rfl, rfl, trivial⟩), (St.pick (Γ' := [.own 2 1 b303 ((arrows6L2 ++ ([(F_s_ProductFrames_L3 fp0 fp1 gp0 gp1 x7 y8L2 (Int.toNat (fp0 - 0) + 1) 0 0).1])).length) c309 (arrows6L2 ++ ([(F_s_ProductFrames_L3 fp0 fp1 gp0 gp1 x7 y8L2 (Int.toNat (fp0 - 0) + 1) 0 0).1])), .blk b15 #[.int .i64 0, .slice none 0 0] 53, .rd 1 gp1A gp1.length gp1C gp1, .blk b9 #[.int .i64 gp0, .slice gp1A gp1.length gp1C] 53, .rd 1 fp1A fp1.length fp1C fp1, .blk b3 #[.int .i64 fp0, .slice fp1A fp1.length fp1C] 53]) hS307 [1, 2, 3, 4, 5, 6] (by decide) rfl)⟩
                  ·
                    have hp320 := of_decide_eq_false ht185
                    have hE321 := hE184; rw [ht185] at hE321; clear hE184
                    refine wp_exit ?_
                    refine p_te ?_
                    have hX322 : F_s_ProductFrames_L2 fp0 fp1 gp0 gp1 x7 (Int.toNat (gp0 - 0) + 1) arrows6 0 = (arrows6L2, y8L2) := hT170.symm.trans (show F_s_ProductFrames_L2b fp0 fp1 gp0 gp1 x7 (F_s_ProductFrames_L2 fp0 fp1 gp0 gp1 x7 r175) arrows6L2 y8L2 = (arrows6L2, y8L2) by unfold F_s_ProductFrames_L2b; rw [ht185]; first | done | rfl)
                    refine p_te (p_be (p_tn ?_))
                    exact ⟨arrows6L2A, arrows6L2C, (by rw [hX322]; exact (show 0 ≤ y8L2 from (by first | omega | (simp only [List.length_append, List.length_cons, List.length_nil, sI_len, cond_true, cond_false]; omega) | (simp only [List.length_append, List.length_cons, List.length_nil, sI_len, cond_eq_ite, apply_ite List.length]; split <;> simp only [List.length_append, List.length_cons, List.length_nil, sI_len] <;> omega) | grind))), (by rw [hX322]; exact (show y8L2 ≤ gp0 from (by first | omega | (simp only [List.length_append, List.length_cons, List.length_nil, sI_len, cond_true, cond_false]; omega) | (simp only [List.length_append, List.length_cons, List.length_nil, sI_len, cond_eq_ite, apply_ite List.length]; split <;> simp only [List.length_append, List.length_cons, List.length_nil, sI_len] <;> omega) | grind))), (by rw [hX322]; exact (show (arrows6L2.length : Int) ≤ 8 * x7 + y8L2 from (by first | omega | (simp only [List.length_append, List.length_cons, List.length_nil, sI_len, cond_true, cond_false]; omega) | (simp only [List.length_append, List.length_cons, List.length_nil, sI_len, cond_eq_ite, apply_ite List.length]; split <;> simp only [List.length_append, List.length_cons, List.length_nil, sI_len] <;> omega) | grind))), (by rw [hX322]; exact (hE321.sub (L' := [(2, .pointer (some ⟨b3, 0, none⟩)), (3, .pointer (some ⟨b9, 0, none⟩)), (4, .pointer (some ⟨b15, 0, none⟩)), (6, .slice arrows6L2A ((arrows6L2).length) arrows6L2C), (7, .int .i64 x7), (8, .int .i64 y8L2)]) ⟨rfl, rfl, rfl, rfl, rfl, rfl, trivial⟩)), (by rw [hX322]; exact (St.pick (Γ' := [.own 2 1 arrows6L2A ((arrows6L2).length) arrows6L2C arrows6L2, .blk b15 #[.int .i64 0, .slice none 0 0] 53, .rd 1 gp1A gp1.length gp1C gp1, .blk b9 #[.int .i64 gp0, .slice gp1A gp1.length gp1C] 53, .rd 1 fp1A fp1.length fp1C fp1, .blk b3 #[.int .i64 fp0, .slice fp1A fp1.length fp1C] 53]) hS169 [0, 1, 2, 3, 4, 5] (by decide) rfl))⟩
              ·
                rintro a323 w324 ⟨arrows6L2A_165, arrows6L2C_165, hi328, hi329, hi330, hE325, hS326⟩; clear hE164 hS143
                refine p_bn ?_
                refine p_tn ?_
                refine c_reg ?_
                refine q_step (v := .int .i64 x7) hE325 (y_move rfl) rfl rfl rfl ?_; intro a331 hE332; clear hE325
                refine q_step (v := .int .i64 (x7 + 1)) hE332 (y_add rfl rfl ⟨(by first | omega | (have hmul := mul_bd (a := fp0) (b := gp0) (by omega) (by omega) (by omega) (by omega); omega)), (by first | omega | (have hmul := mul_bd (a := fp0) (b := gp0) (by omega) (by omega) (by omega) (by omega); omega))⟩) rfl rfl rfl ?_; intro a333 hE334; clear hE332
                refine q_step (v := .int .i64 (x7 + 1)) hE334 (y_assign rfl) rfl rfl rfl ?_; intro a335 hE336; clear hE334
                refine c_nil ?_
                have hE337 := hE336.sub (L' := [(2, .pointer (some ⟨b3, 0, none⟩)), (3, .pointer (some ⟨b9, 0, none⟩)), (4, .pointer (some ⟨b15, 0, none⟩)), (6, .slice arrows6L2A_165 (((F_s_ProductFrames_L2 fp0 fp1 gp0 gp1 x7 (Int.toNat (gp0 - 0) + 1) arrows6 0).1).length) arrows6L2C_165), (7, .int .i64 (x7 + 1))]) ⟨rfl, rfl, rfl, rfl, rfl, trivial⟩; clear hE336
                refine p_tn ⟨r149, Nat.lt_succ_self _, (F_s_ProductFrames_L2 fp0 fp1 gp0 gp1 x7 (Int.toNat (gp0 - 0) + 1) arrows6 0).1, x7 + 1, arrows6L2A_165, arrows6L2C_165, (hT144.symm.trans (show F_s_ProductFrames_L1b fp0 fp1 gp0 gp1 (F_s_ProductFrames_L1 fp0 fp1 gp0 gp1 r149) arrows6 x7 = F_s_ProductFrames_L1 fp0 fp1 gp0 gp1 r149 ((F_s_ProductFrames_L2 fp0 fp1 gp0 gp1 x7 (Int.toNat (gp0 - 0) + 1) arrows6 0).1) (x7 + 1) by unfold F_s_ProductFrames_L1b; rw [ht159]; first | done | rfl)).symm, (by omega), (by first | omega | (simp only [List.length_append, List.length_cons, List.length_nil, sI_len, cond_true, cond_false]; omega) | (simp only [List.length_append, List.length_cons, List.length_nil, sI_len, cond_eq_ite, apply_ite List.length]; split <;> simp only [List.length_append, List.length_cons, List.length_nil, sI_len] <;> omega) | grind), (by first | omega | (simp only [List.length_append, List.length_cons, List.length_nil, sI_len, cond_true, cond_false]; omega) | (simp only [List.length_append, List.length_cons, List.length_nil, sI_len, cond_eq_ite, apply_ite List.length]; split <;> simp only [List.length_append, List.length_cons, List.length_nil, sI_len] <;> omega) | grind), (by first | omega | (simp only [List.length_append, List.length_cons, List.length_nil, sI_len, cond_true, cond_false]; omega) | (simp only [List.length_append, List.length_cons, List.length_nil, sI_len, cond_eq_ite, apply_ite List.length]; split <;> simp only [List.length_append, List.length_cons, List.length_nil, sI_len] <;> omega) | grind), (hE337.sub (L' := [(2, .pointer (some ⟨b3, 0, none⟩)), (3, .pointer (some ⟨b9, 0, none⟩)), (4, .pointer (some ⟨b15, 0, none⟩)), (6, .slice arrows6L2A_165 (((F_s_ProductFrames_L2 fp0 fp1 gp0 gp1 x7 (Int.toNat (gp0 - 0) + 1) arrows6 0).1).length) arrows6L2C_165), (7, .int .i64 (x7 + 1))]) ⟨rfl, rfl, rfl, rfl, rfl, trivial⟩), (St.pick (Γ' := [.own 2 1 arrows6L2A_165 (((F_s_ProductFrames_L2 fp0 fp1 gp0 gp1 x7 (Int.toNat (gp0 - 0) + 1) arrows6 0).1).length) arrows6L2C_165 ((F_s_ProductFrames_L2 fp0 fp1 gp0 gp1 x7 (Int.toNat (gp0 - 0) + 1) arrows6 0).1), .blk b15 #[.int .i64 0, .slice none 0 0] 53, .rd 1 gp1A gp1.length gp1C gp1, .blk b9 #[.int .i64 gp0, .slice gp1A gp1.length gp1C] 53, .rd 1 fp1A fp1.length fp1C fp1, .blk b3 #[.int .i64 fp0, .slice fp1A fp1.length fp1C] 53]) hS326 [0, 1, 2, 3, 4, 5] (by decide) rfl)⟩
            ·
              have hp338 := of_decide_eq_false ht159
              have hE339 := hE158; rw [ht159] at hE339; clear hE158
              refine wp_exit ?_
              refine p_te ?_
              have hX340 : F_s_ProductFrames_L1 fp0 fp1 gp0 gp1 (Int.toNat (fp0 - 0) + 1) ([]) 0 = (arrows6, x7) := hT144.symm.trans (show F_s_ProductFrames_L1b fp0 fp1 gp0 gp1 (F_s_ProductFrames_L1 fp0 fp1 gp0 gp1 r149) arrows6 x7 = (arrows6, x7) by unfold F_s_ProductFrames_L1b; rw [ht159]; first | done | rfl)
              refine p_te (p_be (p_tn ?_))
              exact ⟨arrows6A, arrows6C, (by rw [hX340]; exact (show 0 ≤ x7 from (by first | omega | (simp only [List.length_append, List.length_cons, List.length_nil, sI_len, cond_true, cond_false]; omega) | (simp only [List.length_append, List.length_cons, List.length_nil, sI_len, cond_eq_ite, apply_ite List.length]; split <;> simp only [List.length_append, List.length_cons, List.length_nil, sI_len] <;> omega) | grind))), (by rw [hX340]; exact (show x7 ≤ fp0 from (by first | omega | (simp only [List.length_append, List.length_cons, List.length_nil, sI_len, cond_true, cond_false]; omega) | (simp only [List.length_append, List.length_cons, List.length_nil, sI_len, cond_eq_ite, apply_ite List.length]; split <;> simp only [List.length_append, List.length_cons, List.length_nil, sI_len] <;> omega) | grind))), (by rw [hX340]; exact (show (arrows6.length : Int) ≤ 8 * x7 from (by first | omega | (simp only [List.length_append, List.length_cons, List.length_nil, sI_len, cond_true, cond_false]; omega) | (simp only [List.length_append, List.length_cons, List.length_nil, sI_len, cond_eq_ite, apply_ite List.length]; split <;> simp only [List.length_append, List.length_cons, List.length_nil, sI_len] <;> omega) | grind))), (by rw [hX340]; exact (hE339.sub (L' := [(2, .pointer (some ⟨b3, 0, none⟩)), (3, .pointer (some ⟨b9, 0, none⟩)), (4, .pointer (some ⟨b15, 0, none⟩)), (6, .slice arrows6A ((arrows6).length) arrows6C), (7, .int .i64 x7)]) ⟨rfl, rfl, rfl, rfl, rfl, trivial⟩)), (by rw [hX340]; exact (St.pick (Γ' := [.own 2 1 arrows6A ((arrows6).length) arrows6C arrows6, .blk b15 #[.int .i64 0, .slice none 0 0] 53, .rd 1 gp1A gp1.length gp1C gp1, .blk b9 #[.int .i64 gp0, .slice gp1A gp1.length gp1C] 53, .rd 1 fp1A fp1.length fp1C fp1, .blk b3 #[.int .i64 fp0, .slice fp1A fp1.length fp1C] 53]) hS143 [0, 1, 2, 3, 4, 5] (by decide) rfl))⟩
        ·
          rintro a341 w342 ⟨arrows6A_139, arrows6C_139, hi346, hi347, hi348, hE343, hS344⟩; clear hE138 hS131
          refine p_tn ?_
          refine c_seq ?_
          refine c_reg ?_
          refine q_step (v := .slice arrows6A_139 (((F_s_ProductFrames_L1 fp0 fp1 gp0 gp1 (Int.toNat (fp0 - 0) + 1) ([]) 0).1).length) arrows6C_139) hE343 (y_move rfl) rfl rfl rfl ?_; intro a349 hE350; clear hE343
          refine l_step hE350 rfl (l_call (f := 87) (argv := [.slice arrows6A_139 (((F_s_ProductFrames_L1 fp0 fp1 gp0 gp1 (Int.toNat (fp0 - 0) + 1) ([]) 0).1).length) arrows6C_139]) hE350 (fun _ => cf_l05Make _ _) rfl rfl (d_l05Make arrows6A_139 (((F_s_ProductFrames_L1 fp0 fp1 gp0 gp1 (Int.toNat (fp0 - 0) + 1) ([]) 0).1).length) arrows6C_139 ((F_s_ProductFrames_L1 fp0 fp1 gp0 gp1 (Int.toNat (fp0 - 0) + 1) ([]) 0).1) w342 (St.rdO (i := 0) hS344 rfl) (by first | omega | (have hmul := mul_bd (a := fp0) (b := gp0) (by omega) (by omega) (by omega) (by omega); omega))) ?_)
          rintro _ w352 ⟨b357, c358, rfl, ho359, he356⟩ a353 hE354; clear hE350
          have hS355 := St.own hS344 he356 ho359; clear hS344
          refine l_step hE354 rfl (l_storeS (k := 2) (cs' := #[.int .i64 (((F_s_ProductFrames_L1 fp0 fp1 gp0 gp1 (Int.toNat (fp0 - 0) + 1) ([]) 0).1).length : Int), .slice b357 ((((F_s_ProductFrames_L1 fp0 fp1 gp0 gp1 (Int.toNat (fp0 - 0) + 1) ([]) 0).1)).length) c358]) hS355 hE354 (by kernel_rfl) rfl rfl (by kernel_rfl) rfl rfl ?_)
          intro w361 hS364 a362 hE363; clear hS355 hE354
          refine q_step (v := .int .i64 0) hE363 (y_assign rfl) rfl rfl rfl ?_; intro a366 hE367; clear hE363
          refine c_nil ?_
          have hE368 := hE367.sub (L' := [(4, .pointer (some ⟨b15, 0, none⟩)), (5, .int .i64 0)]) ⟨rfl, rfl, trivial⟩; clear hE367
          refine p_tn ?_
          refine wp_ret ?_
          have hF : F_s_ProductFrames fp0 fp1 gp0 gp1 = (((((F_s_ProductFrames_L1 fp0 fp1 gp0 gp1 (Int.toNat (fp0 - 0) + 1) ([]) 0).1).length : Int), ((F_s_ProductFrames_L1 fp0 fp1 gp0 gp1 (Int.toNat (fp0 - 0) + 1) ([]) 0).1)), 0) := by unfold F_s_ProductFrames; rw [ht111, ht76]; first | done | rfl
          refine c_retC2 hE368 rfl rfl rfl Try.underlying53 rfl (by kernel_rfl) (St.row (i := 2) hS364 rfl _ (Ext.refl _)) ?_
          exact ⟨b357, c358, (by rw [hF]; first | done | rfl), (by rw [hF]; exact hS364.ok 0 _ rfl), hS364.ext⟩

def F_productOf_L3b (ap : List Int) (bp : List Int) (t21 : Int) (t27L2 : Int) (rec : Int → Int → Int × Int) (mask10L3 : Int) (t34L3 : Int) : Int × Int :=
  bif (decide (t34L3 < ((F_membersOf (gI ap t21)).length : Int))) then (rec (orI mask10L3 (shlI (gI bp t27L2) ((gI (F_membersOf (gI ap t21)) t34L3) * (bp.length : Int)))) (t34L3 + 1)) else (mask10L3, t34L3)
def F_productOf_L3 (ap : List Int) (bp : List Int) (t21 : Int) (t27L2 : Int) : Nat → Int → Int → Int × Int
  | 0, mask10L3, t34L3 => (mask10L3, t34L3)
  | r + 1, mask10L3, t34L3 => F_productOf_L3b ap bp t21 t27L2 (F_productOf_L3 ap bp t21 t27L2 r) mask10L3 t34L3
def F_productOf_L2b (ap : List Int) (bp : List Int) (t21 : Int) (rec : (List Int) → Int → (List Int) × Int) (out5L2 : List Int) (t27L2 : Int) : (List Int) × Int :=
  bif (decide (t27L2 < (bp.length : Int))) then (rec (out5L2 ++ ([(F_productOf_L3 ap bp t21 t27L2 (Int.toNat (((F_membersOf (gI ap t21)).length : Int) - 0) + 1) 0 0).1])) (t27L2 + 1)) else (out5L2, t27L2)
def F_productOf_L2 (ap : List Int) (bp : List Int) (t21 : Int) : Nat → (List Int) → Int → (List Int) × Int
  | 0, out5L2, t27L2 => (out5L2, t27L2)
  | r + 1, out5L2, t27L2 => F_productOf_L2b ap bp t21 (F_productOf_L2 ap bp t21 r) out5L2 t27L2
def F_productOf_L1b (ap : List Int) (bp : List Int) (rec : (List Int) → Int → (List Int) × Int) (out5 : List Int) (t21 : Int) : (List Int) × Int :=
  bif (decide (t21 < (ap.length : Int))) then (rec ((F_productOf_L2 ap bp t21 (Int.toNat ((bp.length : Int) - 0) + 1) out5 0).1) (t21 + 1)) else (out5, t21)
def F_productOf_L1 (ap : List Int) (bp : List Int) : Nat → (List Int) → Int → (List Int) × Int
  | 0, out5, t21 => (out5, t21)
  | r + 1, out5, t21 => F_productOf_L1b ap bp (F_productOf_L1 ap bp r) out5 t21
def F_productOf (ap : List Int) (bp : List Int) : List Int :=
  (F_productOf_L1 ap bp (Int.toNat ((ap.length : Int) - 0) + 1) ([]) 0).1
theorem cf_productOf (args : Array Value) (w : World) : (callFunc 88 args).run Try.prog w = .ok (.enter 88 args) w := by kernel_rfl
set_option maxRecDepth 100000 in
theorem c_productOf (apA : Option Addr) (apN apC : Nat) (ap : List Int) (bpA : Option Addr) (bpN bpC : Nat) (bp : List Int) (w : World) (apR : RdS w 1 apA apN apC ap) (bpR : RdS w 1 bpA bpN bpC bp) (hla : ap.length ≤ 8) (hlb : bp.length ≤ 8) (hxa : ∀ m : Int, 0 ≤ m → m < (ap.length : Int) → 0 ≤ gI ap m ∧ gI ap m ≤ fullI (ap.length : Int)) :
    Calls Try.prog 88 #[.slice apA apN apC, .slice bpA bpN bpC] w (Ret fun v w' => ∃ b1 : Option Addr, ∃ c1 : Nat, v = .slice b1 (F_productOf ap bp).length c1 ∧ OwnS w' w.heap.size 2 1 b1 (F_productOf ap bp).length c1 (F_productOf ap bp) ∧ Ext w w') := by
  obtain rfl : apN = ap.length := apR.len1.symm
  have apLe := apR.le
  obtain rfl : bpN = bp.length := bpR.len1.symm
  have bpLe := bpR.le
  have hmul := mul_bd (a := (ap.length : Int)) (b := (bp.length : Int)) (by omega) (by omega) (by omega) (by omega)
  have hf := fullI_bd (n := (ap.length : Int)) (by omega) (by omega)
  have hS := St.nil w
  have hS1 := St.rd0 hS rfl apR; clear hS
  have hS2 := St.rd0 hS1 rfl bpR; clear hS1
  refine enter (args := [.slice apA ap.length apC, .slice bpA bp.length bpC]) Try.func88 rfl rfl ?_
  rw [Try.ntmps88]; intro a hE
  have hE := hE.sub (L' := [(0, .slice apA ap.length apC), (1, .slice bpA bp.length bpC)]) ⟨rfl, rfl, trivial⟩
  refine c_seq ?_
  refine c_reg ?_
  refine q_step (v := .slice none 0 0) hE (y_assign rfl) rfl rfl rfl ?_; intro a3 hE4; clear hE
  refine c_nil ?_
  have hE5 := hE4.sub (L' := [(0, .slice apA ap.length apC), (1, .slice bpA bp.length bpC)]) ⟨rfl, rfl, trivial⟩; clear hE4
  refine p_tn ?_
  refine c_seq ?_
  refine c_reg ?_
  refine q_step (v := .slice apA ap.length apC) hE5 (y_move rfl) rfl rfl rfl ?_; intro a6 hE7; clear hE5
  refine q_step (v := .int .i64 (ap.length : Int)) hE7 (y_len (e := 2) (by kernel_rfl) rfl) rfl rfl rfl ?_; intro a8 hE9; clear hE7
  refine q_step (v := .slice bpA bp.length bpC) hE9 (y_move rfl) rfl rfl rfl ?_; intro a10 hE11; clear hE9
  refine q_step (v := .int .i64 (bp.length : Int)) hE11 (y_len (e := 2) (by kernel_rfl) rfl) rfl rfl rfl ?_; intro a12 hE13; clear hE11
  refine q_step (v := .int .i64 ((ap.length : Int) * (bp.length : Int))) hE13 (y_mul rfl rfl ⟨(by omega), (by omega)⟩) rfl rfl rfl ?_; intro a14 hE15; clear hE13
  obtain ⟨_, hi1, hi2, hi3, hi4⟩ := info_parts (show (Try.prog.info? 2).map (fun i => (i.zero, i.size, i.bytes)) = some (some (.int .i64 0), 1, 8) by kernel_rfl)
  refine l_step hE15 rfl (l_make0 (e := 2) hS2 hE15 hi1 hi2 hi3 (by rw [hi4]; decide) (by kernel_rfl) rfl rfl (by omega) (by omega) rfl ?_)
  intro b16 w17 hS20 he21 a18 hE19; clear hS2 hE15
  refine q_step (v := .slice b16 0 (Int.toNat ((ap.length : Int) * (bp.length : Int)))) hE19 (y_assign rfl) rfl rfl rfl ?_; intro a22 hE23; clear hE19
  refine c_nil ?_
  have hE24 := hE23.sub (L' := [(0, .slice apA ap.length apC), (1, .slice bpA bp.length bpC), (5, .slice b16 0 (Int.toNat ((ap.length : Int) * (bp.length : Int))))]) ⟨rfl, rfl, rfl, trivial⟩; clear hE23
  refine p_tn ?_
  refine c_seq ?_
  refine c_seq ?_
  refine c_reg ?_
  refine q_step (v := .slice apA ap.length apC) hE24 (y_move rfl) rfl rfl rfl ?_; intro a25 hE26; clear hE24
  refine q_step (v := .int .i64 (ap.length : Int)) hE26 (y_len (e := 2) (by kernel_rfl) rfl) rfl rfl rfl ?_; intro a27 hE28; clear hE26
  refine q_step (v := .int .i64 0) hE28 (y_move rfl) rfl rfl rfl ?_; intro a29 hE30; clear hE28
  refine c_nil ?_
  have hE31 := hE30.sub (L' := [(1, .slice bpA bp.length bpC), (5, .slice b16 0 (Int.toNat ((ap.length : Int) * (bp.length : Int)))), (19, .slice apA ap.length apC), (20, .int .i64 (ap.length : Int)), (21, .int .i64 0)]) ⟨rfl, rfl, rfl, rfl, rfl, trivial⟩; clear hE30
  refine p_tn ?_
  refine c_cut1 (fun a' w' => ∃ out5A_32 : Option Addr, ∃ out5C_32 : Nat, (0 ≤ ((F_productOf_L1 ap bp (Int.toNat ((ap.length : Int) - 0) + 1) ([]) 0).2)) ∧ (((F_productOf_L1 ap bp (Int.toNat ((ap.length : Int) - 0) + 1) ([]) 0).2) ≤ (ap.length : Int)) ∧ ((((F_productOf_L1 ap bp (Int.toNat ((ap.length : Int) - 0) + 1) ([]) 0).1).length : Int) ≤ 8 * ((F_productOf_L1 ap bp (Int.toNat ((ap.length : Int) - 0) + 1) ([]) 0).2)) ∧ E a' 54 [(1, .slice bpA bp.length bpC), (5, .slice out5A_32 (((F_productOf_L1 ap bp (Int.toNat ((ap.length : Int) - 0) + 1) ([]) 0).1).length) out5C_32), (19, .slice apA ap.length apC), (20, .int .i64 (ap.length : Int)), (21, .int .i64 ((F_productOf_L1 ap bp (Int.toNat ((ap.length : Int) - 0) + 1) ([]) 0).2))] ∧ St w w' [.own 2 1 out5A_32 (((F_productOf_L1 ap bp (Int.toNat ((ap.length : Int) - 0) + 1) ([]) 0).1).length) out5C_32 ((F_productOf_L1 ap bp (Int.toNat ((ap.length : Int) - 0) + 1) ([]) 0).1), .rd 1 bpA bp.length bpC bp, .rd 1 apA ap.length apC ap]) ?_ ?_
  ·
    refine wp_block ?_
    refine c_loop (fun r a' w' => ∃ out5 : List Int, ∃ t21 : Int, ∃ out5A : Option Addr, ∃ out5C : Nat, F_productOf_L1 ap bp r out5 t21 = F_productOf_L1 ap bp (Int.toNat ((ap.length : Int) - 0) + 1) ([]) 0 ∧ Int.toNat ((ap.length : Int) - t21) < r ∧ (0 ≤ t21) ∧ (t21 ≤ (ap.length : Int)) ∧ ((out5.length : Int) ≤ 8 * t21) ∧ E a' 54 [(1, .slice bpA bp.length bpC), (5, .slice out5A ((out5).length) out5C), (19, .slice apA ap.length apC), (20, .int .i64 (ap.length : Int)), (21, .int .i64 t21)] ∧ St w w' [.own 2 1 out5A ((out5).length) out5C out5, .rd 1 bpA bp.length bpC bp, .rd 1 apA ap.length apC ap]) (r := (Int.toNat ((ap.length : Int) - 0) + 1)) ?_ ?_
    · exact ⟨[], 0, b16, Int.toNat ((ap.length : Int) * (bp.length : Int)), rfl, Nat.lt_succ_self _, (by first | omega | (simp only [List.length_append, List.length_cons, List.length_nil, sI_len, cond_true, cond_false]; omega) | (simp only [List.length_append, List.length_cons, List.length_nil, sI_len, cond_eq_ite, apply_ite List.length]; split <;> simp only [List.length_append, List.length_cons, List.length_nil, sI_len] <;> omega) | grind), (by first | omega | (simp only [List.length_append, List.length_cons, List.length_nil, sI_len, cond_true, cond_false]; omega) | (simp only [List.length_append, List.length_cons, List.length_nil, sI_len, cond_eq_ite, apply_ite List.length]; split <;> simp only [List.length_append, List.length_cons, List.length_nil, sI_len] <;> omega) | grind), (by first | omega | (simp only [List.length_append, List.length_cons, List.length_nil, sI_len, cond_true, cond_false]; omega) | (simp only [List.length_append, List.length_cons, List.length_nil, sI_len, cond_eq_ite, apply_ite List.length]; split <;> simp only [List.length_append, List.length_cons, List.length_nil, sI_len] <;> omega) | grind), (hE31.sub (L' := [(1, .slice bpA bp.length bpC), (5, .slice b16 0 (Int.toNat ((ap.length : Int) * (bp.length : Int)))), (19, .slice apA ap.length apC), (20, .int .i64 (ap.length : Int)), (21, .int .i64 0)]) ⟨rfl, rfl, rfl, rfl, rfl, trivial⟩), (St.pick (Γ' := [.own 2 1 b16 0 (Int.toNat ((ap.length : Int) * (bp.length : Int))) ([]), .rd 1 bpA bp.length bpC bp, .rd 1 apA ap.length apC ap]) hS20 [0, 1, 2] (by decide) rfl)⟩
    ·
      clear hE31 hS20
      rintro r42 a33 w34 ⟨out5, t21, out5A, out5C, hT37, hr38, hi39, hi40, hi41, hE35, hS36⟩
      obtain ⟨r42, rfl⟩ : ∃ r', r42 = r' + 1 := ⟨r42 - 1, by omega⟩
      refine c_seq ?_
      refine c_reg ?_
      refine q_step (v := .bool (decide (t21 < (ap.length : Int)))) hE35 (y_lss rfl rfl) rfl rfl rfl ?_; intro a43 hE44; clear hE35
      refine c_nil ?_
      have hE45 := hE44.sub (L' := [(1, .slice bpA bp.length bpC), (5, .slice out5A ((out5).length) out5C), (19, .slice apA ap.length apC), (20, .int .i64 (ap.length : Int)), (21, .int .i64 t21), (22, .bool (decide (t21 < (ap.length : Int))))]) ⟨rfl, rfl, rfl, rfl, rfl, rfl, trivial⟩; clear hE44
      refine p_tn ?_
      refine c_seq ?_
      refine c_cond hE45 rfl (fun ht46 => ?_) (fun ht46 => ?_)
      ·
        have hp47 := of_decide_eq_true ht46
        have hE48 := hE45; rw [ht46] at hE48; clear hE45
        have hx1 := hxa t21 (by omega) (by omega)
        have hml := members_len (mask := gI ap t21) (n := ap.length) (by omega) hx1.1 hx1.2
        refine wp_skip ?_
        refine p_tn ?_
        refine c_seq ?_
        refine wp_block ?_
        refine c_seq ?_
        refine c_reg ?_
        refine q_step (v := .pointer (some (adr apA (Int.toNat t21)))) hE48 (y_idx (by kernel_rfl) (fun _ => by kernel_rfl) rfl rfl (RdS.isS (m := t21) (St.rdR (i := 2) hS36 rfl) (by omega) (by omega)) (by omega) (by omega) (Nat.mul_one _).symm) rfl rfl rfl ?_; intro a49 hE50; clear hE48
        refine q_step (v := .int .i64 (gI ap t21)) hE50 (y_load (fun _ => by kernel_rfl) rfl (RdS.elt (St.rdR (i := 2) hS36 rfl) (by omega) (by omega))) rfl rfl rfl ?_; intro a51 hE52; clear hE50
        refine q_step (v := .int .i64 (gI ap t21)) hE52 (y_assign rfl) rfl rfl rfl ?_; intro a53 hE54; clear hE52
        refine c_nil ?_
        have hE55 := hE54.sub (L' := [(1, .slice bpA bp.length bpC), (5, .slice out5A ((out5).length) out5C), (7, .int .i64 (gI ap t21)), (19, .slice apA ap.length apC), (20, .int .i64 (ap.length : Int)), (21, .int .i64 t21)]) ⟨rfl, rfl, rfl, rfl, rfl, rfl, trivial⟩; clear hE54
        refine p_tn ?_
        refine c_seq ?_
        refine c_reg ?_
        refine q_step (v := .slice bpA bp.length bpC) hE55 (y_move rfl) rfl rfl rfl ?_; intro a56 hE57; clear hE55
        refine q_step (v := .int .i64 (bp.length : Int)) hE57 (y_len (e := 2) (by kernel_rfl) rfl) rfl rfl rfl ?_; intro a58 hE59; clear hE57
        refine q_step (v := .int .i64 0) hE59 (y_move rfl) rfl rfl rfl ?_; intro a60 hE61; clear hE59
        refine c_nil ?_
        have hE62 := hE61.sub (L' := [(1, .slice bpA bp.length bpC), (5, .slice out5A ((out5).length) out5C), (7, .int .i64 (gI ap t21)), (19, .slice apA ap.length apC), (20, .int .i64 (ap.length : Int)), (21, .int .i64 t21), (25, .slice bpA bp.length bpC), (26, .int .i64 (bp.length : Int)), (27, .int .i64 0)]) ⟨rfl, rfl, rfl, rfl, rfl, rfl, rfl, rfl, rfl, trivial⟩; clear hE61
        refine p_tn ?_
        refine c_cut1 (fun a' w' => ∃ out5L2A_63 : Option Addr, ∃ out5L2C_63 : Nat, (0 ≤ ((F_productOf_L2 ap bp t21 (Int.toNat ((bp.length : Int) - 0) + 1) out5 0).2)) ∧ (((F_productOf_L2 ap bp t21 (Int.toNat ((bp.length : Int) - 0) + 1) out5 0).2) ≤ (bp.length : Int)) ∧ ((((F_productOf_L2 ap bp t21 (Int.toNat ((bp.length : Int) - 0) + 1) out5 0).1).length : Int) ≤ 8 * t21 + ((F_productOf_L2 ap bp t21 (Int.toNat ((bp.length : Int) - 0) + 1) out5 0).2)) ∧ E a' 54 [(1, .slice bpA bp.length bpC), (5, .slice out5L2A_63 (((F_productOf_L2 ap bp t21 (Int.toNat ((bp.length : Int) - 0) + 1) out5 0).1).length) out5L2C_63), (7, .int .i64 (gI ap t21)), (19, .slice apA ap.length apC), (20, .int .i64 (ap.length : Int)), (21, .int .i64 t21), (25, .slice bpA bp.length bpC), (26, .int .i64 (bp.length : Int)), (27, .int .i64 ((F_productOf_L2 ap bp t21 (Int.toNat ((bp.length : Int) - 0) + 1) out5 0).2))] ∧ St w w' [.own 2 1 out5L2A_63 (((F_productOf_L2 ap bp t21 (Int.toNat ((bp.length : Int) - 0) + 1) out5 0).1).length) out5L2C_63 ((F_productOf_L2 ap bp t21 (Int.toNat ((bp.length : Int) - 0) + 1) out5 0).1), .rd 1 bpA bp.length bpC bp, .rd 1 apA ap.length apC ap]) ?_ ?_
        ·
          refine wp_block ?_
          refine c_loop (fun r a' w' => ∃ out5L2 : List Int, ∃ t27L2 : Int, ∃ out5L2A : Option Addr, ∃ out5L2C : Nat, F_productOf_L2 ap bp t21 r out5L2 t27L2 = F_productOf_L2 ap bp t21 (Int.toNat ((bp.length : Int) - 0) + 1) out5 0 ∧ Int.toNat ((bp.length : Int) - t27L2) < r ∧ (0 ≤ t27L2) ∧ (t27L2 ≤ (bp.length : Int)) ∧ ((out5L2.length : Int) ≤ 8 * t21 + t27L2) ∧ E a' 54 [(1, .slice bpA bp.length bpC), (5, .slice out5L2A ((out5L2).length) out5L2C), (7, .int .i64 (gI ap t21)), (19, .slice apA ap.length apC), (20, .int .i64 (ap.length : Int)), (21, .int .i64 t21), (25, .slice bpA bp.length bpC), (26, .int .i64 (bp.length : Int)), (27, .int .i64 t27L2)] ∧ St w w' [.own 2 1 out5L2A ((out5L2).length) out5L2C out5L2, .rd 1 bpA bp.length bpC bp, .rd 1 apA ap.length apC ap]) (r := (Int.toNat ((bp.length : Int) - 0) + 1)) ?_ ?_
          · exact ⟨out5, 0, out5A, out5C, rfl, Nat.lt_succ_self _, (by first | omega | (simp only [List.length_append, List.length_cons, List.length_nil, sI_len, cond_true, cond_false]; omega) | (simp only [List.length_append, List.length_cons, List.length_nil, sI_len, cond_eq_ite, apply_ite List.length]; split <;> simp only [List.length_append, List.length_cons, List.length_nil, sI_len] <;> omega) | grind), (by first | omega | (simp only [List.length_append, List.length_cons, List.length_nil, sI_len, cond_true, cond_false]; omega) | (simp only [List.length_append, List.length_cons, List.length_nil, sI_len, cond_eq_ite, apply_ite List.length]; split <;> simp only [List.length_append, List.length_cons, List.length_nil, sI_len] <;> omega) | grind), (by first | omega | (simp only [List.length_append, List.length_cons, List.length_nil, sI_len, cond_true, cond_false]; omega) | (simp only [List.length_append, List.length_cons, List.length_nil, sI_len, cond_eq_ite, apply_ite List.length]; split <;> simp only [List.length_append, List.length_cons, List.length_nil, sI_len] <;> omega) | grind), (hE62.sub (L' := [(1, .slice bpA bp.length bpC), (5, .slice out5A ((out5).length) out5C), (7, .int .i64 (gI ap t21)), (19, .slice apA ap.length apC), (20, .int .i64 (ap.length : Int)), (21, .int .i64 t21), (25, .slice bpA bp.length bpC), (26, .int .i64 (bp.length : Int)), (27, .int .i64 0)]) ⟨rfl, rfl, rfl, rfl, rfl, rfl, rfl, rfl, rfl, trivial⟩), (St.pick (Γ' := [.own 2 1 out5A ((out5).length) out5C out5, .rd 1 bpA bp.length bpC bp, .rd 1 apA ap.length apC ap]) hS36 [0, 1, 2] (by decide) rfl)⟩
          ·
            clear hE62 hS36
            rintro r73 a64 w65 ⟨out5L2, t27L2, out5L2A, out5L2C, hT68, hr69, hi70, hi71, hi72, hE66, hS67⟩
            obtain ⟨r73, rfl⟩ : ∃ r', r73 = r' + 1 := ⟨r73 - 1, by omega⟩
            refine c_seq ?_
            refine c_reg ?_
            refine q_step (v := .bool (decide (t27L2 < (bp.length : Int)))) hE66 (y_lss rfl rfl) rfl rfl rfl ?_; intro a74 hE75; clear hE66
            refine c_nil ?_
            have hE76 := hE75.sub (L' := [(1, .slice bpA bp.length bpC), (5, .slice out5L2A ((out5L2).length) out5L2C), (7, .int .i64 (gI ap t21)), (19, .slice apA ap.length apC), (20, .int .i64 (ap.length : Int)), (21, .int .i64 t21), (25, .slice bpA bp.length bpC), (26, .int .i64 (bp.length : Int)), (27, .int .i64 t27L2), (28, .bool (decide (t27L2 < (bp.length : Int))))]) ⟨rfl, rfl, rfl, rfl, rfl, rfl, rfl, rfl, rfl, rfl, trivial⟩; clear hE75
            refine p_tn ?_
            refine c_seq ?_
            refine c_cond hE76 rfl (fun ht77 => ?_) (fun ht77 => ?_)
            ·
              have hp78 := of_decide_eq_true ht77
              have hE79 := hE76; rw [ht77] at hE79; clear hE76
              refine wp_skip ?_
              refine p_tn ?_
              refine c_seq ?_
              refine wp_block ?_
              refine c_seq ?_
              refine c_reg ?_
              refine q_step (v := .pointer (some (adr bpA (Int.toNat t27L2)))) hE79 (y_idx (by kernel_rfl) (fun _ => by kernel_rfl) rfl rfl (RdS.isS (m := t27L2) (St.rdR (i := 1) hS67 rfl) (by omega) (by omega)) (by omega) (by omega) (Nat.mul_one _).symm) rfl rfl rfl ?_; intro a80 hE81; clear hE79
              refine q_step (v := .int .i64 (gI bp t27L2)) hE81 (y_load (fun _ => by kernel_rfl) rfl (RdS.elt (St.rdR (i := 1) hS67 rfl) (by omega) (by omega))) rfl rfl rfl ?_; intro a82 hE83; clear hE81
              refine q_step (v := .int .i64 (gI bp t27L2)) hE83 (y_assign rfl) rfl rfl rfl ?_; intro a84 hE85; clear hE83
              refine c_nil ?_
              have hE86 := hE85.sub (L' := [(1, .slice bpA bp.length bpC), (5, .slice out5L2A ((out5L2).length) out5L2C), (7, .int .i64 (gI ap t21)), (9, .int .i64 (gI bp t27L2)), (19, .slice apA ap.length apC), (20, .int .i64 (ap.length : Int)), (21, .int .i64 t21), (25, .slice bpA bp.length bpC), (26, .int .i64 (bp.length : Int)), (27, .int .i64 t27L2)]) ⟨rfl, rfl, rfl, rfl, rfl, rfl, rfl, rfl, rfl, rfl, trivial⟩; clear hE85
              refine p_tn ?_
              refine c_seq ?_
              refine c_reg ?_
              refine q_step (v := .int .i64 0) hE86 (y_assign rfl) rfl rfl rfl ?_; intro a87 hE88; clear hE86
              refine c_nil ?_
              have hE89 := hE88.sub (L' := [(1, .slice bpA bp.length bpC), (5, .slice out5L2A ((out5L2).length) out5L2C), (7, .int .i64 (gI ap t21)), (9, .int .i64 (gI bp t27L2)), (10, .int .i64 0), (19, .slice apA ap.length apC), (20, .int .i64 (ap.length : Int)), (21, .int .i64 t21), (25, .slice bpA bp.length bpC), (26, .int .i64 (bp.length : Int)), (27, .int .i64 t27L2)]) ⟨rfl, rfl, rfl, rfl, rfl, rfl, rfl, rfl, rfl, rfl, rfl, trivial⟩; clear hE88
              refine p_tn ?_
              refine c_seq ?_
              refine c_seq ?_
              refine c_reg ?_
              refine q_step (v := .int .i64 (gI ap t21)) hE89 (y_move rfl) rfl rfl rfl ?_; intro a90 hE91; clear hE89
              refine l_step hE91 rfl (l_call (f := 121) (argv := [.int .i64 (gI ap t21)]) hE91 (fun _ => cf_membersOf _ _) rfl rfl (c_membersOf (gI ap t21) w65 (by omega) (by omega)) ?_)
              rintro _ w93 ⟨b98, c99, rfl, ho100, he97⟩ a94 hE95; clear hE91
              have hS96 := St.own hS67 he97 ho100; clear hS67
              refine q_step (v := .int .i64 ((F_membersOf (gI ap t21)).length : Int)) hE95 (y_len (e := 2) (by kernel_rfl) rfl) rfl rfl rfl ?_; intro a101 hE102; clear hE95
              refine q_step (v := .int .i64 0) hE102 (y_move rfl) rfl rfl rfl ?_; intro a103 hE104; clear hE102
              refine c_nil ?_
              have hE105 := hE104.sub (L' := [(1, .slice bpA bp.length bpC), (5, .slice out5L2A ((out5L2).length) out5L2C), (7, .int .i64 (gI ap t21)), (9, .int .i64 (gI bp t27L2)), (10, .int .i64 0), (19, .slice apA ap.length apC), (20, .int .i64 (ap.length : Int)), (21, .int .i64 t21), (25, .slice bpA bp.length bpC), (26, .int .i64 (bp.length : Int)), (27, .int .i64 t27L2), (32, .slice b98 ((F_membersOf (gI ap t21)).length) c99), (33, .int .i64 ((F_membersOf (gI ap t21)).length : Int)), (34, .int .i64 0)]) ⟨rfl, rfl, rfl, rfl, rfl, rfl, rfl, rfl, rfl, rfl, rfl, rfl, rfl, rfl, trivial⟩; clear hE104
              refine p_tn ?_
              refine c_cut1 (fun a' w' => (0 ≤ ((F_productOf_L3 ap bp t21 t27L2 (Int.toNat (((F_membersOf (gI ap t21)).length : Int) - 0) + 1) 0 0).2)) ∧ (((F_productOf_L3 ap bp t21 t27L2 (Int.toNat (((F_membersOf (gI ap t21)).length : Int) - 0) + 1) 0 0).2) ≤ ((F_membersOf (gI ap t21)).length : Int)) ∧ E a' 54 [(1, .slice bpA bp.length bpC), (5, .slice out5L2A ((out5L2).length) out5L2C), (7, .int .i64 (gI ap t21)), (9, .int .i64 (gI bp t27L2)), (10, .int .i64 ((F_productOf_L3 ap bp t21 t27L2 (Int.toNat (((F_membersOf (gI ap t21)).length : Int) - 0) + 1) 0 0).1)), (19, .slice apA ap.length apC), (20, .int .i64 (ap.length : Int)), (21, .int .i64 t21), (25, .slice bpA bp.length bpC), (26, .int .i64 (bp.length : Int)), (27, .int .i64 t27L2), (32, .slice b98 ((F_membersOf (gI ap t21)).length) c99), (33, .int .i64 ((F_membersOf (gI ap t21)).length : Int)), (34, .int .i64 ((F_productOf_L3 ap bp t21 t27L2 (Int.toNat (((F_membersOf (gI ap t21)).length : Int) - 0) + 1) 0 0).2))] ∧ St w w' [.own 2 1 b98 ((F_membersOf (gI ap t21)).length) c99 (F_membersOf (gI ap t21)), .own 2 1 out5L2A ((out5L2).length) out5L2C out5L2, .rd 1 bpA bp.length bpC bp, .rd 1 apA ap.length apC ap]) ?_ ?_
              ·
                refine wp_block ?_
                refine c_loop (fun r a' w' => ∃ mask10L3 : Int, ∃ t34L3 : Int, F_productOf_L3 ap bp t21 t27L2 r mask10L3 t34L3 = F_productOf_L3 ap bp t21 t27L2 (Int.toNat (((F_membersOf (gI ap t21)).length : Int) - 0) + 1) 0 0 ∧ Int.toNat (((F_membersOf (gI ap t21)).length : Int) - t34L3) < r ∧ (0 ≤ t34L3) ∧ (t34L3 ≤ ((F_membersOf (gI ap t21)).length : Int)) ∧ E a' 54 [(1, .slice bpA bp.length bpC), (5, .slice out5L2A ((out5L2).length) out5L2C), (7, .int .i64 (gI ap t21)), (9, .int .i64 (gI bp t27L2)), (10, .int .i64 mask10L3), (19, .slice apA ap.length apC), (20, .int .i64 (ap.length : Int)), (21, .int .i64 t21), (25, .slice bpA bp.length bpC), (26, .int .i64 (bp.length : Int)), (27, .int .i64 t27L2), (32, .slice b98 ((F_membersOf (gI ap t21)).length) c99), (33, .int .i64 ((F_membersOf (gI ap t21)).length : Int)), (34, .int .i64 t34L3)] ∧ St w w' [.own 2 1 b98 ((F_membersOf (gI ap t21)).length) c99 (F_membersOf (gI ap t21)), .own 2 1 out5L2A ((out5L2).length) out5L2C out5L2, .rd 1 bpA bp.length bpC bp, .rd 1 apA ap.length apC ap]) (r := (Int.toNat (((F_membersOf (gI ap t21)).length : Int) - 0) + 1)) ?_ ?_
                · exact ⟨0, 0, rfl, Nat.lt_succ_self _, (by first | omega | (simp only [List.length_append, List.length_cons, List.length_nil, sI_len, cond_true, cond_false]; omega) | (simp only [List.length_append, List.length_cons, List.length_nil, sI_len, cond_eq_ite, apply_ite List.length]; split <;> simp only [List.length_append, List.length_cons, List.length_nil, sI_len] <;> omega) | grind), (by first | omega | (simp only [List.length_append, List.length_cons, List.length_nil, sI_len, cond_true, cond_false]; omega) | (simp only [List.length_append, List.length_cons, List.length_nil, sI_len, cond_eq_ite, apply_ite List.length]; split <;> simp only [List.length_append, List.length_cons, List.length_nil, sI_len] <;> omega) | grind), (hE105.sub (L' := [(1, .slice bpA bp.length bpC), (5, .slice out5L2A ((out5L2).length) out5L2C), (7, .int .i64 (gI ap t21)), (9, .int .i64 (gI bp t27L2)), (10, .int .i64 0), (19, .slice apA ap.length apC), (20, .int .i64 (ap.length : Int)), (21, .int .i64 t21), (25, .slice bpA bp.length bpC), (26, .int .i64 (bp.length : Int)), (27, .int .i64 t27L2), (32, .slice b98 ((F_membersOf (gI ap t21)).length) c99), (33, .int .i64 ((F_membersOf (gI ap t21)).length : Int)), (34, .int .i64 0)]) ⟨rfl, rfl, rfl, rfl, rfl, rfl, rfl, rfl, rfl, rfl, rfl, rfl, rfl, rfl, trivial⟩), (St.pick (Γ' := [.own 2 1 b98 ((F_membersOf (gI ap t21)).length) c99 (F_membersOf (gI ap t21)), .own 2 1 out5L2A ((out5L2).length) out5L2C out5L2, .rd 1 bpA bp.length bpC bp, .rd 1 apA ap.length apC ap]) hS96 [0, 1, 2, 3] (by decide) rfl)⟩
                ·
                  clear hE105 hS96
                  rintro r115 a107 w108 ⟨mask10L3, t34L3, hT111, hr112, hi113, hi114, hE109, hS110⟩
                  obtain ⟨r115, rfl⟩ : ∃ r', r115 = r' + 1 := ⟨r115 - 1, by omega⟩
                  refine c_seq ?_
                  refine c_reg ?_
                  refine q_step (v := .bool (decide (t34L3 < ((F_membersOf (gI ap t21)).length : Int)))) hE109 (y_lss rfl rfl) rfl rfl rfl ?_; intro a116 hE117; clear hE109
                  refine c_nil ?_
                  have hE118 := hE117.sub (L' := [(1, .slice bpA bp.length bpC), (5, .slice out5L2A ((out5L2).length) out5L2C), (7, .int .i64 (gI ap t21)), (9, .int .i64 (gI bp t27L2)), (10, .int .i64 mask10L3), (19, .slice apA ap.length apC), (20, .int .i64 (ap.length : Int)), (21, .int .i64 t21), (25, .slice bpA bp.length bpC), (26, .int .i64 (bp.length : Int)), (27, .int .i64 t27L2), (32, .slice b98 ((F_membersOf (gI ap t21)).length) c99), (33, .int .i64 ((F_membersOf (gI ap t21)).length : Int)), (34, .int .i64 t34L3), (35, .bool (decide (t34L3 < ((F_membersOf (gI ap t21)).length : Int))))]) ⟨rfl, rfl, rfl, rfl, rfl, rfl, rfl, rfl, rfl, rfl, rfl, rfl, rfl, rfl, rfl, trivial⟩; clear hE117
                  refine p_tn ?_
                  refine c_seq ?_
                  refine c_cond hE118 rfl (fun ht119 => ?_) (fun ht119 => ?_)
                  ·
                    have hp120 := of_decide_eq_true ht119
                    have hE121 := hE118; rw [ht119] at hE121; clear hE118
                    have hm1 := members_lt (mask := gI ap t21) (n := ap.length) (by omega) hx1.1 hx1.2 t34L3 (by omega) (by omega)
                    have hz := mul_bd (a := gI (F_membersOf (gI ap t21)) t34L3) (b := (bp.length : Int)) (by omega) (by omega) (by omega) (by omega)
                    refine wp_skip ?_
                    refine p_tn ?_
                    refine c_seq ?_
                    refine wp_block ?_
                    refine c_seq ?_
                    refine c_reg ?_
                    refine q_step (v := .pointer (some (adr b98 (Int.toNat t34L3)))) hE121 (y_idx (by kernel_rfl) (fun _ => by kernel_rfl) rfl rfl (RdS.isS (m := t34L3) (St.rdO (i := 0) hS110 rfl) (by omega) (by omega)) (by omega) (by omega) (Nat.mul_one _).symm) rfl rfl rfl ?_; intro a122 hE123; clear hE121
                    refine q_step (v := .int .i64 (gI (F_membersOf (gI ap t21)) t34L3)) hE123 (y_load (fun _ => by kernel_rfl) rfl (RdS.elt (St.rdO (i := 0) hS110 rfl) (by omega) (by omega))) rfl rfl rfl ?_; intro a124 hE125; clear hE123
                    refine q_step (v := .int .i64 (gI (F_membersOf (gI ap t21)) t34L3)) hE125 (y_assign rfl) rfl rfl rfl ?_; intro a126 hE127; clear hE125
                    refine c_nil ?_
                    have hE128 := hE127.sub (L' := [(1, .slice bpA bp.length bpC), (5, .slice out5L2A ((out5L2).length) out5L2C), (7, .int .i64 (gI ap t21)), (9, .int .i64 (gI bp t27L2)), (10, .int .i64 mask10L3), (12, .int .i64 (gI (F_membersOf (gI ap t21)) t34L3)), (19, .slice apA ap.length apC), (20, .int .i64 (ap.length : Int)), (21, .int .i64 t21), (25, .slice bpA bp.length bpC), (26, .int .i64 (bp.length : Int)), (27, .int .i64 t27L2), (32, .slice b98 ((F_membersOf (gI ap t21)).length) c99), (33, .int .i64 ((F_membersOf (gI ap t21)).length : Int)), (34, .int .i64 t34L3)]) ⟨rfl, rfl, rfl, rfl, rfl, rfl, rfl, rfl, rfl, rfl, rfl, rfl, rfl, rfl, rfl, trivial⟩; clear hE127
                    refine p_tn ?_
                    refine c_reg ?_
                    refine q_step (v := .int .i64 mask10L3) hE128 (y_move rfl) rfl rfl rfl ?_; intro a129 hE130; clear hE128
                    refine q_step (v := .int .i64 (gI bp t27L2)) hE130 (y_move rfl) rfl rfl rfl ?_; intro a131 hE132; clear hE130
                    refine q_step (v := .int .i64 (gI (F_membersOf (gI ap t21)) t34L3)) hE132 (y_move rfl) rfl rfl rfl ?_; intro a133 hE134; clear hE132
                    refine q_step (v := .slice bpA bp.length bpC) hE134 (y_move rfl) rfl rfl rfl ?_; intro a135 hE136; clear hE134
                    refine l_step hE136 rfl (l_call (f := 116) (argv := [.slice bpA bp.length bpC]) hE136 (fun _ => cf_size _ _) rfl rfl (d_size bpA bp.length bpC bp w108 (St.rdR (i := 2) hS110 rfl)) ?_)
                    rintro _ _ ⟨rfl, rfl⟩ a139 hE140; clear hE136
                    refine q_step (v := .int .i64 ((gI (F_membersOf (gI ap t21)) t34L3) * (bp.length : Int))) hE140 (y_mul rfl rfl ⟨(by omega), (by omega)⟩) rfl rfl rfl ?_; intro a143 hE144; clear hE140
                    refine q_step (v := .int .i64 (shlI (gI bp t27L2) ((gI (F_membersOf (gI ap t21)) t34L3) * (bp.length : Int)))) hE144 (y_shl rfl rfl (by omega)) rfl rfl rfl ?_; intro a145 hE146; clear hE144
                    refine q_step (v := .int .i64 (orI mask10L3 (shlI (gI bp t27L2) ((gI (F_membersOf (gI ap t21)) t34L3) * (bp.length : Int))))) hE146 (y_or rfl rfl) rfl rfl rfl ?_; intro a147 hE148; clear hE146
                    refine q_step (v := .int .i64 (orI mask10L3 (shlI (gI bp t27L2) ((gI (F_membersOf (gI ap t21)) t34L3) * (bp.length : Int))))) hE148 (y_assign rfl) rfl rfl rfl ?_; intro a149 hE150; clear hE148
                    refine c_nil ?_
                    have hE151 := hE150.sub (L' := [(1, .slice bpA bp.length bpC), (5, .slice out5L2A ((out5L2).length) out5L2C), (7, .int .i64 (gI ap t21)), (9, .int .i64 (gI bp t27L2)), (10, .int .i64 (orI mask10L3 (shlI (gI bp t27L2) ((gI (F_membersOf (gI ap t21)) t34L3) * (bp.length : Int))))), (19, .slice apA ap.length apC), (20, .int .i64 (ap.length : Int)), (21, .int .i64 t21), (25, .slice bpA bp.length bpC), (26, .int .i64 (bp.length : Int)), (27, .int .i64 t27L2), (32, .slice b98 ((F_membersOf (gI ap t21)).length) c99), (33, .int .i64 ((F_membersOf (gI ap t21)).length : Int)), (34, .int .i64 t34L3)]) ⟨rfl, rfl, rfl, rfl, rfl, rfl, rfl, rfl, rfl, rfl, rfl, rfl, rfl, rfl, trivial⟩; clear hE150
                    refine p_bn ?_
                    refine p_tn ?_
                    refine c_reg ?_
                    refine q_step (v := .int .i64 (t34L3 + 1)) hE151 (y_add rfl rfl ⟨(by omega), (by omega)⟩) rfl rfl rfl ?_; intro a152 hE153; clear hE151
                    refine q_step (v := .int .i64 (t34L3 + 1)) hE153 (y_move rfl) rfl rfl rfl ?_; intro a154 hE155; clear hE153
                    refine c_nil ?_
                    have hE156 := hE155.sub (L' := [(1, .slice bpA bp.length bpC), (5, .slice out5L2A ((out5L2).length) out5L2C), (7, .int .i64 (gI ap t21)), (9, .int .i64 (gI bp t27L2)), (10, .int .i64 (orI mask10L3 (shlI (gI bp t27L2) ((gI (F_membersOf (gI ap t21)) t34L3) * (bp.length : Int))))), (19, .slice apA ap.length apC), (20, .int .i64 (ap.length : Int)), (21, .int .i64 t21), (25, .slice bpA bp.length bpC), (26, .int .i64 (bp.length : Int)), (27, .int .i64 t27L2), (32, .slice b98 ((F_membersOf (gI ap t21)).length) c99), (33, .int .i64 ((F_membersOf (gI ap t21)).length : Int)), (34, .int .i64 (t34L3 + 1))]) ⟨rfl, rfl, rfl, rfl, rfl, rfl, rfl, rfl, rfl, rfl, rfl, rfl, rfl, rfl, trivial⟩; clear hE155
                    refine p_tn ⟨r115, Nat.lt_succ_self _, orI mask10L3 (shlI (gI bp t27L2) ((gI (F_membersOf (gI ap t21)) t34L3) * (bp.length : Int))), t34L3 + 1, (hT111.symm.trans (show F_productOf_L3b ap bp t21 t27L2 (F_productOf_L3 ap bp t21 t27L2 r115) mask10L3 t34L3 = F_productOf_L3 ap bp t21 t27L2 r115 (orI mask10L3 (shlI (gI bp t27L2) ((gI (F_membersOf (gI ap t21)) t34L3) * (bp.length : Int)))) (t34L3 + 1) by unfold F_productOf_L3b; rw [ht119]; first | done | rfl)).symm, (by omega), (by first | omega | (simp only [List.length_append, List.length_cons, List.length_nil, sI_len, cond_true, cond_false]; omega) | (simp only [List.length_append, List.length_cons, List.length_nil, sI_len, cond_eq_ite, apply_ite List.length]; split <;> simp only [List.length_append, List.length_cons, List.length_nil, sI_len] <;> omega) | grind), (by first | omega | (simp only [List.length_append, List.length_cons, List.length_nil, sI_len, cond_true, cond_false]; omega) | (simp only [List.length_append, List.length_cons, List.length_nil, sI_len, cond_eq_ite, apply_ite List.length]; split <;> simp only [List.length_append, List.length_cons, List.length_nil, sI_len] <;> omega) | grind), (hE156.sub (L' := [(1, .slice bpA bp.length bpC), (5, .slice out5L2A ((out5L2).length) out5L2C), (7, .int .i64 (gI ap t21)), (9, .int .i64 (gI bp t27L2)), (10, .int .i64 (orI mask10L3 (shlI (gI bp t27L2) ((gI (F_membersOf (gI ap t21)) t34L3) * (bp.length : Int))))), (19, .slice apA ap.length apC), (20, .int .i64 (ap.length : Int)), (21, .int .i64 t21), (25, .slice bpA bp.length bpC), (26, .int .i64 (bp.length : Int)), (27, .int .i64 t27L2), (32, .slice b98 ((F_membersOf (gI ap t21)).length) c99), (33, .int .i64 ((F_membersOf (gI ap t21)).length : Int)), (34, .int .i64 (t34L3 + 1))]) ⟨rfl, rfl, rfl, rfl, rfl, rfl, rfl, rfl, rfl, rfl, rfl, rfl, rfl, rfl, trivial⟩), (St.pick (Γ' := [.own 2 1 b98 ((F_membersOf (gI ap t21)).length) c99 (F_membersOf (gI ap t21)), .own 2 1 out5L2A ((out5L2).length) out5L2C out5L2, .rd 1 bpA bp.length bpC bp, .rd 1 apA ap.length apC ap]) hS110 [0, 1, 2, 3] (by decide) rfl)⟩
                  ·
                    have hp157 := of_decide_eq_false ht119
                    have hE158 := hE118; rw [ht119] at hE158; clear hE118
                    refine wp_exit ?_
                    refine p_te ?_
                    have hX159 : F_productOf_L3 ap bp t21 t27L2 (Int.toNat (((F_membersOf (gI ap t21)).length : Int) - 0) + 1) 0 0 = (mask10L3, t34L3) := hT111.symm.trans (show F_productOf_L3b ap bp t21 t27L2 (F_productOf_L3 ap bp t21 t27L2 r115) mask10L3 t34L3 = (mask10L3, t34L3) by unfold F_productOf_L3b; rw [ht119]; first | done | rfl)
                    refine p_te (p_be (p_tn ?_))
                    exact ⟨(by rw [hX159]; exact (show 0 ≤ t34L3 from (by first | omega | (simp only [List.length_append, List.length_cons, List.length_nil, sI_len, cond_true, cond_false]; omega) | (simp only [List.length_append, List.length_cons, List.length_nil, sI_len, cond_eq_ite, apply_ite List.length]; split <;> simp only [List.length_append, List.length_cons, List.length_nil, sI_len] <;> omega) | grind))), (by rw [hX159]; exact (show t34L3 ≤ ((F_membersOf (gI ap t21)).length : Int) from (by first | omega | (simp only [List.length_append, List.length_cons, List.length_nil, sI_len, cond_true, cond_false]; omega) | (simp only [List.length_append, List.length_cons, List.length_nil, sI_len, cond_eq_ite, apply_ite List.length]; split <;> simp only [List.length_append, List.length_cons, List.length_nil, sI_len] <;> omega) | grind))), (by rw [hX159]; exact (hE158.sub (L' := [(1, .slice bpA bp.length bpC), (5, .slice out5L2A ((out5L2).length) out5L2C), (7, .int .i64 (gI ap t21)), (9, .int .i64 (gI bp t27L2)), (10, .int .i64 mask10L3), (19, .slice apA ap.length apC), (20, .int .i64 (ap.length : Int)), (21, .int .i64 t21), (25, .slice bpA bp.length bpC), (26, .int .i64 (bp.length : Int)), (27, .int .i64 t27L2), (32, .slice b98 ((F_membersOf (gI ap t21)).length) c99), (33, .int .i64 ((F_membersOf (gI ap t21)).length : Int)), (34, .int .i64 t34L3)]) ⟨rfl, rfl, rfl, rfl, rfl, rfl, rfl, rfl, rfl, rfl, rfl, rfl, rfl, rfl, trivial⟩)), (St.pick (Γ' := [.own 2 1 b98 ((F_membersOf (gI ap t21)).length) c99 (F_membersOf (gI ap t21)), .own 2 1 out5L2A ((out5L2).length) out5L2C out5L2, .rd 1 bpA bp.length bpC bp, .rd 1 apA ap.length apC ap]) hS110 [0, 1, 2, 3] (by decide) rfl)⟩
              ·
                rintro a160 w161 ⟨hi165, hi166, hE162, hS163⟩; clear hE105 hS96
                refine p_tn ?_
                refine c_reg ?_
                refine q_step (v := .slice out5L2A ((out5L2).length) out5L2C) hE162 (y_move rfl) rfl rfl rfl ?_; intro a167 hE168; clear hE162
                refine q_step (v := .int .i64 ((F_productOf_L3 ap bp t21 t27L2 (Int.toNat (((F_membersOf (gI ap t21)).length : Int) - 0) + 1) 0 0).1)) hE168 (y_move rfl) rfl rfl rfl ?_; intro a169 hE170; clear hE168
                refine l_step hE170 rfl (l_lit (e := 2) (s := 1) (xs := [(F_productOf_L3 ap bp t21 t27L2 (Int.toNat (((F_membersOf (gI ap t21)).length : Int) - 0) + 1) 0 0).1]) (vs := [.int .i64 ((F_productOf_L3 ap bp t21 t27L2 (Int.toNat (((F_membersOf (gI ap t21)).length : Int) - 0) + 1) 0 0).1)]) hS163 hE170 rfl (fun _ => by kernel_rfl) rfl rfl rfl ?_)
                intro b171 w172 hS175 he176 a173 hE174; clear hS163 hE170
                obtain ⟨_, hi1, hi2, hi3, hi4⟩ := info_parts (show (Try.prog.info? 2).map (fun i => (i.zero, i.size, i.bytes)) = some (some (.int .i64 0), 1, 8) by kernel_rfl)
                refine l_step hE174 rfl (l_append (k := 2) (n' := (out5L2 ++ ([(F_productOf_L3 ap bp t21 t27L2 (Int.toNat (((F_membersOf (gI ap t21)).length : Int) - 0) + 1) 0 0).1])).length) hS175 hE174 (by kernel_rfl) hi1 hi2 hi3 rfl (by decide) (by rw [hi4]; decide) rfl rfl rfl (St.rdO (i := 0) hS175 rfl) (by first | omega | (simp only [List.length_append, List.length_cons, List.length_nil]; omega)) (by have h1 := (St.rdO (i := 2) hS175 rfl).len1; have h2 := (St.rdO (i := 0) hS175 rfl).len1; rw [List.length_append, h1, h2]) rfl ?_)
                intro b177 c183 w178 hS181 a179 hE180; clear hS175 hE174 hi1 hi2 hi3 hi4
                refine q_step (v := .slice b177 ((out5L2 ++ ([(F_productOf_L3 ap bp t21 t27L2 (Int.toNat (((F_membersOf (gI ap t21)).length : Int) - 0) + 1) 0 0).1])).length) c183) hE180 (y_assign rfl) rfl rfl rfl ?_; intro a184 hE185; clear hE180
                refine c_nil ?_
                have hE186 := hE185.sub (L' := [(1, .slice bpA bp.length bpC), (5, .slice b177 ((out5L2 ++ ([(F_productOf_L3 ap bp t21 t27L2 (Int.toNat (((F_membersOf (gI ap t21)).length : Int) - 0) + 1) 0 0).1])).length) c183), (7, .int .i64 (gI ap t21)), (19, .slice apA ap.length apC), (20, .int .i64 (ap.length : Int)), (21, .int .i64 t21), (25, .slice bpA bp.length bpC), (26, .int .i64 (bp.length : Int)), (27, .int .i64 t27L2)]) ⟨rfl, rfl, rfl, rfl, rfl, rfl, rfl, rfl, rfl, trivial⟩; clear hE185
                refine p_bn ?_
                refine p_tn ?_
                refine c_reg ?_
                refine q_step (v := .int .i64 (t27L2 + 1)) hE186 (y_add rfl rfl ⟨(by omega), (by omega)⟩) rfl rfl rfl ?_; intro a187 hE188; clear hE186
                refine q_step (v := .int .i64 (t27L2 + 1)) hE188 (y_move rfl) rfl rfl rfl ?_; intro a189 hE190; clear hE188
                refine c_nil ?_
                have hE191 := hE190.sub (L' := [(1, .slice bpA bp.length bpC), (5, .slice b177 ((out5L2 ++ ([(F_productOf_L3 ap bp t21 t27L2 (Int.toNat (((F_membersOf (gI ap t21)).length : Int) - 0) + 1) 0 0).1])).length) c183), (7, .int .i64 (gI ap t21)), (19, .slice apA ap.length apC), (20, .int .i64 (ap.length : Int)), (21, .int .i64 t21), (25, .slice bpA bp.length bpC), (26, .int .i64 (bp.length : Int)), (27, .int .i64 (t27L2 + 1))]) ⟨rfl, rfl, rfl, rfl, rfl, rfl, rfl, rfl, rfl, trivial⟩; clear hE190
                refine p_tn ⟨r73, Nat.lt_succ_self _, out5L2 ++ ([(F_productOf_L3 ap bp t21 t27L2 (Int.toNat (((F_membersOf (gI ap t21)).length : Int) - 0) + 1) 0 0).1]), t27L2 + 1, b177, c183, (hT68.symm.trans (show F_productOf_L2b ap bp t21 (F_productOf_L2 ap bp t21 r73) out5L2 t27L2 = F_productOf_L2 ap bp t21 r73 (out5L2 ++ ([(F_productOf_L3 ap bp t21 t27L2 (Int.toNat (((F_membersOf (gI ap t21)).length : Int) - 0) + 1) 0 0).1])) (t27L2 + 1) by unfold F_productOf_L2b; rw [ht77]; first | done | rfl)).symm, (by omega), (by first | omega | (simp only [List.length_append, List.length_cons, List.length_nil, sI_len, cond_true, cond_false]; omega) | (simp only [List.length_append, List.length_cons, List.length_nil, sI_len, cond_eq_ite, apply_ite List.length]; split <;> simp only [List.length_append, List.length_cons, List.length_nil, sI_len] <;> omega) | grind), (by first | omega | (simp only [List.length_append, List.length_cons, List.length_nil, sI_len, cond_true, cond_false]; omega) | (simp only [List.length_append, List.length_cons, List.length_nil, sI_len, cond_eq_ite, apply_ite List.length]; split <;> simp only [List.length_append, List.length_cons, List.length_nil, sI_len] <;> omega) | grind), (by first | omega | (simp only [List.length_append, List.length_cons, List.length_nil, sI_len, cond_true, cond_false]; omega) | (simp only [List.length_append, List.length_cons, List.length_nil, sI_len, cond_eq_ite, apply_ite List.length]; split <;> simp only [List.length_append, List.length_cons, List.length_nil, sI_len] <;> omega) | grind), (hE191.sub (L' := [(1, .slice bpA bp.length bpC), (5, .slice b177 ((out5L2 ++ ([(F_productOf_L3 ap bp t21 t27L2 (Int.toNat (((F_membersOf (gI ap t21)).length : Int) - 0) + 1) 0 0).1])).length) c183), (7, .int .i64 (gI ap t21)), (19, .slice apA ap.length apC), (20, .int .i64 (ap.length : Int)), (21, .int .i64 t21), (25, .slice bpA bp.length bpC), (26, .int .i64 (bp.length : Int)), (27, .int .i64 (t27L2 + 1))]) ⟨rfl, rfl, rfl, rfl, rfl, rfl, rfl, rfl, rfl, trivial⟩), (St.pick (Γ' := [.own 2 1 b177 ((out5L2 ++ ([(F_productOf_L3 ap bp t21 t27L2 (Int.toNat (((F_membersOf (gI ap t21)).length : Int) - 0) + 1) 0 0).1])).length) c183 (out5L2 ++ ([(F_productOf_L3 ap bp t21 t27L2 (Int.toNat (((F_membersOf (gI ap t21)).length : Int) - 0) + 1) 0 0).1])), .rd 1 bpA bp.length bpC bp, .rd 1 apA ap.length apC ap]) hS181 [2, 3, 4] (by decide) rfl)⟩
            ·
              have hp192 := of_decide_eq_false ht77
              have hE193 := hE76; rw [ht77] at hE193; clear hE76
              refine wp_exit ?_
              refine p_te ?_
              have hX194 : F_productOf_L2 ap bp t21 (Int.toNat ((bp.length : Int) - 0) + 1) out5 0 = (out5L2, t27L2) := hT68.symm.trans (show F_productOf_L2b ap bp t21 (F_productOf_L2 ap bp t21 r73) out5L2 t27L2 = (out5L2, t27L2) by unfold F_productOf_L2b; rw [ht77]; first | done | rfl)
              refine p_te (p_be (p_tn ?_))
              exact ⟨out5L2A, out5L2C, (by rw [hX194]; exact (show 0 ≤ t27L2 from (by first | omega | (simp only [List.length_append, List.length_cons, List.length_nil, sI_len, cond_true, cond_false]; omega) | (simp only [List.length_append, List.length_cons, List.length_nil, sI_len, cond_eq_ite, apply_ite List.length]; split <;> simp only [List.length_append, List.length_cons, List.length_nil, sI_len] <;> omega) | grind))), (by rw [hX194]; exact (show t27L2 ≤ (bp.length : Int) from (by first | omega | (simp only [List.length_append, List.length_cons, List.length_nil, sI_len, cond_true, cond_false]; omega) | (simp only [List.length_append, List.length_cons, List.length_nil, sI_len, cond_eq_ite, apply_ite List.length]; split <;> simp only [List.length_append, List.length_cons, List.length_nil, sI_len] <;> omega) | grind))), (by rw [hX194]; exact (show (out5L2.length : Int) ≤ 8 * t21 + t27L2 from (by first | omega | (simp only [List.length_append, List.length_cons, List.length_nil, sI_len, cond_true, cond_false]; omega) | (simp only [List.length_append, List.length_cons, List.length_nil, sI_len, cond_eq_ite, apply_ite List.length]; split <;> simp only [List.length_append, List.length_cons, List.length_nil, sI_len] <;> omega) | grind))), (by rw [hX194]; exact (hE193.sub (L' := [(1, .slice bpA bp.length bpC), (5, .slice out5L2A ((out5L2).length) out5L2C), (7, .int .i64 (gI ap t21)), (19, .slice apA ap.length apC), (20, .int .i64 (ap.length : Int)), (21, .int .i64 t21), (25, .slice bpA bp.length bpC), (26, .int .i64 (bp.length : Int)), (27, .int .i64 t27L2)]) ⟨rfl, rfl, rfl, rfl, rfl, rfl, rfl, rfl, rfl, trivial⟩)), (by rw [hX194]; exact (St.pick (Γ' := [.own 2 1 out5L2A ((out5L2).length) out5L2C out5L2, .rd 1 bpA bp.length bpC bp, .rd 1 apA ap.length apC ap]) hS67 [0, 1, 2] (by decide) rfl))⟩
        ·
          rintro a195 w196 ⟨out5L2A_63, out5L2C_63, hi200, hi201, hi202, hE197, hS198⟩; clear hE62 hS36
          refine p_bn ?_
          refine p_tn ?_
          refine c_reg ?_
          refine q_step (v := .int .i64 (t21 + 1)) hE197 (y_add rfl rfl ⟨(by omega), (by omega)⟩) rfl rfl rfl ?_; intro a203 hE204; clear hE197
          refine q_step (v := .int .i64 (t21 + 1)) hE204 (y_move rfl) rfl rfl rfl ?_; intro a205 hE206; clear hE204
          refine c_nil ?_
          have hE207 := hE206.sub (L' := [(1, .slice bpA bp.length bpC), (5, .slice out5L2A_63 (((F_productOf_L2 ap bp t21 (Int.toNat ((bp.length : Int) - 0) + 1) out5 0).1).length) out5L2C_63), (19, .slice apA ap.length apC), (20, .int .i64 (ap.length : Int)), (21, .int .i64 (t21 + 1))]) ⟨rfl, rfl, rfl, rfl, rfl, trivial⟩; clear hE206
          refine p_tn ⟨r42, Nat.lt_succ_self _, (F_productOf_L2 ap bp t21 (Int.toNat ((bp.length : Int) - 0) + 1) out5 0).1, t21 + 1, out5L2A_63, out5L2C_63, (hT37.symm.trans (show F_productOf_L1b ap bp (F_productOf_L1 ap bp r42) out5 t21 = F_productOf_L1 ap bp r42 ((F_productOf_L2 ap bp t21 (Int.toNat ((bp.length : Int) - 0) + 1) out5 0).1) (t21 + 1) by unfold F_productOf_L1b; rw [ht46]; first | done | rfl)).symm, (by omega), (by first | omega | (simp only [List.length_append, List.length_cons, List.length_nil, sI_len, cond_true, cond_false]; omega) | (simp only [List.length_append, List.length_cons, List.length_nil, sI_len, cond_eq_ite, apply_ite List.length]; split <;> simp only [List.length_append, List.length_cons, List.length_nil, sI_len] <;> omega) | grind), (by first | omega | (simp only [List.length_append, List.length_cons, List.length_nil, sI_len, cond_true, cond_false]; omega) | (simp only [List.length_append, List.length_cons, List.length_nil, sI_len, cond_eq_ite, apply_ite List.length]; split <;> simp only [List.length_append, List.length_cons, List.length_nil, sI_len] <;> omega) | grind), (by first | omega | (simp only [List.length_append, List.length_cons, List.length_nil, sI_len, cond_true, cond_false]; omega) | (simp only [List.length_append, List.length_cons, List.length_nil, sI_len, cond_eq_ite, apply_ite List.length]; split <;> simp only [List.length_append, List.length_cons, List.length_nil, sI_len] <;> omega) | grind), (hE207.sub (L' := [(1, .slice bpA bp.length bpC), (5, .slice out5L2A_63 (((F_productOf_L2 ap bp t21 (Int.toNat ((bp.length : Int) - 0) + 1) out5 0).1).length) out5L2C_63), (19, .slice apA ap.length apC), (20, .int .i64 (ap.length : Int)), (21, .int .i64 (t21 + 1))]) ⟨rfl, rfl, rfl, rfl, rfl, trivial⟩), (St.pick (Γ' := [.own 2 1 out5L2A_63 (((F_productOf_L2 ap bp t21 (Int.toNat ((bp.length : Int) - 0) + 1) out5 0).1).length) out5L2C_63 ((F_productOf_L2 ap bp t21 (Int.toNat ((bp.length : Int) - 0) + 1) out5 0).1), .rd 1 bpA bp.length bpC bp, .rd 1 apA ap.length apC ap]) hS198 [0, 1, 2] (by decide) rfl)⟩
      ·
        have hp208 := of_decide_eq_false ht46
        have hE209 := hE45; rw [ht46] at hE209; clear hE45
        refine wp_exit ?_
        refine p_te ?_
        have hX210 : F_productOf_L1 ap bp (Int.toNat ((ap.length : Int) - 0) + 1) ([]) 0 = (out5, t21) := hT37.symm.trans (show F_productOf_L1b ap bp (F_productOf_L1 ap bp r42) out5 t21 = (out5, t21) by unfold F_productOf_L1b; rw [ht46]; first | done | rfl)
        refine p_te (p_be (p_tn ?_))
        exact ⟨out5A, out5C, (by rw [hX210]; exact (show 0 ≤ t21 from (by first | omega | (simp only [List.length_append, List.length_cons, List.length_nil, sI_len, cond_true, cond_false]; omega) | (simp only [List.length_append, List.length_cons, List.length_nil, sI_len, cond_eq_ite, apply_ite List.length]; split <;> simp only [List.length_append, List.length_cons, List.length_nil, sI_len] <;> omega) | grind))), (by rw [hX210]; exact (show t21 ≤ (ap.length : Int) from (by first | omega | (simp only [List.length_append, List.length_cons, List.length_nil, sI_len, cond_true, cond_false]; omega) | (simp only [List.length_append, List.length_cons, List.length_nil, sI_len, cond_eq_ite, apply_ite List.length]; split <;> simp only [List.length_append, List.length_cons, List.length_nil, sI_len] <;> omega) | grind))), (by rw [hX210]; exact (show (out5.length : Int) ≤ 8 * t21 from (by first | omega | (simp only [List.length_append, List.length_cons, List.length_nil, sI_len, cond_true, cond_false]; omega) | (simp only [List.length_append, List.length_cons, List.length_nil, sI_len, cond_eq_ite, apply_ite List.length]; split <;> simp only [List.length_append, List.length_cons, List.length_nil, sI_len] <;> omega) | grind))), (by rw [hX210]; exact (hE209.sub (L' := [(1, .slice bpA bp.length bpC), (5, .slice out5A ((out5).length) out5C), (19, .slice apA ap.length apC), (20, .int .i64 (ap.length : Int)), (21, .int .i64 t21)]) ⟨rfl, rfl, rfl, rfl, rfl, trivial⟩)), (by rw [hX210]; exact (St.pick (Γ' := [.own 2 1 out5A ((out5).length) out5C out5, .rd 1 bpA bp.length bpC bp, .rd 1 apA ap.length apC ap]) hS36 [0, 1, 2] (by decide) rfl))⟩
  ·
    rintro a211 w212 ⟨out5A_32, out5C_32, hi216, hi217, hi218, hE213, hS214⟩; clear hE31 hS20
    refine p_tn ?_
    refine c_seq ?_
    refine c_reg ?_
    refine q_step (v := .slice out5A_32 (((F_productOf_L1 ap bp (Int.toNat ((ap.length : Int) - 0) + 1) ([]) 0).1).length) out5C_32) hE213 (y_move rfl) rfl rfl rfl ?_; intro a219 hE220; clear hE213
    refine q_step (v := .slice out5A_32 (((F_productOf_L1 ap bp (Int.toNat ((ap.length : Int) - 0) + 1) ([]) 0).1).length) out5C_32) hE220 (y_assign rfl) rfl rfl rfl ?_; intro a221 hE222; clear hE220
    refine c_nil ?_
    have hE223 := hE222.sub (L' := [(4, .slice out5A_32 (((F_productOf_L1 ap bp (Int.toNat ((ap.length : Int) - 0) + 1) ([]) 0).1).length) out5C_32)]) ⟨rfl, trivial⟩; clear hE222
    refine p_tn ?_
    refine wp_ret ?_
    have hF : F_productOf ap bp = (F_productOf_L1 ap bp (Int.toNat ((ap.length : Int) - 0) + 1) ([]) 0).1 := by unfold F_productOf; rfl
    refine c_ret1 hE223 rfl rfl ?_
    exact ⟨out5A_32, out5C_32, (by rw [hF]; first | done | rfl), (by rw [hF]; exact hS214.ok 0 _ rfl), hS214.ext⟩

def F_ProductFrames (fp0 : Int) (fp1 : List Int) (gp0 : Int) (gp1 : List Int) : (Int × List Int) × (Int) :=
  bif ((!(F_isFrame fp0 fp1)) || (!(F_isFrame gp0 gp1))) then ((0, []), 1) else (bif (decide (8 < (fp0 * gp0))) then ((0, []), 3) else (((F_frameOf (F_productOf fp1 gp1)).1, F_productOf fp1 gp1), 0))
theorem cf_ProductFrames (args : Array Value) (w : World) : (callFunc 47 args).run Try.prog w = .ok (.enter 47 args) w := by kernel_rfl
set_option maxRecDepth 100000 in
theorem c_ProductFrames (fp0 : Int) (fp1A : Option Addr) (fp1N fp1C : Nat) (fp1 : List Int) (gp0 : Int) (gp1A : Option Addr) (gp1N gp1C : Nat) (gp1 : List Int) (w : World) (fp1R : RdS w 1 fp1A fp1N fp1C fp1) (gp1R : RdS w 1 gp1A gp1N gp1C gp1) :
    Calls Try.prog 47 #[.agg #[.int .i64 fp0, .slice fp1A fp1N fp1C], .agg #[.int .i64 gp0, .slice gp1A gp1N gp1C]] w (Ret fun v w' => ∃ b1 : Option Addr, ∃ c1 : Nat, v = .tuple #[.agg #[.int .i64 (((F_ProductFrames fp0 fp1 gp0 gp1).1).1), .slice b1 (((F_ProductFrames fp0 fp1 gp0 gp1).1).2).length c1], .int .i64 ((F_ProductFrames fp0 fp1 gp0 gp1).2)] ∧ OwnS w' w.heap.size 2 1 b1 (((F_ProductFrames fp0 fp1 gp0 gp1).1).2).length c1 (((F_ProductFrames fp0 fp1 gp0 gp1).1).2) ∧ Ext w w') := by
  obtain rfl : fp1N = fp1.length := fp1R.len1.symm
  have fp1Le := fp1R.le
  obtain rfl : gp1N = gp1.length := gp1R.len1.symm
  have gp1Le := gp1R.le
  have hS := St.nil w
  have hS1 := St.rd0 hS rfl fp1R; clear hS
  have hS2 := St.rd0 hS1 rfl gp1R; clear hS1
  refine enter (args := [.agg #[.int .i64 fp0, .slice fp1A fp1.length fp1C], .agg #[.int .i64 gp0, .slice gp1A gp1.length gp1C]]) Try.func47 rfl rfl ?_
  rw [Try.ntmps47]; intro a hE
  have hE := hE.sub (L' := [(0, .agg #[.int .i64 fp0, .slice fp1A fp1.length fp1C]), (1, .agg #[.int .i64 gp0, .slice gp1A gp1.length gp1C])]) ⟨rfl, rfl, trivial⟩
  refine c_seq ?_
  refine c_reg ?_
  refine l_step hE rfl (l_box (v := .agg #[.int .i64 fp0, .slice fp1A fp1.length fp1C]) (cs := #[.int .i64 fp0, .slice fp1A fp1.length fp1C]) hS2 hE rfl rfl rfl ?_)
  intro b3 w4 hS7 he8 a5 hE6; clear hS2 hE
  refine l_step hE6 rfl (l_box (v := .agg #[.int .i64 gp0, .slice gp1A gp1.length gp1C]) (cs := #[.int .i64 gp0, .slice gp1A gp1.length gp1C]) hS7 hE6 rfl rfl rfl ?_)
  intro b9 w10 hS13 he14 a11 hE12; clear hS7 hE6
  refine l_step hE12 rfl (l_alloc (z := .agg #[.int .i64 0, .slice none 0 0]) (cs := #[.int .i64 0, .slice none 0 0]) hS13 hE12 (fun _ => by kernel_rfl) rfl rfl ?_)
  intro b15 w16 hS19 he20 a17 hE18; clear hS13 hE12
  refine q_step (v := .int .i64 0) hE18 (y_assign rfl) rfl rfl rfl ?_; intro a21 hE22; clear hE18
  refine c_nil ?_
  have hE23 := hE22.sub (L' := [(2, .pointer (some ⟨b3, 0, none⟩)), (3, .pointer (some ⟨b9, 0, none⟩)), (4, .pointer (some ⟨b15, 0, none⟩))]) ⟨rfl, rfl, rfl, trivial⟩; clear hE22
  refine p_tn ?_
  refine c_seq ?_
  refine wp_block ?_
  refine c_cut (fun a' w' => E a' 30 [(2, .pointer (some ⟨b3, 0, none⟩)), (3, .pointer (some ⟨b9, 0, none⟩)), (4, .pointer (some ⟨b15, 0, none⟩)), (6, .bool ((!(F_isFrame fp0 fp1)) || (!(F_isFrame gp0 gp1))))] ∧ St w w' [.blk b15 #[.int .i64 0, .slice none 0 0] 53, .rd 1 gp1A gp1.length gp1C gp1, .blk b9 #[.int .i64 gp0, .slice gp1A gp1.length gp1C] 53, .rd 1 fp1A fp1.length fp1C fp1, .blk b3 #[.int .i64 fp0, .slice fp1A fp1.length fp1C] 53]) ?_ ?_
  ·
    refine c_reg ?_
    refine q_step (v := .agg #[.int .i64 fp0, .slice fp1A fp1.length fp1C]) hE23 (y_loadS Try.underlying53 rfl (by kernel_rfl) rfl (St.row (i := 2) hS19 rfl)) rfl rfl rfl ?_; intro a24 hE25; clear hE23
    refine l_step hE25 rfl (l_call (f := 82) (argv := [.agg #[.int .i64 fp0, .slice fp1A fp1.length fp1C]]) hE25 (fun _ => cf_isFrame _ _) rfl rfl (c_isFrame fp0 fp1A fp1.length fp1C fp1 w16 (St.rdR (i := 4) hS19 rfl)) ?_)
    rintro _ w27 ⟨rfl, he31⟩ a28 hE29; clear hE25
    have hS30 := St.go hS19 he31; clear hS19
    refine q_step (v := .bool (!(F_isFrame fp0 fp1))) hE29 (y_not rfl) rfl rfl rfl ?_; intro a32 hE33; clear hE29
    refine q_step (v := .bool (!(F_isFrame fp0 fp1))) hE33 (y_move rfl) rfl rfl rfl ?_; intro a34 hE35; clear hE33
    rcases Bool.eq_false_or_eq_true (!(F_isFrame fp0 fp1)) with hb36 | hb36
    ·
      have hE37 := hE35; rw [hb36] at hE37; clear hE35
      have ht38 := bn_t hb36
      refine q_skip hE37 rfl rfl rfl ?_; intro a39 hE40; clear hE37
      refine q_skip hE40 rfl rfl rfl ?_; intro a41 hE42; clear hE40
      refine q_skip hE42 rfl rfl rfl ?_; intro a43 hE44; clear hE42
      refine q_step (v := .bool true) hE44 (y_pick (b := true) rfl rfl) rfl rfl rfl ?_; intro a45 hE46; clear hE44
      refine q_step (v := .bool true) hE46 (y_assign rfl) rfl rfl rfl ?_; intro a47 hE48; clear hE46
      refine c_nil ?_
      have hE49 := hE48.sub (L' := [(2, .pointer (some ⟨b3, 0, none⟩)), (3, .pointer (some ⟨b9, 0, none⟩)), (4, .pointer (some ⟨b15, 0, none⟩)), (6, .bool true)]) ⟨rfl, rfl, rfl, rfl, trivial⟩; clear hE48
      refine p_tn ?_
      have hE50 := hE49.sub (L' := [(2, .pointer (some ⟨b3, 0, none⟩)), (3, .pointer (some ⟨b9, 0, none⟩)), (4, .pointer (some ⟨b15, 0, none⟩)), (6, .bool true)]) ⟨rfl, rfl, rfl, rfl, trivial⟩
      have hS51 := (St.pick (Γ' := [.blk b15 #[.int .i64 0, .slice none 0 0] 53, .rd 1 gp1A gp1.length gp1C gp1, .blk b9 #[.int .i64 gp0, .slice gp1A gp1.length gp1C] 53, .rd 1 fp1A fp1.length fp1C fp1, .blk b3 #[.int .i64 fp0, .slice fp1A fp1.length fp1C] 53]) hS30 [0, 3, 1, 4, 2] (by decide) rfl)
      exact ⟨(by rw [hb36]; exact hE50), hS51⟩
    ·
      have hE52 := hE35; rw [hb36] at hE52; clear hE35
      have ht53 := bn_f hb36
      have hp54 := isFrame_t ht53
      refine q_step (v := .agg #[.int .i64 gp0, .slice gp1A gp1.length gp1C]) hE52 (y_loadS Try.underlying53 rfl (by kernel_rfl) rfl (St.row (i := 1) hS30 rfl)) rfl rfl rfl ?_; intro a55 hE56; clear hE52
      refine l_step hE56 rfl (l_call (f := 82) (argv := [.agg #[.int .i64 gp0, .slice gp1A gp1.length gp1C]]) hE56 (fun _ => cf_isFrame _ _) rfl rfl (c_isFrame gp0 gp1A gp1.length gp1C gp1 w27 (St.rdR (i := 3) hS30 rfl)) ?_)
      rintro _ w58 ⟨rfl, he62⟩ a59 hE60; clear hE56
      have hS61 := St.go hS30 he62; clear hS30
      refine q_step (v := .bool (!(F_isFrame gp0 gp1))) hE60 (y_not rfl) rfl rfl rfl ?_; intro a63 hE64; clear hE60
      refine q_step (v := .bool (!(F_isFrame gp0 gp1))) hE64 (y_pick (b := false) rfl rfl) rfl rfl rfl ?_; intro a65 hE66; clear hE64
      refine q_step (v := .bool (!(F_isFrame gp0 gp1))) hE66 (y_assign rfl) rfl rfl rfl ?_; intro a67 hE68; clear hE66
      refine c_nil ?_
      have hE69 := hE68.sub (L' := [(2, .pointer (some ⟨b3, 0, none⟩)), (3, .pointer (some ⟨b9, 0, none⟩)), (4, .pointer (some ⟨b15, 0, none⟩)), (6, .bool (!(F_isFrame gp0 gp1)))]) ⟨rfl, rfl, rfl, rfl, trivial⟩; clear hE68
      refine p_tn ?_
      have hE70 := hE69.sub (L' := [(2, .pointer (some ⟨b3, 0, none⟩)), (3, .pointer (some ⟨b9, 0, none⟩)), (4, .pointer (some ⟨b15, 0, none⟩)), (6, .bool (!(F_isFrame gp0 gp1)))]) ⟨rfl, rfl, rfl, rfl, trivial⟩
      have hS71 := (St.pick (Γ' := [.blk b15 #[.int .i64 0, .slice none 0 0] 53, .rd 1 gp1A gp1.length gp1C gp1, .blk b9 #[.int .i64 gp0, .slice gp1A gp1.length gp1C] 53, .rd 1 fp1A fp1.length fp1C fp1, .blk b3 #[.int .i64 fp0, .slice fp1A fp1.length fp1C] 53]) hS61 [0, 3, 1, 4, 2] (by decide) rfl)
      exact ⟨(by rw [hb36]; exact hE70), hS71⟩
  ·
    rintro a72 w73 ⟨hE74, hS75⟩; clear hE23 hS19
    refine c_cond hE74 rfl (fun ht76 => ?_) (fun ht76 => ?_)
    ·
      have hE77 := hE74; rw [ht76] at hE77; clear hE74
      refine c_seq ?_
      refine c_reg ?_
      refine q_step (v := .agg #[.int .i64 0, .slice none 0 0]) hE77 (y_build (vs := #[]) (fun a n hE => by simp) (fun _ => by kernel_rfl)) rfl rfl rfl ?_; intro a78 hE79; clear hE77
      refine l_step hE79 rfl (l_storeS (k := 0) (cs' := #[.int .i64 0, .slice none 0 0]) hS75 hE79 (by kernel_rfl) rfl rfl (by kernel_rfl) rfl rfl ?_)
      intro w81 hS84 a82 hE83; clear hS75 hE79
      refine q_step (v := .int .i64 1) hE83 (y_assign rfl) rfl rfl rfl ?_; intro a86 hE87; clear hE83
      refine c_nil ?_
      have hE88 := hE87.sub (L' := [(4, .pointer (some ⟨b15, 0, none⟩)), (5, .int .i64 1)]) ⟨rfl, rfl, trivial⟩; clear hE87
      refine p_tn ?_
      refine wp_ret ?_
      refine p_br ?_
      refine p_tr ?_
      have hF : F_ProductFrames fp0 fp1 gp0 gp1 = ((0, []), 1) := by unfold F_ProductFrames; rw [ht76]; first | done | rfl
      refine c_retC2 hE88 rfl rfl rfl Try.underlying53 rfl (by kernel_rfl) (St.row (i := 0) hS84 rfl _ (Ext.refl _)) ?_
      exact ⟨none, 0, (by rw [hF]; first | done | rfl), (by rw [hF]; exact OwnS.nilS _ _ _ _), hS84.ext⟩
    ·
      obtain ⟨ht89, ht90⟩ := bor_f ht76
      have ht91 := bn_f ht89
      have hp92 := isFrame_t ht91
      have ht93 := bn_f ht90
      have hp94 := isFrame_t ht93
      have hE95 := hE74; rw [ht76] at hE95; clear hE74
      refine c_seq ?_
      refine c_reg ?_
      refine q_step (v := .pointer (some ⟨b3, 0, none⟩)) hE95 (y_field rfl (fun _ => by kernel_rfl)) rfl rfl rfl ?_; intro a96 hE97; clear hE95
      refine q_step (v := .int .i64 fp0) hE97 (y_load (fun _ => by kernel_rfl) rfl (St.cell (i := 4) hS75 rfl rfl)) rfl rfl rfl ?_; intro a98 hE99; clear hE97
      refine q_step (v := .pointer (some ⟨b9, 0, none⟩)) hE99 (y_field rfl (fun _ => by kernel_rfl)) rfl rfl rfl ?_; intro a100 hE101; clear hE99
      refine q_step (v := .int .i64 gp0) hE101 (y_load (fun _ => by kernel_rfl) rfl (St.cell (i := 2) hS75 rfl rfl)) rfl rfl rfl ?_; intro a102 hE103; clear hE101
      refine q_step (v := .int .i64 (fp0 * gp0)) hE103 (y_mul rfl rfl ⟨(by first | omega | (have hmul := mul_bd (a := fp0) (b := gp0) (by omega) (by omega) (by omega) (by omega); omega)), (by first | omega | (have hmul := mul_bd (a := fp0) (b := gp0) (by omega) (by omega) (by omega) (by omega); omega))⟩) rfl rfl rfl ?_; intro a104 hE105; clear hE103
      refine q_step (v := .bool (decide (8 < (fp0 * gp0)))) hE105 (y_gtr rfl rfl) rfl rfl rfl ?_; intro a106 hE107; clear hE105
      refine q_step (v := .bool (decide (8 < (fp0 * gp0)))) hE107 (y_assign rfl) rfl rfl rfl ?_; intro a108 hE109; clear hE107
      refine c_nil ?_
      have hE110 := hE109.sub (L' := [(2, .pointer (some ⟨b3, 0, none⟩)), (3, .pointer (some ⟨b9, 0, none⟩)), (4, .pointer (some ⟨b15, 0, none⟩)), (16, .bool (decide (8 < (fp0 * gp0))))]) ⟨rfl, rfl, rfl, rfl, trivial⟩; clear hE109
      refine p_tn ?_
      refine c_cond hE110 rfl (fun ht111 => ?_) (fun ht111 => ?_)
      ·
        have hp112 := of_decide_eq_true ht111
        have hE113 := hE110; rw [ht111] at hE113; clear hE110
        refine c_seq ?_
        refine c_reg ?_
        refine q_step (v := .agg #[.int .i64 0, .slice none 0 0]) hE113 (y_build (vs := #[]) (fun a n hE => by simp) (fun _ => by kernel_rfl)) rfl rfl rfl ?_; intro a114 hE115; clear hE113
        refine l_step hE115 rfl (l_storeS (k := 0) (cs' := #[.int .i64 0, .slice none 0 0]) hS75 hE115 (by kernel_rfl) rfl rfl (by kernel_rfl) rfl rfl ?_)
        intro w117 hS120 a118 hE119; clear hS75 hE115
        refine q_step (v := .int .i64 3) hE119 (y_assign rfl) rfl rfl rfl ?_; intro a122 hE123; clear hE119
        refine c_nil ?_
        have hE124 := hE123.sub (L' := [(4, .pointer (some ⟨b15, 0, none⟩)), (5, .int .i64 3)]) ⟨rfl, rfl, trivial⟩; clear hE123
        refine p_tn ?_
        refine wp_ret ?_
        refine p_br ?_
        refine p_tr ?_
        have hF : F_ProductFrames fp0 fp1 gp0 gp1 = ((0, []), 3) := by unfold F_ProductFrames; rw [ht111, ht76]; first | done | rfl
        refine c_retC2 hE124 rfl rfl rfl Try.underlying53 rfl (by kernel_rfl) (St.row (i := 0) hS120 rfl _ (Ext.refl _)) ?_
        exact ⟨none, 0, (by rw [hF]; first | done | rfl), (by rw [hF]; exact OwnS.nilS _ _ _ _), hS120.ext⟩
      ·
        have hp125 := of_decide_eq_false ht111
        have hE126 := hE110; rw [ht111] at hE126; clear hE110
        refine wp_skip ?_
        refine p_bn ?_
        refine p_tn ?_
        refine c_seq ?_
        refine c_reg ?_
        refine q_step (v := .pointer (some ⟨b3, 1, none⟩)) hE126 (y_field rfl (fun _ => by kernel_rfl)) rfl rfl rfl ?_; intro a127 hE128; clear hE126
        refine q_step (v := .slice fp1A fp1.length fp1C) hE128 (y_load (fun _ => by kernel_rfl) rfl (St.cell (i := 4) hS75 rfl rfl)) rfl rfl rfl ?_; intro a129 hE130; clear hE128
        refine q_step (v := .pointer (some ⟨b9, 1, none⟩)) hE130 (y_field rfl (fun _ => by kernel_rfl)) rfl rfl rfl ?_; intro a131 hE132; clear hE130
        refine q_step (v := .slice gp1A gp1.length gp1C) hE132 (y_load (fun _ => by kernel_rfl) rfl (St.cell (i := 2) hS75 rfl rfl)) rfl rfl rfl ?_; intro a133 hE134; clear hE132
        refine l_step hE134 rfl (l_call (f := 88) (argv := [.slice fp1A fp1.length fp1C, .slice gp1A gp1.length gp1C]) hE134 (fun _ => cf_productOf _ _) rfl rfl (c_productOf fp1A fp1.length fp1C fp1 gp1A gp1.length gp1C gp1 w73 (St.rdR (i := 3) hS75 rfl) (St.rdR (i := 1) hS75 rfl) (by first | omega | (have hmul := mul_bd (a := fp0) (b := gp0) (by omega) (by omega) (by omega) (by omega); omega)) (by first | omega | (have hmul := mul_bd (a := fp0) (b := gp0) (by omega) (by omega) (by omega) (by omega); omega)) (frame_m (by assumption))) ?_)
        rintro _ w136 ⟨b141, c142, rfl, ho143, he140⟩ a137 hE138; clear hE134
        have hS139 := St.own hS75 he140 ho143; clear hS75
        refine l_step hE138 rfl (l_call (f := 84) (argv := [.slice b141 ((F_productOf fp1 gp1).length) c142]) hE138 (fun _ => cf_frameOf _ _) rfl rfl (c_frameOf b141 ((F_productOf fp1 gp1).length) c142 (F_productOf fp1 gp1) w136 (St.rdO (i := 0) hS139 rfl)) ?_)
        rintro _ w145 ⟨rfl, he149⟩ a146 hE147; clear hE138
        have hS148 := St.go hS139 he149; clear hS139
        refine l_step hE147 rfl (l_storeS (k := 1) (cs' := #[.int .i64 ((F_frameOf (F_productOf fp1 gp1)).1), .slice b141 ((F_productOf fp1 gp1).length) c142]) hS148 hE147 (by kernel_rfl) rfl rfl (by kernel_rfl) rfl rfl ?_)
        intro w151 hS154 a152 hE153; clear hS148 hE147
        refine q_step (v := .int .i64 0) hE153 (y_assign rfl) rfl rfl rfl ?_; intro a156 hE157; clear hE153
        refine c_nil ?_
        have hE158 := hE157.sub (L' := [(4, .pointer (some ⟨b15, 0, none⟩)), (5, .int .i64 0)]) ⟨rfl, rfl, trivial⟩; clear hE157
        refine p_tn ?_
        refine wp_ret ?_
        have hF : F_ProductFrames fp0 fp1 gp0 gp1 = (((F_frameOf (F_productOf fp1 gp1)).1, F_productOf fp1 gp1), 0) := by unfold F_ProductFrames; rw [ht111, ht76]; first | done | rfl
        refine c_retC2 hE158 rfl rfl rfl Try.underlying53 rfl (by kernel_rfl) (St.row (i := 1) hS154 rfl _ (Ext.refl _)) ?_
        exact ⟨b141, c142, (by rw [hF]; first | done | rfl), (by rw [hF]; exact hS154.ok 0 _ rfl), hS154.ext⟩

theorem PF_loop3 {f0 g0 : Int} {f1 g1 : List Int} (h0 : 0 ≤ f0) (h8 : f0 ≤ 8) (hfl : (f1.length : Int) = f0) (hgl : (g1.length : Int) = g0) (hx : ∀ m : Int, 0 ≤ m → m < (f1.length : Int) → 0 ≤ gI f1 m ∧ gI f1 m ≤ fullI f0) (x y : Int) (hx0 : 0 ≤ x) (hx1 : x < f0) :
    (F_productOf_L3 f1 g1 x y (Int.toNat (((F_membersOf (gI f1 x)).length : Int) - 0) + 1) 0 0).1 = (F_s_ProductFrames_L3 f0 f1 g0 g1 x y (Int.toNat (f0 - 0) + 1) 0 0).1 := by
  have hm := hx x hx0 (by omega)
  rw [← hfl] at hm
  rw [listLoop (F_membersOf (gI f1 x)) (fun o m => orI o (shlI (gI g1 y) (m * (g1.length : Int)))) (F_productOf_L3 f1 g1 x y) (fun _ _ _ => rfl), members_fold (n := f1.length) (by omega) hm.1 hm.2,
    rangeLoop0 f0 h0 (fun o z => bif F_l01Bit (gI f1 x) z then orI o (shlI (gI g1 y) (z * g0)) else o) (F_s_ProductFrames_L3 f0 f1 g0 g1 x y) (fun _ _ _ => rfl), show f0.toNat = f1.length by omega, hgl]
  rfl
theorem PF_loop2 {f0 g0 : Int} {f1 g1 : List Int} (h0 : 0 ≤ f0) (h8 : f0 ≤ 8) (hfl : (f1.length : Int) = f0) (hgl : (g1.length : Int) = g0) (hx : ∀ m : Int, 0 ≤ m → m < (f1.length : Int) → 0 ≤ gI f1 m ∧ gI f1 m ≤ fullI f0) (x : Int) (hx0 : 0 ≤ x) (hx1 : x < f0) (r : Nat) (xs : List Int) (y : Int) :
    F_productOf_L2 f1 g1 x r xs y = F_s_ProductFrames_L2 f0 f1 g0 g1 x r xs y := by
  induction r generalizing xs y with
  | zero => rfl
  | succ r ih =>
    show F_productOf_L2b f1 g1 x _ xs y = F_s_ProductFrames_L2b f0 f1 g0 g1 x _ xs y
    unfold F_productOf_L2b F_s_ProductFrames_L2b
    rw [ih, PF_loop3 h0 h8 hfl hgl hx x y hx0 hx1, hgl]
theorem PF_loop1 {f0 g0 : Int} {f1 g1 : List Int} (h0 : 0 ≤ f0) (h8 : f0 ≤ 8) (hfl : (f1.length : Int) = f0) (hgl : (g1.length : Int) = g0) (hx : ∀ m : Int, 0 ≤ m → m < (f1.length : Int) → 0 ≤ gI f1 m ∧ gI f1 m ≤ fullI f0) (r : Nat) (xs : List Int) (x : Int) (hx0 : 0 ≤ x) :
    F_productOf_L1 f1 g1 r xs x = F_s_ProductFrames_L1 f0 f1 g0 g1 r xs x := by
  induction r generalizing xs x with
  | zero => rfl
  | succ r ih =>
    show F_productOf_L1b f1 g1 _ xs x = F_s_ProductFrames_L1b f0 f1 g0 g1 _ xs x
    unfold F_productOf_L1b F_s_ProductFrames_L1b
    by_cases h : x < f0
    · rw [hfl, decide_eq_true h, cond_true, cond_true, PF_loop2 h0 h8 hfl hgl hx x hx0 h, hgl, ih _ _ (by omega)]
    · rw [hfl, decide_eq_false h, cond_false, cond_false]
theorem ProductFrames_eq (f0 : Int) (f1 : List Int) (g0 : Int) (g1 : List Int) : F_ProductFrames f0 f1 g0 g1 = F_s_ProductFrames f0 f1 g0 g1 := by
  unfold F_ProductFrames F_s_ProductFrames F_frameOf F_productOf
  rw [isFrame_eq, isFrame_eq]
  cases h : ((!(F_l05Is f0 f1)) || (!(F_l05Is g0 g1)))
  · obtain ⟨h1, h2⟩ := bor_f h
    have hf := l05Is_t (bn_f h1)
    have hg := l05Is_t (bn_f h2)
    rw [cond_false, cond_false]
    cases h8 : decide (8 < f0 * g0)
    · rw [PF_loop1 hf.1.1 hf.1.2 hf.2 hg.2 (l05Is_m (bn_f h1)) _ _ _ (by omega), hf.2]
    · rw [cond_true, cond_true]
  · rw [cond_true, cond_true]
theorem PF_len2 (f0 g0 : Int) (f1 g1 : List Int) (x : Int) (r : Nat) (xs : List Int) (y : Int) : (F_s_ProductFrames_L2 f0 f1 g0 g1 x r xs y).1.length ≤ xs.length + r := by
  induction r generalizing xs y with
  | zero => exact Nat.le_refl _
  | succ r ih =>
    show (F_s_ProductFrames_L2b f0 f1 g0 g1 x _ xs y).1.length ≤ _
    unfold F_s_ProductFrames_L2b
    cases decide (y < g0)
    · simp <;> omega
    · simp only [cond_true]
      refine Nat.le_trans (ih _ _) ?_
      simp <;> omega
theorem PF_len1 (f0 g0 : Int) (f1 g1 : List Int) (hg : 0 ≤ g0 ∧ g0 ≤ 8) (r : Nat) (xs : List Int) (x : Int) : (F_s_ProductFrames_L1 f0 f1 g0 g1 r xs x).1.length ≤ xs.length + 9 * r := by
  induction r generalizing xs x with
  | zero => exact Nat.le_refl _
  | succ r ih =>
    show (F_s_ProductFrames_L1b f0 f1 g0 g1 _ xs x).1.length ≤ _
    unfold F_s_ProductFrames_L1b
    cases decide (x < f0)
    · simp <;> omega
    · simp only [cond_true]
      refine Nat.le_trans (ih _ _) ?_
      have := PF_len2 f0 g0 f1 g1 x (Int.toNat (g0 - 0) + 1) xs 0
      omega
theorem ProductFrames_len (f0 : Int) (f1 : List Int) (g0 : Int) (g1 : List Int) : (F_ProductFrames f0 f1 g0 g1).1.2.length ≤ 81 := by
  rw [ProductFrames_eq]
  unfold F_s_ProductFrames
  cases h : ((!(F_l05Is f0 f1)) || (!(F_l05Is g0 g1)))
  · obtain ⟨h1, h2⟩ := bor_f h
    have hf := l05Is_t (bn_f h1)
    have hg := l05Is_t (bn_f h2)
    rw [cond_false]
    cases h8 : decide (8 < f0 * g0)
    · rw [cond_false]
      have := PF_len1 f0 g0 f1 g1 hg.1 (Int.toNat (f0 - 0) + 1) [] 0
      refine Nat.le_trans this ?_
      rw [List.length_nil]; omega
    · simp
  · simp

end Go.Proofs.Ytfilpikakdlgbaa
