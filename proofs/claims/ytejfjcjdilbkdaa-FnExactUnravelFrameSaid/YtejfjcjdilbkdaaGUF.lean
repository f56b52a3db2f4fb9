/- GUF: models and contracts, printed by wip/gen/gen.py -/
import Derived.Test.YtejfjcjdilbkdaaGP
import Derived.Test.YtejfjcjdilbkdaaGL
import Derived.Test.YtejfjcjdilbkdaaPart
set_option linter.unusedVariables false
set_option linter.unusedSimpArgs false
namespace Go.Proofs.Ytejfjcjdilbkdaa
open Go.RowKit

theorem im_get {xs : List Int} {b : Int} (h : ∀ m : Int, 0 ≤ m → m < (xs.length : Int) → 0 ≤ gI xs m ∧ gI xs m < b) (m : Int) (h0 : 0 ≤ m) (h1 : m < (xs.length : Int)) : 0 ≤ gI xs m ∧ gI xs m < b := h m h0 h1
theorem im_one {y b : Int} (h0 : 0 ≤ y) (h1 : y < b) : ∀ m : Int, 0 ≤ m → m < ([y].length : Int) → 0 ≤ gI [y] m ∧ gI [y] m < b := by
  intro m h2 h3
  have : m = 0 := by simp at h3; omega
  subst this; exact ⟨h0, h1⟩
theorem gI_appL {xs : List Int} {y m : Int} (h0 : 0 ≤ m) (h1 : m < (xs.length : Int)) : gI (xs ++ [y]) m = gI xs m := by
  unfold gI gi
  rw [List.getD_eq_getElem?_getD, List.getD_eq_getElem?_getD, List.getElem?_append_left (by omega)]
theorem im_app {xs : List Int} {y b : Int} (h : ∀ m : Int, 0 ≤ m → m < (xs.length : Int) → 0 ≤ gI xs m ∧ gI xs m < b) (h0 : 0 ≤ y) (h1 : y < b) : ∀ m : Int, 0 ≤ m → m < ((xs ++ [y]).length : Int) → 0 ≤ gI (xs ++ [y]) m ∧ gI (xs ++ [y]) m < b := by
  intro m h2 h3
  rw [List.length_append, List.length_singleton] at h3
  by_cases e : m < (xs.length : Int)
  · rw [gI_appL h2 e]; exact h m h2 e
  · have e2 : m.toNat = xs.length := by omega
    have : gI (xs ++ [y]) m = y := by
      unfold gI gi
      rw [e2, List.getD_eq_getElem?_getD]; simp
    rw [this]; exact ⟨h0, h1⟩

def F_s_UnravelFrame_L2b (f1 : List Int) (ends9 : List Int) (i12 : Int) (rec : (List Int) → (List Int) → (List Int) → Int → (List Int) × (List Int) × (List Int) × Int) (ends9L2 : List Int) (arrows10L2 : List Int) (steps11L2 : List Int) (j14L2 : Int) : (List Int) × (List Int) × (List Int) × Int :=
  bif (decide (j14L2 < ((F_l01List (gI f1 (gI ends9 i12))).length : Int))) then (rec (ends9L2 ++ ([gI (F_l01List (gI f1 (gI ends9 i12))) j14L2])) ((sI arrows10L2 i12 (orI (gI arrows10L2 i12) (powI ((ends9L2).length : Int)))) ++ ([0])) (steps11L2 ++ ([(gI steps11L2 i12) + 1])) (j14L2 + 1)) else (ends9L2, arrows10L2, steps11L2, j14L2)
def F_s_UnravelFrame_L2 (f1 : List Int) (ends9 : List Int) (i12 : Int) : Nat → (List Int) → (List Int) → (List Int) → Int → (List Int) × (List Int) × (List Int) × Int
  | 0, ends9L2, arrows10L2, steps11L2, j14L2 => (ends9L2, arrows10L2, steps11L2, j14L2)
  | r + 1, ends9L2, arrows10L2, steps11L2, j14L2 => F_s_UnravelFrame_L2b f1 ends9 i12 (F_s_UnravelFrame_L2 f1 ends9 i12 r) ends9L2 arrows10L2 steps11L2 j14L2
def F_s_UnravelFrame_L1b (f1 : List Int) (kp : Int) (rec : (List Int) → (List Int) → (List Int) → Int → Except ((Int × List Int) × (List Int) × (Int)) ((List Int) × (List Int) × (List Int) × Int)) (ends9 : List Int) (arrows10 : List Int) (steps11 : List Int) (i12 : Int) : Except ((Int × List Int) × (List Int) × (Int)) ((List Int) × (List Int) × (List Int) × Int) :=
  bif (decide (i12 < ((ends9).length : Int))) then (bif (decide ((gI steps11 i12) = kp)) then (rec ends9 arrows10 steps11 (i12 + 1)) else (bif (decide (8 < (((ends9).length : Int) + ((F_l01List (gI f1 (gI ends9 i12))).length : Int)))) then (.error ((0, []), [], 3)) else (rec ((F_s_UnravelFrame_L2 f1 ends9 i12 (Int.toNat (((F_l01List (gI f1 (gI ends9 i12))).length : Int) - 0) + 1) ends9 arrows10 steps11 0).1) ((F_s_UnravelFrame_L2 f1 ends9 i12 (Int.toNat (((F_l01List (gI f1 (gI ends9 i12))).length : Int) - 0) + 1) ends9 arrows10 steps11 0).2.1) ((F_s_UnravelFrame_L2 f1 ends9 i12 (Int.toNat (((F_l01List (gI f1 (gI ends9 i12))).length : Int) - 0) + 1) ends9 arrows10 steps11 0).2.2.1) (i12 + 1)))) else (.ok (ends9, arrows10, steps11, i12))
def F_s_UnravelFrame_L1 (f1 : List Int) (kp : Int) : Nat → (List Int) → (List Int) → (List Int) → Int → Except ((Int × List Int) × (List Int) × (Int)) ((List Int) × (List Int) × (List Int) × Int)
  | 0, ends9, arrows10, steps11, i12 => .ok (ends9, arrows10, steps11, i12)
  | r + 1, ends9, arrows10, steps11, i12 => F_s_UnravelFrame_L1b f1 kp (F_s_UnravelFrame_L1 f1 kp r) ends9 arrows10 steps11 i12
def F_s_UnravelFrame (f0 : Int) (f1 : List Int) (wp : Int) (kp : Int) : (Int × List Int) × (List Int) × (Int) :=
  bif (!(F_l05Is f0 f1)) then ((0, []), [], 1) else (bif (!(F_l05World f0 f1 wp)) then ((0, []), [], 2) else (bif (!(F_l01In kp 0 8)) then ((0, []), [], 2) else (bif (isOk (F_s_UnravelFrame_L1 f1 kp (Int.toNat (9 - 0) + 1) ([wp]) ([0]) ([0]) 0)) then (((((okD (F_s_UnravelFrame_L1 f1 kp (Int.toNat (9 - 0) + 1) ([wp]) ([0]) ([0]) 0)).2.1).length : Int), ((okD (F_s_UnravelFrame_L1 f1 kp (Int.toNat (9 - 0) + 1) ([wp]) ([0]) ([0]) 0)).2.1)), (okD (F_s_UnravelFrame_L1 f1 kp (Int.toNat (9 - 0) + 1) ([wp]) ([0]) ([0]) 0)).1, 0) else (errD (F_s_UnravelFrame_L1 f1 kp (Int.toNat (9 - 0) + 1) ([wp]) ([0]) ([0]) 0)))))
theorem cf_s_UnravelFrame (args : Array Value) (w : World) : (callFunc 48 args).run Try.prog w = .ok (.enter 48 args) w := by kernel_rfl
set_option maxRecDepth 100000 in
theorem c_s_UnravelFrame (f0 : Int) (f1A : Option Addr) (f1N f1C : Nat) (f1 : List Int) (wp : Int) (kp : Int) (w : World) (f1R : RdS w 1 f1A f1N f1C f1) :
    Calls Try.prog 48 #[.agg #[.int .i64 f0, .slice f1A f1N f1C], .int .i64 wp, .int .i64 kp] w (Ret fun v w' => ∃ b1 : Option Addr, ∃ c1 : Nat, ∃ b2 : Option Addr, ∃ c2 : Nat, v = .tuple #[.agg #[.int .i64 (((F_s_UnravelFrame f0 f1 wp kp).1).1), .slice b1 (((F_s_UnravelFrame f0 f1 wp kp).1).2).length c1], .slice b2 ((F_s_UnravelFrame f0 f1 wp kp).2.1).length c2, .int .i64 ((F_s_UnravelFrame f0 f1 wp kp).2.2)] ∧ Own2 w' w.heap.size 2 b1 (((F_s_UnravelFrame f0 f1 wp kp).1).2).length c1 (((F_s_UnravelFrame f0 f1 wp kp).1).2) b2 ((F_s_UnravelFrame f0 f1 wp kp).2.1).length c2 ((F_s_UnravelFrame f0 f1 wp kp).2.1) ∧ Ext w w') := by
  obtain rfl : f1N = f1.length := f1R.len1.symm
  have f1Le := f1R.le
  have hS := St.nil w
  have hS1 := St.rd0 hS rfl f1R; clear hS
  refine enter (args := [.agg #[.int .i64 f0, .slice f1A f1.length f1C], .int .i64 wp, .int .i64 kp]) Try.func48 rfl rfl ?_
  rw [Try.ntmps48]; intro a hE
  have hE := hE.sub (L' := [(0, .agg #[.int .i64 f0, .slice f1A f1.length f1C]), (1, .int .i64 wp), (2, .int .i64 kp)]) ⟨rfl, rfl, rfl, trivial⟩
  refine c_seq ?_
  refine c_reg ?_
  refine l_step hE rfl (l_box (v := .agg #[.int .i64 f0, .slice f1A f1.length f1C]) (cs := #[.int .i64 f0, .slice f1A f1.length f1C]) hS1 hE rfl rfl rfl ?_)
  intro b2 w3 hS6 he7 a4 hE5; clear hS1 hE
  refine l_step hE5 rfl (l_alloc (z := .agg #[.int .i64 0, .slice none 0 0]) (cs := #[.int .i64 0, .slice none 0 0]) hS6 hE5 (fun _ => by kernel_rfl) rfl rfl ?_)
  intro b8 w9 hS12 he13 a10 hE11; clear hS6 hE5
  refine q_step (v := .slice none 0 0) hE11 (y_assign rfl) rfl rfl rfl ?_; intro a14 hE15; clear hE11
  refine q_step (v := .int .i64 0) hE15 (y_assign rfl) rfl rfl rfl ?_; intro a16 hE17; clear hE15
  refine c_nil ?_
  have hE18 := hE17.sub (L' := [(1, .int .i64 wp), (2, .int .i64 kp), (3, .pointer (some ⟨b2, 0, none⟩)), (6, .pointer (some ⟨b8, 0, none⟩))]) ⟨rfl, rfl, rfl, rfl, trivial⟩; clear hE17
  refine p_tn ?_
  refine c_seq ?_
  refine c_seq ?_
  refine c_reg ?_
  refine q_step (v := .agg #[.int .i64 f0, .slice f1A f1.length f1C]) hE18 (y_loadS Try.underlying28 rfl (by kernel_rfl) rfl (St.row (i := 1) hS12 rfl)) rfl rfl rfl ?_; intro a19 hE20; clear hE18
  refine l_step hE20 rfl (l_call (f := 59) (argv := [.agg #[.int .i64 f0, .slice f1A f1.length f1C]]) hE20 (fun _ => cf_l05Is _ _) rfl rfl (c_l05Is f0 f1A f1.length f1C f1 w9 (St.rdR (i := 2) hS12 rfl)) ?_)
  rintro _ w22 ⟨rfl, he26⟩ a23 hE24; clear hE20
  have hS25 := St.go hS12 he26; clear hS12
  refine q_step (v := .bool (!(F_l05Is f0 f1))) hE24 (y_not rfl) rfl rfl rfl ?_; intro a27 hE28; clear hE24
  refine c_nil ?_
  have hE29 := hE28.sub (L' := [(1, .int .i64 wp), (2, .int .i64 kp), (3, .pointer (some ⟨b2, 0, none⟩)), (6, .pointer (some ⟨b8, 0, none⟩)), (17, .bool (!(F_l05Is f0 f1)))]) ⟨rfl, rfl, rfl, rfl, rfl, trivial⟩; clear hE28
  refine p_tn ?_
  refine c_cond hE29 rfl (fun ht30 => ?_) (fun ht30 => ?_)
  ·
    have ht31 := bn_t ht30
    have hE32 := hE29; rw [ht30] at hE32; clear hE29
    refine c_seq ?_
    refine c_reg ?_
    refine q_step (v := .agg #[.int .i64 0, .slice none 0 0]) hE32 (y_build (vs := #[]) (fun a n hE => by simp) (fun _ => by kernel_rfl)) rfl rfl rfl ?_; intro a33 hE34; clear hE32
    refine l_step hE34 rfl (l_storeS (k := 0) (cs' := #[.int .i64 0, .slice none 0 0]) hS25 hE34 (by kernel_rfl) rfl rfl (by kernel_rfl) rfl rfl ?_)
    intro w36 hS39 a37 hE38; clear hS25 hE34
    refine q_step (v := .slice none 0 0) hE38 (y_assign rfl) rfl rfl rfl ?_; intro a41 hE42; clear hE38
    refine q_step (v := .int .i64 1) hE42 (y_assign rfl) rfl rfl rfl ?_; intro a43 hE44; clear hE42
    refine c_nil ?_
    have hE45 := hE44.sub (L' := [(6, .pointer (some ⟨b8, 0, none⟩)), (7, .slice none 0 0), (8, .int .i64 1)]) ⟨rfl, rfl, rfl, trivial⟩; clear hE44
    refine p_tn ?_
    refine wp_ret ?_
    refine p_tr ?_
    have hF : F_s_UnravelFrame f0 f1 wp kp = ((0, []), [], 1) := by unfold F_s_UnravelFrame; rw [ht30]; first | done | rfl
    refine c_retC3 hE45 rfl rfl rfl rfl Try.underlying28 rfl (by kernel_rfl) (St.row (i := 0) hS39 rfl _ (Ext.refl _)) ?_
    have hS46 := St.nils hS39 2 1; clear hS39
    have hS47 := St.nils hS46 2 1; clear hS46
    exact ⟨none, 0, none, 0, (by rw [hF]; first | done | rfl), (by rw [hF]; exact St.own2 1 0 hS47 rfl rfl (by decide)), hS47.ext⟩
  ·
    have ht48 := bn_f ht30
    have hp49 := l05Is_t ht48
    have hE50 := hE29; rw [ht30] at hE50; clear hE29
    refine wp_skip ?_
    refine p_tn ?_
    refine c_seq ?_
    refine c_seq ?_
    refine c_reg ?_
    refine q_step (v := .agg #[.int .i64 f0, .slice f1A f1.length f1C]) hE50 (y_loadS Try.underlying28 rfl (by kernel_rfl) rfl (St.row (i := 1) hS25 rfl)) rfl rfl rfl ?_; intro a51 hE52; clear hE50
    refine q_step (v := .int .i64 wp) hE52 (y_move rfl) rfl rfl rfl ?_; intro a53 hE54; clear hE52
    refine l_step hE54 rfl (l_call (f := 99) (argv := [.agg #[.int .i64 f0, .slice f1A f1.length f1C], .int .i64 wp]) hE54 (fun _ => cf_l05World _ _) rfl rfl (c_l05World f0 f1A f1.length f1C f1 wp w22 (St.rdR (i := 2) hS25 rfl) (by omega) (by omega)) ?_)
    rintro _ w56 ⟨rfl, he60⟩ a57 hE58; clear hE54
    have hS59 := St.go hS25 he60; clear hS25
    refine q_step (v := .bool (!(F_l05World f0 f1 wp))) hE58 (y_not rfl) rfl rfl rfl ?_; intro a61 hE62; clear hE58
    refine q_step (v := .bool (!(F_l05World f0 f1 wp))) hE62 (y_move rfl) rfl rfl rfl ?_; intro a63 hE64; clear hE62
    rcases Bool.eq_false_or_eq_true (!(F_l05World f0 f1 wp)) with hb65 | hb65
    ·
      have hE66 := hE64; rw [hb65] at hE66; clear hE64
      have ht67 := bn_t hb65
      refine q_skip hE66 rfl rfl rfl ?_; intro a68 hE69; clear hE66
      refine q_skip hE69 rfl rfl rfl ?_; intro a70 hE71; clear hE69
      refine q_skip hE71 rfl rfl rfl ?_; intro a72 hE73; clear hE71
      refine q_step (v := .bool true) hE73 (y_pick (b := true) rfl rfl) rfl rfl rfl ?_; intro a74 hE75; clear hE73
      refine c_nil ?_
      have hE76 := hE75.sub (L' := [(1, .int .i64 wp), (2, .int .i64 kp), (3, .pointer (some ⟨b2, 0, none⟩)), (6, .pointer (some ⟨b8, 0, none⟩)), (27, .bool true)]) ⟨rfl, rfl, rfl, rfl, rfl, trivial⟩; clear hE75
      refine p_tn ?_
      refine c_true hE76 rfl ?_
      refine c_seq ?_
      refine c_reg ?_
      refine q_step (v := .agg #[.int .i64 0, .slice none 0 0]) hE76 (y_build (vs := #[]) (fun a n hE => by simp) (fun _ => by kernel_rfl)) rfl rfl rfl ?_; intro a77 hE78; clear hE76
      refine l_step hE78 rfl (l_storeS (k := 0) (cs' := #[.int .i64 0, .slice none 0 0]) hS59 hE78 (by kernel_rfl) rfl rfl (by kernel_rfl) rfl rfl ?_)
      intro w80 hS83 a81 hE82; clear hS59 hE78
      refine q_step (v := .slice none 0 0) hE82 (y_assign rfl) rfl rfl rfl ?_; intro a85 hE86; clear hE82
      refine q_step (v := .int .i64 2) hE86 (y_assign rfl) rfl rfl rfl ?_; intro a87 hE88; clear hE86
      refine c_nil ?_
      have hE89 := hE88.sub (L' := [(6, .pointer (some ⟨b8, 0, none⟩)), (7, .slice none 0 0), (8, .int .i64 2)]) ⟨rfl, rfl, rfl, trivial⟩; clear hE88
      refine p_tn ?_
      refine wp_ret ?_
      refine p_tr ?_
      have hF : F_s_UnravelFrame f0 f1 wp kp = ((0, []), [], 2) := by unfold F_s_UnravelFrame; rw [hb65, ht30]; first | done | rfl
      refine c_retC3 hE89 rfl rfl rfl rfl Try.underlying28 rfl (by kernel_rfl) (St.row (i := 0) hS83 rfl _ (Ext.refl _)) ?_
      have hS90 := St.nils hS83 2 1; clear hS83
      have hS91 := St.nils hS90 2 1; clear hS90
      exact ⟨none, 0, none, 0, (by rw [hF]; first | done | rfl), (by rw [hF]; exact St.own2 1 0 hS91 rfl rfl (by decide)), hS91.ext⟩
    ·
      have hE92 := hE64; rw [hb65] at hE92; clear hE64
      have ht93 := bn_f hb65
      have hp94 := F_l01In_t ht93
      refine q_step (v := .int .i64 kp) hE92 (y_move rfl) rfl rfl rfl ?_; intro a95 hE96; clear hE92
      refine l_step hE96 rfl (l_call (f := 77) (argv := [.int .i64 kp, .int .i64 0, .int .i64 8]) hE96 (fun _ => cf_l01In _ _) rfl rfl (c_l01In kp 0 8 w56) ?_)
      rintro _ _ ⟨rfl, rfl⟩ a99 hE100; clear hE96
      refine q_step (v := .bool (!(F_l01In kp 0 8))) hE100 (y_not rfl) rfl rfl rfl ?_; intro a103 hE104; clear hE100
      refine q_step (v := .bool (!(F_l01In kp 0 8))) hE104 (y_pick (b := false) rfl rfl) rfl rfl rfl ?_; intro a105 hE106; clear hE104
      refine c_nil ?_
      have hE107 := hE106.sub (L' := [(1, .int .i64 wp), (2, .int .i64 kp), (3, .pointer (some ⟨b2, 0, none⟩)), (6, .pointer (some ⟨b8, 0, none⟩)), (27, .bool (!(F_l01In kp 0 8)))]) ⟨rfl, rfl, rfl, rfl, rfl, trivial⟩; clear hE106
      refine p_tn ?_
      refine c_cond hE107 rfl (fun ht108 => ?_) (fun ht108 => ?_)
      ·
        have ht109 := bn_t ht108
        have hE110 := hE107; rw [ht108] at hE110; clear hE107
        refine c_seq ?_
        refine c_reg ?_
        refine q_step (v := .agg #[.int .i64 0, .slice none 0 0]) hE110 (y_build (vs := #[]) (fun a n hE => by simp) (fun _ => by kernel_rfl)) rfl rfl rfl ?_; intro a111 hE112; clear hE110
        refine l_step hE112 rfl (l_storeS (k := 0) (cs' := #[.int .i64 0, .slice none 0 0]) hS59 hE112 (by kernel_rfl) rfl rfl (by kernel_rfl) rfl rfl ?_)
        intro w114 hS117 a115 hE116; clear hS59 hE112
        refine q_step (v := .slice none 0 0) hE116 (y_assign rfl) rfl rfl rfl ?_; intro a119 hE120; clear hE116
        refine q_step (v := .int .i64 2) hE120 (y_assign rfl) rfl rfl rfl ?_; intro a121 hE122; clear hE120
        refine c_nil ?_
        have hE123 := hE122.sub (L' := [(6, .pointer (some ⟨b8, 0, none⟩)), (7, .slice none 0 0), (8, .int .i64 2)]) ⟨rfl, rfl, rfl, trivial⟩; clear hE122
        refine p_tn ?_
        refine wp_ret ?_
        refine p_tr ?_
        have hF : F_s_UnravelFrame f0 f1 wp kp = ((0, []), [], 2) := by unfold F_s_UnravelFrame; rw [ht108, hb65, ht30]; first | done | rfl
        refine c_retC3 hE123 rfl rfl rfl rfl Try.underlying28 rfl (by kernel_rfl) (St.row (i := 0) hS117 rfl _ (Ext.refl _)) ?_
        have hS124 := St.nils hS117 2 1; clear hS117
        have hS125 := St.nils hS124 2 1; clear hS124
        exact ⟨none, 0, none, 0, (by rw [hF]; first | done | rfl), (by rw [hF]; exact St.own2 1 0 hS125 rfl rfl (by decide)), hS125.ext⟩
      ·
        have ht126 := bn_f ht108
        have hp127 := F_l01In_t ht126
        have hE128 := hE107; rw [ht108] at hE128; clear hE107
        refine wp_skip ?_
        refine p_tn ?_
        refine c_seq ?_
        refine c_reg ?_
        refine q_step (v := .int .i64 wp) hE128 (y_move rfl) rfl rfl rfl ?_; intro a129 hE130; clear hE128
        refine l_step hE130 rfl (l_lit (e := 2) (s := 1) (xs := [wp]) (vs := [.int .i64 wp]) hS59 hE130 rfl (fun _ => by kernel_rfl) rfl rfl rfl ?_)
        intro b131 w132 hS135 he136 a133 hE134; clear hS59 hE130
        refine l_step hE134 rfl (l_lit (e := 2) (s := 1) (xs := [0]) (vs := [.int .i64 0]) hS135 hE134 rfl (fun _ => by kernel_rfl) rfl rfl rfl ?_)
        intro b137 w138 hS141 he142 a139 hE140; clear hS135 hE134
        refine l_step hE140 rfl (l_lit (e := 2) (s := 1) (xs := [0]) (vs := [.int .i64 0]) hS141 hE140 rfl (fun _ => by kernel_rfl) rfl rfl rfl ?_)
        intro b143 w144 hS147 he148 a145 hE146; clear hS141 hE140
        refine q_step (v := .slice (some ⟨b131, 0, none⟩) 1 1) hE146 (y_assign rfl) rfl rfl rfl ?_; intro a149 hE150; clear hE146
        refine q_step (v := .slice (some ⟨b137, 0, none⟩) 1 1) hE150 (y_assign rfl) rfl rfl rfl ?_; intro a151 hE152; clear hE150
        refine q_step (v := .slice (some ⟨b143, 0, none⟩) 1 1) hE152 (y_assign rfl) rfl rfl rfl ?_; intro a153 hE154; clear hE152
        refine c_nil ?_
        have hE155 := hE154.sub (L' := [(2, .int .i64 kp), (3, .pointer (some ⟨b2, 0, none⟩)), (6, .pointer (some ⟨b8, 0, none⟩)), (9, .slice (some ⟨b131, 0, none⟩) 1 1), (10, .slice (some ⟨b137, 0, none⟩) 1 1), (11, .slice (some ⟨b143, 0, none⟩) 1 1)]) ⟨rfl, rfl, rfl, rfl, rfl, rfl, trivial⟩; clear hE154
        refine p_tn ?_
        refine c_seq ?_
        refine c_seq ?_
        refine c_reg ?_
        refine q_step (v := .int .i64 0) hE155 (y_assign rfl) rfl rfl rfl ?_; intro a156 hE157; clear hE155
        refine c_nil ?_
        have hE158 := hE157.sub (L' := [(2, .int .i64 kp), (3, .pointer (some ⟨b2, 0, none⟩)), (6, .pointer (some ⟨b8, 0, none⟩)), (9, .slice (some ⟨b131, 0, none⟩) 1 1), (10, .slice (some ⟨b137, 0, none⟩) 1 1), (11, .slice (some ⟨b143, 0, none⟩) 1 1), (12, .int .i64 0)]) ⟨rfl, rfl, rfl, rfl, rfl, rfl, rfl, trivial⟩; clear hE157
        refine p_tn ?_
        refine c_cut1 (fun a' w' => ∃ ends9A_159 : Option Addr, ∃ ends9C_159 : Nat, ∃ arrows10A_159 : Option Addr, ∃ arrows10C_159 : Nat, ∃ steps11A_159 : Option Addr, ∃ steps11C_159 : Nat, isOk (F_s_UnravelFrame_L1 f1 kp (Int.toNat (9 - 0) + 1) ([wp]) ([0]) ([0]) 0) = true ∧ (0 ≤ ((okD (F_s_UnravelFrame_L1 f1 kp (Int.toNat (9 - 0) + 1) ([wp]) ([0]) ([0]) 0)).2.2.2)) ∧ ((((okD (F_s_UnravelFrame_L1 f1 kp (Int.toNat (9 - 0) + 1) ([wp]) ([0]) ([0]) 0)).2.1).length : Int) = (((okD (F_s_UnravelFrame_L1 f1 kp (Int.toNat (9 - 0) + 1) ([wp]) ([0]) ([0]) 0)).1).length : Int)) ∧ ((((okD (F_s_UnravelFrame_L1 f1 kp (Int.toNat (9 - 0) + 1) ([wp]) ([0]) ([0]) 0)).2.2.1).length : Int) = (((okD (F_s_UnravelFrame_L1 f1 kp (Int.toNat (9 - 0) + 1) ([wp]) ([0]) ([0]) 0)).1).length : Int)) ∧ (((okD (F_s_UnravelFrame_L1 f1 kp (Int.toNat (9 - 0) + 1) ([wp]) ([0]) ([0]) 0)).1).length ≤ 8) ∧ (∀ m : Int, 0 ≤ m → m < (((okD (F_s_UnravelFrame_L1 f1 kp (Int.toNat (9 - 0) + 1) ([wp]) ([0]) ([0]) 0)).1).length : Int) → 0 ≤ gI ((okD (F_s_UnravelFrame_L1 f1 kp (Int.toNat (9 - 0) + 1) ([wp]) ([0]) ([0]) 0)).1) m ∧ gI ((okD (F_s_UnravelFrame_L1 f1 kp (Int.toNat (9 - 0) + 1) ([wp]) ([0]) ([0]) 0)).1) m < f0) ∧ (∀ m : Int, 0 ≤ m → m < (((okD (F_s_UnravelFrame_L1 f1 kp (Int.toNat (9 - 0) + 1) ([wp]) ([0]) ([0]) 0)).2.2.1).length : Int) → 0 ≤ gI ((okD (F_s_UnravelFrame_L1 f1 kp (Int.toNat (9 - 0) + 1) ([wp]) ([0]) ([0]) 0)).2.2.1) m ∧ gI ((okD (F_s_UnravelFrame_L1 f1 kp (Int.toNat (9 - 0) + 1) ([wp]) ([0]) ([0]) 0)).2.2.1) m < kp + 1) ∧ E a' 99 [(2, .int .i64 kp), (3, .pointer (some ⟨b2, 0, none⟩)), (6, .pointer (some ⟨b8, 0, none⟩)), (9, .slice ends9A_159 (((okD (F_s_UnravelFrame_L1 f1 kp (Int.toNat (9 - 0) + 1) ([wp]) ([0]) ([0]) 0)).1).length) ends9C_159), (10, .slice arrows10A_159 (((okD (F_s_UnravelFrame_L1 f1 kp (Int.toNat (9 - 0) + 1) ([wp]) ([0]) ([0]) 0)).2.1).length) arrows10C_159), (11, .slice steps11A_159 (((okD (F_s_UnravelFrame_L1 f1 kp (Int.toNat (9 - 0) + 1) ([wp]) ([0]) ([0]) 0)).2.2.1).length) steps11C_159), (12, .int .i64 ((okD (F_s_UnravelFrame_L1 f1 kp (Int.toNat (9 - 0) + 1) ([wp]) ([0]) ([0]) 0)).2.2.2))] ∧ St w w' [.own 2 1 steps11A_159 (((okD (F_s_UnravelFrame_L1 f1 kp (Int.toNat (9 - 0) + 1) ([wp]) ([0]) ([0]) 0)).2.2.1).length) steps11C_159 ((okD (F_s_UnravelFrame_L1 f1 kp (Int.toNat (9 - 0) + 1) ([wp]) ([0]) ([0]) 0)).2.2.1), .own 2 1 arrows10A_159 (((okD (F_s_UnravelFrame_L1 f1 kp (Int.toNat (9 - 0) + 1) ([wp]) ([0]) ([0]) 0)).2.1).length) arrows10C_159 ((okD (F_s_UnravelFrame_L1 f1 kp (Int.toNat (9 - 0) + 1) ([wp]) ([0]) ([0]) 0)).2.1), .own 2 1 ends9A_159 (((okD (F_s_UnravelFrame_L1 f1 kp (Int.toNat (9 - 0) + 1) ([wp]) ([0]) ([0]) 0)).1).length) ends9C_159 ((okD (F_s_UnravelFrame_L1 f1 kp (Int.toNat (9 - 0) + 1) ([wp]) ([0]) ([0]) 0)).1), .blk b8 #[.int .i64 0, .slice none 0 0] 28, .blk b2 #[.int .i64 f0, .slice f1A f1.length f1C] 28, .rd 1 f1A f1.length f1C f1]) ?_ ?_
        ·
          refine wp_block ?_
          refine c_loop (fun r a' w' => ∃ ends9 : List Int, ∃ arrows10 : List Int, ∃ steps11 : List Int, ∃ i12 : Int, ∃ ends9A : Option Addr, ∃ ends9C : Nat, ∃ arrows10A : Option Addr, ∃ arrows10C : Nat, ∃ steps11A : Option Addr, ∃ steps11C : Nat, F_s_UnravelFrame_L1 f1 kp r ends9 arrows10 steps11 i12 = F_s_UnravelFrame_L1 f1 kp (Int.toNat (9 - 0) + 1) ([wp]) ([0]) ([0]) 0 ∧ Int.toNat (9 - i12) < r ∧ (0 ≤ i12) ∧ ((arrows10.length : Int) = (ends9.length : Int)) ∧ ((steps11.length : Int) = (ends9.length : Int)) ∧ (ends9.length ≤ 8) ∧ (∀ m : Int, 0 ≤ m → m < (ends9.length : Int) → 0 ≤ gI ends9 m ∧ gI ends9 m < f0) ∧ (∀ m : Int, 0 ≤ m → m < (steps11.length : Int) → 0 ≤ gI steps11 m ∧ gI steps11 m < kp + 1) ∧ E a' 99 [(2, .int .i64 kp), (3, .pointer (some ⟨b2, 0, none⟩)), (6, .pointer (some ⟨b8, 0, none⟩)), (9, .slice ends9A ((ends9).length) ends9C), (10, .slice arrows10A ((arrows10).length) arrows10C), (11, .slice steps11A ((steps11).length) steps11C), (12, .int .i64 i12)] ∧ St w w' [.own 2 1 steps11A ((steps11).length) steps11C steps11, .own 2 1 arrows10A ((arrows10).length) arrows10C arrows10, .own 2 1 ends9A ((ends9).length) ends9C ends9, .blk b8 #[.int .i64 0, .slice none 0 0] 28, .blk b2 #[.int .i64 f0, .slice f1A f1.length f1C] 28, .rd 1 f1A f1.length f1C f1]) (r := (Int.toNat (9 - 0) + 1)) ?_ ?_
          · exact ⟨[wp], [0], [0], 0, some ⟨b131, 0, none⟩, 1, some ⟨b137, 0, none⟩, 1, some ⟨b143, 0, none⟩, 1, rfl, Nat.lt_succ_self _, (by first | omega | (simp only [List.length_replicate, sI_len]; omega) | (simp only [List.length_append, List.length_cons, List.length_nil, sI_len, cond_true, cond_false]; omega) | (simp only [List.length_append, List.length_cons, List.length_nil, sI_len, cond_eq_ite, apply_ite List.length]; split <;> simp only [List.length_append, List.length_cons, List.length_nil, sI_len] <;> omega) | grind), (by first | omega | (simp only [List.length_replicate, sI_len]; omega) | (simp only [List.length_append, List.length_cons, List.length_nil, sI_len, cond_true, cond_false]; omega) | (simp only [List.length_append, List.length_cons, List.length_nil, sI_len, cond_eq_ite, apply_ite List.length]; split <;> simp only [List.length_append, List.length_cons, List.length_nil, sI_len] <;> omega) | grind), (by first | omega | (simp only [List.length_replicate, sI_len]; omega) | (simp only [List.length_append, List.length_cons, List.length_nil, sI_len, cond_true, cond_false]; omega) | (simp only [List.length_append, List.length_cons, List.length_nil, sI_len, cond_eq_ite, apply_ite List.length]; split <;> simp only [List.length_append, List.length_cons, List.length_nil, sI_len] <;> omega) | grind), (by first | omega | (simp only [List.length_replicate, sI_len]; omega) | (simp only [List.length_append, List.length_cons, List.length_nil, sI_len, cond_true, cond_false]; omega) | (simp only [List.length_append, List.length_cons, List.length_nil, sI_len, cond_eq_ite, apply_ite List.length]; split <;> simp only [List.length_append, List.length_cons, List.length_nil, sI_len] <;> omega) | grind), (im_one (by omega) (by omega)), (im_one (by omega) (by omega)), (hE158.sub (L' := [(2, .int .i64 kp), (3, .pointer (some ⟨b2, 0, none⟩)), (6, .pointer (some ⟨b8, 0, none⟩)), (9, .slice (some ⟨b131, 0, none⟩) 1 1), (10, .slice (some ⟨b137, 0, none⟩) 1 1), (11, .slice (some ⟨b143, 0, none⟩) 1 1), (12, .int .i64 0)]) ⟨rfl, rfl, rfl, rfl, rfl, rfl, rfl, trivial⟩), (St.pick (Γ' := [.own 2 1 (some ⟨b143, 0, none⟩) 1 1 ([0]), .own 2 1 (some ⟨b137, 0, none⟩) 1 1 ([0]), .own 2 1 (some ⟨b131, 0, none⟩) 1 1 ([wp]), .blk b8 #[.int .i64 0, .slice none 0 0] 28, .blk b2 #[.int .i64 f0, .slice f1A f1.length f1C] 28, .rd 1 f1A f1.length f1C f1]) hS147 [0, 1, 2, 3, 4, 5] (by decide) rfl)⟩
          ·
            clear hE158 hS147
            rintro r172 a160 w161 ⟨ends9, arrows10, steps11, i12, ends9A, ends9C, arrows10A, arrows10C, steps11A, steps11C, hT164, hr165, hi166, hi167, hi168, hi169, hi170, hi171, hE162, hS163⟩
            obtain ⟨r172, rfl⟩ : ∃ r', r172 = r' + 1 := ⟨r172 - 1, by omega⟩
            refine c_seq ?_
            refine c_seq ?_
            refine c_reg ?_
            refine q_step (v := .int .i64 i12) hE162 (y_move rfl) rfl rfl rfl ?_; intro a173 hE174; clear hE162
            refine q_step (v := .slice ends9A ((ends9).length) ends9C) hE174 (y_move rfl) rfl rfl rfl ?_; intro a175 hE176; clear hE174
            refine q_step (v := .int .i64 ((ends9).length : Int)) hE176 (y_len (e := 2) (by kernel_rfl) rfl) rfl rfl rfl ?_; intro a177 hE178; clear hE176
            refine q_step (v := .bool (decide (i12 < ((ends9).length : Int)))) hE178 (y_lss rfl rfl) rfl rfl rfl ?_; intro a179 hE180; clear hE178
            refine c_nil ?_
            have hE181 := hE180.sub (L' := [(2, .int .i64 kp), (3, .pointer (some ⟨b2, 0, none⟩)), (6, .pointer (some ⟨b8, 0, none⟩)), (9, .slice ends9A ((ends9).length) ends9C), (10, .slice arrows10A ((arrows10).length) arrows10C), (11, .slice steps11A ((steps11).length) steps11C), (12, .int .i64 i12), (36, .bool (decide (i12 < ((ends9).length : Int))))]) ⟨rfl, rfl, rfl, rfl, rfl, rfl, rfl, rfl, trivial⟩; clear hE180
            refine p_tn ?_
            refine c_cond hE181 rfl (fun ht182 => ?_) (fun ht182 => ?_)
            ·
              have hp183 := of_decide_eq_true ht182
              have hE184 := hE181; rw [ht182] at hE184; clear hE181
              have he := im_get (xs := ends9) (b := f0) (by assumption) i12 (by omega) (by omega)
              have hfm := l05Is_m (f0 := f0) (f1 := f1) (by first | assumption | (rw [← isFrame_eq]; assumption))
              have hx1 := hfm (gI ends9 i12) (by omega) (by omega)
              have hf8 := fullI_bd (n := f0) (by omega) (by omega)
              have hs1 := im_get (xs := steps11) (b := kp + 1) (by assumption) i12 (by omega) (by omega)
              obtain ⟨hL0, hL⟩ := list_lt (f0 := f0) (mask := gI f1 (gI ends9 i12)) (by omega) hx1
              refine wp_skip ?_
              refine p_tn ?_
              refine c_seq ?_
              refine wp_block ?_
              refine c_seq ?_
              refine c_seq ?_
              refine c_reg ?_
              refine q_step (v := .slice steps11A ((steps11).length) steps11C) hE184 (y_move rfl) rfl rfl rfl ?_; intro a185 hE186; clear hE184
              refine q_step (v := .int .i64 i12) hE186 (y_move rfl) rfl rfl rfl ?_; intro a187 hE188; clear hE186
              refine q_step (v := .pointer (some (adr steps11A (Int.toNat i12)))) hE188 (y_idx (by kernel_rfl) (fun _ => by kernel_rfl) rfl rfl (RdS.isS (m := i12) (St.rdO (i := 0) hS163 rfl) (by omega) (by omega)) (by omega) (by omega) (Nat.mul_one _).symm) rfl rfl rfl ?_; intro a189 hE190; clear hE188
              refine q_step (v := .int .i64 (gI steps11 i12)) hE190 (y_load (fun _ => by kernel_rfl) rfl (RdS.elt (St.rdO (i := 0) hS163 rfl) (by omega) (by omega))) rfl rfl rfl ?_; intro a191 hE192; clear hE190
              refine q_step (v := .int .i64 kp) hE192 (y_move rfl) rfl rfl rfl ?_; intro a193 hE194; clear hE192
              refine q_step (v := .bool (decide ((gI steps11 i12) = kp))) hE194 (y_eql rfl rfl) rfl rfl rfl ?_; intro a195 hE196; clear hE194
              refine c_nil ?_
              have hE197 := hE196.sub (L' := [(2, .int .i64 kp), (3, .pointer (some ⟨b2, 0, none⟩)), (6, .pointer (some ⟨b8, 0, none⟩)), (9, .slice ends9A ((ends9).length) ends9C), (10, .slice arrows10A ((arrows10).length) arrows10C), (11, .slice steps11A ((steps11).length) steps11C), (12, .int .i64 i12), (44, .bool (decide ((gI steps11 i12) = kp)))]) ⟨rfl, rfl, rfl, rfl, rfl, rfl, rfl, rfl, trivial⟩; clear hE196
              refine p_tn ?_
              refine c_cond hE197 rfl (fun ht198 => ?_) (fun ht198 => ?_)
              ·
                have hp199 := of_decide_eq_true ht198
                have hE200 := hE197; rw [ht198] at hE200; clear hE197
                refine wp_exit ?_
                refine p_te ?_
                refine p_be ?_
                refine p_tn ?_
                refine c_reg ?_
                refine q_step (v := .int .i64 i12) hE200 (y_move rfl) rfl rfl rfl ?_; intro a201 hE202; clear hE200
                refine q_step (v := .int .i64 (i12 + 1)) hE202 (y_add rfl rfl ⟨(by omega), (by omega)⟩) rfl rfl rfl ?_; intro a203 hE204; clear hE202
                refine q_step (v := .int .i64 (i12 + 1)) hE204 (y_assign rfl) rfl rfl rfl ?_; intro a205 hE206; clear hE204
                refine c_nil ?_
                have hE207 := hE206.sub (L' := [(2, .int .i64 kp), (3, .pointer (some ⟨b2, 0, none⟩)), (6, .pointer (some ⟨b8, 0, none⟩)), (9, .slice ends9A ((ends9).length) ends9C), (10, .slice arrows10A ((arrows10).length) arrows10C), (11, .slice steps11A ((steps11).length) steps11C), (12, .int .i64 (i12 + 1))]) ⟨rfl, rfl, rfl, rfl, rfl, rfl, rfl, trivial⟩; clear hE206
                refine p_tn ⟨r172, Nat.lt_succ_self _, ends9, arrows10, steps11, i12 + 1, ends9A, ends9C, arrows10A, arrows10C, steps11A, steps11C, (hT164.symm.trans (show F_s_UnravelFrame_L1b f1 kp (F_s_UnravelFrame_L1 f1 kp r172) ends9 arrows10 steps11 i12 = F_s_UnravelFrame_L1 f1 kp r172 ends9 arrows10 steps11 (i12 + 1) by unfold F_s_UnravelFrame_L1b; rw [ht198, ht182]; first | done | rfl)).symm, (by omega), (by first | omega | (simp only [List.length_replicate, sI_len]; omega) | (simp only [List.length_append, List.length_cons, List.length_nil, sI_len, cond_true, cond_false]; omega) | (simp only [List.length_append, List.length_cons, List.length_nil, sI_len, cond_eq_ite, apply_ite List.length]; split <;> simp only [List.length_append, List.length_cons, List.length_nil, sI_len] <;> omega) | grind), (by first | omega | (simp only [List.length_replicate, sI_len]; omega) | (simp only [List.length_append, List.length_cons, List.length_nil, sI_len, cond_true, cond_false]; omega) | (simp only [List.length_append, List.length_cons, List.length_nil, sI_len, cond_eq_ite, apply_ite List.length]; split <;> simp only [List.length_append, List.length_cons, List.length_nil, sI_len] <;> omega) | grind), (by first | omega | (simp only [List.length_replicate, sI_len]; omega) | (simp only [List.length_append, List.length_cons, List.length_nil, sI_len, cond_true, cond_false]; omega) | (simp only [List.length_append, List.length_cons, List.length_nil, sI_len, cond_eq_ite, apply_ite List.length]; split <;> simp only [List.length_append, List.length_cons, List.length_nil, sI_len] <;> omega) | grind), (by first | omega | (simp only [List.length_replicate, sI_len]; omega) | (simp only [List.length_append, List.length_cons, List.length_nil, sI_len, cond_true, cond_false]; omega) | (simp only [List.length_append, List.length_cons, List.length_nil, sI_len, cond_eq_ite, apply_ite List.length]; split <;> simp only [List.length_append, List.length_cons, List.length_nil, sI_len] <;> omega) | grind), (by assumption), (by assumption), (hE207.sub (L' := [(2, .int .i64 kp), (3, .pointer (some ⟨b2, 0, none⟩)), (6, .pointer (some ⟨b8, 0, none⟩)), (9, .slice ends9A ((ends9).length) ends9C), (10, .slice arrows10A ((arrows10).length) arrows10C), (11, .slice steps11A ((steps11).length) steps11C), (12, .int .i64 (i12 + 1))]) ⟨rfl, rfl, rfl, rfl, rfl, rfl, rfl, trivial⟩), (St.pick (Γ' := [.own 2 1 steps11A ((steps11).length) steps11C steps11, .own 2 1 arrows10A ((arrows10).length) arrows10C arrows10, .own 2 1 ends9A ((ends9).length) ends9C ends9, .blk b8 #[.int .i64 0, .slice none 0 0] 28, .blk b2 #[.int .i64 f0, .slice f1A f1.length f1C] 28, .rd 1 f1A f1.length f1C f1]) hS163 [0, 1, 2, 3, 4, 5] (by decide) rfl)⟩
              ·
                have hp208 := of_decide_eq_false ht198
                have hE209 := hE197; rw [ht198] at hE209; clear hE197
                refine wp_skip ?_
                refine p_tn ?_
                refine c_seq ?_
                refine d_start (fun w' => w'.cell? ⟨b2, 1, none⟩ = some (.slice f1A f1.length f1C) ∧ w'.cell? (adr ends9A (Int.toNat i12)) = some (.int .i64 (gI ends9 i12)) ∧ w'.cell? (adr f1A (Int.toNat (gI ends9 i12))) = some (.int .i64 (gI f1 (gI ends9 i12))) ∧ True) [1, 5, 7] 10 (by kernel_rfl) rfl ?_
                intro w210 he211; have hS212 := St.go hS163 he211; clear hS163
                refine d_pure (v := .pointer (some ⟨b2, 1, none⟩)) 0 rfl hE209 (y_field rfl (fun _ => by kernel_rfl)) rfl (by kernel_rfl) (by kernel_rfl) (by kernel_rfl) rfl rfl (fun _ _ _ h => h) ?_; intro a213 hE214; clear hE209
                refine d_take (v := .slice f1A f1.length f1C) 1 rfl hE214 ⟨(St.cell (i := 4) hS212 rfl rfl _ (Ext.refl _)), (RdS.elt (St.rdO (i := 2) hS212 rfl) (by omega) (by omega) _ (Ext.refl _)), (RdS.elt (St.rdR (i := 5) hS212 rfl) (by omega) (by omega) _ (Ext.refl _)), trivial⟩ (y_load (fun _ => by kernel_rfl) rfl (fun _ h => h.1)) rfl rfl (by kernel_rfl) (by kernel_rfl) (by kernel_rfl) (by kernel_rfl) rfl rfl (fun _ _ _ h => h) ?_; intro a215 hE216; clear hE214
                refine d_pure (v := .slice ends9A ((ends9).length) ends9C) 2 rfl hE216 (y_move rfl) rfl (by kernel_rfl) (by kernel_rfl) (by kernel_rfl) rfl rfl (fun _ _ _ h => h) ?_; intro a217 hE218; clear hE216
                refine d_pure (v := .int .i64 i12) 3 rfl hE218 (y_move rfl) rfl (by kernel_rfl) (by kernel_rfl) (by kernel_rfl) rfl rfl (fun _ _ _ h => h) ?_; intro a219 hE220; clear hE218
                refine d_pure (v := .pointer (some (adr ends9A (Int.toNat i12)))) 4 rfl hE220 (y_idx (by kernel_rfl) (fun _ => by kernel_rfl) rfl rfl (RdS.isS (m := i12) (St.rdO (i := 2) hS212 rfl) (by omega) (by omega)) (by omega) (by omega) (Nat.mul_one _).symm) rfl (by kernel_rfl) (by kernel_rfl) (by kernel_rfl) rfl rfl (fun _ _ _ h => h) ?_; intro a221 hE222; clear hE220
                refine d_take (v := .int .i64 (gI ends9 i12)) 5 rfl hE222 ⟨(St.cell (i := 4) hS212 rfl rfl _ (Ext.refl _)), (RdS.elt (St.rdO (i := 2) hS212 rfl) (by omega) (by omega) _ (Ext.refl _)), (RdS.elt (St.rdR (i := 5) hS212 rfl) (by omega) (by omega) _ (Ext.refl _)), trivial⟩ (y_load (fun _ => by kernel_rfl) rfl (fun _ h => h.2.1)) rfl rfl (by kernel_rfl) (by kernel_rfl) (by kernel_rfl) (by kernel_rfl) rfl rfl (fun _ _ _ h => h) ?_; intro a223 hE224; clear hE222
                refine d_pure (v := .pointer (some (adr f1A (Int.toNat (gI ends9 i12))))) 6 rfl hE224 (y_idx (by kernel_rfl) (fun _ => by kernel_rfl) rfl rfl (RdS.isS (m := gI ends9 i12) (St.rdR (i := 5) hS212 rfl) (by omega) (by omega)) (by omega) (by omega) (Nat.mul_one _).symm) rfl (by kernel_rfl) (by kernel_rfl) (by kernel_rfl) rfl rfl (fun _ _ _ h => h) ?_; intro a225 hE226; clear hE224
                refine d_take (v := .int .i64 (gI f1 (gI ends9 i12))) 7 rfl hE226 ⟨(St.cell (i := 4) hS212 rfl rfl _ (Ext.refl _)), (RdS.elt (St.rdO (i := 2) hS212 rfl) (by omega) (by omega) _ (Ext.refl _)), (RdS.elt (St.rdR (i := 5) hS212 rfl) (by omega) (by omega) _ (Ext.refl _)), trivial⟩ (y_load (fun _ => by kernel_rfl) rfl (fun _ h => h.2.2.1)) rfl rfl (by kernel_rfl) (by kernel_rfl) (by kernel_rfl) (by kernel_rfl) rfl rfl (fun _ _ _ h => h) ?_; intro a227 hE228; clear hE226
                refine d_only 8 (by kernel_rfl) rfl hE228 rfl (l_call (f := 71) (argv := [.int .i64 (gI f1 (gI ends9 i12))]) hE228 (fun _ => cf_l01List _ _) rfl rfl (c_l01List (gI f1 (gI ends9 i12)) w210 (by omega) (by omega)) ?_)
                rintro _ w230 ⟨b235, c236, rfl, ho237, he234⟩ a231 hE232; clear hE228
                have hS233 := St.own hS212 he234 ho237; clear hS212
                refine ⟨fun h => Bool.noConfusion (h.symm.trans (show exm _ _ _ = true by kernel_rfl)), ?_⟩
                refine d_pure (v := .slice b235 ((F_l01List (gI f1 (gI ends9 i12))).length) c236) 9 rfl hE232 (y_assign rfl) rfl (by kernel_rfl) (by kernel_rfl) (by kernel_rfl) rfl rfl (fun _ _ _ h => h) ?_; intro a238 hE239; clear hE232
                refine d_done (by kernel_rfl) ?_
                have hE240 := hE239.sub (L' := [(2, .int .i64 kp), (3, .pointer (some ⟨b2, 0, none⟩)), (6, .pointer (some ⟨b8, 0, none⟩)), (9, .slice ends9A ((ends9).length) ends9C), (10, .slice arrows10A ((arrows10).length) arrows10C), (11, .slice steps11A ((steps11).length) steps11C), (12, .int .i64 i12), (13, .slice b235 ((F_l01List (gI f1 (gI ends9 i12))).length) c236)]) ⟨rfl, rfl, rfl, rfl, rfl, rfl, rfl, rfl, trivial⟩; clear hE239
                refine p_tn ?_
                refine c_seq ?_
                refine c_seq ?_
                refine c_reg ?_
                refine q_step (v := .slice ends9A ((ends9).length) ends9C) hE240 (y_move rfl) rfl rfl rfl ?_; intro a241 hE242; clear hE240
                refine q_step (v := .int .i64 ((ends9).length : Int)) hE242 (y_len (e := 2) (by kernel_rfl) rfl) rfl rfl rfl ?_; intro a243 hE244; clear hE242
                refine q_step (v := .slice b235 ((F_l01List (gI f1 (gI ends9 i12))).length) c236) hE244 (y_move rfl) rfl rfl rfl ?_; intro a245 hE246; clear hE244
                refine q_step (v := .int .i64 ((F_l01List (gI f1 (gI ends9 i12))).length : Int)) hE246 (y_len (e := 2) (by kernel_rfl) rfl) rfl rfl rfl ?_; intro a247 hE248; clear hE246
                refine q_step (v := .int .i64 (((ends9).length : Int) + ((F_l01List (gI f1 (gI ends9 i12))).length : Int))) hE248 (y_add rfl rfl ⟨(by omega), (by omega)⟩) rfl rfl rfl ?_; intro a249 hE250; clear hE248
                refine q_step (v := .bool (decide (8 < (((ends9).length : Int) + ((F_l01List (gI f1 (gI ends9 i12))).length : Int))))) hE250 (y_gtr rfl rfl) rfl rfl rfl ?_; intro a251 hE252; clear hE250
                refine c_nil ?_
                have hE253 := hE252.sub (L' := [(2, .int .i64 kp), (3, .pointer (some ⟨b2, 0, none⟩)), (6, .pointer (some ⟨b8, 0, none⟩)), (9, .slice ends9A ((ends9).length) ends9C), (10, .slice arrows10A ((arrows10).length) arrows10C), (11, .slice steps11A ((steps11).length) steps11C), (12, .int .i64 i12), (13, .slice b235 ((F_l01List (gI f1 (gI ends9 i12))).length) c236), (59, .bool (decide (8 < (((ends9).length : Int) + ((F_l01List (gI f1 (gI ends9 i12))).length : Int)))))]) ⟨rfl, rfl, rfl, rfl, rfl, rfl, rfl, rfl, rfl, trivial⟩; clear hE252
                refine p_tn ?_
                refine c_cond hE253 rfl (fun ht254 => ?_) (fun ht254 => ?_)
                ·
                  have hp255 := of_decide_eq_true ht254
                  have hE256 := hE253; rw [ht254] at hE256; clear hE253
                  refine c_seq ?_
                  refine c_reg ?_
                  refine q_step (v := .agg #[.int .i64 0, .slice none 0 0]) hE256 (y_build (vs := #[]) (fun a n hE => by simp) (fun _ => by kernel_rfl)) rfl rfl rfl ?_; intro a257 hE258; clear hE256
                  refine l_step hE258 rfl (l_storeS (k := 4) (cs' := #[.int .i64 0, .slice none 0 0]) hS233 hE258 (by kernel_rfl) rfl rfl (by kernel_rfl) rfl rfl ?_)
                  intro w260 hS263 a261 hE262; clear hS233 hE258
                  refine q_step (v := .slice none 0 0) hE262 (y_assign rfl) rfl rfl rfl ?_; intro a265 hE266; clear hE262
                  refine q_step (v := .int .i64 3) hE266 (y_assign rfl) rfl rfl rfl ?_; intro a267 hE268; clear hE266
                  refine c_nil ?_
                  have hE269 := hE268.sub (L' := [(6, .pointer (some ⟨b8, 0, none⟩)), (7, .slice none 0 0), (8, .int .i64 3)]) ⟨rfl, rfl, rfl, trivial⟩; clear hE268
                  refine p_tn ?_
                  refine wp_ret ?_
                  refine p_tr ?_
                  refine p_br ?_
                  refine p_tr ?_
                  have hX270 : F_s_UnravelFrame_L1 f1 kp (Int.toNat (9 - 0) + 1) ([wp]) ([0]) ([0]) 0 = .error ((0, []), [], 3) := hT164.symm.trans (show F_s_UnravelFrame_L1b f1 kp (F_s_UnravelFrame_L1 f1 kp r172) ends9 arrows10 steps11 i12 = .error ((0, []), [], 3) by unfold F_s_UnravelFrame_L1b; rw [ht254, ht198, ht182]; first | done | rfl)
                  refine p_tr (p_br (p_tr ?_))
                  refine p_tr ?_
                  have hF : F_s_UnravelFrame f0 f1 wp kp = ((0, []), [], 3) := by unfold F_s_UnravelFrame; rw [hX270, ht108, hb65, ht30]; first | done | rfl
                  refine c_retC3 hE269 rfl rfl rfl rfl Try.underlying28 rfl (by kernel_rfl) (St.row (i := 4) hS263 rfl _ (Ext.refl _)) ?_
                  have hS271 := St.nils hS263 2 1; clear hS263
                  have hS272 := St.nils hS271 2 1; clear hS271
                  exact ⟨none, 0, none, 0, (by rw [hF]; first | done | rfl), (by rw [hF]; exact St.own2 1 0 hS272 rfl rfl (by decide)), hS272.ext⟩
                ·
                  have hp273 := of_decide_eq_false ht254
                  have hE274 := hE253; rw [ht254] at hE274; clear hE253
                  refine wp_skip ?_
                  refine p_tn ?_
                  refine c_seq ?_
                  refine c_reg ?_
                  refine q_step (v := .int .i64 0) hE274 (y_assign rfl) rfl rfl rfl ?_; intro a275 hE276; clear hE274
                  refine c_nil ?_
                  have hE277 := hE276.sub (L' := [(2, .int .i64 kp), (3, .pointer (some ⟨b2, 0, none⟩)), (6, .pointer (some ⟨b8, 0, none⟩)), (9, .slice ends9A ((ends9).length) ends9C), (10, .slice arrows10A ((arrows10).length) arrows10C), (11, .slice steps11A ((steps11).length) steps11C), (12, .int .i64 i12), (13, .slice b235 ((F_l01List (gI f1 (gI ends9 i12))).length) c236), (14, .int .i64 0)]) ⟨rfl, rfl, rfl, rfl, rfl, rfl, rfl, rfl, rfl, trivial⟩; clear hE276
                  refine p_tn ?_
                  refine c_cut1 (fun a' w' => ∃ ends9L2A_278 : Option Addr, ∃ ends9L2C_278 : Nat, ∃ arrows10L2A_278 : Option Addr, ∃ arrows10L2C_278 : Nat, ∃ steps11L2A_278 : Option Addr, ∃ steps11L2C_278 : Nat, (0 ≤ ((F_s_UnravelFrame_L2 f1 ends9 i12 (Int.toNat (((F_l01List (gI f1 (gI ends9 i12))).length : Int) - 0) + 1) ends9 arrows10 steps11 0).2.2.2)) ∧ ((((F_s_UnravelFrame_L2 f1 ends9 i12 (Int.toNat (((F_l01List (gI f1 (gI ends9 i12))).length : Int) - 0) + 1) ends9 arrows10 steps11 0).2.1).length : Int) = (((F_s_UnravelFrame_L2 f1 ends9 i12 (Int.toNat (((F_l01List (gI f1 (gI ends9 i12))).length : Int) - 0) + 1) ends9 arrows10 steps11 0).1).length : Int)) ∧ ((((F_s_UnravelFrame_L2 f1 ends9 i12 (Int.toNat (((F_l01List (gI f1 (gI ends9 i12))).length : Int) - 0) + 1) ends9 arrows10 steps11 0).2.2.1).length : Int) = (((F_s_UnravelFrame_L2 f1 ends9 i12 (Int.toNat (((F_l01List (gI f1 (gI ends9 i12))).length : Int) - 0) + 1) ends9 arrows10 steps11 0).1).length : Int)) ∧ ((((F_s_UnravelFrame_L2 f1 ends9 i12 (Int.toNat (((F_l01List (gI f1 (gI ends9 i12))).length : Int) - 0) + 1) ends9 arrows10 steps11 0).1).length : Int) = (ends9.length : Int) + ((F_s_UnravelFrame_L2 f1 ends9 i12 (Int.toNat (((F_l01List (gI f1 (gI ends9 i12))).length : Int) - 0) + 1) ends9 arrows10 steps11 0).2.2.2)) ∧ (∀ m : Int, 0 ≤ m → m < (((F_s_UnravelFrame_L2 f1 ends9 i12 (Int.toNat (((F_l01List (gI f1 (gI ends9 i12))).length : Int) - 0) + 1) ends9 arrows10 steps11 0).1).length : Int) → 0 ≤ gI ((F_s_UnravelFrame_L2 f1 ends9 i12 (Int.toNat (((F_l01List (gI f1 (gI ends9 i12))).length : Int) - 0) + 1) ends9 arrows10 steps11 0).1) m ∧ gI ((F_s_UnravelFrame_L2 f1 ends9 i12 (Int.toNat (((F_l01List (gI f1 (gI ends9 i12))).length : Int) - 0) + 1) ends9 arrows10 steps11 0).1) m < f0) ∧ (∀ m : Int, 0 ≤ m → m < (((F_s_UnravelFrame_L2 f1 ends9 i12 (Int.toNat (((F_l01List (gI f1 (gI ends9 i12))).length : Int) - 0) + 1) ends9 arrows10 steps11 0).2.2.1).length : Int) → 0 ≤ gI ((F_s_UnravelFrame_L2 f1 ends9 i12 (Int.toNat (((F_l01List (gI f1 (gI ends9 i12))).length : Int) - 0) + 1) ends9 arrows10 steps11 0).2.2.1) m ∧ gI ((F_s_UnravelFrame_L2 f1 ends9 i12 (Int.toNat (((F_l01List (gI f1 (gI ends9 i12))).length : Int) - 0) + 1) ends9 arrows10 steps11 0).2.2.1) m < kp + 1) ∧ (0 ≤ gI ((F_s_UnravelFrame_L2 f1 ends9 i12 (Int.toNat (((F_l01List (gI f1 (gI ends9 i12))).length : Int) - 0) + 1) ends9 arrows10 steps11 0).2.2.1) i12 ∧ gI ((F_s_UnravelFrame_L2 f1 ends9 i12 (Int.toNat (((F_l01List (gI f1 (gI ends9 i12))).length : Int) - 0) + 1) ends9 arrows10 steps11 0).2.2.1) i12 < kp) ∧ (((F_s_UnravelFrame_L2 f1 ends9 i12 (Int.toNat (((F_l01List (gI f1 (gI ends9 i12))).length : Int) - 0) + 1) ends9 arrows10 steps11 0).2.2.2) ≤ ((F_l01List (gI f1 (gI ends9 i12))).length : Int)) ∧ E a' 99 [(2, .int .i64 kp), (3, .pointer (some ⟨b2, 0, none⟩)), (6, .pointer (some ⟨b8, 0, none⟩)), (9, .slice ends9L2A_278 (((F_s_UnravelFrame_L2 f1 ends9 i12 (Int.toNat (((F_l01List (gI f1 (gI ends9 i12))).length : Int) - 0) + 1) ends9 arrows10 steps11 0).1).length) ends9L2C_278), (10, .slice arrows10L2A_278 (((F_s_UnravelFrame_L2 f1 ends9 i12 (Int.toNat (((F_l01List (gI f1 (gI ends9 i12))).length : Int) - 0) + 1) ends9 arrows10 steps11 0).2.1).length) arrows10L2C_278), (11, .slice steps11L2A_278 (((F_s_UnravelFrame_L2 f1 ends9 i12 (Int.toNat (((F_l01List (gI f1 (gI ends9 i12))).length : Int) - 0) + 1) ends9 arrows10 steps11 0).2.2.1).length) steps11L2C_278), (12, .int .i64 i12), (13, .slice b235 ((F_l01List (gI f1 (gI ends9 i12))).length) c236), (14, .int .i64 ((F_s_UnravelFrame_L2 f1 ends9 i12 (Int.toNat (((F_l01List (gI f1 (gI ends9 i12))).length : Int) - 0) + 1) ends9 arrows10 steps11 0).2.2.2))] ∧ St w w' [.own 2 1 b235 ((F_l01List (gI f1 (gI ends9 i12))).length) c236 (F_l01List (gI f1 (gI ends9 i12))), .own 2 1 steps11L2A_278 (((F_s_UnravelFrame_L2 f1 ends9 i12 (Int.toNat (((F_l01List (gI f1 (gI ends9 i12))).length : Int) - 0) + 1) ends9 arrows10 steps11 0).2.2.1).length) steps11L2C_278 ((F_s_UnravelFrame_L2 f1 ends9 i12 (Int.toNat (((F_l01List (gI f1 (gI ends9 i12))).length : Int) - 0) + 1) ends9 arrows10 steps11 0).2.2.1), .own 2 1 arrows10L2A_278 (((F_s_UnravelFrame_L2 f1 ends9 i12 (Int.toNat (((F_l01List (gI f1 (gI ends9 i12))).length : Int) - 0) + 1) ends9 arrows10 steps11 0).2.1).length) arrows10L2C_278 ((F_s_UnravelFrame_L2 f1 ends9 i12 (Int.toNat (((F_l01List (gI f1 (gI ends9 i12))).length : Int) - 0) + 1) ends9 arrows10 steps11 0).2.1), .own 2 1 ends9L2A_278 (((F_s_UnravelFrame_L2 f1 ends9 i12 (Int.toNat (((F_l01List (gI f1 (gI ends9 i12))).length : Int) - 0) + 1) ends9 arrows10 steps11 0).1).length) ends9L2C_278 ((F_s_UnravelFrame_L2 f1 ends9 i12 (Int.toNat (((F_l01List (gI f1 (gI ends9 i12))).length : Int) - 0) + 1) ends9 arrows10 steps11 0).1), .blk b8 #[.int .i64 0, .slice none 0 0] 28, .blk b2 #[.int .i64 f0, .slice f1A f1.length f1C] 28, .rd 1 f1A f1.length f1C f1]) ?_ ?_
                  ·
                    refine wp_block ?_
                    refine c_loop (fun r a' w' => ∃ ends9L2 : List Int, ∃ arrows10L2 : List Int, ∃ steps11L2 : List Int, ∃ j14L2 : Int, ∃ ends9L2A : Option Addr, ∃ ends9L2C : Nat, ∃ arrows10L2A : Option Addr, ∃ arrows10L2C : Nat, ∃ steps11L2A : Option Addr, ∃ steps11L2C : Nat, F_s_UnravelFrame_L2 f1 ends9 i12 r ends9L2 arrows10L2 steps11L2 j14L2 = F_s_UnravelFrame_L2 f1 ends9 i12 (Int.toNat (((F_l01List (gI f1 (gI ends9 i12))).length : Int) - 0) + 1) ends9 arrows10 steps11 0 ∧ Int.toNat (((F_l01List (gI f1 (gI ends9 i12))).length : Int) - j14L2) < r ∧ (0 ≤ j14L2) ∧ ((arrows10L2.length : Int) = (ends9L2.length : Int)) ∧ ((steps11L2.length : Int) = (ends9L2.length : Int)) ∧ ((ends9L2.length : Int) = (ends9.length : Int) + j14L2) ∧ (∀ m : Int, 0 ≤ m → m < (ends9L2.length : Int) → 0 ≤ gI ends9L2 m ∧ gI ends9L2 m < f0) ∧ (∀ m : Int, 0 ≤ m → m < (steps11L2.length : Int) → 0 ≤ gI steps11L2 m ∧ gI steps11L2 m < kp + 1) ∧ (0 ≤ gI steps11L2 i12 ∧ gI steps11L2 i12 < kp) ∧ (j14L2 ≤ ((F_l01List (gI f1 (gI ends9 i12))).length : Int)) ∧ E a' 99 [(2, .int .i64 kp), (3, .pointer (some ⟨b2, 0, none⟩)), (6, .pointer (some ⟨b8, 0, none⟩)), (9, .slice ends9L2A ((ends9L2).length) ends9L2C), (10, .slice arrows10L2A ((arrows10L2).length) arrows10L2C), (11, .slice steps11L2A ((steps11L2).length) steps11L2C), (12, .int .i64 i12), (13, .slice b235 ((F_l01List (gI f1 (gI ends9 i12))).length) c236), (14, .int .i64 j14L2)] ∧ St w w' [.own 2 1 b235 ((F_l01List (gI f1 (gI ends9 i12))).length) c236 (F_l01List (gI f1 (gI ends9 i12))), .own 2 1 steps11L2A ((steps11L2).length) steps11L2C steps11L2, .own 2 1 arrows10L2A ((arrows10L2).length) arrows10L2C arrows10L2, .own 2 1 ends9L2A ((ends9L2).length) ends9L2C ends9L2, .blk b8 #[.int .i64 0, .slice none 0 0] 28, .blk b2 #[.int .i64 f0, .slice f1A f1.length f1C] 28, .rd 1 f1A f1.length f1C f1]) (r := (Int.toNat (((F_l01List (gI f1 (gI ends9 i12))).length : Int) - 0) + 1)) ?_ ?_
                    · exact ⟨ends9, arrows10, steps11, 0, ends9A, ends9C, arrows10A, arrows10C, steps11A, steps11C, rfl, Nat.lt_succ_self _, (by first | omega | (simp only [List.length_replicate, sI_len]; omega) | (simp only [List.length_append, List.length_cons, List.length_nil, sI_len, cond_true, cond_false]; omega) | (simp only [List.length_append, List.length_cons, List.length_nil, sI_len, cond_eq_ite, apply_ite List.length]; split <;> simp only [List.length_append, List.length_cons, List.length_nil, sI_len] <;> omega) | grind), (by first | omega | (simp only [List.length_replicate, sI_len]; omega) | (simp only [List.length_append, List.length_cons, List.length_nil, sI_len, cond_true, cond_false]; omega) | (simp only [List.length_append, List.length_cons, List.length_nil, sI_len, cond_eq_ite, apply_ite List.length]; split <;> simp only [List.length_append, List.length_cons, List.length_nil, sI_len] <;> omega) | grind), (by first | omega | (simp only [List.length_replicate, sI_len]; omega) | (simp only [List.length_append, List.length_cons, List.length_nil, sI_len, cond_true, cond_false]; omega) | (simp only [List.length_append, List.length_cons, List.length_nil, sI_len, cond_eq_ite, apply_ite List.length]; split <;> simp only [List.length_append, List.length_cons, List.length_nil, sI_len] <;> omega) | grind), (by first | omega | (simp only [List.length_replicate, sI_len]; omega) | (simp only [List.length_append, List.length_cons, List.length_nil, sI_len, cond_true, cond_false]; omega) | (simp only [List.length_append, List.length_cons, List.length_nil, sI_len, cond_eq_ite, apply_ite List.length]; split <;> simp only [List.length_append, List.length_cons, List.length_nil, sI_len] <;> omega) | grind), (by assumption), (by assumption), (by omega), (by first | omega | (simp only [List.length_replicate, sI_len]; omega) | (simp only [List.length_append, List.length_cons, List.length_nil, sI_len, cond_true, cond_false]; omega) | (simp only [List.length_append, List.length_cons, List.length_nil, sI_len, cond_eq_ite, apply_ite List.length]; split <;> simp only [List.length_append, List.length_cons, List.length_nil, sI_len] <;> omega) | grind), (hE277.sub (L' := [(2, .int .i64 kp), (3, .pointer (some ⟨b2, 0, none⟩)), (6, .pointer (some ⟨b8, 0, none⟩)), (9, .slice ends9A ((ends9).length) ends9C), (10, .slice arrows10A ((arrows10).length) arrows10C), (11, .slice steps11A ((steps11).length) steps11C), (12, .int .i64 i12), (13, .slice b235 ((F_l01List (gI f1 (gI ends9 i12))).length) c236), (14, .int .i64 0)]) ⟨rfl, rfl, rfl, rfl, rfl, rfl, rfl, rfl, rfl, trivial⟩), (St.pick (Γ' := [.own 2 1 b235 ((F_l01List (gI f1 (gI ends9 i12))).length) c236 (F_l01List (gI f1 (gI ends9 i12))), .own 2 1 steps11A ((steps11).length) steps11C steps11, .own 2 1 arrows10A ((arrows10).length) arrows10C arrows10, .own 2 1 ends9A ((ends9).length) ends9C ends9, .blk b8 #[.int .i64 0, .slice none 0 0] 28, .blk b2 #[.int .i64 f0, .slice f1A f1.length f1C] 28, .rd 1 f1A f1.length f1C f1]) hS233 [0, 1, 2, 3, 4, 5, 6] (by decide) rfl)⟩
                    ·
                      clear hE277 hS233
                      rintro r293 a279 w280 ⟨ends9L2, arrows10L2, steps11L2, j14L2, ends9L2A, ends9L2C, arrows10L2A, arrows10L2C, steps11L2A, steps11L2C, hT283, hr284, hi285, hi286, hi287, hi288, hi289, hi290, hi291, hi292, hE281, hS282⟩
                      obtain ⟨r293, rfl⟩ : ∃ r', r293 = r' + 1 := ⟨r293 - 1, by omega⟩
                      refine c_seq ?_
                      refine c_seq ?_
                      refine c_reg ?_
                      refine q_step (v := .int .i64 j14L2) hE281 (y_move rfl) rfl rfl rfl ?_; intro a294 hE295; clear hE281
                      refine q_step (v := .slice b235 ((F_l01List (gI f1 (gI ends9 i12))).length) c236) hE295 (y_move rfl) rfl rfl rfl ?_; intro a296 hE297; clear hE295
                      refine q_step (v := .int .i64 ((F_l01List (gI f1 (gI ends9 i12))).length : Int)) hE297 (y_len (e := 2) (by kernel_rfl) rfl) rfl rfl rfl ?_; intro a298 hE299; clear hE297
                      refine q_step (v := .bool (decide (j14L2 < ((F_l01List (gI f1 (gI ends9 i12))).length : Int)))) hE299 (y_lss rfl rfl) rfl rfl rfl ?_; intro a300 hE301; clear hE299
                      refine c_nil ?_
                      have hE302 := hE301.sub (L' := [(2, .int .i64 kp), (3, .pointer (some ⟨b2, 0, none⟩)), (6, .pointer (some ⟨b8, 0, none⟩)), (9, .slice ends9L2A ((ends9L2).length) ends9L2C), (10, .slice arrows10L2A ((arrows10L2).length) arrows10L2C), (11, .slice steps11L2A ((steps11L2).length) steps11L2C), (12, .int .i64 i12), (13, .slice b235 ((F_l01List (gI f1 (gI ends9 i12))).length) c236), (14, .int .i64 j14L2), (64, .bool (decide (j14L2 < ((F_l01List (gI f1 (gI ends9 i12))).length : Int))))]) ⟨rfl, rfl, rfl, rfl, rfl, rfl, rfl, rfl, rfl, rfl, trivial⟩; clear hE301
                      refine p_tn ?_
                      refine c_cond hE302 rfl (fun ht303 => ?_) (fun ht303 => ?_)
                      ·
                        have hp304 := of_decide_eq_true ht303
                        have hE305 := hE302; rw [ht303] at hE305; clear hE302
                        have hx2 := hL j14L2 (by omega) (by omega)
                        refine wp_skip ?_
                        refine p_tn ?_
                        refine c_seq ?_
                        refine wp_block ?_
                        refine c_seq ?_
                        refine d_start (fun w' => w'.cell? (adr arrows10L2A (Int.toNat i12)) = some (.int .i64 (gI arrows10L2 i12)) ∧ True) [5] 12 (by kernel_rfl) rfl ?_
                        intro w306 he307; have hS308 := St.go hS282 he307; clear hS282
                        refine d_pure (v := .slice arrows10L2A ((arrows10L2).length) arrows10L2C) 0 rfl hE305 (y_move rfl) rfl (by kernel_rfl) (by kernel_rfl) (by kernel_rfl) rfl rfl (fun _ _ _ h => h) ?_; intro a309 hE310; clear hE305
                        refine d_pure (v := .int .i64 i12) 1 rfl hE310 (y_move rfl) rfl (by kernel_rfl) (by kernel_rfl) (by kernel_rfl) rfl rfl (fun _ _ _ h => h) ?_; intro a311 hE312; clear hE310
                        refine d_pure (v := .slice arrows10L2A ((arrows10L2).length) arrows10L2C) 2 rfl hE312 (y_move rfl) rfl (by kernel_rfl) (by kernel_rfl) (by kernel_rfl) rfl rfl (fun _ _ _ h => h) ?_; intro a313 hE314; clear hE312
                        refine d_pure (v := .int .i64 i12) 3 rfl hE314 (y_move rfl) rfl (by kernel_rfl) (by kernel_rfl) (by kernel_rfl) rfl rfl (fun _ _ _ h => h) ?_; intro a315 hE316; clear hE314
                        refine d_pure (v := .pointer (some (adr arrows10L2A (Int.toNat i12)))) 4 rfl hE316 (y_idx (by kernel_rfl) (fun _ => by kernel_rfl) rfl rfl (RdS.isS (m := i12) (St.rdO (i := 2) hS308 rfl) (by omega) (by omega)) (by omega) (by omega) (Nat.mul_one _).symm) rfl (by kernel_rfl) (by kernel_rfl) (by kernel_rfl) rfl rfl (fun _ _ _ h => h) ?_; intro a317 hE318; clear hE316
                        refine d_take (v := .int .i64 (gI arrows10L2 i12)) 5 rfl hE318 ⟨(RdS.elt (St.rdO (i := 2) hS308 rfl) (by omega) (by omega) _ (Ext.refl _)), trivial⟩ (y_load (fun _ => by kernel_rfl) rfl (fun _ h => h.1)) rfl rfl (by kernel_rfl) (by kernel_rfl) (by kernel_rfl) (by kernel_rfl) rfl rfl (fun _ _ _ h => h) ?_; intro a319 hE320; clear hE318
                        refine d_pure (v := .slice ends9L2A ((ends9L2).length) ends9L2C) 6 rfl hE320 (y_move rfl) rfl (by kernel_rfl) (by kernel_rfl) (by kernel_rfl) rfl rfl (fun _ _ _ h => h) ?_; intro a321 hE322; clear hE320
                        refine d_pure (v := .int .i64 ((ends9L2).length : Int)) 7 rfl hE322 (y_len (e := 2) (by kernel_rfl) rfl) rfl (by kernel_rfl) (by kernel_rfl) (by kernel_rfl) rfl rfl (fun _ _ _ h => h) ?_; intro a323 hE324; clear hE322
                        refine d_only 8 (by kernel_rfl) rfl hE324 rfl (l_call (f := 80) (argv := [.int .i64 ((ends9L2).length : Int)]) hE324 (fun _ => cf_l01One _ _) rfl rfl (d_l01One ((ends9L2).length : Int) w306 (by omega) (by omega)) ?_)
                        rintro _ _ ⟨rfl, rfl⟩ a327 hE328; clear hE324
                        refine ⟨fun _ _ => ⟨(RdS.elt (St.rdO (i := 2) hS308 rfl) (by omega) (by omega) _ (Ext.refl _)), trivial⟩, ?_⟩
                        refine d_pure (v := .int .i64 (orI (gI arrows10L2 i12) (powI ((ends9L2).length : Int)))) 9 rfl hE328 (y_or rfl rfl) rfl (by kernel_rfl) (by kernel_rfl) (by kernel_rfl) rfl rfl (fun _ _ _ h => h) ?_; intro a331 hE332; clear hE328
                        refine d_pure (v := .pointer (some (adr arrows10L2A (Int.toNat i12)))) 10 rfl hE332 (y_idx (by kernel_rfl) (fun _ => by kernel_rfl) rfl rfl (RdS.isS (m := i12) (St.rdO (i := 2) hS308 rfl) (by omega) (by omega)) (by omega) (by omega) (Nat.mul_one _).symm) rfl (by kernel_rfl) (by kernel_rfl) (by kernel_rfl) rfl rfl (fun _ _ _ h => h) ?_; intro a333 hE334; clear hE332
                        refine d_only 11 (by kernel_rfl) rfl hE334 rfl (l_store (k := 2) hS308 hE334 (fun _ => by kernel_rfl) rfl rfl rfl (by omega) (by omega) ?_)
                        intro w336 hS339 a337 hE338; clear hS308 hE334
                        refine ⟨fun h => Bool.noConfusion (h.symm.trans (show exm _ _ _ = true by kernel_rfl)), ?_⟩
                        refine d_done (by kernel_rfl) ?_
                        have hE341 := hE338.sub (L' := [(2, .int .i64 kp), (3, .pointer (some ⟨b2, 0, none⟩)), (6, .pointer (some ⟨b8, 0, none⟩)), (9, .slice ends9L2A ((ends9L2).length) ends9L2C), (10, .slice arrows10L2A ((arrows10L2).length) arrows10L2C), (11, .slice steps11L2A ((steps11L2).length) steps11L2C), (12, .int .i64 i12), (13, .slice b235 ((F_l01List (gI f1 (gI ends9 i12))).length) c236), (14, .int .i64 j14L2)]) ⟨rfl, rfl, rfl, rfl, rfl, rfl, rfl, rfl, rfl, trivial⟩; clear hE338
                        refine p_tn ?_
                        refine c_seq ?_
                        refine c_reg ?_
                        refine q_step (v := .slice ends9L2A ((ends9L2).length) ends9L2C) hE341 (y_move rfl) rfl rfl rfl ?_; intro a342 hE343; clear hE341
                        refine q_step (v := .slice b235 ((F_l01List (gI f1 (gI ends9 i12))).length) c236) hE343 (y_move rfl) rfl rfl rfl ?_; intro a344 hE345; clear hE343
                        refine q_step (v := .int .i64 j14L2) hE345 (y_move rfl) rfl rfl rfl ?_; intro a346 hE347; clear hE345
                        refine q_step (v := .pointer (some (adr b235 (Int.toNat j14L2)))) hE347 (y_idx (by kernel_rfl) (fun _ => by kernel_rfl) rfl rfl (RdS.isS (m := j14L2) (St.rdO (i := 0) hS339 rfl) (by omega) (by omega)) (by omega) (by omega) (Nat.mul_one _).symm) rfl rfl rfl ?_; intro a348 hE349; clear hE347
                        refine q_step (v := .int .i64 (gI (F_l01List (gI f1 (gI ends9 i12))) j14L2)) hE349 (y_load (fun _ => by kernel_rfl) rfl (RdS.elt (St.rdO (i := 0) hS339 rfl) (by omega) (by omega))) rfl rfl rfl ?_; intro a350 hE351; clear hE349
                        refine l_step hE351 rfl (l_lit (e := 2) (s := 1) (xs := [gI (F_l01List (gI f1 (gI ends9 i12))) j14L2]) (vs := [.int .i64 (gI (F_l01List (gI f1 (gI ends9 i12))) j14L2)]) hS339 hE351 rfl (fun _ => by kernel_rfl) rfl rfl rfl ?_)
                        intro b352 w353 hS356 he357 a354 hE355; clear hS339 hE351
                        obtain ⟨_, hi1, hi2, hi3, hi4⟩ := info_parts (show (Try.prog.info? 2).map (fun i => (i.zero, i.size, i.bytes)) = some (some (.int .i64 0), 1, 8) by kernel_rfl)
                        refine l_step hE355 rfl (l_append (k := 4) (n' := (ends9L2 ++ ([gI (F_l01List (gI f1 (gI ends9 i12))) j14L2])).length) hS356 hE355 (by kernel_rfl) hi1 hi2 hi3 rfl (by decide) (by rw [hi4]; decide) rfl rfl rfl (St.rdO (i := 0) hS356 rfl) (by first | omega | (simp only [List.length_append, List.length_cons, List.length_nil]; omega)) (by have h1 := (St.rdO (i := 4) hS356 rfl).len1; have h2 := (St.rdO (i := 0) hS356 rfl).len1; rw [List.length_append, h1, h2]) rfl ?_)
                        intro b358 c364 w359 hS362 a360 hE361; clear hS356 hE355 hi1 hi2 hi3 hi4
                        refine q_step (v := .slice b358 ((ends9L2 ++ ([gI (F_l01List (gI f1 (gI ends9 i12))) j14L2])).length) c364) hE361 (y_assign rfl) rfl rfl rfl ?_; intro a365 hE366; clear hE361
                        refine c_nil ?_
                        have hE367 := hE366.sub (L' := [(2, .int .i64 kp), (3, .pointer (some ⟨b2, 0, none⟩)), (6, .pointer (some ⟨b8, 0, none⟩)), (9, .slice b358 ((ends9L2 ++ ([gI (F_l01List (gI f1 (gI ends9 i12))) j14L2])).length) c364), (10, .slice arrows10L2A ((arrows10L2).length) arrows10L2C), (11, .slice steps11L2A ((steps11L2).length) steps11L2C), (12, .int .i64 i12), (13, .slice b235 ((F_l01List (gI f1 (gI ends9 i12))).length) c236), (14, .int .i64 j14L2)]) ⟨rfl, rfl, rfl, rfl, rfl, rfl, rfl, rfl, rfl, trivial⟩; clear hE366
                        refine p_tn ?_
                        refine c_seq ?_
                        refine c_reg ?_
                        refine q_step (v := .slice arrows10L2A ((arrows10L2).length) arrows10L2C) hE367 (y_move rfl) rfl rfl rfl ?_; intro a368 hE369; clear hE367
                        refine l_step hE369 rfl (l_lit (e := 2) (s := 1) (xs := [0]) (vs := [.int .i64 0]) hS362 hE369 rfl (fun _ => by kernel_rfl) rfl rfl rfl ?_)
                        intro b370 w371 hS374 he375 a372 hE373; clear hS362 hE369
                        obtain ⟨_, hi1, hi2, hi3, hi4⟩ := info_parts (show (Try.prog.info? 2).map (fun i => (i.zero, i.size, i.bytes)) = some (some (.int .i64 0), 1, 8) by kernel_rfl)
                        refine l_step hE373 rfl (l_append (k := 4) (n' := ((sI arrows10L2 i12 (orI (gI arrows10L2 i12) (powI ((ends9L2).length : Int)))) ++ ([0])).length) hS374 hE373 (by kernel_rfl) hi1 hi2 hi3 rfl (by decide) (by rw [hi4]; decide) rfl rfl rfl (St.rdO (i := 0) hS374 rfl) (by first | omega | (simp only [List.length_append, List.length_cons, List.length_nil]; omega)) (by have h1 := (St.rdO (i := 4) hS374 rfl).len1; have h2 := (St.rdO (i := 0) hS374 rfl).len1; rw [List.length_append, h1, h2]) rfl ?_)
                        intro b376 c382 w377 hS380 a378 hE379; clear hS374 hE373 hi1 hi2 hi3 hi4
                        refine q_step (v := .slice b376 (((sI arrows10L2 i12 (orI (gI arrows10L2 i12) (powI ((ends9L2).length : Int)))) ++ ([0])).length) c382) hE379 (y_assign rfl) rfl rfl rfl ?_; intro a383 hE384; clear hE379
                        refine c_nil ?_
                        have hE385 := hE384.sub (L' := [(2, .int .i64 kp), (3, .pointer (some ⟨b2, 0, none⟩)), (6, .pointer (some ⟨b8, 0, none⟩)), (9, .slice b358 ((ends9L2 ++ ([gI (F_l01List (gI f1 (gI ends9 i12))) j14L2])).length) c364), (10, .slice b376 (((sI arrows10L2 i12 (orI (gI arrows10L2 i12) (powI ((ends9L2).length : Int)))) ++ ([0])).length) c382), (11, .slice steps11L2A ((steps11L2).length) steps11L2C), (12, .int .i64 i12), (13, .slice b235 ((F_l01List (gI f1 (gI ends9 i12))).length) c236), (14, .int .i64 j14L2)]) ⟨rfl, rfl, rfl, rfl, rfl, rfl, rfl, rfl, rfl, trivial⟩; clear hE384
                        refine p_tn ?_
                        refine c_reg ?_
                        refine q_step (v := .slice steps11L2A ((steps11L2).length) steps11L2C) hE385 (y_move rfl) rfl rfl rfl ?_; intro a386 hE387; clear hE385
                        refine q_step (v := .slice steps11L2A ((steps11L2).length) steps11L2C) hE387 (y_move rfl) rfl rfl rfl ?_; intro a388 hE389; clear hE387
                        refine q_step (v := .int .i64 i12) hE389 (y_move rfl) rfl rfl rfl ?_; intro a390 hE391; clear hE389
                        refine q_step (v := .pointer (some (adr steps11L2A (Int.toNat i12)))) hE391 (y_idx (by kernel_rfl) (fun _ => by kernel_rfl) rfl rfl (RdS.isS (m := i12) (St.rdO (i := 3) hS380 rfl) (by omega) (by omega)) (by omega) (by omega) (Nat.mul_one _).symm) rfl rfl rfl ?_; intro a392 hE393; clear hE391
                        refine q_step (v := .int .i64 (gI steps11L2 i12)) hE393 (y_load (fun _ => by kernel_rfl) rfl (RdS.elt (St.rdO (i := 3) hS380 rfl) (by omega) (by omega))) rfl rfl rfl ?_; intro a394 hE395; clear hE393
                        refine q_step (v := .int .i64 ((gI steps11L2 i12) + 1)) hE395 (y_add rfl rfl ⟨(by omega), (by omega)⟩) rfl rfl rfl ?_; intro a396 hE397; clear hE395
                        refine l_step hE397 rfl (l_lit (e := 2) (s := 1) (xs := [(gI steps11L2 i12) + 1]) (vs := [.int .i64 ((gI steps11L2 i12) + 1)]) hS380 hE397 rfl (fun _ => by kernel_rfl) rfl rfl rfl ?_)
                        intro b398 w399 hS402 he403 a400 hE401; clear hS380 hE397
                        obtain ⟨_, hi1, hi2, hi3, hi4⟩ := info_parts (show (Try.prog.info? 2).map (fun i => (i.zero, i.size, i.bytes)) = some (some (.int .i64 0), 1, 8) by kernel_rfl)
                        refine l_step hE401 rfl (l_append (k := 4) (n' := (steps11L2 ++ ([(gI steps11L2 i12) + 1])).length) hS402 hE401 (by kernel_rfl) hi1 hi2 hi3 rfl (by decide) (by rw [hi4]; decide) rfl rfl rfl (St.rdO (i := 0) hS402 rfl) (by first | omega | (simp only [List.length_append, List.length_cons, List.length_nil]; omega)) (by have h1 := (St.rdO (i := 4) hS402 rfl).len1; have h2 := (St.rdO (i := 0) hS402 rfl).len1; rw [List.length_append, h1, h2]) rfl ?_)
                        intro b404 c410 w405 hS408 a406 hE407; clear hS402 hE401 hi1 hi2 hi3 hi4
                        refine q_step (v := .slice b404 ((steps11L2 ++ ([(gI steps11L2 i12) + 1])).length) c410) hE407 (y_assign rfl) rfl rfl rfl ?_; intro a411 hE412; clear hE407
                        refine c_nil ?_
                        have hE413 := hE412.sub (L' := [(2, .int .i64 kp), (3, .pointer (some ⟨b2, 0, none⟩)), (6, .pointer (some ⟨b8, 0, none⟩)), (9, .slice b358 ((ends9L2 ++ ([gI (F_l01List (gI f1 (gI ends9 i12))) j14L2])).length) c364), (10, .slice b376 (((sI arrows10L2 i12 (orI (gI arrows10L2 i12) (powI ((ends9L2).length : Int)))) ++ ([0])).length) c382), (11, .slice b404 ((steps11L2 ++ ([(gI steps11L2 i12) + 1])).length) c410), (12, .int .i64 i12), (13, .slice b235 ((F_l01List (gI f1 (gI ends9 i12))).length) c236), (14, .int .i64 j14L2)]) ⟨rfl, rfl, rfl, rfl, rfl, rfl, rfl, rfl, rfl, trivial⟩; clear hE412
                        refine p_bn ?_
                        refine p_tn ?_
                        refine c_reg ?_
                        refine q_step (v := .int .i64 j14L2) hE413 (y_move rfl) rfl rfl rfl ?_; intro a414 hE415; clear hE413
                        refine q_step (v := .int .i64 (j14L2 + 1)) hE415 (y_add rfl rfl ⟨(by omega), (by omega)⟩) rfl rfl rfl ?_; intro a416 hE417; clear hE415
                        refine q_step (v := .int .i64 (j14L2 + 1)) hE417 (y_assign rfl) rfl rfl rfl ?_; intro a418 hE419; clear hE417
                        refine c_nil ?_
                        have hE420 := hE419.sub (L' := [(2, .int .i64 kp), (3, .pointer (some ⟨b2, 0, none⟩)), (6, .pointer (some ⟨b8, 0, none⟩)), (9, .slice b358 ((ends9L2 ++ ([gI (F_l01List (gI f1 (gI ends9 i12))) j14L2])).length) c364), (10, .slice b376 (((sI arrows10L2 i12 (orI (gI arrows10L2 i12) (powI ((ends9L2).length : Int)))) ++ ([0])).length) c382), (11, .slice b404 ((steps11L2 ++ ([(gI steps11L2 i12) + 1])).length) c410), (12, .int .i64 i12), (13, .slice b235 ((F_l01List (gI f1 (gI ends9 i12))).length) c236), (14, .int .i64 (j14L2 + 1))]) ⟨rfl, rfl, rfl, rfl, rfl, rfl, rfl, rfl, rfl, trivial⟩; clear hE419
                        refine p_tn ⟨r293, Nat.lt_succ_self _, ends9L2 ++ ([gI (F_l01List (gI f1 (gI ends9 i12))) j14L2]), (sI arrows10L2 i12 (orI (gI arrows10L2 i12) (powI ((ends9L2).length : Int)))) ++ ([0]), steps11L2 ++ ([(gI steps11L2 i12) + 1]), j14L2 + 1, b358, c364, b376, c382, b404, c410, (hT283.symm.trans (show F_s_UnravelFrame_L2b f1 ends9 i12 (F_s_UnravelFrame_L2 f1 ends9 i12 r293) ends9L2 arrows10L2 steps11L2 j14L2 = F_s_UnravelFrame_L2 f1 ends9 i12 r293 (ends9L2 ++ ([gI (F_l01List (gI f1 (gI ends9 i12))) j14L2])) ((sI arrows10L2 i12 (orI (gI arrows10L2 i12) (powI ((ends9L2).length : Int)))) ++ ([0])) (steps11L2 ++ ([(gI steps11L2 i12) + 1])) (j14L2 + 1) by unfold F_s_UnravelFrame_L2b; rw [ht303]; first | done | rfl)).symm, (by omega), (by first | omega | (simp only [List.length_replicate, sI_len]; omega) | (simp only [List.length_append, List.length_cons, List.length_nil, sI_len, cond_true, cond_false]; omega) | (simp only [List.length_append, List.length_cons, List.length_nil, sI_len, cond_eq_ite, apply_ite List.length]; split <;> simp only [List.length_append, List.length_cons, List.length_nil, sI_len] <;> omega) | grind), (by first | omega | (simp only [List.length_replicate, sI_len]; omega) | (simp only [List.length_append, List.length_cons, List.length_nil, sI_len, cond_true, cond_false]; omega) | (simp only [List.length_append, List.length_cons, List.length_nil, sI_len, cond_eq_ite, apply_ite List.length]; split <;> simp only [List.length_append, List.length_cons, List.length_nil, sI_len] <;> omega) | grind), (by first | omega | (simp only [List.length_replicate, sI_len]; omega) | (simp only [List.length_append, List.length_cons, List.length_nil, sI_len, cond_true, cond_false]; omega) | (simp only [List.length_append, List.length_cons, List.length_nil, sI_len, cond_eq_ite, apply_ite List.length]; split <;> simp only [List.length_append, List.length_cons, List.length_nil, sI_len] <;> omega) | grind), (by first | omega | (simp only [List.length_replicate, sI_len]; omega) | (simp only [List.length_append, List.length_cons, List.length_nil, sI_len, cond_true, cond_false]; omega) | (simp only [List.length_append, List.length_cons, List.length_nil, sI_len, cond_eq_ite, apply_ite List.length]; split <;> simp only [List.length_append, List.length_cons, List.length_nil, sI_len] <;> omega) | grind), (im_app (by assumption) (by omega) (by omega)), (im_app (by assumption) (by omega) (by omega)), (by rw [gI_appL (by omega) (by omega)]; assumption), (by first | omega | (simp only [List.length_replicate, sI_len]; omega) | (simp only [List.length_append, List.length_cons, List.length_nil, sI_len, cond_true, cond_false]; omega) | (simp only [List.length_append, List.length_cons, List.length_nil, sI_len, cond_eq_ite, apply_ite List.length]; split <;> simp only [List.length_append, List.length_cons, List.length_nil, sI_len] <;> omega) | grind), (hE420.sub (L' := [(2, .int .i64 kp), (3, .pointer (some ⟨b2, 0, none⟩)), (6, .pointer (some ⟨b8, 0, none⟩)), (9, .slice b358 ((ends9L2 ++ ([gI (F_l01List (gI f1 (gI ends9 i12))) j14L2])).length) c364), (10, .slice b376 (((sI arrows10L2 i12 (orI (gI arrows10L2 i12) (powI ((ends9L2).length : Int)))) ++ ([0])).length) c382), (11, .slice b404 ((steps11L2 ++ ([(gI steps11L2 i12) + 1])).length) c410), (12, .int .i64 i12), (13, .slice b235 ((F_l01List (gI f1 (gI ends9 i12))).length) c236), (14, .int .i64 (j14L2 + 1))]) ⟨rfl, rfl, rfl, rfl, rfl, rfl, rfl, rfl, rfl, trivial⟩), (St.pick (Γ' := [.own 2 1 b235 ((F_l01List (gI f1 (gI ends9 i12))).length) c236 (F_l01List (gI f1 (gI ends9 i12))), .own 2 1 b404 ((steps11L2 ++ ([(gI steps11L2 i12) + 1])).length) c410 (steps11L2 ++ ([(gI steps11L2 i12) + 1])), .own 2 1 b376 (((sI arrows10L2 i12 (orI (gI arrows10L2 i12) (powI ((ends9L2).length : Int)))) ++ ([0])).length) c382 ((sI arrows10L2 i12 (orI (gI arrows10L2 i12) (powI ((ends9L2).length : Int)))) ++ ([0])), .own 2 1 b358 ((ends9L2 ++ ([gI (F_l01List (gI f1 (gI ends9 i12))) j14L2])).length) c364 (ends9L2 ++ ([gI (F_l01List (gI f1 (gI ends9 i12))) j14L2])), .blk b8 #[.int .i64 0, .slice none 0 0] 28, .blk b2 #[.int .i64 f0, .slice f1A f1.length f1C] 28, .rd 1 f1A f1.length f1C f1]) hS408 [3, 4, 5, 6, 7, 8, 9] (by decide) rfl)⟩
                      ·
                        have hp421 := of_decide_eq_false ht303
                        have hE422 := hE302; rw [ht303] at hE422; clear hE302
                        refine wp_exit ?_
                        refine p_te ?_
                        have hX423 : F_s_UnravelFrame_L2 f1 ends9 i12 (Int.toNat (((F_l01List (gI f1 (gI ends9 i12))).length : Int) - 0) + 1) ends9 arrows10 steps11 0 = (ends9L2, arrows10L2, steps11L2, j14L2) := hT283.symm.trans (show F_s_UnravelFrame_L2b f1 ends9 i12 (F_s_UnravelFrame_L2 f1 ends9 i12 r293) ends9L2 arrows10L2 steps11L2 j14L2 = (ends9L2, arrows10L2, steps11L2, j14L2) by unfold F_s_UnravelFrame_L2b; rw [ht303]; first | done | rfl)
                        refine p_te (p_be (p_tn ?_))
                        exact ⟨ends9L2A, ends9L2C, arrows10L2A, arrows10L2C, steps11L2A, steps11L2C, (by rw [hX423]; exact (show 0 ≤ j14L2 from (by first | omega | (simp only [List.length_replicate, sI_len]; omega) | (simp only [List.length_append, List.length_cons, List.length_nil, sI_len, cond_true, cond_false]; omega) | (simp only [List.length_append, List.length_cons, List.length_nil, sI_len, cond_eq_ite, apply_ite List.length]; split <;> simp only [List.length_append, List.length_cons, List.length_nil, sI_len] <;> omega) | grind))), (by rw [hX423]; exact (show (arrows10L2.length : Int) = (ends9L2.length : Int) from (by first | omega | (simp only [List.length_replicate, sI_len]; omega) | (simp only [List.length_append, List.length_cons, List.length_nil, sI_len, cond_true, cond_false]; omega) | (simp only [List.length_append, List.length_cons, List.length_nil, sI_len, cond_eq_ite, apply_ite List.length]; split <;> simp only [List.length_append, List.length_cons, List.length_nil, sI_len] <;> omega) | grind))), (by rw [hX423]; exact (show (steps11L2.length : Int) = (ends9L2.length : Int) from (by first | omega | (simp only [List.length_replicate, sI_len]; omega) | (simp only [List.length_append, List.length_cons, List.length_nil, sI_len, cond_true, cond_false]; omega) | (simp only [List.length_append, List.length_cons, List.length_nil, sI_len, cond_eq_ite, apply_ite List.length]; split <;> simp only [List.length_append, List.length_cons, List.length_nil, sI_len] <;> omega) | grind))), (by rw [hX423]; exact (show (ends9L2.length : Int) = (ends9.length : Int) + j14L2 from (by first | omega | (simp only [List.length_replicate, sI_len]; omega) | (simp only [List.length_append, List.length_cons, List.length_nil, sI_len, cond_true, cond_false]; omega) | (simp only [List.length_append, List.length_cons, List.length_nil, sI_len, cond_eq_ite, apply_ite List.length]; split <;> simp only [List.length_append, List.length_cons, List.length_nil, sI_len] <;> omega) | grind))), (by rw [hX423]; exact (show ∀ m : Int, 0 ≤ m → m < (ends9L2.length : Int) → 0 ≤ gI ends9L2 m ∧ gI ends9L2 m < f0 from (by first | omega | (simp only [List.length_replicate, sI_len]; omega) | (simp only [List.length_append, List.length_cons, List.length_nil, sI_len, cond_true, cond_false]; omega) | (simp only [List.length_append, List.length_cons, List.length_nil, sI_len, cond_eq_ite, apply_ite List.length]; split <;> simp only [List.length_append, List.length_cons, List.length_nil, sI_len] <;> omega) | grind))), (by rw [hX423]; exact (show ∀ m : Int, 0 ≤ m → m < (steps11L2.length : Int) → 0 ≤ gI steps11L2 m ∧ gI steps11L2 m < kp + 1 from (by first | omega | (simp only [List.length_replicate, sI_len]; omega) | (simp only [List.length_append, List.length_cons, List.length_nil, sI_len, cond_true, cond_false]; omega) | (simp only [List.length_append, List.length_cons, List.length_nil, sI_len, cond_eq_ite, apply_ite List.length]; split <;> simp only [List.length_append, List.length_cons, List.length_nil, sI_len] <;> omega) | grind))), (by rw [hX423]; exact (show 0 ≤ gI steps11L2 i12 ∧ gI steps11L2 i12 < kp from (by first | omega | (simp only [List.length_replicate, sI_len]; omega) | (simp only [List.length_append, List.length_cons, List.length_nil, sI_len, cond_true, cond_false]; omega) | (simp only [List.length_append, List.length_cons, List.length_nil, sI_len, cond_eq_ite, apply_ite List.length]; split <;> simp only [List.length_append, List.length_cons, List.length_nil, sI_len] <;> omega) | grind))), (by rw [hX423]; exact (show j14L2 ≤ ((F_l01List (gI f1 (gI ends9 i12))).length : Int) from (by first | omega | (simp only [List.length_replicate, sI_len]; omega) | (simp only [List.length_append, List.length_cons, List.length_nil, sI_len, cond_true, cond_false]; omega) | (simp only [List.length_append, List.length_cons, List.length_nil, sI_len, cond_eq_ite, apply_ite List.length]; split <;> simp only [List.length_append, List.length_cons, List.length_nil, sI_len] <;> omega) | grind))), (by rw [hX423]; exact (hE422.sub (L' := [(2, .int .i64 kp), (3, .pointer (some ⟨b2, 0, none⟩)), (6, .pointer (some ⟨b8, 0, none⟩)), (9, .slice ends9L2A ((ends9L2).length) ends9L2C), (10, .slice arrows10L2A ((arrows10L2).length) arrows10L2C), (11, .slice steps11L2A ((steps11L2).length) steps11L2C), (12, .int .i64 i12), (13, .slice b235 ((F_l01List (gI f1 (gI ends9 i12))).length) c236), (14, .int .i64 j14L2)]) ⟨rfl, rfl, rfl, rfl, rfl, rfl, rfl, rfl, rfl, trivial⟩)), (by rw [hX423]; exact (St.pick (Γ' := [.own 2 1 b235 ((F_l01List (gI f1 (gI ends9 i12))).length) c236 (F_l01List (gI f1 (gI ends9 i12))), .own 2 1 steps11L2A ((steps11L2).length) steps11L2C steps11L2, .own 2 1 arrows10L2A ((arrows10L2).length) arrows10L2C arrows10L2, .own 2 1 ends9L2A ((ends9L2).length) ends9L2C ends9L2, .blk b8 #[.int .i64 0, .slice none 0 0] 28, .blk b2 #[.int .i64 f0, .slice f1A f1.length f1C] 28, .rd 1 f1A f1.length f1C f1]) hS282 [0, 1, 2, 3, 4, 5, 6] (by decide) rfl))⟩
                  ·
                    rintro a424 w425 ⟨ends9L2A_278, ends9L2C_278, arrows10L2A_278, arrows10L2C_278, steps11L2A_278, steps11L2C_278, hi429, hi430, hi431, hi432, hi433, hi434, hi435, hi436, hE426, hS427⟩; clear hE277 hS233
                    refine p_bn ?_
                    refine p_tn ?_
                    refine c_reg ?_
                    refine q_step (v := .int .i64 i12) hE426 (y_move rfl) rfl rfl rfl ?_; intro a437 hE438; clear hE426
                    refine q_step (v := .int .i64 (i12 + 1)) hE438 (y_add rfl rfl ⟨(by omega), (by omega)⟩) rfl rfl rfl ?_; intro a439 hE440; clear hE438
                    refine q_step (v := .int .i64 (i12 + 1)) hE440 (y_assign rfl) rfl rfl rfl ?_; intro a441 hE442; clear hE440
                    refine c_nil ?_
                    have hE443 := hE442.sub (L' := [(2, .int .i64 kp), (3, .pointer (some ⟨b2, 0, none⟩)), (6, .pointer (some ⟨b8, 0, none⟩)), (9, .slice ends9L2A_278 (((F_s_UnravelFrame_L2 f1 ends9 i12 (Int.toNat (((F_l01List (gI f1 (gI ends9 i12))).length : Int) - 0) + 1) ends9 arrows10 steps11 0).1).length) ends9L2C_278), (10, .slice arrows10L2A_278 (((F_s_UnravelFrame_L2 f1 ends9 i12 (Int.toNat (((F_l01List (gI f1 (gI ends9 i12))).length : Int) - 0) + 1) ends9 arrows10 steps11 0).2.1).length) arrows10L2C_278), (11, .slice steps11L2A_278 (((F_s_UnravelFrame_L2 f1 ends9 i12 (Int.toNat (((F_l01List (gI f1 (gI ends9 i12))).length : Int) - 0) + 1) ends9 arrows10 steps11 0).2.2.1).length) steps11L2C_278), (12, .int .i64 (i12 + 1))]) ⟨rfl, rfl, rfl, rfl, rfl, rfl, rfl, trivial⟩; clear hE442
                    refine p_tn ⟨r172, Nat.lt_succ_self _, (F_s_UnravelFrame_L2 f1 ends9 i12 (Int.toNat (((F_l01List (gI f1 (gI ends9 i12))).length : Int) - 0) + 1) ends9 arrows10 steps11 0).1, (F_s_UnravelFrame_L2 f1 ends9 i12 (Int.toNat (((F_l01List (gI f1 (gI ends9 i12))).length : Int) - 0) + 1) ends9 arrows10 steps11 0).2.1, (F_s_UnravelFrame_L2 f1 ends9 i12 (Int.toNat (((F_l01List (gI f1 (gI ends9 i12))).length : Int) - 0) + 1) ends9 arrows10 steps11 0).2.2.1, i12 + 1, ends9L2A_278, ends9L2C_278, arrows10L2A_278, arrows10L2C_278, steps11L2A_278, steps11L2C_278, (hT164.symm.trans (show F_s_UnravelFrame_L1b f1 kp (F_s_UnravelFrame_L1 f1 kp r172) ends9 arrows10 steps11 i12 = F_s_UnravelFrame_L1 f1 kp r172 ((F_s_UnravelFrame_L2 f1 ends9 i12 (Int.toNat (((F_l01List (gI f1 (gI ends9 i12))).length : Int) - 0) + 1) ends9 arrows10 steps11 0).1) ((F_s_UnravelFrame_L2 f1 ends9 i12 (Int.toNat (((F_l01List (gI f1 (gI ends9 i12))).length : Int) - 0) + 1) ends9 arrows10 steps11 0).2.1) ((F_s_UnravelFrame_L2 f1 ends9 i12 (Int.toNat (((F_l01List (gI f1 (gI ends9 i12))).length : Int) - 0) + 1) ends9 arrows10 steps11 0).2.2.1) (i12 + 1) by unfold F_s_UnravelFrame_L1b; rw [ht254, ht198, ht182]; first | done | rfl)).symm, (by omega), (by first | omega | (simp only [List.length_replicate, sI_len]; omega) | (simp only [List.length_append, List.length_cons, List.length_nil, sI_len, cond_true, cond_false]; omega) | (simp only [List.length_append, List.length_cons, List.length_nil, sI_len, cond_eq_ite, apply_ite List.length]; split <;> simp only [List.length_append, List.length_cons, List.length_nil, sI_len] <;> omega) | grind), (by first | omega | (simp only [List.length_replicate, sI_len]; omega) | (simp only [List.length_append, List.length_cons, List.length_nil, sI_len, cond_true, cond_false]; omega) | (simp only [List.length_append, List.length_cons, List.length_nil, sI_len, cond_eq_ite, apply_ite List.length]; split <;> simp only [List.length_append, List.length_cons, List.length_nil, sI_len] <;> omega) | grind), (by first | omega | (simp only [List.length_replicate, sI_len]; omega) | (simp only [List.length_append, List.length_cons, List.length_nil, sI_len, cond_true, cond_false]; omega) | (simp only [List.length_append, List.length_cons, List.length_nil, sI_len, cond_eq_ite, apply_ite List.length]; split <;> simp only [List.length_append, List.length_cons, List.length_nil, sI_len] <;> omega) | grind), (by first | omega | (simp only [List.length_replicate, sI_len]; omega) | (simp only [List.length_append, List.length_cons, List.length_nil, sI_len, cond_true, cond_false]; omega) | (simp only [List.length_append, List.length_cons, List.length_nil, sI_len, cond_eq_ite, apply_ite List.length]; split <;> simp only [List.length_append, List.length_cons, List.length_nil, sI_len] <;> omega) | grind), (by assumption), (by assumption), (hE443.sub (L' := [(2, .int .i64 kp), (3, .pointer (some ⟨b2, 0, none⟩)), (6, .pointer (some ⟨b8, 0, none⟩)), (9, .slice ends9L2A_278 (((F_s_UnravelFrame_L2 f1 ends9 i12 (Int.toNat (((F_l01List (gI f1 (gI ends9 i12))).length : Int) - 0) + 1) ends9 arrows10 steps11 0).1).length) ends9L2C_278), (10, .slice arrows10L2A_278 (((F_s_UnravelFrame_L2 f1 ends9 i12 (Int.toNat (((F_l01List (gI f1 (gI ends9 i12))).length : Int) - 0) + 1) ends9 arrows10 steps11 0).2.1).length) arrows10L2C_278), (11, .slice steps11L2A_278 (((F_s_UnravelFrame_L2 f1 ends9 i12 (Int.toNat (((F_l01List (gI f1 (gI ends9 i12))).length : Int) - 0) + 1) ends9 arrows10 steps11 0).2.2.1).length) steps11L2C_278), (12, .int .i64 (i12 + 1))]) ⟨rfl, rfl, rfl, rfl, rfl, rfl, rfl, trivial⟩), (St.pick (Γ' := [.own 2 1 steps11L2A_278 (((F_s_UnravelFrame_L2 f1 ends9 i12 (Int.toNat (((F_l01List (gI f1 (gI ends9 i12))).length : Int) - 0) + 1) ends9 arrows10 steps11 0).2.2.1).length) steps11L2C_278 ((F_s_UnravelFrame_L2 f1 ends9 i12 (Int.toNat (((F_l01List (gI f1 (gI ends9 i12))).length : Int) - 0) + 1) ends9 arrows10 steps11 0).2.2.1), .own 2 1 arrows10L2A_278 (((F_s_UnravelFrame_L2 f1 ends9 i12 (Int.toNat (((F_l01List (gI f1 (gI ends9 i12))).length : Int) - 0) + 1) ends9 arrows10 steps11 0).2.1).length) arrows10L2C_278 ((F_s_UnravelFrame_L2 f1 ends9 i12 (Int.toNat (((F_l01List (gI f1 (gI ends9 i12))).length : Int) - 0) + 1) ends9 arrows10 steps11 0).2.1), .own 2 1 ends9L2A_278 (((F_s_UnravelFrame_L2 f1 ends9 i12 (Int.toNat (((F_l01List (gI f1 (gI ends9 i12))).length : Int) - 0) + 1) ends9 arrows10 steps11 0).1).length) ends9L2C_278 ((F_s_UnravelFrame_L2 f1 ends9 i12 (Int.toNat (((F_l01List (gI f1 (gI ends9 i12))).length : Int) - 0) + 1) ends9 arrows10 steps11 0).1), .blk b8 #[.int .i64 0, .slice none 0 0] 28, .blk b2 #[.int .i64 f0, .slice f1A f1.length f1C] 28, .rd 1 f1A f1.length f1C f1]) hS427 [1, 2, 3, 4, 5, 6] (by decide) rfl)⟩
            ·
              have hp444 := of_decide_eq_false ht182
              have hE445 := hE181; rw [ht182] at hE445; clear hE181
              refine wp_exit ?_
              refine p_te ?_
              have hX446 : F_s_UnravelFrame_L1 f1 kp (Int.toNat (9 - 0) + 1) ([wp]) ([0]) ([0]) 0 = .ok (ends9, arrows10, steps11, i12) := hT164.symm.trans (show F_s_UnravelFrame_L1b f1 kp (F_s_UnravelFrame_L1 f1 kp r172) ends9 arrows10 steps11 i12 = .ok (ends9, arrows10, steps11, i12) by unfold F_s_UnravelFrame_L1b; rw [ht182]; first | done | rfl)
              refine p_te (p_be (p_tn ?_))
              exact ⟨ends9A, ends9C, arrows10A, arrows10C, steps11A, steps11C, (by rw [hX446]; rfl), (by rw [hX446]; exact (show 0 ≤ i12 from (by first | omega | (simp only [List.length_replicate, sI_len]; omega) | (simp only [List.length_append, List.length_cons, List.length_nil, sI_len, cond_true, cond_false]; omega) | (simp only [List.length_append, List.length_cons, List.length_nil, sI_len, cond_eq_ite, apply_ite List.length]; split <;> simp only [List.length_append, List.length_cons, List.length_nil, sI_len] <;> omega) | grind))), (by rw [hX446]; exact (show (arrows10.length : Int) = (ends9.length : Int) from (by first | omega | (simp only [List.length_replicate, sI_len]; omega) | (simp only [List.length_append, List.length_cons, List.length_nil, sI_len, cond_true, cond_false]; omega) | (simp only [List.length_append, List.length_cons, List.length_nil, sI_len, cond_eq_ite, apply_ite List.length]; split <;> simp only [List.length_append, List.length_cons, List.length_nil, sI_len] <;> omega) | grind))), (by rw [hX446]; exact (show (steps11.length : Int) = (ends9.length : Int) from (by first | omega | (simp only [List.length_replicate, sI_len]; omega) | (simp only [List.length_append, List.length_cons, List.length_nil, sI_len, cond_true, cond_false]; omega) | (simp only [List.length_append, List.length_cons, List.length_nil, sI_len, cond_eq_ite, apply_ite List.length]; split <;> simp only [List.length_append, List.length_cons, List.length_nil, sI_len] <;> omega) | grind))), (by rw [hX446]; exact (show ends9.length ≤ 8 from (by first | omega | (simp only [List.length_replicate, sI_len]; omega) | (simp only [List.length_append, List.length_cons, List.length_nil, sI_len, cond_true, cond_false]; omega) | (simp only [List.length_append, List.length_cons, List.length_nil, sI_len, cond_eq_ite, apply_ite List.length]; split <;> simp only [List.length_append, List.length_cons, List.length_nil, sI_len] <;> omega) | grind))), (by rw [hX446]; exact (show ∀ m : Int, 0 ≤ m → m < (ends9.length : Int) → 0 ≤ gI ends9 m ∧ gI ends9 m < f0 from (by first | omega | (simp only [List.length_replicate, sI_len]; omega) | (simp only [List.length_append, List.length_cons, List.length_nil, sI_len, cond_true, cond_false]; omega) | (simp only [List.length_append, List.length_cons, List.length_nil, sI_len, cond_eq_ite, apply_ite List.length]; split <;> simp only [List.length_append, List.length_cons, List.length_nil, sI_len] <;> omega) | grind))), (by rw [hX446]; exact (show ∀ m : Int, 0 ≤ m → m < (steps11.length : Int) → 0 ≤ gI steps11 m ∧ gI steps11 m < kp + 1 from (by first | omega | (simp only [List.length_replicate, sI_len]; omega) | (simp only [List.length_append, List.length_cons, List.length_nil, sI_len, cond_true, cond_false]; omega) | (simp only [List.length_append, List.length_cons, List.length_nil, sI_len, cond_eq_ite, apply_ite List.length]; split <;> simp only [List.length_append, List.length_cons, List.length_nil, sI_len] <;> omega) | grind))), (by rw [hX446]; exact (hE445.sub (L' := [(2, .int .i64 kp), (3, .pointer (some ⟨b2, 0, none⟩)), (6, .pointer (some ⟨b8, 0, none⟩)), (9, .slice ends9A ((ends9).length) ends9C), (10, .slice arrows10A ((arrows10).length) arrows10C), (11, .slice steps11A ((steps11).length) steps11C), (12, .int .i64 i12)]) ⟨rfl, rfl, rfl, rfl, rfl, rfl, rfl, trivial⟩)), (by rw [hX446]; exact (St.pick (Γ' := [.own 2 1 steps11A ((steps11).length) steps11C steps11, .own 2 1 arrows10A ((arrows10).length) arrows10C arrows10, .own 2 1 ends9A ((ends9).length) ends9C ends9, .blk b8 #[.int .i64 0, .slice none 0 0] 28, .blk b2 #[.int .i64 f0, .slice f1A f1.length f1C] 28, .rd 1 f1A f1.length f1C f1]) hS163 [0, 1, 2, 3, 4, 5] (by decide) rfl))⟩
        ·
          rintro a447 w448 ⟨ends9A_159, ends9C_159, arrows10A_159, arrows10C_159, steps11A_159, steps11C_159, hO451, hi452, hi453, hi454, hi455, hi456, hi457, hE449, hS450⟩; clear hE158 hS147
          refine p_tn ?_
          refine c_seq ?_
          refine c_reg ?_
          refine q_step (v := .slice arrows10A_159 (((okD (F_s_UnravelFrame_L1 f1 kp (Int.toNat (9 - 0) + 1) ([wp]) ([0]) ([0]) 0)).2.1).length) arrows10C_159) hE449 (y_move rfl) rfl rfl rfl ?_; intro a458 hE459; clear hE449
          refine l_step hE459 rfl (l_call (f := 94) (argv := [.slice arrows10A_159 (((okD (F_s_UnravelFrame_L1 f1 kp (Int.toNat (9 - 0) + 1) ([wp]) ([0]) ([0]) 0)).2.1).length) arrows10C_159]) hE459 (fun _ => cf_l05Make _ _) rfl rfl (d_l05Make arrows10A_159 (((okD (F_s_UnravelFrame_L1 f1 kp (Int.toNat (9 - 0) + 1) ([wp]) ([0]) ([0]) 0)).2.1).length) arrows10C_159 ((okD (F_s_UnravelFrame_L1 f1 kp (Int.toNat (9 - 0) + 1) ([wp]) ([0]) ([0]) 0)).2.1) w448 (St.rdO (i := 1) hS450 rfl) (by omega)) ?_)
          rintro _ w461 ⟨b466, c467, rfl, ho468, he465⟩ a462 hE463; clear hE459
          have hS464 := St.own hS450 he465 ho468; clear hS450
          refine q_step (v := .slice ends9A_159 (((okD (F_s_UnravelFrame_L1 f1 kp (Int.toNat (9 - 0) + 1) ([wp]) ([0]) ([0]) 0)).1).length) ends9C_159) hE463 (y_move rfl) rfl rfl rfl ?_; intro a469 hE470; clear hE463
          refine l_step hE470 rfl (l_storeS (k := 4) (cs' := #[.int .i64 (((okD (F_s_UnravelFrame_L1 f1 kp (Int.toNat (9 - 0) + 1) ([wp]) ([0]) ([0]) 0)).2.1).length : Int), .slice b466 ((((okD (F_s_UnravelFrame_L1 f1 kp (Int.toNat (9 - 0) + 1) ([wp]) ([0]) ([0]) 0)).2.1)).length) c467]) hS464 hE470 (by kernel_rfl) rfl rfl (by kernel_rfl) rfl rfl ?_)
          intro w472 hS475 a473 hE474; clear hS464 hE470
          refine q_step (v := .slice ends9A_159 (((okD (F_s_UnravelFrame_L1 f1 kp (Int.toNat (9 - 0) + 1) ([wp]) ([0]) ([0]) 0)).1).length) ends9C_159) hE474 (y_assign rfl) rfl rfl rfl ?_; intro a477 hE478; clear hE474
          refine q_step (v := .int .i64 0) hE478 (y_assign rfl) rfl rfl rfl ?_; intro a479 hE480; clear hE478
          refine c_nil ?_
          have hE481 := hE480.sub (L' := [(6, .pointer (some ⟨b8, 0, none⟩)), (7, .slice ends9A_159 (((okD (F_s_UnravelFrame_L1 f1 kp (Int.toNat (9 - 0) + 1) ([wp]) ([0]) ([0]) 0)).1).length) ends9C_159), (8, .int .i64 0)]) ⟨rfl, rfl, rfl, trivial⟩; clear hE480
          refine p_tn ?_
          refine wp_ret ?_
          have hF : F_s_UnravelFrame f0 f1 wp kp = (((((okD (F_s_UnravelFrame_L1 f1 kp (Int.toNat (9 - 0) + 1) ([wp]) ([0]) ([0]) 0)).2.1).length : Int), ((okD (F_s_UnravelFrame_L1 f1 kp (Int.toNat (9 - 0) + 1) ([wp]) ([0]) ([0]) 0)).2.1)), (okD (F_s_UnravelFrame_L1 f1 kp (Int.toNat (9 - 0) + 1) ([wp]) ([0]) ([0]) 0)).1, 0) := by unfold F_s_UnravelFrame; rw [hO451, ht108, hb65, ht30]; first | done | rfl
          refine c_retC3 hE481 rfl rfl rfl rfl Try.underlying28 rfl (by kernel_rfl) (St.row (i := 4) hS475 rfl _ (Ext.refl _)) ?_
          exact ⟨b466, c467, ends9A_159, ends9C_159, (by rw [hF]; first | done | rfl), (by rw [hF]; exact St.own2 0 3 hS475 rfl rfl (by decide)), hS475.ext⟩

def F_UnravelFrame_L2b (f1 : List Int) (last9 : List Int) (i12 : Int) (rec : (List Int) → (List Int) → Int → Int → (List Int) × (List Int) × Int × Int) (last9L2 : List Int) (steps10L2 : List Int) (mask13L2 : Int) (t57L2 : Int) : (List Int) × (List Int) × Int × Int :=
  bif (decide (t57L2 < ((F_membersOf (gI f1 (gI last9 i12))).length : Int))) then (rec (last9L2 ++ ([gI (F_membersOf (gI f1 (gI last9 i12))) t57L2])) (steps10L2 ++ ([(gI steps10L2 i12) + 1])) (orI mask13L2 (shlI 1 ((last9L2).length : Int))) (t57L2 + 1)) else (last9L2, steps10L2, mask13L2, t57L2)
def F_UnravelFrame_L2 (f1 : List Int) (last9 : List Int) (i12 : Int) : Nat → (List Int) → (List Int) → Int → Int → (List Int) × (List Int) × Int × Int
  | 0, last9L2, steps10L2, mask13L2, t57L2 => (last9L2, steps10L2, mask13L2, t57L2)
  | r + 1, last9L2, steps10L2, mask13L2, t57L2 => F_UnravelFrame_L2b f1 last9 i12 (F_UnravelFrame_L2 f1 last9 i12 r) last9L2 steps10L2 mask13L2 t57L2
def F_UnravelFrame_L1b (f1 : List Int) (kp : Int) (rec : (List Int) → (List Int) → (List Int) → Int → Except ((Int × List Int) × (List Int) × (Int)) ((List Int) × (List Int) × (List Int) × Int)) (last9 : List Int) (steps10 : List Int) (arrows11 : List Int) (i12 : Int) : Except ((Int × List Int) × (List Int) × (Int)) ((List Int) × (List Int) × (List Int) × Int) :=
  bif (decide (i12 < ((last9).length : Int))) then (bif (decide ((gI steps10 i12) < kp)) then (bif (decide (8 < (((F_UnravelFrame_L2 f1 last9 i12 (Int.toNat (((F_membersOf (gI f1 (gI last9 i12))).length : Int) - 0) + 1) last9 steps10 0 0).1).length : Int))) then (.error ((0, []), [], 3)) else (rec ((F_UnravelFrame_L2 f1 last9 i12 (Int.toNat (((F_membersOf (gI f1 (gI last9 i12))).length : Int) - 0) + 1) last9 steps10 0 0).1) ((F_UnravelFrame_L2 f1 last9 i12 (Int.toNat (((F_membersOf (gI f1 (gI last9 i12))).length : Int) - 0) + 1) last9 steps10 0 0).2.1) (arrows11 ++ ([(F_UnravelFrame_L2 f1 last9 i12 (Int.toNat (((F_membersOf (gI f1 (gI last9 i12))).length : Int) - 0) + 1) last9 steps10 0 0).2.2.1])) (i12 + 1))) else (bif (decide (8 < ((last9).length : Int))) then (.error ((0, []), [], 3)) else (rec last9 steps10 (arrows11 ++ ([0])) (i12 + 1)))) else (.ok (last9, steps10, arrows11, i12))
def F_UnravelFrame_L1 (f1 : List Int) (kp : Int) : Nat → (List Int) → (List Int) → (List Int) → Int → Except ((Int × List Int) × (List Int) × (Int)) ((List Int) × (List Int) × (List Int) × Int)
  | 0, last9, steps10, arrows11, i12 => .ok (last9, steps10, arrows11, i12)
  | r + 1, last9, steps10, arrows11, i12 => F_UnravelFrame_L1b f1 kp (F_UnravelFrame_L1 f1 kp r) last9 steps10 arrows11 i12
def F_UnravelFrame (f0 : Int) (f1 : List Int) (wp : Int) (kp : Int) : (Int × List Int) × (List Int) × (Int) :=
  bif (!(F_isFrame f0 f1)) then ((0, []), [], 1) else (bif (!(F_Frame_hasWorld f0 f1 wp)) then ((0, []), [], 2) else (bif (!(F_inRange kp 0 8)) then ((0, []), [], 2) else (bif (isOk (F_UnravelFrame_L1 f1 kp (Int.toNat (9 - 0) + 1) ([wp]) ([0]) ([]) 0)) then (((F_frameOf ((okD (F_UnravelFrame_L1 f1 kp (Int.toNat (9 - 0) + 1) ([wp]) ([0]) ([]) 0)).2.2.1)).1, (okD (F_UnravelFrame_L1 f1 kp (Int.toNat (9 - 0) + 1) ([wp]) ([0]) ([]) 0)).2.2.1), (okD (F_UnravelFrame_L1 f1 kp (Int.toNat (9 - 0) + 1) ([wp]) ([0]) ([]) 0)).1, 0) else (errD (F_UnravelFrame_L1 f1 kp (Int.toNat (9 - 0) + 1) ([wp]) ([0]) ([]) 0)))))
theorem cf_UnravelFrame (args : Array Value) (w : World) : (callFunc 49 args).run Try.prog w = .ok (.enter 49 args) w := by kernel_rfl
set_option maxRecDepth 100000 in
theorem c_UnravelFrame (f0 : Int) (f1A : Option Addr) (f1N f1C : Nat) (f1 : List Int) (wp : Int) (kp : Int) (w : World) (f1R : RdS w 1 f1A f1N f1C f1) :
    Calls Try.prog 49 #[.agg #[.int .i64 f0, .slice f1A f1N f1C], .int .i64 wp, .int .i64 kp] w (Ret fun v w' => ∃ b1 : Option Addr, ∃ c1 : Nat, ∃ b2 : Option Addr, ∃ c2 : Nat, v = .tuple #[.agg #[.int .i64 (((F_UnravelFrame f0 f1 wp kp).1).1), .slice b1 (((F_UnravelFrame f0 f1 wp kp).1).2).length c1], .slice b2 ((F_UnravelFrame f0 f1 wp kp).2.1).length c2, .int .i64 ((F_UnravelFrame f0 f1 wp kp).2.2)] ∧ Own2 w' w.heap.size 2 b1 (((F_UnravelFrame f0 f1 wp kp).1).2).length c1 (((F_UnravelFrame f0 f1 wp kp).1).2) b2 ((F_UnravelFrame f0 f1 wp kp).2.1).length c2 ((F_UnravelFrame f0 f1 wp kp).2.1) ∧ Ext w w') := by
  obtain rfl : f1N = f1.length := f1R.len1.symm
  have f1Le := f1R.le
  have hS := St.nil w
  have hS1 := St.rd0 hS rfl f1R; clear hS
  refine enter (args := [.agg #[.int .i64 f0, .slice f1A f1.length f1C], .int .i64 wp, .int .i64 kp]) Try.func49 rfl rfl ?_
  rw [Try.ntmps49]; intro a hE
  have hE := hE.sub (L' := [(0, .agg #[.int .i64 f0, .slice f1A f1.length f1C]), (1, .int .i64 wp), (2, .int .i64 kp)]) ⟨rfl, rfl, rfl, trivial⟩
  refine c_seq ?_
  refine c_reg ?_
  refine l_step hE rfl (l_box (v := .agg #[.int .i64 f0, .slice f1A f1.length f1C]) (cs := #[.int .i64 f0, .slice f1A f1.length f1C]) hS1 hE rfl rfl rfl ?_)
  intro b2 w3 hS6 he7 a4 hE5; clear hS1 hE
  refine l_step hE5 rfl (l_alloc (z := .agg #[.int .i64 0, .slice none 0 0]) (cs := #[.int .i64 0, .slice none 0 0]) hS6 hE5 (fun _ => by kernel_rfl) rfl rfl ?_)
  intro b8 w9 hS12 he13 a10 hE11; clear hS6 hE5
  refine q_step (v := .slice none 0 0) hE11 (y_assign rfl) rfl rfl rfl ?_; intro a14 hE15; clear hE11
  refine q_step (v := .int .i64 0) hE15 (y_assign rfl) rfl rfl rfl ?_; intro a16 hE17; clear hE15
  refine c_nil ?_
  have hE18 := hE17.sub (L' := [(1, .int .i64 wp), (2, .int .i64 kp), (3, .pointer (some ⟨b2, 0, none⟩)), (6, .pointer (some ⟨b8, 0, none⟩))]) ⟨rfl, rfl, rfl, rfl, trivial⟩; clear hE17
  refine p_tn ?_
  refine c_seq ?_
  refine wp_block ?_
  refine c_seq ?_
  refine c_reg ?_
  refine q_step (v := .agg #[.int .i64 f0, .slice f1A f1.length f1C]) hE18 (y_loadS Try.underlying28 rfl (by kernel_rfl) rfl (St.row (i := 1) hS12 rfl)) rfl rfl rfl ?_; intro a19 hE20; clear hE18
  refine l_step hE20 rfl (l_call (f := 61) (argv := [.agg #[.int .i64 f0, .slice f1A f1.length f1C]]) hE20 (fun _ => cf_isFrame _ _) rfl rfl (c_isFrame f0 f1A f1.length f1C f1 w9 (St.rdR (i := 2) hS12 rfl)) ?_)
  rintro _ w22 ⟨rfl, he26⟩ a23 hE24; clear hE20
  have hS25 := St.go hS12 he26; clear hS12
  refine q_step (v := .bool (!(F_isFrame f0 f1))) hE24 (y_not rfl) rfl rfl rfl ?_; intro a27 hE28; clear hE24
  refine q_step (v := .bool (!(F_isFrame f0 f1))) hE28 (y_assign rfl) rfl rfl rfl ?_; intro a29 hE30; clear hE28
  refine c_nil ?_
  have hE31 := hE30.sub (L' := [(1, .int .i64 wp), (2, .int .i64 kp), (3, .pointer (some ⟨b2, 0, none⟩)), (6, .pointer (some ⟨b8, 0, none⟩)), (16, .bool (!(F_isFrame f0 f1)))]) ⟨rfl, rfl, rfl, rfl, rfl, trivial⟩; clear hE30
  refine p_tn ?_
  refine c_cond hE31 rfl (fun ht32 => ?_) (fun ht32 => ?_)
  ·
    have ht33 := bn_t ht32
    have hE34 := hE31; rw [ht32] at hE34; clear hE31
    refine c_seq ?_
    refine c_reg ?_
    refine q_step (v := .agg #[.int .i64 0, .slice none 0 0]) hE34 (y_build (vs := #[]) (fun a n hE => by simp) (fun _ => by kernel_rfl)) rfl rfl rfl ?_; intro a35 hE36; clear hE34
    refine l_step hE36 rfl (l_storeS (k := 0) (cs' := #[.int .i64 0, .slice none 0 0]) hS25 hE36 (by kernel_rfl) rfl rfl (by kernel_rfl) rfl rfl ?_)
    intro w38 hS41 a39 hE40; clear hS25 hE36
    refine q_step (v := .slice none 0 0) hE40 (y_assign rfl) rfl rfl rfl ?_; intro a43 hE44; clear hE40
    refine q_step (v := .int .i64 1) hE44 (y_assign rfl) rfl rfl rfl ?_; intro a45 hE46; clear hE44
    refine c_nil ?_
    have hE47 := hE46.sub (L' := [(6, .pointer (some ⟨b8, 0, none⟩)), (7, .slice none 0 0), (8, .int .i64 1)]) ⟨rfl, rfl, rfl, trivial⟩; clear hE46
    refine p_tn ?_
    refine wp_ret ?_
    refine p_br ?_
    refine p_tr ?_
    have hF : F_UnravelFrame f0 f1 wp kp = ((0, []), [], 1) := by unfold F_UnravelFrame; rw [ht32]; first | done | rfl
    refine c_retC3 hE47 rfl rfl rfl rfl Try.underlying28 rfl (by kernel_rfl) (St.row (i := 0) hS41 rfl _ (Ext.refl _)) ?_
    have hS48 := St.nils hS41 2 1; clear hS41
    have hS49 := St.nils hS48 2 1; clear hS48
    exact ⟨none, 0, none, 0, (by rw [hF]; first | done | rfl), (by rw [hF]; exact St.own2 1 0 hS49 rfl rfl (by decide)), hS49.ext⟩
  ·
    have ht50 := bn_f ht32
    have hp51 := isFrame_t ht50
    have hE52 := hE31; rw [ht32] at hE52; clear hE31
    refine c_seq ?_
    refine c_reg ?_
    refine q_step (v := .agg #[.int .i64 f0, .slice f1A f1.length f1C]) hE52 (y_loadS Try.underlying28 rfl (by kernel_rfl) rfl (St.row (i := 1) hS25 rfl)) rfl rfl rfl ?_; intro a53 hE54; clear hE52
    refine q_step (v := .int .i64 wp) hE54 (y_move rfl) rfl rfl rfl ?_; intro a55 hE56; clear hE54
    refine l_step hE56 rfl (l_call (f := 100) (argv := [.agg #[.int .i64 f0, .slice f1A f1.length f1C], .int .i64 wp]) hE56 (fun _ => cf_Frame_hasWorld _ _) rfl rfl (c_Frame_hasWorld f0 f1A f1.length f1C f1 wp w22 (St.rdR (i := 2) hS25 rfl) (by omega) (by omega)) ?_)
    rintro _ w58 ⟨rfl, he62⟩ a59 hE60; clear hE56
    have hS61 := St.go hS25 he62; clear hS25
    refine q_step (v := .bool (!(F_Frame_hasWorld f0 f1 wp))) hE60 (y_not rfl) rfl rfl rfl ?_; intro a63 hE64; clear hE60
    refine q_step (v := .bool (!(F_Frame_hasWorld f0 f1 wp))) hE64 (y_move rfl) rfl rfl rfl ?_; intro a65 hE66; clear hE64
    rcases Bool.eq_false_or_eq_true (!(F_Frame_hasWorld f0 f1 wp)) with hb67 | hb67
    ·
      have hE68 := hE66; rw [hb67] at hE68; clear hE66
      have ht69 := bn_t hb67
      refine q_skip hE68 rfl rfl rfl ?_; intro a70 hE71; clear hE68
      refine q_skip hE71 rfl rfl rfl ?_; intro a72 hE73; clear hE71
      refine q_skip hE73 rfl rfl rfl ?_; intro a74 hE75; clear hE73
      refine q_step (v := .bool true) hE75 (y_pick (b := true) rfl rfl) rfl rfl rfl ?_; intro a76 hE77; clear hE75
      refine q_step (v := .bool true) hE77 (y_assign rfl) rfl rfl rfl ?_; intro a78 hE79; clear hE77
      refine c_nil ?_
      have hE80 := hE79.sub (L' := [(1, .int .i64 wp), (2, .int .i64 kp), (3, .pointer (some ⟨b2, 0, none⟩)), (6, .pointer (some ⟨b8, 0, none⟩)), (21, .bool true)]) ⟨rfl, rfl, rfl, rfl, rfl, trivial⟩; clear hE79
      refine p_tn ?_
      refine c_true hE80 rfl ?_
      refine c_seq ?_
      refine c_reg ?_
      refine q_step (v := .agg #[.int .i64 0, .slice none 0 0]) hE80 (y_build (vs := #[]) (fun a n hE => by simp) (fun _ => by kernel_rfl)) rfl rfl rfl ?_; intro a81 hE82; clear hE80
      refine l_step hE82 rfl (l_storeS (k := 0) (cs' := #[.int .i64 0, .slice none 0 0]) hS61 hE82 (by kernel_rfl) rfl rfl (by kernel_rfl) rfl rfl ?_)
      intro w84 hS87 a85 hE86; clear hS61 hE82
      refine q_step (v := .slice none 0 0) hE86 (y_assign rfl) rfl rfl rfl ?_; intro a89 hE90; clear hE86
      refine q_step (v := .int .i64 2) hE90 (y_assign rfl) rfl rfl rfl ?_; intro a91 hE92; clear hE90
      refine c_nil ?_
      have hE93 := hE92.sub (L' := [(6, .pointer (some ⟨b8, 0, none⟩)), (7, .slice none 0 0), (8, .int .i64 2)]) ⟨rfl, rfl, rfl, trivial⟩; clear hE92
      refine p_tn ?_
      refine wp_ret ?_
      refine p_br ?_
      refine p_tr ?_
      have hF : F_UnravelFrame f0 f1 wp kp = ((0, []), [], 2) := by unfold F_UnravelFrame; rw [hb67, ht32]; first | done | rfl
      refine c_retC3 hE93 rfl rfl rfl rfl Try.underlying28 rfl (by kernel_rfl) (St.row (i := 0) hS87 rfl _ (Ext.refl _)) ?_
      have hS94 := St.nils hS87 2 1; clear hS87
      have hS95 := St.nils hS94 2 1; clear hS94
      exact ⟨none, 0, none, 0, (by rw [hF]; first | done | rfl), (by rw [hF]; exact St.own2 1 0 hS95 rfl rfl (by decide)), hS95.ext⟩
    ·
      have hE96 := hE66; rw [hb67] at hE96; clear hE66
      have ht97 := bn_f hb67
      have hp98 := F_inRange_t ht97
      refine q_step (v := .int .i64 kp) hE96 (y_move rfl) rfl rfl rfl ?_; intro a99 hE100; clear hE96
      refine l_step hE100 rfl (l_call (f := 101) (argv := [.int .i64 kp, .int .i64 0, .int .i64 8]) hE100 (fun _ => cf_inRange _ _) rfl rfl (c_inRange kp 0 8 w58) ?_)
      rintro _ _ ⟨rfl, rfl⟩ a103 hE104; clear hE100
      refine q_step (v := .bool (!(F_inRange kp 0 8))) hE104 (y_not rfl) rfl rfl rfl ?_; intro a107 hE108; clear hE104
      refine q_step (v := .bool (!(F_inRange kp 0 8))) hE108 (y_pick (b := false) rfl rfl) rfl rfl rfl ?_; intro a109 hE110; clear hE108
      refine q_step (v := .bool (!(F_inRange kp 0 8))) hE110 (y_assign rfl) rfl rfl rfl ?_; intro a111 hE112; clear hE110
      refine c_nil ?_
      have hE113 := hE112.sub (L' := [(1, .int .i64 wp), (2, .int .i64 kp), (3, .pointer (some ⟨b2, 0, none⟩)), (6, .pointer (some ⟨b8, 0, none⟩)), (21, .bool (!(F_inRange kp 0 8)))]) ⟨rfl, rfl, rfl, rfl, rfl, trivial⟩; clear hE112
      refine p_tn ?_
      refine c_cond hE113 rfl (fun ht114 => ?_) (fun ht114 => ?_)
      ·
        have ht115 := bn_t ht114
        have hE116 := hE113; rw [ht114] at hE116; clear hE113
        refine c_seq ?_
        refine c_reg ?_
        refine q_step (v := .agg #[.int .i64 0, .slice none 0 0]) hE116 (y_build (vs := #[]) (fun a n hE => by simp) (fun _ => by kernel_rfl)) rfl rfl rfl ?_; intro a117 hE118; clear hE116
        refine l_step hE118 rfl (l_storeS (k := 0) (cs' := #[.int .i64 0, .slice none 0 0]) hS61 hE118 (by kernel_rfl) rfl rfl (by kernel_rfl) rfl rfl ?_)
        intro w120 hS123 a121 hE122; clear hS61 hE118
        refine q_step (v := .slice none 0 0) hE122 (y_assign rfl) rfl rfl rfl ?_; intro a125 hE126; clear hE122
        refine q_step (v := .int .i64 2) hE126 (y_assign rfl) rfl rfl rfl ?_; intro a127 hE128; clear hE126
        refine c_nil ?_
        have hE129 := hE128.sub (L' := [(6, .pointer (some ⟨b8, 0, none⟩)), (7, .slice none 0 0), (8, .int .i64 2)]) ⟨rfl, rfl, rfl, trivial⟩; clear hE128
        refine p_tn ?_
        refine wp_ret ?_
        refine p_br ?_
        refine p_tr ?_
        have hF : F_UnravelFrame f0 f1 wp kp = ((0, []), [], 2) := by unfold F_UnravelFrame; rw [ht114, hb67, ht32]; first | done | rfl
        refine c_retC3 hE129 rfl rfl rfl rfl Try.underlying28 rfl (by kernel_rfl) (St.row (i := 0) hS123 rfl _ (Ext.refl _)) ?_
        have hS130 := St.nils hS123 2 1; clear hS123
        have hS131 := St.nils hS130 2 1; clear hS130
        exact ⟨none, 0, none, 0, (by rw [hF]; first | done | rfl), (by rw [hF]; exact St.own2 1 0 hS131 rfl rfl (by decide)), hS131.ext⟩
      ·
        have ht132 := bn_f ht114
        have hp133 := F_inRange_t ht132
        have hE134 := hE113; rw [ht114] at hE134; clear hE113
        refine wp_skip ?_
        refine p_bn ?_
        refine p_tn ?_
        refine c_seq ?_
        refine c_reg ?_
        refine q_step (v := .int .i64 wp) hE134 (y_move rfl) rfl rfl rfl ?_; intro a135 hE136; clear hE134
        refine l_step hE136 rfl (l_lit (e := 2) (s := 1) (xs := [wp]) (vs := [.int .i64 wp]) hS61 hE136 rfl (fun _ => by kernel_rfl) rfl rfl rfl ?_)
        intro b137 w138 hS141 he142 a139 hE140; clear hS61 hE136
        refine l_step hE140 rfl (l_lit (e := 2) (s := 1) (xs := [0]) (vs := [.int .i64 0]) hS141 hE140 rfl (fun _ => by kernel_rfl) rfl rfl rfl ?_)
        intro b143 w144 hS147 he148 a145 hE146; clear hS141 hE140
        refine q_step (v := .slice (some ⟨b137, 0, none⟩) 1 1) hE146 (y_assign rfl) rfl rfl rfl ?_; intro a149 hE150; clear hE146
        refine q_step (v := .slice (some ⟨b143, 0, none⟩) 1 1) hE150 (y_assign rfl) rfl rfl rfl ?_; intro a151 hE152; clear hE150
        refine c_nil ?_
        have hE153 := hE152.sub (L' := [(2, .int .i64 kp), (3, .pointer (some ⟨b2, 0, none⟩)), (6, .pointer (some ⟨b8, 0, none⟩)), (9, .slice (some ⟨b137, 0, none⟩) 1 1), (10, .slice (some ⟨b143, 0, none⟩) 1 1)]) ⟨rfl, rfl, rfl, rfl, rfl, trivial⟩; clear hE152
        refine p_tn ?_
        refine c_seq ?_
        refine c_reg ?_
        refine q_step (v := .slice none 0 0) hE153 (y_assign rfl) rfl rfl rfl ?_; intro a154 hE155; clear hE153
        refine c_nil ?_
        have hE156 := hE155.sub (L' := [(2, .int .i64 kp), (3, .pointer (some ⟨b2, 0, none⟩)), (6, .pointer (some ⟨b8, 0, none⟩)), (9, .slice (some ⟨b137, 0, none⟩) 1 1), (10, .slice (some ⟨b143, 0, none⟩) 1 1), (11, .slice none 0 0)]) ⟨rfl, rfl, rfl, rfl, rfl, rfl, trivial⟩; clear hE155
        refine p_tn ?_
        refine c_seq ?_
        refine c_seq ?_
        refine c_reg ?_
        refine q_step (v := .int .i64 0) hE156 (y_assign rfl) rfl rfl rfl ?_; intro a157 hE158; clear hE156
        refine c_nil ?_
        have hE159 := hE158.sub (L' := [(2, .int .i64 kp), (3, .pointer (some ⟨b2, 0, none⟩)), (6, .pointer (some ⟨b8, 0, none⟩)), (9, .slice (some ⟨b137, 0, none⟩) 1 1), (10, .slice (some ⟨b143, 0, none⟩) 1 1), (11, .slice none 0 0), (12, .int .i64 0)]) ⟨rfl, rfl, rfl, rfl, rfl, rfl, rfl, trivial⟩; clear hE158
        refine p_tn ?_
        have hS160 := St.nils hS147 2 1; clear hS147
        refine c_cut1 (fun a' w' => ∃ last9A_161 : Option Addr, ∃ last9C_161 : Nat, ∃ steps10A_161 : Option Addr, ∃ steps10C_161 : Nat, ∃ arrows11A_161 : Option Addr, ∃ arrows11C_161 : Nat, isOk (F_UnravelFrame_L1 f1 kp (Int.toNat (9 - 0) + 1) ([wp]) ([0]) ([]) 0) = true ∧ (0 ≤ ((okD (F_UnravelFrame_L1 f1 kp (Int.toNat (9 - 0) + 1) ([wp]) ([0]) ([]) 0)).2.2.2)) ∧ ((((okD (F_UnravelFrame_L1 f1 kp (Int.toNat (9 - 0) + 1) ([wp]) ([0]) ([]) 0)).2.1).length : Int) = (((okD (F_UnravelFrame_L1 f1 kp (Int.toNat (9 - 0) + 1) ([wp]) ([0]) ([]) 0)).1).length : Int)) ∧ (((okD (F_UnravelFrame_L1 f1 kp (Int.toNat (9 - 0) + 1) ([wp]) ([0]) ([]) 0)).1).length ≤ 8) ∧ (∀ m : Int, 0 ≤ m → m < (((okD (F_UnravelFrame_L1 f1 kp (Int.toNat (9 - 0) + 1) ([wp]) ([0]) ([]) 0)).1).length : Int) → 0 ≤ gI ((okD (F_UnravelFrame_L1 f1 kp (Int.toNat (9 - 0) + 1) ([wp]) ([0]) ([]) 0)).1) m ∧ gI ((okD (F_UnravelFrame_L1 f1 kp (Int.toNat (9 - 0) + 1) ([wp]) ([0]) ([]) 0)).1) m < f0) ∧ (∀ m : Int, 0 ≤ m → m < (((okD (F_UnravelFrame_L1 f1 kp (Int.toNat (9 - 0) + 1) ([wp]) ([0]) ([]) 0)).2.1).length : Int) → 0 ≤ gI ((okD (F_UnravelFrame_L1 f1 kp (Int.toNat (9 - 0) + 1) ([wp]) ([0]) ([]) 0)).2.1) m ∧ gI ((okD (F_UnravelFrame_L1 f1 kp (Int.toNat (9 - 0) + 1) ([wp]) ([0]) ([]) 0)).2.1) m < kp + 1) ∧ ((((okD (F_UnravelFrame_L1 f1 kp (Int.toNat (9 - 0) + 1) ([wp]) ([0]) ([]) 0)).2.2.1).length : Int) = ((okD (F_UnravelFrame_L1 f1 kp (Int.toNat (9 - 0) + 1) ([wp]) ([0]) ([]) 0)).2.2.2)) ∧ ((((okD (F_UnravelFrame_L1 f1 kp (Int.toNat (9 - 0) + 1) ([wp]) ([0]) ([]) 0)).2.2.1).length : Int) ≤ ((okD (F_UnravelFrame_L1 f1 kp (Int.toNat (9 - 0) + 1) ([wp]) ([0]) ([]) 0)).2.2.2)) ∧ E a' 90 [(2, .int .i64 kp), (3, .pointer (some ⟨b2, 0, none⟩)), (6, .pointer (some ⟨b8, 0, none⟩)), (9, .slice last9A_161 (((okD (F_UnravelFrame_L1 f1 kp (Int.toNat (9 - 0) + 1) ([wp]) ([0]) ([]) 0)).1).length) last9C_161), (10, .slice steps10A_161 (((okD (F_UnravelFrame_L1 f1 kp (Int.toNat (9 - 0) + 1) ([wp]) ([0]) ([]) 0)).2.1).length) steps10C_161), (11, .slice arrows11A_161 (((okD (F_UnravelFrame_L1 f1 kp (Int.toNat (9 - 0) + 1) ([wp]) ([0]) ([]) 0)).2.2.1).length) arrows11C_161), (12, .int .i64 ((okD (F_UnravelFrame_L1 f1 kp (Int.toNat (9 - 0) + 1) ([wp]) ([0]) ([]) 0)).2.2.2))] ∧ St w w' [.own 2 1 arrows11A_161 (((okD (F_UnravelFrame_L1 f1 kp (Int.toNat (9 - 0) + 1) ([wp]) ([0]) ([]) 0)).2.2.1).length) arrows11C_161 ((okD (F_UnravelFrame_L1 f1 kp (Int.toNat (9 - 0) + 1) ([wp]) ([0]) ([]) 0)).2.2.1), .own 2 1 steps10A_161 (((okD (F_UnravelFrame_L1 f1 kp (Int.toNat (9 - 0) + 1) ([wp]) ([0]) ([]) 0)).2.1).length) steps10C_161 ((okD (F_UnravelFrame_L1 f1 kp (Int.toNat (9 - 0) + 1) ([wp]) ([0]) ([]) 0)).2.1), .own 2 1 last9A_161 (((okD (F_UnravelFrame_L1 f1 kp (Int.toNat (9 - 0) + 1) ([wp]) ([0]) ([]) 0)).1).length) last9C_161 ((okD (F_UnravelFrame_L1 f1 kp (Int.toNat (9 - 0) + 1) ([wp]) ([0]) ([]) 0)).1), .blk b8 #[.int .i64 0, .slice none 0 0] 28, .blk b2 #[.int .i64 f0, .slice f1A f1.length f1C] 28, .rd 1 f1A f1.length f1C f1]) ?_ ?_
        ·
          refine wp_block ?_
          refine c_loop (fun r a' w' => ∃ last9 : List Int, ∃ steps10 : List Int, ∃ arrows11 : List Int, ∃ i12 : Int, ∃ last9A : Option Addr, ∃ last9C : Nat, ∃ steps10A : Option Addr, ∃ steps10C : Nat, ∃ arrows11A : Option Addr, ∃ arrows11C : Nat, F_UnravelFrame_L1 f1 kp r last9 steps10 arrows11 i12 = F_UnravelFrame_L1 f1 kp (Int.toNat (9 - 0) + 1) ([wp]) ([0]) ([]) 0 ∧ Int.toNat (9 - i12) < r ∧ (0 ≤ i12) ∧ ((steps10.length : Int) = (last9.length : Int)) ∧ (last9.length ≤ 8) ∧ (∀ m : Int, 0 ≤ m → m < (last9.length : Int) → 0 ≤ gI last9 m ∧ gI last9 m < f0) ∧ (∀ m : Int, 0 ≤ m → m < (steps10.length : Int) → 0 ≤ gI steps10 m ∧ gI steps10 m < kp + 1) ∧ ((arrows11.length : Int) = i12) ∧ ((arrows11.length : Int) ≤ i12) ∧ E a' 90 [(2, .int .i64 kp), (3, .pointer (some ⟨b2, 0, none⟩)), (6, .pointer (some ⟨b8, 0, none⟩)), (9, .slice last9A ((last9).length) last9C), (10, .slice steps10A ((steps10).length) steps10C), (11, .slice arrows11A ((arrows11).length) arrows11C), (12, .int .i64 i12)] ∧ St w w' [.own 2 1 arrows11A ((arrows11).length) arrows11C arrows11, .own 2 1 steps10A ((steps10).length) steps10C steps10, .own 2 1 last9A ((last9).length) last9C last9, .blk b8 #[.int .i64 0, .slice none 0 0] 28, .blk b2 #[.int .i64 f0, .slice f1A f1.length f1C] 28, .rd 1 f1A f1.length f1C f1]) (r := (Int.toNat (9 - 0) + 1)) ?_ ?_
          · exact ⟨[wp], [0], [], 0, some ⟨b137, 0, none⟩, 1, some ⟨b143, 0, none⟩, 1, none, 0, rfl, Nat.lt_succ_self _, (by first | omega | (simp only [List.length_replicate, sI_len]; omega) | (simp only [List.length_append, List.length_cons, List.length_nil, sI_len, cond_true, cond_false]; omega) | (simp only [List.length_append, List.length_cons, List.length_nil, sI_len, cond_eq_ite, apply_ite List.length]; split <;> simp only [List.length_append, List.length_cons, List.length_nil, sI_len] <;> omega) | grind), (by first | omega | (simp only [List.length_replicate, sI_len]; omega) | (simp only [List.length_append, List.length_cons, List.length_nil, sI_len, cond_true, cond_false]; omega) | (simp only [List.length_append, List.length_cons, List.length_nil, sI_len, cond_eq_ite, apply_ite List.length]; split <;> simp only [List.length_append, List.length_cons, List.length_nil, sI_len] <;> omega) | grind), (by first | omega | (simp only [List.length_replicate, sI_len]; omega) | (simp only [List.length_append, List.length_cons, List.length_nil, sI_len, cond_true, cond_false]; omega) | (simp only [List.length_append, List.length_cons, List.length_nil, sI_len, cond_eq_ite, apply_ite List.length]; split <;> simp only [List.length_append, List.length_cons, List.length_nil, sI_len] <;> omega) | grind), (im_one (by omega) (by omega)), (im_one (by omega) (by omega)), (by first | omega | (simp only [List.length_replicate, sI_len]; omega) | (simp only [List.length_append, List.length_cons, List.length_nil, sI_len, cond_true, cond_false]; omega) | (simp only [List.length_append, List.length_cons, List.length_nil, sI_len, cond_eq_ite, apply_ite List.length]; split <;> simp only [List.length_append, List.length_cons, List.length_nil, sI_len] <;> omega) | grind), (by first | omega | (simp only [List.length_replicate, sI_len]; omega) | (simp only [List.length_append, List.length_cons, List.length_nil, sI_len, cond_true, cond_false]; omega) | (simp only [List.length_append, List.length_cons, List.length_nil, sI_len, cond_eq_ite, apply_ite List.length]; split <;> simp only [List.length_append, List.length_cons, List.length_nil, sI_len] <;> omega) | grind), (hE159.sub (L' := [(2, .int .i64 kp), (3, .pointer (some ⟨b2, 0, none⟩)), (6, .pointer (some ⟨b8, 0, none⟩)), (9, .slice (some ⟨b137, 0, none⟩) 1 1), (10, .slice (some ⟨b143, 0, none⟩) 1 1), (11, .slice none 0 0), (12, .int .i64 0)]) ⟨rfl, rfl, rfl, rfl, rfl, rfl, rfl, trivial⟩), (St.pick (Γ' := [.own 2 1 none 0 0 ([]), .own 2 1 (some ⟨b143, 0, none⟩) 1 1 ([0]), .own 2 1 (some ⟨b137, 0, none⟩) 1 1 ([wp]), .blk b8 #[.int .i64 0, .slice none 0 0] 28, .blk b2 #[.int .i64 f0, .slice f1A f1.length f1C] 28, .rd 1 f1A f1.length f1C f1]) hS160 [0, 1, 2, 3, 4, 5] (by decide) rfl)⟩
          ·
            clear hE159 hS160
            rintro r175 a162 w163 ⟨last9, steps10, arrows11, i12, last9A, last9C, steps10A, steps10C, arrows11A, arrows11C, hT166, hr167, hi168, hi169, hi170, hi171, hi172, hi173, hi174, hE164, hS165⟩
            obtain ⟨r175, rfl⟩ : ∃ r', r175 = r' + 1 := ⟨r175 - 1, by omega⟩
            refine c_seq ?_
            refine c_seq ?_
            refine c_reg ?_
            refine q_step (v := .int .i64 i12) hE164 (y_move rfl) rfl rfl rfl ?_; intro a176 hE177; clear hE164
            refine q_step (v := .slice last9A ((last9).length) last9C) hE177 (y_move rfl) rfl rfl rfl ?_; intro a178 hE179; clear hE177
            refine q_step (v := .int .i64 ((last9).length : Int)) hE179 (y_len (e := 2) (by kernel_rfl) rfl) rfl rfl rfl ?_; intro a180 hE181; clear hE179
            refine q_step (v := .bool (decide (i12 < ((last9).length : Int)))) hE181 (y_lss rfl rfl) rfl rfl rfl ?_; intro a182 hE183; clear hE181
            refine c_nil ?_
            have hE184 := hE183.sub (L' := [(2, .int .i64 kp), (3, .pointer (some ⟨b2, 0, none⟩)), (6, .pointer (some ⟨b8, 0, none⟩)), (9, .slice last9A ((last9).length) last9C), (10, .slice steps10A ((steps10).length) steps10C), (11, .slice arrows11A ((arrows11).length) arrows11C), (12, .int .i64 i12), (38, .bool (decide (i12 < ((last9).length : Int))))]) ⟨rfl, rfl, rfl, rfl, rfl, rfl, rfl, rfl, trivial⟩; clear hE183
            refine p_tn ?_
            refine c_cond hE184 rfl (fun ht185 => ?_) (fun ht185 => ?_)
            ·
              have hp186 := of_decide_eq_true ht185
              have hE187 := hE184; rw [ht185] at hE187; clear hE184
              have he := im_get (xs := last9) (b := f0) (by assumption) i12 (by omega) (by omega)
              have hfm := l05Is_m (f0 := f0) (f1 := f1) (by first | assumption | (rw [← isFrame_eq]; assumption))
              have hx1 := hfm (gI last9 i12) (by omega) (by omega)
              have hf8 := fullI_bd (n := f0) (by omega) (by omega)
              have hs1 := im_get (xs := steps10) (b := kp + 1) (by assumption) i12 (by omega) (by omega)
              have hml := members_len (mask := gI f1 (gI last9 i12)) (n := f0.toNat) (by omega) hx1.1 (by rw [Int.toNat_of_nonneg (by omega)]; exact hx1.2)
              refine wp_skip ?_
              refine p_tn ?_
              refine c_seq ?_
              refine wp_block ?_
              refine c_seq ?_
              refine c_reg ?_
              refine q_step (v := .int .i64 0) hE187 (y_assign rfl) rfl rfl rfl ?_; intro a188 hE189; clear hE187
              refine c_nil ?_
              have hE190 := hE189.sub (L' := [(2, .int .i64 kp), (3, .pointer (some ⟨b2, 0, none⟩)), (6, .pointer (some ⟨b8, 0, none⟩)), (9, .slice last9A ((last9).length) last9C), (10, .slice steps10A ((steps10).length) steps10C), (11, .slice arrows11A ((arrows11).length) arrows11C), (12, .int .i64 i12), (13, .int .i64 0)]) ⟨rfl, rfl, rfl, rfl, rfl, rfl, rfl, rfl, trivial⟩; clear hE189
              refine p_tn ?_
              refine c_seq ?_
              refine c_seq ?_
              refine c_reg ?_
              refine q_step (v := .slice steps10A ((steps10).length) steps10C) hE190 (y_move rfl) rfl rfl rfl ?_; intro a191 hE192; clear hE190
              refine q_step (v := .int .i64 i12) hE192 (y_move rfl) rfl rfl rfl ?_; intro a193 hE194; clear hE192
              refine q_step (v := .pointer (some (adr steps10A (Int.toNat i12)))) hE194 (y_idx (by kernel_rfl) (fun _ => by kernel_rfl) rfl rfl (RdS.isS (m := i12) (St.rdO (i := 1) hS165 rfl) (by omega) (by omega)) (by omega) (by omega) (Nat.mul_one _).symm) rfl rfl rfl ?_; intro a195 hE196; clear hE194
              refine q_step (v := .int .i64 (gI steps10 i12)) hE196 (y_load (fun _ => by kernel_rfl) rfl (RdS.elt (St.rdO (i := 1) hS165 rfl) (by omega) (by omega))) rfl rfl rfl ?_; intro a197 hE198; clear hE196
              refine q_step (v := .int .i64 kp) hE198 (y_move rfl) rfl rfl rfl ?_; intro a199 hE200; clear hE198
              refine q_step (v := .bool (decide ((gI steps10 i12) < kp))) hE200 (y_lss rfl rfl) rfl rfl rfl ?_; intro a201 hE202; clear hE200
              refine c_nil ?_
              have hE203 := hE202.sub (L' := [(2, .int .i64 kp), (3, .pointer (some ⟨b2, 0, none⟩)), (6, .pointer (some ⟨b8, 0, none⟩)), (9, .slice last9A ((last9).length) last9C), (10, .slice steps10A ((steps10).length) steps10C), (11, .slice arrows11A ((arrows11).length) arrows11C), (12, .int .i64 i12), (13, .int .i64 0), (46, .bool (decide ((gI steps10 i12) < kp)))]) ⟨rfl, rfl, rfl, rfl, rfl, rfl, rfl, rfl, rfl, trivial⟩; clear hE202
              refine p_tn ?_
              refine c_cond hE203 rfl (fun ht204 => ?_) (fun ht204 => ?_)
              ·
                have hp205 := of_decide_eq_true ht204
                have hE206 := hE203; rw [ht204] at hE206; clear hE203
                refine c_seq ?_
                refine d_start (fun w' => w'.cell? ⟨b2, 1, none⟩ = some (.slice f1A f1.length f1C) ∧ w'.cell? (adr last9A (Int.toNat i12)) = some (.int .i64 (gI last9 i12)) ∧ w'.cell? (adr f1A (Int.toNat (gI last9 i12))) = some (.int .i64 (gI f1 (gI last9 i12))) ∧ True) [1, 5, 7] 11 (by kernel_rfl) rfl ?_
                intro w207 he208; have hS209 := St.go hS165 he208; clear hS165
                refine d_pure (v := .pointer (some ⟨b2, 1, none⟩)) 0 rfl hE206 (y_field rfl (fun _ => by kernel_rfl)) rfl (by kernel_rfl) (by kernel_rfl) (by kernel_rfl) rfl rfl (fun _ _ _ h => h) ?_; intro a210 hE211; clear hE206
                refine d_take (v := .slice f1A f1.length f1C) 1 rfl hE211 ⟨(St.cell (i := 4) hS209 rfl rfl _ (Ext.refl _)), (RdS.elt (St.rdO (i := 2) hS209 rfl) (by omega) (by omega) _ (Ext.refl _)), (RdS.elt (St.rdR (i := 5) hS209 rfl) (by omega) (by omega) _ (Ext.refl _)), trivial⟩ (y_load (fun _ => by kernel_rfl) rfl (fun _ h => h.1)) rfl rfl (by kernel_rfl) (by kernel_rfl) (by kernel_rfl) (by kernel_rfl) rfl rfl (fun _ _ _ h => h) ?_; intro a212 hE213; clear hE211
                refine d_pure (v := .slice last9A ((last9).length) last9C) 2 rfl hE213 (y_move rfl) rfl (by kernel_rfl) (by kernel_rfl) (by kernel_rfl) rfl rfl (fun _ _ _ h => h) ?_; intro a214 hE215; clear hE213
                refine d_pure (v := .int .i64 i12) 3 rfl hE215 (y_move rfl) rfl (by kernel_rfl) (by kernel_rfl) (by kernel_rfl) rfl rfl (fun _ _ _ h => h) ?_; intro a216 hE217; clear hE215
                refine d_pure (v := .pointer (some (adr last9A (Int.toNat i12)))) 4 rfl hE217 (y_idx (by kernel_rfl) (fun _ => by kernel_rfl) rfl rfl (RdS.isS (m := i12) (St.rdO (i := 2) hS209 rfl) (by omega) (by omega)) (by omega) (by omega) (Nat.mul_one _).symm) rfl (by kernel_rfl) (by kernel_rfl) (by kernel_rfl) rfl rfl (fun _ _ _ h => h) ?_; intro a218 hE219; clear hE217
                refine d_take (v := .int .i64 (gI last9 i12)) 5 rfl hE219 ⟨(St.cell (i := 4) hS209 rfl rfl _ (Ext.refl _)), (RdS.elt (St.rdO (i := 2) hS209 rfl) (by omega) (by omega) _ (Ext.refl _)), (RdS.elt (St.rdR (i := 5) hS209 rfl) (by omega) (by omega) _ (Ext.refl _)), trivial⟩ (y_load (fun _ => by kernel_rfl) rfl (fun _ h => h.2.1)) rfl rfl (by kernel_rfl) (by kernel_rfl) (by kernel_rfl) (by kernel_rfl) rfl rfl (fun _ _ _ h => h) ?_; intro a220 hE221; clear hE219
                refine d_pure (v := .pointer (some (adr f1A (Int.toNat (gI last9 i12))))) 6 rfl hE221 (y_idx (by kernel_rfl) (fun _ => by kernel_rfl) rfl rfl (RdS.isS (m := gI last9 i12) (St.rdR (i := 5) hS209 rfl) (by omega) (by omega)) (by omega) (by omega) (Nat.mul_one _).symm) rfl (by kernel_rfl) (by kernel_rfl) (by kernel_rfl) rfl rfl (fun _ _ _ h => h) ?_; intro a222 hE223; clear hE221
                refine d_take (v := .int .i64 (gI f1 (gI last9 i12))) 7 rfl hE223 ⟨(St.cell (i := 4) hS209 rfl rfl _ (Ext.refl _)), (RdS.elt (St.rdO (i := 2) hS209 rfl) (by omega) (by omega) _ (Ext.refl _)), (RdS.elt (St.rdR (i := 5) hS209 rfl) (by omega) (by omega) _ (Ext.refl _)), trivial⟩ (y_load (fun _ => by kernel_rfl) rfl (fun _ h => h.2.2.1)) rfl rfl (by kernel_rfl) (by kernel_rfl) (by kernel_rfl) (by kernel_rfl) rfl rfl (fun _ _ _ h => h) ?_; intro a224 hE225; clear hE223
                refine d_pure (v := .int .i64 0) 10 rfl hE225 (y_move rfl) rfl (by kernel_rfl) (by kernel_rfl) (by kernel_rfl) rfl rfl (fun _ _ _ h => h) ?_; intro a226 hE227; clear hE225
                refine d_only 8 (by kernel_rfl) rfl hE227 rfl (l_call (f := 102) (argv := [.int .i64 (gI f1 (gI last9 i12))]) hE227 (fun _ => cf_membersOf _ _) rfl rfl (c_membersOf (gI f1 (gI last9 i12)) w207 (by omega) (by omega)) ?_)
                rintro _ w229 ⟨b234, c235, rfl, ho236, he233⟩ a230 hE231; clear hE227
                have hS232 := St.own hS209 he233 ho236; clear hS209
                refine ⟨fun h => Bool.noConfusion (h.symm.trans (show exm _ _ _ = true by kernel_rfl)), ?_⟩
                refine d_pure (v := .int .i64 ((F_membersOf (gI f1 (gI last9 i12))).length : Int)) 9 rfl hE231 (y_len (e := 2) (by kernel_rfl) rfl) rfl (by kernel_rfl) (by kernel_rfl) (by kernel_rfl) rfl rfl (fun _ _ _ h => h) ?_; intro a237 hE238; clear hE231
                refine d_done (by kernel_rfl) ?_
                have hE239 := hE238.sub (L' := [(2, .int .i64 kp), (3, .pointer (some ⟨b2, 0, none⟩)), (6, .pointer (some ⟨b8, 0, none⟩)), (9, .slice last9A ((last9).length) last9C), (10, .slice steps10A ((steps10).length) steps10C), (11, .slice arrows11A ((arrows11).length) arrows11C), (12, .int .i64 i12), (13, .int .i64 0), (55, .slice b234 ((F_membersOf (gI f1 (gI last9 i12))).length) c235), (56, .int .i64 ((F_membersOf (gI f1 (gI last9 i12))).length : Int)), (57, .int .i64 0)]) ⟨rfl, rfl, rfl, rfl, rfl, rfl, rfl, rfl, rfl, rfl, rfl, trivial⟩; clear hE238
                refine p_tn ?_
                refine c_cut1 (fun a' w' => ∃ last9L2A_240 : Option Addr, ∃ last9L2C_240 : Nat, ∃ steps10L2A_240 : Option Addr, ∃ steps10L2C_240 : Nat, (0 ≤ ((F_UnravelFrame_L2 f1 last9 i12 (Int.toNat (((F_membersOf (gI f1 (gI last9 i12))).length : Int) - 0) + 1) last9 steps10 0 0).2.2.2)) ∧ ((((F_UnravelFrame_L2 f1 last9 i12 (Int.toNat (((F_membersOf (gI f1 (gI last9 i12))).length : Int) - 0) + 1) last9 steps10 0 0).2.1).length : Int) = (((F_UnravelFrame_L2 f1 last9 i12 (Int.toNat (((F_membersOf (gI f1 (gI last9 i12))).length : Int) - 0) + 1) last9 steps10 0 0).1).length : Int)) ∧ ((((F_UnravelFrame_L2 f1 last9 i12 (Int.toNat (((F_membersOf (gI f1 (gI last9 i12))).length : Int) - 0) + 1) last9 steps10 0 0).1).length : Int) = (last9.length : Int) + ((F_UnravelFrame_L2 f1 last9 i12 (Int.toNat (((F_membersOf (gI f1 (gI last9 i12))).length : Int) - 0) + 1) last9 steps10 0 0).2.2.2)) ∧ (∀ m : Int, 0 ≤ m → m < (((F_UnravelFrame_L2 f1 last9 i12 (Int.toNat (((F_membersOf (gI f1 (gI last9 i12))).length : Int) - 0) + 1) last9 steps10 0 0).1).length : Int) → 0 ≤ gI ((F_UnravelFrame_L2 f1 last9 i12 (Int.toNat (((F_membersOf (gI f1 (gI last9 i12))).length : Int) - 0) + 1) last9 steps10 0 0).1) m ∧ gI ((F_UnravelFrame_L2 f1 last9 i12 (Int.toNat (((F_membersOf (gI f1 (gI last9 i12))).length : Int) - 0) + 1) last9 steps10 0 0).1) m < f0) ∧ (∀ m : Int, 0 ≤ m → m < (((F_UnravelFrame_L2 f1 last9 i12 (Int.toNat (((F_membersOf (gI f1 (gI last9 i12))).length : Int) - 0) + 1) last9 steps10 0 0).2.1).length : Int) → 0 ≤ gI ((F_UnravelFrame_L2 f1 last9 i12 (Int.toNat (((F_membersOf (gI f1 (gI last9 i12))).length : Int) - 0) + 1) last9 steps10 0 0).2.1) m ∧ gI ((F_UnravelFrame_L2 f1 last9 i12 (Int.toNat (((F_membersOf (gI f1 (gI last9 i12))).length : Int) - 0) + 1) last9 steps10 0 0).2.1) m < kp + 1) ∧ (0 ≤ gI ((F_UnravelFrame_L2 f1 last9 i12 (Int.toNat (((F_membersOf (gI f1 (gI last9 i12))).length : Int) - 0) + 1) last9 steps10 0 0).2.1) i12 ∧ gI ((F_UnravelFrame_L2 f1 last9 i12 (Int.toNat (((F_membersOf (gI f1 (gI last9 i12))).length : Int) - 0) + 1) last9 steps10 0 0).2.1) i12 < kp) ∧ (((F_UnravelFrame_L2 f1 last9 i12 (Int.toNat (((F_membersOf (gI f1 (gI last9 i12))).length : Int) - 0) + 1) last9 steps10 0 0).2.2.2) ≤ ((F_membersOf (gI f1 (gI last9 i12))).length : Int)) ∧ E a' 90 [(2, .int .i64 kp), (3, .pointer (some ⟨b2, 0, none⟩)), (6, .pointer (some ⟨b8, 0, none⟩)), (9, .slice last9L2A_240 (((F_UnravelFrame_L2 f1 last9 i12 (Int.toNat (((F_membersOf (gI f1 (gI last9 i12))).length : Int) - 0) + 1) last9 steps10 0 0).1).length) last9L2C_240), (10, .slice steps10L2A_240 (((F_UnravelFrame_L2 f1 last9 i12 (Int.toNat (((F_membersOf (gI f1 (gI last9 i12))).length : Int) - 0) + 1) last9 steps10 0 0).2.1).length) steps10L2C_240), (11, .slice arrows11A ((arrows11).length) arrows11C), (12, .int .i64 i12), (13, .int .i64 ((F_UnravelFrame_L2 f1 last9 i12 (Int.toNat (((F_membersOf (gI f1 (gI last9 i12))).length : Int) - 0) + 1) last9 steps10 0 0).2.2.1)), (55, .slice b234 ((F_membersOf (gI f1 (gI last9 i12))).length) c235), (56, .int .i64 ((F_membersOf (gI f1 (gI last9 i12))).length : Int)), (57, .int .i64 ((F_UnravelFrame_L2 f1 last9 i12 (Int.toNat (((F_membersOf (gI f1 (gI last9 i12))).length : Int) - 0) + 1) last9 steps10 0 0).2.2.2))] ∧ St w w' [.own 2 1 b234 ((F_membersOf (gI f1 (gI last9 i12))).length) c235 (F_membersOf (gI f1 (gI last9 i12))), .own 2 1 arrows11A ((arrows11).length) arrows11C arrows11, .own 2 1 steps10L2A_240 (((F_UnravelFrame_L2 f1 last9 i12 (Int.toNat (((F_membersOf (gI f1 (gI last9 i12))).length : Int) - 0) + 1) last9 steps10 0 0).2.1).length) steps10L2C_240 ((F_UnravelFrame_L2 f1 last9 i12 (Int.toNat (((F_membersOf (gI f1 (gI last9 i12))).length : Int) - 0) + 1) last9 steps10 0 0).2.1), .own 2 1 last9L2A_240 (((F_UnravelFrame_L2 f1 last9 i12 (Int.toNat (((F_membersOf (gI f1 (gI last9 i12))).length : Int) - 0) + 1) last9 steps10 0 0).1).length) last9L2C_240 ((F_UnravelFrame_L2 f1 last9 i12 (Int.toNat (((F_membersOf (gI f1 (gI last9 i12))).length : Int) - 0) + 1) last9 steps10 0 0).1), .blk b8 #[.int .i64 0, .slice none 0 0] 28, .blk b2 #[.int .i64 f0, .slice f1A f1.length f1C] 28, .rd 1 f1A f1.length f1C f1]) ?_ ?_
                ·
                  refine wp_block ?_
                  refine c_loop (fun r a' w' => ∃ last9L2 : List Int, ∃ steps10L2 : List Int, ∃ mask13L2 : Int, ∃ t57L2 : Int, ∃ last9L2A : Option Addr, ∃ last9L2C : Nat, ∃ steps10L2A : Option Addr, ∃ steps10L2C : Nat, F_UnravelFrame_L2 f1 last9 i12 r last9L2 steps10L2 mask13L2 t57L2 = F_UnravelFrame_L2 f1 last9 i12 (Int.toNat (((F_membersOf (gI f1 (gI last9 i12))).length : Int) - 0) + 1) last9 steps10 0 0 ∧ Int.toNat (((F_membersOf (gI f1 (gI last9 i12))).length : Int) - t57L2) < r ∧ (0 ≤ t57L2) ∧ ((steps10L2.length : Int) = (last9L2.length : Int)) ∧ ((last9L2.length : Int) = (last9.length : Int) + t57L2) ∧ (∀ m : Int, 0 ≤ m → m < (last9L2.length : Int) → 0 ≤ gI last9L2 m ∧ gI last9L2 m < f0) ∧ (∀ m : Int, 0 ≤ m → m < (steps10L2.length : Int) → 0 ≤ gI steps10L2 m ∧ gI steps10L2 m < kp + 1) ∧ (0 ≤ gI steps10L2 i12 ∧ gI steps10L2 i12 < kp) ∧ (t57L2 ≤ ((F_membersOf (gI f1 (gI last9 i12))).length : Int)) ∧ E a' 90 [(2, .int .i64 kp), (3, .pointer (some ⟨b2, 0, none⟩)), (6, .pointer (some ⟨b8, 0, none⟩)), (9, .slice last9L2A ((last9L2).length) last9L2C), (10, .slice steps10L2A ((steps10L2).length) steps10L2C), (11, .slice arrows11A ((arrows11).length) arrows11C), (12, .int .i64 i12), (13, .int .i64 mask13L2), (55, .slice b234 ((F_membersOf (gI f1 (gI last9 i12))).length) c235), (56, .int .i64 ((F_membersOf (gI f1 (gI last9 i12))).length : Int)), (57, .int .i64 t57L2)] ∧ St w w' [.own 2 1 b234 ((F_membersOf (gI f1 (gI last9 i12))).length) c235 (F_membersOf (gI f1 (gI last9 i12))), .own 2 1 arrows11A ((arrows11).length) arrows11C arrows11, .own 2 1 steps10L2A ((steps10L2).length) steps10L2C steps10L2, .own 2 1 last9L2A ((last9L2).length) last9L2C last9L2, .blk b8 #[.int .i64 0, .slice none 0 0] 28, .blk b2 #[.int .i64 f0, .slice f1A f1.length f1C] 28, .rd 1 f1A f1.length f1C f1]) (r := (Int.toNat (((F_membersOf (gI f1 (gI last9 i12))).length : Int) - 0) + 1)) ?_ ?_
                  · exact ⟨last9, steps10, 0, 0, last9A, last9C, steps10A, steps10C, rfl, Nat.lt_succ_self _, (by first | omega | (simp only [List.length_replicate, sI_len]; omega) | (simp only [List.length_append, List.length_cons, List.length_nil, sI_len, cond_true, cond_false]; omega) | (simp only [List.length_append, List.length_cons, List.length_nil, sI_len, cond_eq_ite, apply_ite List.length]; split <;> simp only [List.length_append, List.length_cons, List.length_nil, sI_len] <;> omega) | grind), (by first | omega | (simp only [List.length_replicate, sI_len]; omega) | (simp only [List.length_append, List.length_cons, List.length_nil, sI_len, cond_true, cond_false]; omega) | (simp only [List.length_append, List.length_cons, List.length_nil, sI_len, cond_eq_ite, apply_ite List.length]; split <;> simp only [List.length_append, List.length_cons, List.length_nil, sI_len] <;> omega) | grind), (by first | omega | (simp only [List.length_replicate, sI_len]; omega) | (simp only [List.length_append, List.length_cons, List.length_nil, sI_len, cond_true, cond_false]; omega) | (simp only [List.length_append, List.length_cons, List.length_nil, sI_len, cond_eq_ite, apply_ite List.length]; split <;> simp only [List.length_append, List.length_cons, List.length_nil, sI_len] <;> omega) | grind), (by assumption), (by assumption), (by omega), (by first | omega | (simp only [List.length_replicate, sI_len]; omega) | (simp only [List.length_append, List.length_cons, List.length_nil, sI_len, cond_true, cond_false]; omega) | (simp only [List.length_append, List.length_cons, List.length_nil, sI_len, cond_eq_ite, apply_ite List.length]; split <;> simp only [List.length_append, List.length_cons, List.length_nil, sI_len] <;> omega) | grind), (hE239.sub (L' := [(2, .int .i64 kp), (3, .pointer (some ⟨b2, 0, none⟩)), (6, .pointer (some ⟨b8, 0, none⟩)), (9, .slice last9A ((last9).length) last9C), (10, .slice steps10A ((steps10).length) steps10C), (11, .slice arrows11A ((arrows11).length) arrows11C), (12, .int .i64 i12), (13, .int .i64 0), (55, .slice b234 ((F_membersOf (gI f1 (gI last9 i12))).length) c235), (56, .int .i64 ((F_membersOf (gI f1 (gI last9 i12))).length : Int)), (57, .int .i64 0)]) ⟨rfl, rfl, rfl, rfl, rfl, rfl, rfl, rfl, rfl, rfl, rfl, trivial⟩), (St.pick (Γ' := [.own 2 1 b234 ((F_membersOf (gI f1 (gI last9 i12))).length) c235 (F_membersOf (gI f1 (gI last9 i12))), .own 2 1 arrows11A ((arrows11).length) arrows11C arrows11, .own 2 1 steps10A ((steps10).length) steps10C steps10, .own 2 1 last9A ((last9).length) last9C last9, .blk b8 #[.int .i64 0, .slice none 0 0] 28, .blk b2 #[.int .i64 f0, .slice f1A f1.length f1C] 28, .rd 1 f1A f1.length f1C f1]) hS232 [0, 1, 2, 3, 4, 5, 6] (by decide) rfl)⟩
                  ·
                    clear hE239 hS232
                    rintro r254 a241 w242 ⟨last9L2, steps10L2, mask13L2, t57L2, last9L2A, last9L2C, steps10L2A, steps10L2C, hT245, hr246, hi247, hi248, hi249, hi250, hi251, hi252, hi253, hE243, hS244⟩
                    obtain ⟨r254, rfl⟩ : ∃ r', r254 = r' + 1 := ⟨r254 - 1, by omega⟩
                    refine c_seq ?_
                    refine c_reg ?_
                    refine q_step (v := .bool (decide (t57L2 < ((F_membersOf (gI f1 (gI last9 i12))).length : Int)))) hE243 (y_lss rfl rfl) rfl rfl rfl ?_; intro a255 hE256; clear hE243
                    refine c_nil ?_
                    have hE257 := hE256.sub (L' := [(2, .int .i64 kp), (3, .pointer (some ⟨b2, 0, none⟩)), (6, .pointer (some ⟨b8, 0, none⟩)), (9, .slice last9L2A ((last9L2).length) last9L2C), (10, .slice steps10L2A ((steps10L2).length) steps10L2C), (11, .slice arrows11A ((arrows11).length) arrows11C), (12, .int .i64 i12), (13, .int .i64 mask13L2), (55, .slice b234 ((F_membersOf (gI f1 (gI last9 i12))).length) c235), (56, .int .i64 ((F_membersOf (gI f1 (gI last9 i12))).length : Int)), (57, .int .i64 t57L2), (58, .bool (decide (t57L2 < ((F_membersOf (gI f1 (gI last9 i12))).length : Int))))]) ⟨rfl, rfl, rfl, rfl, rfl, rfl, rfl, rfl, rfl, rfl, rfl, rfl, trivial⟩; clear hE256
                    refine p_tn ?_
                    refine c_seq ?_
                    refine c_cond hE257 rfl (fun ht258 => ?_) (fun ht258 => ?_)
                    ·
                      have hp259 := of_decide_eq_true ht258
                      have hE260 := hE257; rw [ht258] at hE260; clear hE257
                      have hx2 := members_lt (mask := gI f1 (gI last9 i12)) (n := f0.toNat) (by omega) hx1.1 (by rw [Int.toNat_of_nonneg (by omega)]; exact hx1.2) t57L2 (by omega) (by omega)
                      refine wp_skip ?_
                      refine p_tn ?_
                      refine c_seq ?_
                      refine wp_block ?_
                      refine c_seq ?_
                      refine c_reg ?_
                      refine q_step (v := .pointer (some (adr b234 (Int.toNat t57L2)))) hE260 (y_idx (by kernel_rfl) (fun _ => by kernel_rfl) rfl rfl (RdS.isS (m := t57L2) (St.rdO (i := 0) hS244 rfl) (by omega) (by omega)) (by omega) (by omega) (Nat.mul_one _).symm) rfl rfl rfl ?_; intro a261 hE262; clear hE260
                      refine q_step (v := .int .i64 (gI (F_membersOf (gI f1 (gI last9 i12))) t57L2)) hE262 (y_load (fun _ => by kernel_rfl) rfl (RdS.elt (St.rdO (i := 0) hS244 rfl) (by omega) (by omega))) rfl rfl rfl ?_; intro a263 hE264; clear hE262
                      refine q_step (v := .int .i64 (gI (F_membersOf (gI f1 (gI last9 i12))) t57L2)) hE264 (y_assign rfl) rfl rfl rfl ?_; intro a265 hE266; clear hE264
                      refine c_nil ?_
                      have hE267 := hE266.sub (L' := [(2, .int .i64 kp), (3, .pointer (some ⟨b2, 0, none⟩)), (6, .pointer (some ⟨b8, 0, none⟩)), (9, .slice last9L2A ((last9L2).length) last9L2C), (10, .slice steps10L2A ((steps10L2).length) steps10L2C), (11, .slice arrows11A ((arrows11).length) arrows11C), (12, .int .i64 i12), (13, .int .i64 mask13L2), (15, .int .i64 (gI (F_membersOf (gI f1 (gI last9 i12))) t57L2)), (55, .slice b234 ((F_membersOf (gI f1 (gI last9 i12))).length) c235), (56, .int .i64 ((F_membersOf (gI f1 (gI last9 i12))).length : Int)), (57, .int .i64 t57L2)]) ⟨rfl, rfl, rfl, rfl, rfl, rfl, rfl, rfl, rfl, rfl, rfl, rfl, trivial⟩; clear hE266
                      refine p_tn ?_
                      refine c_seq ?_
                      refine c_reg ?_
                      refine q_step (v := .int .i64 mask13L2) hE267 (y_move rfl) rfl rfl rfl ?_; intro a268 hE269; clear hE267
                      refine q_step (v := .slice last9L2A ((last9L2).length) last9L2C) hE269 (y_move rfl) rfl rfl rfl ?_; intro a270 hE271; clear hE269
                      refine q_step (v := .int .i64 ((last9L2).length : Int)) hE271 (y_len (e := 2) (by kernel_rfl) rfl) rfl rfl rfl ?_; intro a272 hE273; clear hE271
                      refine q_step (v := .int .i64 (shlI 1 ((last9L2).length : Int))) hE273 (y_shl rfl rfl (by omega)) rfl rfl rfl ?_; intro a274 hE275; clear hE273
                      refine q_step (v := .int .i64 (orI mask13L2 (shlI 1 ((last9L2).length : Int)))) hE275 (y_or rfl rfl) rfl rfl rfl ?_; intro a276 hE277; clear hE275
                      refine q_step (v := .int .i64 (orI mask13L2 (shlI 1 ((last9L2).length : Int)))) hE277 (y_assign rfl) rfl rfl rfl ?_; intro a278 hE279; clear hE277
                      refine c_nil ?_
                      have hE280 := hE279.sub (L' := [(2, .int .i64 kp), (3, .pointer (some ⟨b2, 0, none⟩)), (6, .pointer (some ⟨b8, 0, none⟩)), (9, .slice last9L2A ((last9L2).length) last9L2C), (10, .slice steps10L2A ((steps10L2).length) steps10L2C), (11, .slice arrows11A ((arrows11).length) arrows11C), (12, .int .i64 i12), (13, .int .i64 (orI mask13L2 (shlI 1 ((last9L2).length : Int)))), (15, .int .i64 (gI (F_membersOf (gI f1 (gI last9 i12))) t57L2)), (55, .slice b234 ((F_membersOf (gI f1 (gI last9 i12))).length) c235), (56, .int .i64 ((F_membersOf (gI f1 (gI last9 i12))).length : Int)), (57, .int .i64 t57L2)]) ⟨rfl, rfl, rfl, rfl, rfl, rfl, rfl, rfl, rfl, rfl, rfl, rfl, trivial⟩; clear hE279
                      refine p_tn ?_
                      refine d_start (fun w' => w'.cell? (adr steps10L2A (Int.toNat i12)) = some (.int .i64 (gI steps10L2 i12)) ∧ True) [8] 14 (by kernel_rfl) rfl ?_
                      intro w281 he282; have hS283 := St.go hS244 he282; clear hS244
                      refine d_pure (v := .slice last9L2A ((last9L2).length) last9L2C) 0 rfl hE280 (y_move rfl) rfl (by kernel_rfl) (by kernel_rfl) (by kernel_rfl) rfl rfl (fun _ _ _ h => h) ?_; intro a284 hE285; clear hE280
                      refine d_pure (v := .int .i64 (gI (F_membersOf (gI f1 (gI last9 i12))) t57L2)) 1 rfl hE285 (y_move rfl) rfl (by kernel_rfl) (by kernel_rfl) (by kernel_rfl) rfl rfl (fun _ _ _ h => h) ?_; intro a286 hE287; clear hE285
                      refine d_pure (v := .slice steps10L2A ((steps10L2).length) steps10L2C) 4 rfl hE287 (y_move rfl) rfl (by kernel_rfl) (by kernel_rfl) (by kernel_rfl) rfl rfl (fun _ _ _ h => h) ?_; intro a288 hE289; clear hE287
                      refine d_pure (v := .slice steps10L2A ((steps10L2).length) steps10L2C) 5 rfl hE289 (y_move rfl) rfl (by kernel_rfl) (by kernel_rfl) (by kernel_rfl) rfl rfl (fun _ _ _ h => h) ?_; intro a290 hE291; clear hE289
                      refine d_pure (v := .int .i64 i12) 6 rfl hE291 (y_move rfl) rfl (by kernel_rfl) (by kernel_rfl) (by kernel_rfl) rfl rfl (fun _ _ _ h => h) ?_; intro a292 hE293; clear hE291
                      refine d_pure (v := .pointer (some (adr steps10L2A (Int.toNat i12)))) 7 rfl hE293 (y_idx (by kernel_rfl) (fun _ => by kernel_rfl) rfl rfl (RdS.isS (m := i12) (St.rdO (i := 2) hS283 rfl) (by omega) (by omega)) (by omega) (by omega) (Nat.mul_one _).symm) rfl (by kernel_rfl) (by kernel_rfl) (by kernel_rfl) rfl rfl (fun _ _ _ h => h) ?_; intro a294 hE295; clear hE293
                      refine d_take (v := .int .i64 (gI steps10L2 i12)) 8 rfl hE295 ⟨(RdS.elt (St.rdO (i := 2) hS283 rfl) (by omega) (by omega) _ (Ext.refl _)), trivial⟩ (y_load (fun _ => by kernel_rfl) rfl (fun _ h => h.1)) rfl rfl (by kernel_rfl) (by kernel_rfl) (by kernel_rfl) (by kernel_rfl) rfl rfl (fun _ _ _ h => h) ?_; intro a296 hE297; clear hE295
                      refine d_pure (v := .int .i64 ((gI steps10L2 i12) + 1)) 9 rfl hE297 (y_add rfl rfl ⟨(by omega), (by omega)⟩) rfl (by kernel_rfl) (by kernel_rfl) (by kernel_rfl) rfl rfl (fun _ _ _ h => h) ?_; intro a298 hE299; clear hE297
                      refine d_two 2 10 (by kernel_rfl) rfl rfl hE299 rfl rfl ?_ ?_
                      ·
                        refine l_lit (e := 2) (s := 1) (xs := [gI (F_membersOf (gI f1 (gI last9 i12))) t57L2]) (vs := [.int .i64 (gI (F_membersOf (gI f1 (gI last9 i12))) t57L2)]) hS283 hE299 rfl (fun _ => by kernel_rfl) rfl rfl rfl ?_
                        intro b300 w301 hS304 he305 a302 hE303; clear hS283 hE299
                        refine ⟨fun _ _ => ⟨(RdS.elt (St.rdO (i := 3) hS304 rfl) (by omega) (by omega) _ (Ext.refl _)), trivial⟩, ?_⟩
                        refine d_two 3 10 (by kernel_rfl) rfl rfl hE303 rfl rfl ?_ ?_
                        ·
                          obtain ⟨_, hi1, hi2, hi3, hi4⟩ := info_parts (show (Try.prog.info? 2).map (fun i => (i.zero, i.size, i.bytes)) = some (some (.int .i64 0), 1, 8) by kernel_rfl)
                          refine l_append (k := 4) (n' := (last9L2 ++ ([gI (F_membersOf (gI f1 (gI last9 i12))) t57L2])).length) hS304 hE303 (by kernel_rfl) hi1 hi2 hi3 rfl (by decide) (by rw [hi4]; decide) rfl rfl rfl (St.rdO (i := 0) hS304 rfl) (by first | omega | (simp only [List.length_append, List.length_cons, List.length_nil]; omega)) (by have h1 := (St.rdO (i := 4) hS304 rfl).len1; have h2 := (St.rdO (i := 0) hS304 rfl).len1; rw [List.length_append, h1, h2]) rfl ?_
                          intro b306 c312 w307 hS310 a308 hE309; clear hS304 hE303 hi1 hi2 hi3 hi4
                          refine ⟨fun _ _ => ⟨(RdS.elt (St.rdO (i := 3) hS310 rfl) (by omega) (by omega) _ (Ext.refl _)), trivial⟩, ?_⟩
                          refine d_only 10 (by kernel_rfl) rfl hE309 rfl (l_lit (e := 2) (s := 1) (xs := [(gI steps10L2 i12) + 1]) (vs := [.int .i64 ((gI steps10L2 i12) + 1)]) hS310 hE309 rfl (fun _ => by kernel_rfl) rfl rfl rfl ?_)
                          intro b313 w314 hS317 he318 a315 hE316; clear hS310 hE309
                          refine ⟨fun h => Bool.noConfusion (h.symm.trans (show exm _ _ _ = true by kernel_rfl)), ?_⟩
                          obtain ⟨_, hi1, hi2, hi3, hi4⟩ := info_parts (show (Try.prog.info? 2).map (fun i => (i.zero, i.size, i.bytes)) = some (some (.int .i64 0), 1, 8) by kernel_rfl)
                          refine d_only 11 (by kernel_rfl) rfl hE316 rfl (l_append (k := 4) (n' := (steps10L2 ++ ([(gI steps10L2 i12) + 1])).length) hS317 hE316 (by kernel_rfl) hi1 hi2 hi3 rfl (by decide) (by rw [hi4]; decide) rfl rfl rfl (St.rdO (i := 0) hS317 rfl) (by first | omega | (simp only [List.length_append, List.length_cons, List.length_nil]; omega)) (by have h1 := (St.rdO (i := 4) hS317 rfl).len1; have h2 := (St.rdO (i := 0) hS317 rfl).len1; rw [List.length_append, h1, h2]) rfl ?_)
                          intro b319 c325 w320 hS323 a321 hE322; clear hS317 hE316 hi1 hi2 hi3 hi4
                          refine ⟨fun h => Bool.noConfusion (h.symm.trans (show exm _ _ _ = true by kernel_rfl)), ?_⟩
                          refine d_pure (v := .slice b306 ((last9L2 ++ ([gI (F_membersOf (gI f1 (gI last9 i12))) t57L2])).length) c312) 12 rfl hE322 (y_assign rfl) rfl (by kernel_rfl) (by kernel_rfl) (by kernel_rfl) rfl rfl (fun _ _ _ h => h) ?_; intro a326 hE327; clear hE322
                          refine d_pure (v := .slice b319 ((steps10L2 ++ ([(gI steps10L2 i12) + 1])).length) c325) 13 rfl hE327 (y_assign rfl) rfl (by kernel_rfl) (by kernel_rfl) (by kernel_rfl) rfl rfl (fun _ _ _ h => h) ?_; intro a328 hE329; clear hE327
                          refine d_done (by kernel_rfl) ?_
                          have hE330 := hE329.sub (L' := [(2, .int .i64 kp), (3, .pointer (some ⟨b2, 0, none⟩)), (6, .pointer (some ⟨b8, 0, none⟩)), (9, .slice b306 ((last9L2 ++ ([gI (F_membersOf (gI f1 (gI last9 i12))) t57L2])).length) c312), (10, .slice b319 ((steps10L2 ++ ([(gI steps10L2 i12) + 1])).length) c325), (11, .slice arrows11A ((arrows11).length) arrows11C), (12, .int .i64 i12), (13, .int .i64 (orI mask13L2 (shlI 1 ((last9L2).length : Int)))), (55, .slice b234 ((F_membersOf (gI f1 (gI last9 i12))).length) c235), (56, .int .i64 ((F_membersOf (gI f1 (gI last9 i12))).length : Int)), (57, .int .i64 t57L2)]) ⟨rfl, rfl, rfl, rfl, rfl, rfl, rfl, rfl, rfl, rfl, rfl, trivial⟩; clear hE329
                          refine p_bn ?_
                          refine p_tn ?_
                          refine c_reg ?_
                          refine q_step (v := .int .i64 (t57L2 + 1)) hE330 (y_add rfl rfl ⟨(by omega), (by omega)⟩) rfl rfl rfl ?_; intro a331 hE332; clear hE330
                          refine q_step (v := .int .i64 (t57L2 + 1)) hE332 (y_move rfl) rfl rfl rfl ?_; intro a333 hE334; clear hE332
                          refine c_nil ?_
                          have hE335 := hE334.sub (L' := [(2, .int .i64 kp), (3, .pointer (some ⟨b2, 0, none⟩)), (6, .pointer (some ⟨b8, 0, none⟩)), (9, .slice b306 ((last9L2 ++ ([gI (F_membersOf (gI f1 (gI last9 i12))) t57L2])).length) c312), (10, .slice b319 ((steps10L2 ++ ([(gI steps10L2 i12) + 1])).length) c325), (11, .slice arrows11A ((arrows11).length) arrows11C), (12, .int .i64 i12), (13, .int .i64 (orI mask13L2 (shlI 1 ((last9L2).length : Int)))), (55, .slice b234 ((F_membersOf (gI f1 (gI last9 i12))).length) c235), (56, .int .i64 ((F_membersOf (gI f1 (gI last9 i12))).length : Int)), (57, .int .i64 (t57L2 + 1))]) ⟨rfl, rfl, rfl, rfl, rfl, rfl, rfl, rfl, rfl, rfl, rfl, trivial⟩; clear hE334
                          refine p_tn ⟨r254, Nat.lt_succ_self _, last9L2 ++ ([gI (F_membersOf (gI f1 (gI last9 i12))) t57L2]), steps10L2 ++ ([(gI steps10L2 i12) + 1]), orI mask13L2 (shlI 1 ((last9L2).length : Int)), t57L2 + 1, b306, c312, b319, c325, (hT245.symm.trans (show F_UnravelFrame_L2b f1 last9 i12 (F_UnravelFrame_L2 f1 last9 i12 r254) last9L2 steps10L2 mask13L2 t57L2 = F_UnravelFrame_L2 f1 last9 i12 r254 (last9L2 ++ ([gI (F_membersOf (gI f1 (gI last9 i12))) t57L2])) (steps10L2 ++ ([(gI steps10L2 i12) + 1])) (orI mask13L2 (shlI 1 ((last9L2).length : Int))) (t57L2 + 1) by unfold F_UnravelFrame_L2b; rw [ht258]; first | done | rfl)).symm, (by omega), (by first | omega | (simp only [List.length_replicate, sI_len]; omega) | (simp only [List.length_append, List.length_cons, List.length_nil, sI_len, cond_true, cond_false]; omega) | (simp only [List.length_append, List.length_cons, List.length_nil, sI_len, cond_eq_ite, apply_ite List.length]; split <;> simp only [List.length_append, List.length_cons, List.length_nil, sI_len] <;> omega) | grind), (by first | omega | (simp only [List.length_replicate, sI_len]; omega) | (simp only [List.length_append, List.length_cons, List.length_nil, sI_len, cond_true, cond_false]; omega) | (simp only [List.length_append, List.length_cons, List.length_nil, sI_len, cond_eq_ite, apply_ite List.length]; split <;> simp only [List.length_append, List.length_cons, List.length_nil, sI_len] <;> omega) | grind), (by first | omega | (simp only [List.length_replicate, sI_len]; omega) | (simp only [List.length_append, List.length_cons, List.length_nil, sI_len, cond_true, cond_false]; omega) | (simp only [List.length_append, List.length_cons, List.length_nil, sI_len, cond_eq_ite, apply_ite List.length]; split <;> simp only [List.length_append, List.length_cons, List.length_nil, sI_len] <;> omega) | grind), (im_app (by assumption) (by omega) (by omega)), (im_app (by assumption) (by omega) (by omega)), (by rw [gI_appL (by omega) (by omega)]; assumption), (by first | omega | (simp only [List.length_replicate, sI_len]; omega) | (simp only [List.length_append, List.length_cons, List.length_nil, sI_len, cond_true, cond_false]; omega) | (simp only [List.length_append, List.length_cons, List.length_nil, sI_len, cond_eq_ite, apply_ite List.length]; split <;> simp only [List.length_append, List.length_cons, List.length_nil, sI_len] <;> omega) | grind), (hE335.sub (L' := [(2, .int .i64 kp), (3, .pointer (some ⟨b2, 0, none⟩)), (6, .pointer (some ⟨b8, 0, none⟩)), (9, .slice b306 ((last9L2 ++ ([gI (F_membersOf (gI f1 (gI last9 i12))) t57L2])).length) c312), (10, .slice b319 ((steps10L2 ++ ([(gI steps10L2 i12) + 1])).length) c325), (11, .slice arrows11A ((arrows11).length) arrows11C), (12, .int .i64 i12), (13, .int .i64 (orI mask13L2 (shlI 1 ((last9L2).length : Int)))), (55, .slice b234 ((F_membersOf (gI f1 (gI last9 i12))).length) c235), (56, .int .i64 ((F_membersOf (gI f1 (gI last9 i12))).length : Int)), (57, .int .i64 (t57L2 + 1))]) ⟨rfl, rfl, rfl, rfl, rfl, rfl, rfl, rfl, rfl, rfl, rfl, trivial⟩), (St.pick (Γ' := [.own 2 1 b234 ((F_membersOf (gI f1 (gI last9 i12))).length) c235 (F_membersOf (gI f1 (gI last9 i12))), .own 2 1 arrows11A ((arrows11).length) arrows11C arrows11, .own 2 1 b319 ((steps10L2 ++ ([(gI steps10L2 i12) + 1])).length) c325 (steps10L2 ++ ([(gI steps10L2 i12) + 1])), .own 2 1 b306 ((last9L2 ++ ([gI (F_membersOf (gI f1 (gI last9 i12))) t57L2])).length) c312 (last9L2 ++ ([gI (F_membersOf (gI f1 (gI last9 i12))) t57L2])), .blk b8 #[.int .i64 0, .slice none 0 0] 28, .blk b2 #[.int .i64 f0, .slice f1A f1.length f1C] 28, .rd 1 f1A f1.length f1C f1]) hS323 [2, 3, 4, 5, 6, 7, 8] (by decide) rfl)⟩
                        ·
                          refine l_lit (e := 2) (s := 1) (xs := [(gI steps10L2 i12) + 1]) (vs := [.int .i64 ((gI steps10L2 i12) + 1)]) hS304 hE303 rfl (fun _ => by kernel_rfl) rfl rfl rfl ?_
                          intro b336 w337 hS340 he341 a338 hE339; clear hS304 hE303
                          refine ⟨fun h => Bool.noConfusion (h.symm.trans (show exm _ _ _ = true by kernel_rfl)), ?_⟩
                          obtain ⟨_, hi1, hi2, hi3, hi4⟩ := info_parts (show (Try.prog.info? 2).map (fun i => (i.zero, i.size, i.bytes)) = some (some (.int .i64 0), 1, 8) by kernel_rfl)
                          refine d_only 3 (by kernel_rfl) rfl hE339 rfl (l_append (k := 5) (n' := (last9L2 ++ ([gI (F_membersOf (gI f1 (gI last9 i12))) t57L2])).length) hS340 hE339 (by kernel_rfl) hi1 hi2 hi3 rfl (by decide) (by rw [hi4]; decide) rfl rfl rfl (St.rdO (i := 1) hS340 rfl) (by first | omega | (simp only [List.length_append, List.length_cons, List.length_nil]; omega)) (by have h1 := (St.rdO (i := 5) hS340 rfl).len1; have h2 := (St.rdO (i := 1) hS340 rfl).len1; rw [List.length_append, h1, h2]) rfl ?_)
                          intro b342 c348 w343 hS346 a344 hE345; clear hS340 hE339 hi1 hi2 hi3 hi4
                          refine ⟨fun _ _ => ⟨(RdS.elt (St.rdO (i := 4) hS346 rfl) (by omega) (by omega) _ (Ext.refl _)), trivial⟩, ?_⟩
                          obtain ⟨_, hi1, hi2, hi3, hi4⟩ := info_parts (show (Try.prog.info? 2).map (fun i => (i.zero, i.size, i.bytes)) = some (some (.int .i64 0), 1, 8) by kernel_rfl)
                          refine d_only 11 (by kernel_rfl) rfl hE345 rfl (l_append (k := 4) (n' := (steps10L2 ++ ([(gI steps10L2 i12) + 1])).length) hS346 hE345 (by kernel_rfl) hi1 hi2 hi3 rfl (by decide) (by rw [hi4]; decide) rfl rfl rfl (St.rdO (i := 0) hS346 rfl) (by first | omega | (simp only [List.length_append, List.length_cons, List.length_nil]; omega)) (by have h1 := (St.rdO (i := 4) hS346 rfl).len1; have h2 := (St.rdO (i := 0) hS346 rfl).len1; rw [List.length_append, h1, h2]) rfl ?_)
                          intro b349 c355 w350 hS353 a351 hE352; clear hS346 hE345 hi1 hi2 hi3 hi4
                          refine ⟨fun h => Bool.noConfusion (h.symm.trans (show exm _ _ _ = true by kernel_rfl)), ?_⟩
                          refine d_pure (v := .slice b342 ((last9L2 ++ ([gI (F_membersOf (gI f1 (gI last9 i12))) t57L2])).length) c348) 12 rfl hE352 (y_assign rfl) rfl (by kernel_rfl) (by kernel_rfl) (by kernel_rfl) rfl rfl (fun _ _ _ h => h) ?_; intro a356 hE357; clear hE352
                          refine d_pure (v := .slice b349 ((steps10L2 ++ ([(gI steps10L2 i12) + 1])).length) c355) 13 rfl hE357 (y_assign rfl) rfl (by kernel_rfl) (by kernel_rfl) (by kernel_rfl) rfl rfl (fun _ _ _ h => h) ?_; intro a358 hE359; clear hE357
                          refine d_done (by kernel_rfl) ?_
                          have hE360 := hE359.sub (L' := [(2, .int .i64 kp), (3, .pointer (some ⟨b2, 0, none⟩)), (6, .pointer (some ⟨b8, 0, none⟩)), (9, .slice b342 ((last9L2 ++ ([gI (F_membersOf (gI f1 (gI last9 i12))) t57L2])).length) c348), (10, .slice b349 ((steps10L2 ++ ([(gI steps10L2 i12) + 1])).length) c355), (11, .slice arrows11A ((arrows11).length) arrows11C), (12, .int .i64 i12), (13, .int .i64 (orI mask13L2 (shlI 1 ((last9L2).length : Int)))), (55, .slice b234 ((F_membersOf (gI f1 (gI last9 i12))).length) c235), (56, .int .i64 ((F_membersOf (gI f1 (gI last9 i12))).length : Int)), (57, .int .i64 t57L2)]) ⟨rfl, rfl, rfl, rfl, rfl, rfl, rfl, rfl, rfl, rfl, rfl, trivial⟩; clear hE359
                          refine p_bn ?_
                          refine p_tn ?_
                          refine c_reg ?_
                          refine q_step (v := .int .i64 (t57L2 + 1)) hE360 (y_add rfl rfl ⟨(by omega), (by omega)⟩) rfl rfl rfl ?_; intro a361 hE362; clear hE360
                          refine q_step (v := .int .i64 (t57L2 + 1)) hE362 (y_move rfl) rfl rfl rfl ?_; intro a363 hE364; clear hE362
                          refine c_nil ?_
                          have hE365 := hE364.sub (L' := [(2, .int .i64 kp), (3, .pointer (some ⟨b2, 0, none⟩)), (6, .pointer (some ⟨b8, 0, none⟩)), (9, .slice b342 ((last9L2 ++ ([gI (F_membersOf (gI f1 (gI last9 i12))) t57L2])).length) c348), (10, .slice b349 ((steps10L2 ++ ([(gI steps10L2 i12) + 1])).length) c355), (11, .slice arrows11A ((arrows11).length) arrows11C), (12, .int .i64 i12), (13, .int .i64 (orI mask13L2 (shlI 1 ((last9L2).length : Int)))), (55, .slice b234 ((F_membersOf (gI f1 (gI last9 i12))).length) c235), (56, .int .i64 ((F_membersOf (gI f1 (gI last9 i12))).length : Int)), (57, .int .i64 (t57L2 + 1))]) ⟨rfl, rfl, rfl, rfl, rfl, rfl, rfl, rfl, rfl, rfl, rfl, trivial⟩; clear hE364
                          refine p_tn ⟨r254, Nat.lt_succ_self _, last9L2 ++ ([gI (F_membersOf (gI f1 (gI last9 i12))) t57L2]), steps10L2 ++ ([(gI steps10L2 i12) + 1]), orI mask13L2 (shlI 1 ((last9L2).length : Int)), t57L2 + 1, b342, c348, b349, c355, (hT245.symm.trans (show F_UnravelFrame_L2b f1 last9 i12 (F_UnravelFrame_L2 f1 last9 i12 r254) last9L2 steps10L2 mask13L2 t57L2 = F_UnravelFrame_L2 f1 last9 i12 r254 (last9L2 ++ ([gI (F_membersOf (gI f1 (gI last9 i12))) t57L2])) (steps10L2 ++ ([(gI steps10L2 i12) + 1])) (orI mask13L2 (shlI 1 ((last9L2).length : Int))) (t57L2 + 1) by unfold F_UnravelFrame_L2b; rw [ht258]; first | done | rfl)).symm, (by omega), (by first | omega | (simp only [List.length_replicate, sI_len]; omega) | (simp only [List.length_append, List.length_cons, List.length_nil, sI_len, cond_true, cond_false]; omega) | (simp only [List.length_append, List.length_cons, List.length_nil, sI_len, cond_eq_ite, apply_ite List.length]; split <;> simp only [List.length_append, List.length_cons, List.length_nil, sI_len] <;> omega) | grind), (by first | omega | (simp only [List.length_replicate, sI_len]; omega) | (simp only [List.length_append, List.length_cons, List.length_nil, sI_len, cond_true, cond_false]; omega) | (simp only [List.length_append, List.length_cons, List.length_nil, sI_len, cond_eq_ite, apply_ite List.length]; split <;> simp only [List.length_append, List.length_cons, List.length_nil, sI_len] <;> omega) | grind), (by first | omega | (simp only [List.length_replicate, sI_len]; omega) | (simp only [List.length_append, List.length_cons, List.length_nil, sI_len, cond_true, cond_false]; omega) | (simp only [List.length_append, List.length_cons, List.length_nil, sI_len, cond_eq_ite, apply_ite List.length]; split <;> simp only [List.length_append, List.length_cons, List.length_nil, sI_len] <;> omega) | grind), (im_app (by assumption) (by omega) (by omega)), (im_app (by assumption) (by omega) (by omega)), (by rw [gI_appL (by omega) (by omega)]; assumption), (by first | omega | (simp only [List.length_replicate, sI_len]; omega) | (simp only [List.length_append, List.length_cons, List.length_nil, sI_len, cond_true, cond_false]; omega) | (simp only [List.length_append, List.length_cons, List.length_nil, sI_len, cond_eq_ite, apply_ite List.length]; split <;> simp only [List.length_append, List.length_cons, List.length_nil, sI_len] <;> omega) | grind), (hE365.sub (L' := [(2, .int .i64 kp), (3, .pointer (some ⟨b2, 0, none⟩)), (6, .pointer (some ⟨b8, 0, none⟩)), (9, .slice b342 ((last9L2 ++ ([gI (F_membersOf (gI f1 (gI last9 i12))) t57L2])).length) c348), (10, .slice b349 ((steps10L2 ++ ([(gI steps10L2 i12) + 1])).length) c355), (11, .slice arrows11A ((arrows11).length) arrows11C), (12, .int .i64 i12), (13, .int .i64 (orI mask13L2 (shlI 1 ((last9L2).length : Int)))), (55, .slice b234 ((F_membersOf (gI f1 (gI last9 i12))).length) c235), (56, .int .i64 ((F_membersOf (gI f1 (gI last9 i12))).length : Int)), (57, .int .i64 (t57L2 + 1))]) ⟨rfl, rfl, rfl, rfl, rfl, rfl, rfl, rfl, rfl, rfl, rfl, trivial⟩), (St.pick (Γ' := [.own 2 1 b234 ((F_membersOf (gI f1 (gI last9 i12))).length) c235 (F_membersOf (gI f1 (gI last9 i12))), .own 2 1 arrows11A ((arrows11).length) arrows11C arrows11, .own 2 1 b349 ((steps10L2 ++ ([(gI steps10L2 i12) + 1])).length) c355 (steps10L2 ++ ([(gI steps10L2 i12) + 1])), .own 2 1 b342 ((last9L2 ++ ([gI (F_membersOf (gI f1 (gI last9 i12))) t57L2])).length) c348 (last9L2 ++ ([gI (F_membersOf (gI f1 (gI last9 i12))) t57L2])), .blk b8 #[.int .i64 0, .slice none 0 0] 28, .blk b2 #[.int .i64 f0, .slice f1A f1.length f1C] 28, .rd 1 f1A f1.length f1C f1]) hS353 [2, 3, 4, 5, 6, 7, 8] (by decide) rfl)⟩
                      ·
                        refine l_lit (e := 2) (s := 1) (xs := [(gI steps10L2 i12) + 1]) (vs := [.int .i64 ((gI steps10L2 i12) + 1)]) hS283 hE299 rfl (fun _ => by kernel_rfl) rfl rfl rfl ?_
                        intro b366 w367 hS370 he371 a368 hE369; clear hS283 hE299
                        refine ⟨fun h => Bool.noConfusion (h.symm.trans (show exm _ _ _ = true by kernel_rfl)), ?_⟩
                        refine d_only 2 (by kernel_rfl) rfl hE369 rfl (l_lit (e := 2) (s := 1) (xs := [gI (F_membersOf (gI f1 (gI last9 i12))) t57L2]) (vs := [.int .i64 (gI (F_membersOf (gI f1 (gI last9 i12))) t57L2)]) hS370 hE369 rfl (fun _ => by kernel_rfl) rfl rfl rfl ?_)
                        intro b372 w373 hS376 he377 a374 hE375; clear hS370 hE369
                        refine ⟨fun _ _ => ⟨(RdS.elt (St.rdO (i := 4) hS376 rfl) (by omega) (by omega) _ (Ext.refl _)), trivial⟩, ?_⟩
                        obtain ⟨_, hi1, hi2, hi3, hi4⟩ := info_parts (show (Try.prog.info? 2).map (fun i => (i.zero, i.size, i.bytes)) = some (some (.int .i64 0), 1, 8) by kernel_rfl)
                        refine d_only 3 (by kernel_rfl) rfl hE375 rfl (l_append (k := 5) (n' := (last9L2 ++ ([gI (F_membersOf (gI f1 (gI last9 i12))) t57L2])).length) hS376 hE375 (by kernel_rfl) hi1 hi2 hi3 rfl (by decide) (by rw [hi4]; decide) rfl rfl rfl (St.rdO (i := 0) hS376 rfl) (by first | omega | (simp only [List.length_append, List.length_cons, List.length_nil]; omega)) (by have h1 := (St.rdO (i := 5) hS376 rfl).len1; have h2 := (St.rdO (i := 0) hS376 rfl).len1; rw [List.length_append, h1, h2]) rfl ?_)
                        intro b378 c384 w379 hS382 a380 hE381; clear hS376 hE375 hi1 hi2 hi3 hi4
                        refine ⟨fun _ _ => ⟨(RdS.elt (St.rdO (i := 4) hS382 rfl) (by omega) (by omega) _ (Ext.refl _)), trivial⟩, ?_⟩
                        obtain ⟨_, hi1, hi2, hi3, hi4⟩ := info_parts (show (Try.prog.info? 2).map (fun i => (i.zero, i.size, i.bytes)) = some (some (.int .i64 0), 1, 8) by kernel_rfl)
                        refine d_only 11 (by kernel_rfl) rfl hE381 rfl (l_append (k := 4) (n' := (steps10L2 ++ ([(gI steps10L2 i12) + 1])).length) hS382 hE381 (by kernel_rfl) hi1 hi2 hi3 rfl (by decide) (by rw [hi4]; decide) rfl rfl rfl (St.rdO (i := 1) hS382 rfl) (by first | omega | (simp only [List.length_append, List.length_cons, List.length_nil]; omega)) (by have h1 := (St.rdO (i := 4) hS382 rfl).len1; have h2 := (St.rdO (i := 1) hS382 rfl).len1; rw [List.length_append, h1, h2]) rfl ?_)
                        intro b385 c391 w386 hS389 a387 hE388; clear hS382 hE381 hi1 hi2 hi3 hi4
                        refine ⟨fun h => Bool.noConfusion (h.symm.trans (show exm _ _ _ = true by kernel_rfl)), ?_⟩
                        refine d_pure (v := .slice b378 ((last9L2 ++ ([gI (F_membersOf (gI f1 (gI last9 i12))) t57L2])).length) c384) 12 rfl hE388 (y_assign rfl) rfl (by kernel_rfl) (by kernel_rfl) (by kernel_rfl) rfl rfl (fun _ _ _ h => h) ?_; intro a392 hE393; clear hE388
                        refine d_pure (v := .slice b385 ((steps10L2 ++ ([(gI steps10L2 i12) + 1])).length) c391) 13 rfl hE393 (y_assign rfl) rfl (by kernel_rfl) (by kernel_rfl) (by kernel_rfl) rfl rfl (fun _ _ _ h => h) ?_; intro a394 hE395; clear hE393
                        refine d_done (by kernel_rfl) ?_
                        have hE396 := hE395.sub (L' := [(2, .int .i64 kp), (3, .pointer (some ⟨b2, 0, none⟩)), (6, .pointer (some ⟨b8, 0, none⟩)), (9, .slice b378 ((last9L2 ++ ([gI (F_membersOf (gI f1 (gI last9 i12))) t57L2])).length) c384), (10, .slice b385 ((steps10L2 ++ ([(gI steps10L2 i12) + 1])).length) c391), (11, .slice arrows11A ((arrows11).length) arrows11C), (12, .int .i64 i12), (13, .int .i64 (orI mask13L2 (shlI 1 ((last9L2).length : Int)))), (55, .slice b234 ((F_membersOf (gI f1 (gI last9 i12))).length) c235), (56, .int .i64 ((F_membersOf (gI f1 (gI last9 i12))).length : Int)), (57, .int .i64 t57L2)]) ⟨rfl, rfl, rfl, rfl, rfl, rfl, rfl, rfl, rfl, rfl, rfl, trivial⟩; clear hE395
                        refine p_bn ?_
                        refine p_tn ?_
                        refine c_reg ?_
                        refine q_step (v := .int .i64 (t57L2 + 1)) hE396 (y_add rfl rfl ⟨(by omega), (by omega)⟩) rfl rfl rfl ?_; intro a397 hE398; clear hE396
                        refine q_step (v := .int .i64 (t57L2 + 1)) hE398 (y_move rfl) rfl rfl rfl ?_; intro a399 hE400; clear hE398
                        refine c_nil ?_
                        have hE401 := hE400.sub (L' := [(2, .int .i64 kp), (3, .pointer (some ⟨b2, 0, none⟩)), (6, .pointer (some ⟨b8, 0, none⟩)), (9, .slice b378 ((last9L2 ++ ([gI (F_membersOf (gI f1 (gI last9 i12))) t57L2])).length) c384), (10, .slice b385 ((steps10L2 ++ ([(gI steps10L2 i12) + 1])).length) c391), (11, .slice arrows11A ((arrows11).length) arrows11C), (12, .int .i64 i12), (13, .int .i64 (orI mask13L2 (shlI 1 ((last9L2).length : Int)))), (55, .slice b234 ((F_membersOf (gI f1 (gI last9 i12))).length) c235), (56, .int .i64 ((F_membersOf (gI f1 (gI last9 i12))).length : Int)), (57, .int .i64 (t57L2 + 1))]) ⟨rfl, rfl, rfl, rfl, rfl, rfl, rfl, rfl, rfl, rfl, rfl, trivial⟩; clear hE400
                        refine p_tn ⟨r254, Nat.lt_succ_self _, last9L2 ++ ([gI (F_membersOf (gI f1 (gI last9 i12))) t57L2]), steps10L2 ++ ([(gI steps10L2 i12) + 1]), orI mask13L2 (shlI 1 ((last9L2).length : Int)), t57L2 + 1, b378, c384, b385, c391, (hT245.symm.trans (show F_UnravelFrame_L2b f1 last9 i12 (F_UnravelFrame_L2 f1 last9 i12 r254) last9L2 steps10L2 mask13L2 t57L2 = F_UnravelFrame_L2 f1 last9 i12 r254 (last9L2 ++ ([gI (F_membersOf (gI f1 (gI last9 i12))) t57L2])) (steps10L2 ++ ([(gI steps10L2 i12) + 1])) (orI mask13L2 (shlI 1 ((last9L2).length : Int))) (t57L2 + 1) by unfold F_UnravelFrame_L2b; rw [ht258]; first | done | rfl)).symm, (by omega), (by first | omega | (simp only [List.length_replicate, sI_len]; omega) | (simp only [List.length_append, List.length_cons, List.length_nil, sI_len, cond_true, cond_false]; omega) | (simp only [List.length_append, List.length_cons, List.length_nil, sI_len, cond_eq_ite, apply_ite List.length]; split <;> simp only [List.length_append, List.length_cons, List.length_nil, sI_len] <;> omega) | grind), (by first | omega | (simp only [List.length_replicate, sI_len]; omega) | (simp only [List.length_append, List.length_cons, List.length_nil, sI_len, cond_true, cond_false]; omega) | (simp only [List.length_append, List.length_cons, List.length_nil, sI_len, cond_eq_ite, apply_ite List.length]; split <;> simp only [List.length_append, List.length_cons, List.length_nil, sI_len] <;> omega) | grind), (by first | omega | (simp only [List.length_replicate, sI_len]; omega) | (simp only [List.length_append, List.length_cons, List.length_nil, sI_len, cond_true, cond_false]; omega) | (simp only [List.length_append, List.length_cons, List.length_nil, sI_len, cond_eq_ite, apply_ite List.length]; split <;> simp only [List.length_append, List.length_cons, List.length_nil, sI_len] <;> omega) | grind), (im_app (by assumption) (by omega) (by omega)), (im_app (by assumption) (by omega) (by omega)), (by rw [gI_appL (by omega) (by omega)]; assumption), (by first | omega | (simp only [List.length_replicate, sI_len]; omega) | (simp only [List.length_append, List.length_cons, List.length_nil, sI_len, cond_true, cond_false]; omega) | (simp only [List.length_append, List.length_cons, List.length_nil, sI_len, cond_eq_ite, apply_ite List.length]; split <;> simp only [List.length_append, List.length_cons, List.length_nil, sI_len] <;> omega) | grind), (hE401.sub (L' := [(2, .int .i64 kp), (3, .pointer (some ⟨b2, 0, none⟩)), (6, .pointer (some ⟨b8, 0, none⟩)), (9, .slice b378 ((last9L2 ++ ([gI (F_membersOf (gI f1 (gI last9 i12))) t57L2])).length) c384), (10, .slice b385 ((steps10L2 ++ ([(gI steps10L2 i12) + 1])).length) c391), (11, .slice arrows11A ((arrows11).length) arrows11C), (12, .int .i64 i12), (13, .int .i64 (orI mask13L2 (shlI 1 ((last9L2).length : Int)))), (55, .slice b234 ((F_membersOf (gI f1 (gI last9 i12))).length) c235), (56, .int .i64 ((F_membersOf (gI f1 (gI last9 i12))).length : Int)), (57, .int .i64 (t57L2 + 1))]) ⟨rfl, rfl, rfl, rfl, rfl, rfl, rfl, rfl, rfl, rfl, rfl, trivial⟩), (St.pick (Γ' := [.own 2 1 b234 ((F_membersOf (gI f1 (gI last9 i12))).length) c235 (F_membersOf (gI f1 (gI last9 i12))), .own 2 1 arrows11A ((arrows11).length) arrows11C arrows11, .own 2 1 b385 ((steps10L2 ++ ([(gI steps10L2 i12) + 1])).length) c391 (steps10L2 ++ ([(gI steps10L2 i12) + 1])), .own 2 1 b378 ((last9L2 ++ ([gI (F_membersOf (gI f1 (gI last9 i12))) t57L2])).length) c384 (last9L2 ++ ([gI (F_membersOf (gI f1 (gI last9 i12))) t57L2])), .blk b8 #[.int .i64 0, .slice none 0 0] 28, .blk b2 #[.int .i64 f0, .slice f1A f1.length f1C] 28, .rd 1 f1A f1.length f1C f1]) hS389 [2, 3, 4, 5, 6, 7, 8] (by decide) rfl)⟩
                    ·
                      have hp402 := of_decide_eq_false ht258
                      have hE403 := hE257; rw [ht258] at hE403; clear hE257
                      refine wp_exit ?_
                      refine p_te ?_
                      have hX404 : F_UnravelFrame_L2 f1 last9 i12 (Int.toNat (((F_membersOf (gI f1 (gI last9 i12))).length : Int) - 0) + 1) last9 steps10 0 0 = (last9L2, steps10L2, mask13L2, t57L2) := hT245.symm.trans (show F_UnravelFrame_L2b f1 last9 i12 (F_UnravelFrame_L2 f1 last9 i12 r254) last9L2 steps10L2 mask13L2 t57L2 = (last9L2, steps10L2, mask13L2, t57L2) by unfold F_UnravelFrame_L2b; rw [ht258]; first | done | rfl)
                      refine p_te (p_be (p_tn ?_))
                      exact ⟨last9L2A, last9L2C, steps10L2A, steps10L2C, (by rw [hX404]; exact (show 0 ≤ t57L2 from (by first | omega | (simp only [List.length_replicate, sI_len]; omega) | (simp only [List.length_append, List.length_cons, List.length_nil, sI_len, cond_true, cond_false]; omega) | (simp only [List.length_append, List.length_cons, List.length_nil, sI_len, cond_eq_ite, apply_ite List.length]; split <;> simp only [List.length_append, List.length_cons, List.length_nil, sI_len] <;> omega) | grind))), (by rw [hX404]; exact (show (steps10L2.length : Int) = (last9L2.length : Int) from (by first | omega | (simp only [List.length_replicate, sI_len]; omega) | (simp only [List.length_append, List.length_cons, List.length_nil, sI_len, cond_true, cond_false]; omega) | (simp only [List.length_append, List.length_cons, List.length_nil, sI_len, cond_eq_ite, apply_ite List.length]; split <;> simp only [List.length_append, List.length_cons, List.length_nil, sI_len] <;> omega) | grind))), (by rw [hX404]; exact (show (last9L2.length : Int) = (last9.length : Int) + t57L2 from (by first | omega | (simp only [List.length_replicate, sI_len]; omega) | (simp only [List.length_append, List.length_cons, List.length_nil, sI_len, cond_true, cond_false]; omega) | (simp only [List.length_append, List.length_cons, List.length_nil, sI_len, cond_eq_ite, apply_ite List.length]; split <;> simp only [List.length_append, List.length_cons, List.length_nil, sI_len] <;> omega) | grind))), (by rw [hX404]; exact (show ∀ m : Int, 0 ≤ m → m < (last9L2.length : Int) → 0 ≤ gI last9L2 m ∧ gI last9L2 m < f0 from (by first | omega | (simp only [List.length_replicate, sI_len]; omega) | (simp only [List.length_append, List.length_cons, List.length_nil, sI_len, cond_true, cond_false]; omega) | (simp only [List.length_append, List.length_cons, List.length_nil, sI_len, cond_eq_ite, apply_ite List.length]; split <;> simp only [List.length_append, List.length_cons, List.length_nil, sI_len] <;> omega) | grind))), (by rw [hX404]; exact (show ∀ m : Int, 0 ≤ m → m < (steps10L2.length : Int) → 0 ≤ gI steps10L2 m ∧ gI steps10L2 m < kp + 1 from (by first | omega | (simp only [List.length_replicate, sI_len]; omega) | (simp only [List.length_append, List.length_cons, List.length_nil, sI_len, cond_true, cond_false]; omega) | (simp only [List.length_append, List.length_cons, List.length_nil, sI_len, cond_eq_ite, apply_ite List.length]; split <;> simp only [List.length_append, List.length_cons, List.length_nil, sI_len] <;> omega) | grind))), (by rw [hX404]; exact (show 0 ≤ gI steps10L2 i12 ∧ gI steps10L2 i12 < kp from (by first | omega | (simp only [List.length_replicate, sI_len]; omega) | (simp only [List.length_append, List.length_cons, List.length_nil, sI_len, cond_true, cond_false]; omega) | (simp only [List.length_append, List.length_cons, List.length_nil, sI_len, cond_eq_ite, apply_ite List.length]; split <;> simp only [List.length_append, List.length_cons, List.length_nil, sI_len] <;> omega) | grind))), (by rw [hX404]; exact (show t57L2 ≤ ((F_membersOf (gI f1 (gI last9 i12))).length : Int) from (by first | omega | (simp only [List.length_replicate, sI_len]; omega) | (simp only [List.length_append, List.length_cons, List.length_nil, sI_len, cond_true, cond_false]; omega) | (simp only [List.length_append, List.length_cons, List.length_nil, sI_len, cond_eq_ite, apply_ite List.length]; split <;> simp only [List.length_append, List.length_cons, List.length_nil, sI_len] <;> omega) | grind))), (by rw [hX404]; exact (hE403.sub (L' := [(2, .int .i64 kp), (3, .pointer (some ⟨b2, 0, none⟩)), (6, .pointer (some ⟨b8, 0, none⟩)), (9, .slice last9L2A ((last9L2).length) last9L2C), (10, .slice steps10L2A ((steps10L2).length) steps10L2C), (11, .slice arrows11A ((arrows11).length) arrows11C), (12, .int .i64 i12), (13, .int .i64 mask13L2), (55, .slice b234 ((F_membersOf (gI f1 (gI last9 i12))).length) c235), (56, .int .i64 ((F_membersOf (gI f1 (gI last9 i12))).length : Int)), (57, .int .i64 t57L2)]) ⟨rfl, rfl, rfl, rfl, rfl, rfl, rfl, rfl, rfl, rfl, rfl, trivial⟩)), (by rw [hX404]; exact (St.pick (Γ' := [.own 2 1 b234 ((F_membersOf (gI f1 (gI last9 i12))).length) c235 (F_membersOf (gI f1 (gI last9 i12))), .own 2 1 arrows11A ((arrows11).length) arrows11C arrows11, .own 2 1 steps10L2A ((steps10L2).length) steps10L2C steps10L2, .own 2 1 last9L2A ((last9L2).length) last9L2C last9L2, .blk b8 #[.int .i64 0, .slice none 0 0] 28, .blk b2 #[.int .i64 f0, .slice f1A f1.length f1C] 28, .rd 1 f1A f1.length f1C f1]) hS244 [0, 1, 2, 3, 4, 5, 6] (by decide) rfl))⟩
                ·
                  rintro a405 w406 ⟨last9L2A_240, last9L2C_240, steps10L2A_240, steps10L2C_240, hi410, hi411, hi412, hi413, hi414, hi415, hi416, hE407, hS408⟩; clear hE239 hS232
                  refine p_tn ?_
                  refine c_seq ?_
                  refine c_seq ?_
                  refine c_reg ?_
                  refine q_step (v := .slice last9L2A_240 (((F_UnravelFrame_L2 f1 last9 i12 (Int.toNat (((F_membersOf (gI f1 (gI last9 i12))).length : Int) - 0) + 1) last9 steps10 0 0).1).length) last9L2C_240) hE407 (y_move rfl) rfl rfl rfl ?_; intro a417 hE418; clear hE407
                  refine q_step (v := .int .i64 (((F_UnravelFrame_L2 f1 last9 i12 (Int.toNat (((F_membersOf (gI f1 (gI last9 i12))).length : Int) - 0) + 1) last9 steps10 0 0).1).length : Int)) hE418 (y_len (e := 2) (by kernel_rfl) rfl) rfl rfl rfl ?_; intro a419 hE420; clear hE418
                  refine q_step (v := .bool (decide (8 < (((F_UnravelFrame_L2 f1 last9 i12 (Int.toNat (((F_membersOf (gI f1 (gI last9 i12))).length : Int) - 0) + 1) last9 steps10 0 0).1).length : Int)))) hE420 (y_gtr rfl rfl) rfl rfl rfl ?_; intro a421 hE422; clear hE420
                  refine c_nil ?_
                  have hE423 := hE422.sub (L' := [(2, .int .i64 kp), (3, .pointer (some ⟨b2, 0, none⟩)), (6, .pointer (some ⟨b8, 0, none⟩)), (9, .slice last9L2A_240 (((F_UnravelFrame_L2 f1 last9 i12 (Int.toNat (((F_membersOf (gI f1 (gI last9 i12))).length : Int) - 0) + 1) last9 steps10 0 0).1).length) last9L2C_240), (10, .slice steps10L2A_240 (((F_UnravelFrame_L2 f1 last9 i12 (Int.toNat (((F_membersOf (gI f1 (gI last9 i12))).length : Int) - 0) + 1) last9 steps10 0 0).2.1).length) steps10L2C_240), (11, .slice arrows11A ((arrows11).length) arrows11C), (12, .int .i64 i12), (13, .int .i64 ((F_UnravelFrame_L2 f1 last9 i12 (Int.toNat (((F_membersOf (gI f1 (gI last9 i12))).length : Int) - 0) + 1) last9 steps10 0 0).2.2.1)), (81, .bool (decide (8 < (((F_UnravelFrame_L2 f1 last9 i12 (Int.toNat (((F_membersOf (gI f1 (gI last9 i12))).length : Int) - 0) + 1) last9 steps10 0 0).1).length : Int))))]) ⟨rfl, rfl, rfl, rfl, rfl, rfl, rfl, rfl, rfl, trivial⟩; clear hE422
                  refine p_tn ?_
                  refine c_cond hE423 rfl (fun ht424 => ?_) (fun ht424 => ?_)
                  ·
                    have hp425 := of_decide_eq_true ht424
                    have hE426 := hE423; rw [ht424] at hE426; clear hE423
                    refine c_seq ?_
                    refine c_reg ?_
                    refine q_step (v := .agg #[.int .i64 0, .slice none 0 0]) hE426 (y_build (vs := #[]) (fun a n hE => by simp) (fun _ => by kernel_rfl)) rfl rfl rfl ?_; intro a427 hE428; clear hE426
                    refine l_step hE428 rfl (l_storeS (k := 4) (cs' := #[.int .i64 0, .slice none 0 0]) hS408 hE428 (by kernel_rfl) rfl rfl (by kernel_rfl) rfl rfl ?_)
                    intro w430 hS433 a431 hE432; clear hS408 hE428
                    refine q_step (v := .slice none 0 0) hE432 (y_assign rfl) rfl rfl rfl ?_; intro a435 hE436; clear hE432
                    refine q_step (v := .int .i64 3) hE436 (y_assign rfl) rfl rfl rfl ?_; intro a437 hE438; clear hE436
                    refine c_nil ?_
                    have hE439 := hE438.sub (L' := [(6, .pointer (some ⟨b8, 0, none⟩)), (7, .slice none 0 0), (8, .int .i64 3)]) ⟨rfl, rfl, rfl, trivial⟩; clear hE438
                    refine p_tn ?_
                    refine wp_ret ?_
                    refine p_tr ?_
                    refine p_br ?_
                    refine p_tr ?_
                    have hX440 : F_UnravelFrame_L1 f1 kp (Int.toNat (9 - 0) + 1) ([wp]) ([0]) ([]) 0 = .error ((0, []), [], 3) := hT166.symm.trans (show F_UnravelFrame_L1b f1 kp (F_UnravelFrame_L1 f1 kp r175) last9 steps10 arrows11 i12 = .error ((0, []), [], 3) by unfold F_UnravelFrame_L1b; rw [ht424, ht204, ht185]; first | done | rfl)
                    refine p_tr (p_br (p_tr ?_))
                    refine p_tr ?_
                    have hF : F_UnravelFrame f0 f1 wp kp = ((0, []), [], 3) := by unfold F_UnravelFrame; rw [hX440, ht114, hb67, ht32]; first | done | rfl
                    refine c_retC3 hE439 rfl rfl rfl rfl Try.underlying28 rfl (by kernel_rfl) (St.row (i := 4) hS433 rfl _ (Ext.refl _)) ?_
                    have hS441 := St.nils hS433 2 1; clear hS433
                    have hS442 := St.nils hS441 2 1; clear hS441
                    exact ⟨none, 0, none, 0, (by rw [hF]; first | done | rfl), (by rw [hF]; exact St.own2 1 0 hS442 rfl rfl (by decide)), hS442.ext⟩
                  ·
                    have hp443 := of_decide_eq_false ht424
                    have hE444 := hE423; rw [ht424] at hE444; clear hE423
                    refine wp_skip ?_
                    refine p_tn ?_
                    refine c_reg ?_
                    refine q_step (v := .slice arrows11A ((arrows11).length) arrows11C) hE444 (y_move rfl) rfl rfl rfl ?_; intro a445 hE446; clear hE444
                    refine q_step (v := .int .i64 ((F_UnravelFrame_L2 f1 last9 i12 (Int.toNat (((F_membersOf (gI f1 (gI last9 i12))).length : Int) - 0) + 1) last9 steps10 0 0).2.2.1)) hE446 (y_move rfl) rfl rfl rfl ?_; intro a447 hE448; clear hE446
                    refine l_step hE448 rfl (l_lit (e := 2) (s := 1) (xs := [(F_UnravelFrame_L2 f1 last9 i12 (Int.toNat (((F_membersOf (gI f1 (gI last9 i12))).length : Int) - 0) + 1) last9 steps10 0 0).2.2.1]) (vs := [.int .i64 ((F_UnravelFrame_L2 f1 last9 i12 (Int.toNat (((F_membersOf (gI f1 (gI last9 i12))).length : Int) - 0) + 1) last9 steps10 0 0).2.2.1)]) hS408 hE448 rfl (fun _ => by kernel_rfl) rfl rfl rfl ?_)
                    intro b449 w450 hS453 he454 a451 hE452; clear hS408 hE448
                    obtain ⟨_, hi1, hi2, hi3, hi4⟩ := info_parts (show (Try.prog.info? 2).map (fun i => (i.zero, i.size, i.bytes)) = some (some (.int .i64 0), 1, 8) by kernel_rfl)
                    refine l_step hE452 rfl (l_append (k := 2) (n' := (arrows11 ++ ([(F_UnravelFrame_L2 f1 last9 i12 (Int.toNat (((F_membersOf (gI f1 (gI last9 i12))).length : Int) - 0) + 1) last9 steps10 0 0).2.2.1])).length) hS453 hE452 (by kernel_rfl) hi1 hi2 hi3 rfl (by decide) (by rw [hi4]; decide) rfl rfl rfl (St.rdO (i := 0) hS453 rfl) (by first | omega | (simp only [List.length_append, List.length_cons, List.length_nil]; omega)) (by have h1 := (St.rdO (i := 2) hS453 rfl).len1; have h2 := (St.rdO (i := 0) hS453 rfl).len1; rw [List.length_append, h1, h2]) rfl ?_)
                    intro b455 c461 w456 hS459 a457 hE458; clear hS453 hE452 hi1 hi2 hi3 hi4
                    refine q_step (v := .slice b455 ((arrows11 ++ ([(F_UnravelFrame_L2 f1 last9 i12 (Int.toNat (((F_membersOf (gI f1 (gI last9 i12))).length : Int) - 0) + 1) last9 steps10 0 0).2.2.1])).length) c461) hE458 (y_assign rfl) rfl rfl rfl ?_; intro a462 hE463; clear hE458
                    refine c_nil ?_
                    have hE464 := hE463.sub (L' := [(2, .int .i64 kp), (3, .pointer (some ⟨b2, 0, none⟩)), (6, .pointer (some ⟨b8, 0, none⟩)), (9, .slice last9L2A_240 (((F_UnravelFrame_L2 f1 last9 i12 (Int.toNat (((F_membersOf (gI f1 (gI last9 i12))).length : Int) - 0) + 1) last9 steps10 0 0).1).length) last9L2C_240), (10, .slice steps10L2A_240 (((F_UnravelFrame_L2 f1 last9 i12 (Int.toNat (((F_membersOf (gI f1 (gI last9 i12))).length : Int) - 0) + 1) last9 steps10 0 0).2.1).length) steps10L2C_240), (11, .slice b455 ((arrows11 ++ ([(F_UnravelFrame_L2 f1 last9 i12 (Int.toNat (((F_membersOf (gI f1 (gI last9 i12))).length : Int) - 0) + 1) last9 steps10 0 0).2.2.1])).length) c461), (12, .int .i64 i12)]) ⟨rfl, rfl, rfl, rfl, rfl, rfl, rfl, trivial⟩; clear hE463
                    refine p_bn ?_
                    refine p_tn ?_
                    refine c_reg ?_
                    refine q_step (v := .int .i64 i12) hE464 (y_move rfl) rfl rfl rfl ?_; intro a465 hE466; clear hE464
                    refine q_step (v := .int .i64 (i12 + 1)) hE466 (y_add rfl rfl ⟨(by omega), (by omega)⟩) rfl rfl rfl ?_; intro a467 hE468; clear hE466
                    refine q_step (v := .int .i64 (i12 + 1)) hE468 (y_assign rfl) rfl rfl rfl ?_; intro a469 hE470; clear hE468
                    refine c_nil ?_
                    have hE471 := hE470.sub (L' := [(2, .int .i64 kp), (3, .pointer (some ⟨b2, 0, none⟩)), (6, .pointer (some ⟨b8, 0, none⟩)), (9, .slice last9L2A_240 (((F_UnravelFrame_L2 f1 last9 i12 (Int.toNat (((F_membersOf (gI f1 (gI last9 i12))).length : Int) - 0) + 1) last9 steps10 0 0).1).length) last9L2C_240), (10, .slice steps10L2A_240 (((F_UnravelFrame_L2 f1 last9 i12 (Int.toNat (((F_membersOf (gI f1 (gI last9 i12))).length : Int) - 0) + 1) last9 steps10 0 0).2.1).length) steps10L2C_240), (11, .slice b455 ((arrows11 ++ ([(F_UnravelFrame_L2 f1 last9 i12 (Int.toNat (((F_membersOf (gI f1 (gI last9 i12))).length : Int) - 0) + 1) last9 steps10 0 0).2.2.1])).length) c461), (12, .int .i64 (i12 + 1))]) ⟨rfl, rfl, rfl, rfl, rfl, rfl, rfl, trivial⟩; clear hE470
                    refine p_tn ⟨r175, Nat.lt_succ_self _, (F_UnravelFrame_L2 f1 last9 i12 (Int.toNat (((F_membersOf (gI f1 (gI last9 i12))).length : Int) - 0) + 1) last9 steps10 0 0).1, (F_UnravelFrame_L2 f1 last9 i12 (Int.toNat (((F_membersOf (gI f1 (gI last9 i12))).length : Int) - 0) + 1) last9 steps10 0 0).2.1, arrows11 ++ ([(F_UnravelFrame_L2 f1 last9 i12 (Int.toNat (((F_membersOf (gI f1 (gI last9 i12))).length : Int) - 0) + 1) last9 steps10 0 0).2.2.1]), i12 + 1, last9L2A_240, last9L2C_240, steps10L2A_240, steps10L2C_240, b455, c461, (hT166.symm.trans (show F_UnravelFrame_L1b f1 kp (F_UnravelFrame_L1 f1 kp r175) last9 steps10 arrows11 i12 = F_UnravelFrame_L1 f1 kp r175 ((F_UnravelFrame_L2 f1 last9 i12 (Int.toNat (((F_membersOf (gI f1 (gI last9 i12))).length : Int) - 0) + 1) last9 steps10 0 0).1) ((F_UnravelFrame_L2 f1 last9 i12 (Int.toNat (((F_membersOf (gI f1 (gI last9 i12))).length : Int) - 0) + 1) last9 steps10 0 0).2.1) (arrows11 ++ ([(F_UnravelFrame_L2 f1 last9 i12 (Int.toNat (((F_membersOf (gI f1 (gI last9 i12))).length : Int) - 0) + 1) last9 steps10 0 0).2.2.1])) (i12 + 1) by unfold F_UnravelFrame_L1b; rw [ht424, ht204, ht185]; first | done | rfl)).symm, (by omega), (by first | omega | (simp only [List.length_replicate, sI_len]; omega) | (simp only [List.length_append, List.length_cons, List.length_nil, sI_len, cond_true, cond_false]; omega) | (simp only [List.length_append, List.length_cons, List.length_nil, sI_len, cond_eq_ite, apply_ite List.length]; split <;> simp only [List.length_append, List.length_cons, List.length_nil, sI_len] <;> omega) | grind), (by first | omega | (simp only [List.length_replicate, sI_len]; omega) | (simp only [List.length_append, List.length_cons, List.length_nil, sI_len, cond_true, cond_false]; omega) | (simp only [List.length_append, List.length_cons, List.length_nil, sI_len, cond_eq_ite, apply_ite List.length]; split <;> simp only [List.length_append, List.length_cons, List.length_nil, sI_len] <;> omega) | grind), (by first | omega | (simp only [List.length_replicate, sI_len]; omega) | (simp only [List.length_append, List.length_cons, List.length_nil, sI_len, cond_true, cond_false]; omega) | (simp only [List.length_append, List.length_cons, List.length_nil, sI_len, cond_eq_ite, apply_ite List.length]; split <;> simp only [List.length_append, List.length_cons, List.length_nil, sI_len] <;> omega) | grind), (by assumption), (by assumption), (by first | omega | (simp only [List.length_replicate, sI_len]; omega) | (simp only [List.length_append, List.length_cons, List.length_nil, sI_len, cond_true, cond_false]; omega) | (simp only [List.length_append, List.length_cons, List.length_nil, sI_len, cond_eq_ite, apply_ite List.length]; split <;> simp only [List.length_append, List.length_cons, List.length_nil, sI_len] <;> omega) | grind), (by first | omega | (simp only [List.length_replicate, sI_len]; omega) | (simp only [List.length_append, List.length_cons, List.length_nil, sI_len, cond_true, cond_false]; omega) | (simp only [List.length_append, List.length_cons, List.length_nil, sI_len, cond_eq_ite, apply_ite List.length]; split <;> simp only [List.length_append, List.length_cons, List.length_nil, sI_len] <;> omega) | grind), (hE471.sub (L' := [(2, .int .i64 kp), (3, .pointer (some ⟨b2, 0, none⟩)), (6, .pointer (some ⟨b8, 0, none⟩)), (9, .slice last9L2A_240 (((F_UnravelFrame_L2 f1 last9 i12 (Int.toNat (((F_membersOf (gI f1 (gI last9 i12))).length : Int) - 0) + 1) last9 steps10 0 0).1).length) last9L2C_240), (10, .slice steps10L2A_240 (((F_UnravelFrame_L2 f1 last9 i12 (Int.toNat (((F_membersOf (gI f1 (gI last9 i12))).length : Int) - 0) + 1) last9 steps10 0 0).2.1).length) steps10L2C_240), (11, .slice b455 ((arrows11 ++ ([(F_UnravelFrame_L2 f1 last9 i12 (Int.toNat (((F_membersOf (gI f1 (gI last9 i12))).length : Int) - 0) + 1) last9 steps10 0 0).2.2.1])).length) c461), (12, .int .i64 (i12 + 1))]) ⟨rfl, rfl, rfl, rfl, rfl, rfl, rfl, trivial⟩), (St.pick (Γ' := [.own 2 1 b455 ((arrows11 ++ ([(F_UnravelFrame_L2 f1 last9 i12 (Int.toNat (((F_membersOf (gI f1 (gI last9 i12))).length : Int) - 0) + 1) last9 steps10 0 0).2.2.1])).length) c461 (arrows11 ++ ([(F_UnravelFrame_L2 f1 last9 i12 (Int.toNat (((F_membersOf (gI f1 (gI last9 i12))).length : Int) - 0) + 1) last9 steps10 0 0).2.2.1])), .own 2 1 steps10L2A_240 (((F_UnravelFrame_L2 f1 last9 i12 (Int.toNat (((F_membersOf (gI f1 (gI last9 i12))).length : Int) - 0) + 1) last9 steps10 0 0).2.1).length) steps10L2C_240 ((F_UnravelFrame_L2 f1 last9 i12 (Int.toNat (((F_membersOf (gI f1 (gI last9 i12))).length : Int) - 0) + 1) last9 steps10 0 0).2.1), .own 2 1 last9L2A_240 (((F_UnravelFrame_L2 f1 last9 i12 (Int.toNat (((F_membersOf (gI f1 (gI last9 i12))).length : Int) - 0) + 1) last9 steps10 0 0).1).length) last9L2C_240 ((F_UnravelFrame_L2 f1 last9 i12 (Int.toNat (((F_membersOf (gI f1 (gI last9 i12))).length : Int) - 0) + 1) last9 steps10 0 0).1), .blk b8 #[.int .i64 0, .slice none 0 0] 28, .blk b2 #[.int .i64 f0, .slice f1A f1.length f1C] 28, .rd 1 f1A f1.length f1C f1]) hS459 [2, 3, 4, 5, 6, 7] (by decide) rfl)⟩
              ·
                have hp472 := of_decide_eq_false ht204
                have hE473 := hE203; rw [ht204] at hE473; clear hE203
                refine wp_skip ?_
                refine p_tn ?_
                refine c_seq ?_
                refine c_seq ?_
                refine c_reg ?_
                refine q_step (v := .slice last9A ((last9).length) last9C) hE473 (y_move rfl) rfl rfl rfl ?_; intro a474 hE475; clear hE473
                refine q_step (v := .int .i64 ((last9).length : Int)) hE475 (y_len (e := 2) (by kernel_rfl) rfl) rfl rfl rfl ?_; intro a476 hE477; clear hE475
                refine q_step (v := .bool (decide (8 < ((last9).length : Int)))) hE477 (y_gtr rfl rfl) rfl rfl rfl ?_; intro a478 hE479; clear hE477
                refine c_nil ?_
                have hE480 := hE479.sub (L' := [(2, .int .i64 kp), (3, .pointer (some ⟨b2, 0, none⟩)), (6, .pointer (some ⟨b8, 0, none⟩)), (9, .slice last9A ((last9).length) last9C), (10, .slice steps10A ((steps10).length) steps10C), (11, .slice arrows11A ((arrows11).length) arrows11C), (12, .int .i64 i12), (13, .int .i64 0), (81, .bool (decide (8 < ((last9).length : Int))))]) ⟨rfl, rfl, rfl, rfl, rfl, rfl, rfl, rfl, rfl, trivial⟩; clear hE479
                refine p_tn ?_
                refine c_cond hE480 rfl (fun ht481 => ?_) (fun ht481 => ?_)
                ·
                  have hp482 := of_decide_eq_true ht481
                  have hE483 := hE480; rw [ht481] at hE483; clear hE480
                  refine c_seq ?_
                  refine c_reg ?_
                  refine q_step (v := .agg #[.int .i64 0, .slice none 0 0]) hE483 (y_build (vs := #[]) (fun a n hE => by simp) (fun _ => by kernel_rfl)) rfl rfl rfl ?_; intro a484 hE485; clear hE483
                  refine l_step hE485 rfl (l_storeS (k := 3) (cs' := #[.int .i64 0, .slice none 0 0]) hS165 hE485 (by kernel_rfl) rfl rfl (by kernel_rfl) rfl rfl ?_)
                  intro w487 hS490 a488 hE489; clear hS165 hE485
                  refine q_step (v := .slice none 0 0) hE489 (y_assign rfl) rfl rfl rfl ?_; intro a492 hE493; clear hE489
                  refine q_step (v := .int .i64 3) hE493 (y_assign rfl) rfl rfl rfl ?_; intro a494 hE495; clear hE493
                  refine c_nil ?_
                  have hE496 := hE495.sub (L' := [(6, .pointer (some ⟨b8, 0, none⟩)), (7, .slice none 0 0), (8, .int .i64 3)]) ⟨rfl, rfl, rfl, trivial⟩; clear hE495
                  refine p_tn ?_
                  refine wp_ret ?_
                  refine p_tr ?_
                  refine p_br ?_
                  refine p_tr ?_
                  have hX497 : F_UnravelFrame_L1 f1 kp (Int.toNat (9 - 0) + 1) ([wp]) ([0]) ([]) 0 = .error ((0, []), [], 3) := hT166.symm.trans (show F_UnravelFrame_L1b f1 kp (F_UnravelFrame_L1 f1 kp r175) last9 steps10 arrows11 i12 = .error ((0, []), [], 3) by unfold F_UnravelFrame_L1b; rw [ht481, ht204, ht185]; first | done | rfl)
                  refine p_tr (p_br (p_tr ?_))
                  refine p_tr ?_
                  have hF : F_UnravelFrame f0 f1 wp kp = ((0, []), [], 3) := by unfold F_UnravelFrame; rw [hX497, ht114, hb67, ht32]; first | done | rfl
                  refine c_retC3 hE496 rfl rfl rfl rfl Try.underlying28 rfl (by kernel_rfl) (St.row (i := 3) hS490 rfl _ (Ext.refl _)) ?_
                  have hS498 := St.nils hS490 2 1; clear hS490
                  have hS499 := St.nils hS498 2 1; clear hS498
                  exact ⟨none, 0, none, 0, (by rw [hF]; first | done | rfl), (by rw [hF]; exact St.own2 1 0 hS499 rfl rfl (by decide)), hS499.ext⟩
                ·
                  have hp500 := of_decide_eq_false ht481
                  have hE501 := hE480; rw [ht481] at hE501; clear hE480
                  refine wp_skip ?_
                  refine p_tn ?_
                  refine c_reg ?_
                  refine q_step (v := .slice arrows11A ((arrows11).length) arrows11C) hE501 (y_move rfl) rfl rfl rfl ?_; intro a502 hE503; clear hE501
                  refine q_step (v := .int .i64 0) hE503 (y_move rfl) rfl rfl rfl ?_; intro a504 hE505; clear hE503
                  refine l_step hE505 rfl (l_lit (e := 2) (s := 1) (xs := [0]) (vs := [.int .i64 0]) hS165 hE505 rfl (fun _ => by kernel_rfl) rfl rfl rfl ?_)
                  intro b506 w507 hS510 he511 a508 hE509; clear hS165 hE505
                  obtain ⟨_, hi1, hi2, hi3, hi4⟩ := info_parts (show (Try.prog.info? 2).map (fun i => (i.zero, i.size, i.bytes)) = some (some (.int .i64 0), 1, 8) by kernel_rfl)
                  refine l_step hE509 rfl (l_append (k := 1) (n' := (arrows11 ++ ([0])).length) hS510 hE509 (by kernel_rfl) hi1 hi2 hi3 rfl (by decide) (by rw [hi4]; decide) rfl rfl rfl (St.rdO (i := 0) hS510 rfl) (by first | omega | (simp only [List.length_append, List.length_cons, List.length_nil]; omega)) (by have h1 := (St.rdO (i := 1) hS510 rfl).len1; have h2 := (St.rdO (i := 0) hS510 rfl).len1; rw [List.length_append, h1, h2]) rfl ?_)
                  intro b512 c518 w513 hS516 a514 hE515; clear hS510 hE509 hi1 hi2 hi3 hi4
                  refine q_step (v := .slice b512 ((arrows11 ++ ([0])).length) c518) hE515 (y_assign rfl) rfl rfl rfl ?_; intro a519 hE520; clear hE515
                  refine c_nil ?_
                  have hE521 := hE520.sub (L' := [(2, .int .i64 kp), (3, .pointer (some ⟨b2, 0, none⟩)), (6, .pointer (some ⟨b8, 0, none⟩)), (9, .slice last9A ((last9).length) last9C), (10, .slice steps10A ((steps10).length) steps10C), (11, .slice b512 ((arrows11 ++ ([0])).length) c518), (12, .int .i64 i12)]) ⟨rfl, rfl, rfl, rfl, rfl, rfl, rfl, trivial⟩; clear hE520
                  refine p_bn ?_
                  refine p_tn ?_
                  refine c_reg ?_
                  refine q_step (v := .int .i64 i12) hE521 (y_move rfl) rfl rfl rfl ?_; intro a522 hE523; clear hE521
                  refine q_step (v := .int .i64 (i12 + 1)) hE523 (y_add rfl rfl ⟨(by omega), (by omega)⟩) rfl rfl rfl ?_; intro a524 hE525; clear hE523
                  refine q_step (v := .int .i64 (i12 + 1)) hE525 (y_assign rfl) rfl rfl rfl ?_; intro a526 hE527; clear hE525
                  refine c_nil ?_
                  have hE528 := hE527.sub (L' := [(2, .int .i64 kp), (3, .pointer (some ⟨b2, 0, none⟩)), (6, .pointer (some ⟨b8, 0, none⟩)), (9, .slice last9A ((last9).length) last9C), (10, .slice steps10A ((steps10).length) steps10C), (11, .slice b512 ((arrows11 ++ ([0])).length) c518), (12, .int .i64 (i12 + 1))]) ⟨rfl, rfl, rfl, rfl, rfl, rfl, rfl, trivial⟩; clear hE527
                  refine p_tn ⟨r175, Nat.lt_succ_self _, last9, steps10, arrows11 ++ ([0]), i12 + 1, last9A, last9C, steps10A, steps10C, b512, c518, (hT166.symm.trans (show F_UnravelFrame_L1b f1 kp (F_UnravelFrame_L1 f1 kp r175) last9 steps10 arrows11 i12 = F_UnravelFrame_L1 f1 kp r175 last9 steps10 (arrows11 ++ ([0])) (i12 + 1) by unfold F_UnravelFrame_L1b; rw [ht481, ht204, ht185]; first | done | rfl)).symm, (by omega), (by first | omega | (simp only [List.length_replicate, sI_len]; omega) | (simp only [List.length_append, List.length_cons, List.length_nil, sI_len, cond_true, cond_false]; omega) | (simp only [List.length_append, List.length_cons, List.length_nil, sI_len, cond_eq_ite, apply_ite List.length]; split <;> simp only [List.length_append, List.length_cons, List.length_nil, sI_len] <;> omega) | grind), (by first | omega | (simp only [List.length_replicate, sI_len]; omega) | (simp only [List.length_append, List.length_cons, List.length_nil, sI_len, cond_true, cond_false]; omega) | (simp only [List.length_append, List.length_cons, List.length_nil, sI_len, cond_eq_ite, apply_ite List.length]; split <;> simp only [List.length_append, List.length_cons, List.length_nil, sI_len] <;> omega) | grind), (by first | omega | (simp only [List.length_replicate, sI_len]; omega) | (simp only [List.length_append, List.length_cons, List.length_nil, sI_len, cond_true, cond_false]; omega) | (simp only [List.length_append, List.length_cons, List.length_nil, sI_len, cond_eq_ite, apply_ite List.length]; split <;> simp only [List.length_append, List.length_cons, List.length_nil, sI_len] <;> omega) | grind), (by assumption), (by assumption), (by first | omega | (simp only [List.length_replicate, sI_len]; omega) | (simp only [List.length_append, List.length_cons, List.length_nil, sI_len, cond_true, cond_false]; omega) | (simp only [List.length_append, List.length_cons, List.length_nil, sI_len, cond_eq_ite, apply_ite List.length]; split <;> simp only [List.length_append, List.length_cons, List.length_nil, sI_len] <;> omega) | grind), (by first | omega | (simp only [List.length_replicate, sI_len]; omega) | (simp only [List.length_append, List.length_cons, List.length_nil, sI_len, cond_true, cond_false]; omega) | (simp only [List.length_append, List.length_cons, List.length_nil, sI_len, cond_eq_ite, apply_ite List.length]; split <;> simp only [List.length_append, List.length_cons, List.length_nil, sI_len] <;> omega) | grind), (hE528.sub (L' := [(2, .int .i64 kp), (3, .pointer (some ⟨b2, 0, none⟩)), (6, .pointer (some ⟨b8, 0, none⟩)), (9, .slice last9A ((last9).length) last9C), (10, .slice steps10A ((steps10).length) steps10C), (11, .slice b512 ((arrows11 ++ ([0])).length) c518), (12, .int .i64 (i12 + 1))]) ⟨rfl, rfl, rfl, rfl, rfl, rfl, rfl, trivial⟩), (St.pick (Γ' := [.own 2 1 b512 ((arrows11 ++ ([0])).length) c518 (arrows11 ++ ([0])), .own 2 1 steps10A ((steps10).length) steps10C steps10, .own 2 1 last9A ((last9).length) last9C last9, .blk b8 #[.int .i64 0, .slice none 0 0] 28, .blk b2 #[.int .i64 f0, .slice f1A f1.length f1C] 28, .rd 1 f1A f1.length f1C f1]) hS516 [1, 2, 3, 4, 5, 6] (by decide) rfl)⟩
            ·
              have hp529 := of_decide_eq_false ht185
              have hE530 := hE184; rw [ht185] at hE530; clear hE184
              refine wp_exit ?_
              refine p_te ?_
              have hX531 : F_UnravelFrame_L1 f1 kp (Int.toNat (9 - 0) + 1) ([wp]) ([0]) ([]) 0 = .ok (last9, steps10, arrows11, i12) := hT166.symm.trans (show F_UnravelFrame_L1b f1 kp (F_UnravelFrame_L1 f1 kp r175) last9 steps10 arrows11 i12 = .ok (last9, steps10, arrows11, i12) by unfold F_UnravelFrame_L1b; rw [ht185]; first | done | rfl)
              refine p_te (p_be (p_tn ?_))
              exact ⟨last9A, last9C, steps10A, steps10C, arrows11A, arrows11C, (by rw [hX531]; rfl), (by rw [hX531]; exact (show 0 ≤ i12 from (by first | omega | (simp only [List.length_replicate, sI_len]; omega) | (simp only [List.length_append, List.length_cons, List.length_nil, sI_len, cond_true, cond_false]; omega) | (simp only [List.length_append, List.length_cons, List.length_nil, sI_len, cond_eq_ite, apply_ite List.length]; split <;> simp only [List.length_append, List.length_cons, List.length_nil, sI_len] <;> omega) | grind))), (by rw [hX531]; exact (show (steps10.length : Int) = (last9.length : Int) from (by first | omega | (simp only [List.length_replicate, sI_len]; omega) | (simp only [List.length_append, List.length_cons, List.length_nil, sI_len, cond_true, cond_false]; omega) | (simp only [List.length_append, List.length_cons, List.length_nil, sI_len, cond_eq_ite, apply_ite List.length]; split <;> simp only [List.length_append, List.length_cons, List.length_nil, sI_len] <;> omega) | grind))), (by rw [hX531]; exact (show last9.length ≤ 8 from (by first | omega | (simp only [List.length_replicate, sI_len]; omega) | (simp only [List.length_append, List.length_cons, List.length_nil, sI_len, cond_true, cond_false]; omega) | (simp only [List.length_append, List.length_cons, List.length_nil, sI_len, cond_eq_ite, apply_ite List.length]; split <;> simp only [List.length_append, List.length_cons, List.length_nil, sI_len] <;> omega) | grind))), (by rw [hX531]; exact (show ∀ m : Int, 0 ≤ m → m < (last9.length : Int) → 0 ≤ gI last9 m ∧ gI last9 m < f0 from (by first | omega | (simp only [List.length_replicate, sI_len]; omega) | (simp only [List.length_append, List.length_cons, List.length_nil, sI_len, cond_true, cond_false]; omega) | (simp only [List.length_append, List.length_cons, List.length_nil, sI_len, cond_eq_ite, apply_ite List.length]; split <;> simp only [List.length_append, List.length_cons, List.length_nil, sI_len] <;> omega) | grind))), (by rw [hX531]; exact (show ∀ m : Int, 0 ≤ m → m < (steps10.length : Int) → 0 ≤ gI steps10 m ∧ gI steps10 m < kp + 1 from (by first | omega | (simp only [List.length_replicate, sI_len]; omega) | (simp only [List.length_append, List.length_cons, List.length_nil, sI_len, cond_true, cond_false]; omega) | (simp only [List.length_append, List.length_cons, List.length_nil, sI_len, cond_eq_ite, apply_ite List.length]; split <;> simp only [List.length_append, List.length_cons, List.length_nil, sI_len] <;> omega) | grind))), (by rw [hX531]; exact (show (arrows11.length : Int) = i12 from (by first | omega | (simp only [List.length_replicate, sI_len]; omega) | (simp only [List.length_append, List.length_cons, List.length_nil, sI_len, cond_true, cond_false]; omega) | (simp only [List.length_append, List.length_cons, List.length_nil, sI_len, cond_eq_ite, apply_ite List.length]; split <;> simp only [List.length_append, List.length_cons, List.length_nil, sI_len] <;> omega) | grind))), (by rw [hX531]; exact (show (arrows11.length : Int) ≤ i12 from (by first | omega | (simp only [List.length_replicate, sI_len]; omega) | (simp only [List.length_append, List.length_cons, List.length_nil, sI_len, cond_true, cond_false]; omega) | (simp only [List.length_append, List.length_cons, List.length_nil, sI_len, cond_eq_ite, apply_ite List.length]; split <;> simp only [List.length_append, List.length_cons, List.length_nil, sI_len] <;> omega) | grind))), (by rw [hX531]; exact (hE530.sub (L' := [(2, .int .i64 kp), (3, .pointer (some ⟨b2, 0, none⟩)), (6, .pointer (some ⟨b8, 0, none⟩)), (9, .slice last9A ((last9).length) last9C), (10, .slice steps10A ((steps10).length) steps10C), (11, .slice arrows11A ((arrows11).length) arrows11C), (12, .int .i64 i12)]) ⟨rfl, rfl, rfl, rfl, rfl, rfl, rfl, trivial⟩)), (by rw [hX531]; exact (St.pick (Γ' := [.own 2 1 arrows11A ((arrows11).length) arrows11C arrows11, .own 2 1 steps10A ((steps10).length) steps10C steps10, .own 2 1 last9A ((last9).length) last9C last9, .blk b8 #[.int .i64 0, .slice none 0 0] 28, .blk b2 #[.int .i64 f0, .slice f1A f1.length f1C] 28, .rd 1 f1A f1.length f1C f1]) hS165 [0, 1, 2, 3, 4, 5] (by decide) rfl))⟩
        ·
          rintro a532 w533 ⟨last9A_161, last9C_161, steps10A_161, steps10C_161, arrows11A_161, arrows11C_161, hO536, hi537, hi538, hi539, hi540, hi541, hi542, hi543, hE534, hS535⟩; clear hE159 hS160
          refine p_tn ?_
          refine c_seq ?_
          refine c_reg ?_
          refine q_step (v := .slice arrows11A_161 (((okD (F_UnravelFrame_L1 f1 kp (Int.toNat (9 - 0) + 1) ([wp]) ([0]) ([]) 0)).2.2.1).length) arrows11C_161) hE534 (y_move rfl) rfl rfl rfl ?_; intro a544 hE545; clear hE534
          refine l_step hE545 rfl (l_call (f := 68) (argv := [.slice arrows11A_161 (((okD (F_UnravelFrame_L1 f1 kp (Int.toNat (9 - 0) + 1) ([wp]) ([0]) ([]) 0)).2.2.1).length) arrows11C_161]) hE545 (fun _ => cf_frameOf _ _) rfl rfl (c_frameOf arrows11A_161 (((okD (F_UnravelFrame_L1 f1 kp (Int.toNat (9 - 0) + 1) ([wp]) ([0]) ([]) 0)).2.2.1).length) arrows11C_161 ((okD (F_UnravelFrame_L1 f1 kp (Int.toNat (9 - 0) + 1) ([wp]) ([0]) ([]) 0)).2.2.1) w533 (St.rdO (i := 0) hS535 rfl)) ?_)
          rintro _ w547 ⟨rfl, he551⟩ a548 hE549; clear hE545
          have hS550 := St.go hS535 he551; clear hS535
          refine q_step (v := .slice last9A_161 (((okD (F_UnravelFrame_L1 f1 kp (Int.toNat (9 - 0) + 1) ([wp]) ([0]) ([]) 0)).1).length) last9C_161) hE549 (y_move rfl) rfl rfl rfl ?_; intro a552 hE553; clear hE549
          refine l_step hE553 rfl (l_storeS (k := 3) (cs' := #[.int .i64 ((F_frameOf ((okD (F_UnravelFrame_L1 f1 kp (Int.toNat (9 - 0) + 1) ([wp]) ([0]) ([]) 0)).2.2.1)).1), .slice arrows11A_161 (((okD (F_UnravelFrame_L1 f1 kp (Int.toNat (9 - 0) + 1) ([wp]) ([0]) ([]) 0)).2.2.1).length) arrows11C_161]) hS550 hE553 (by kernel_rfl) rfl rfl (by kernel_rfl) rfl rfl ?_)
          intro w555 hS558 a556 hE557; clear hS550 hE553
          refine q_step (v := .slice last9A_161 (((okD (F_UnravelFrame_L1 f1 kp (Int.toNat (9 - 0) + 1) ([wp]) ([0]) ([]) 0)).1).length) last9C_161) hE557 (y_assign rfl) rfl rfl rfl ?_; intro a560 hE561; clear hE557
          refine q_step (v := .int .i64 0) hE561 (y_assign rfl) rfl rfl rfl ?_; intro a562 hE563; clear hE561
          refine c_nil ?_
          have hE564 := hE563.sub (L' := [(6, .pointer (some ⟨b8, 0, none⟩)), (7, .slice last9A_161 (((okD (F_UnravelFrame_L1 f1 kp (Int.toNat (9 - 0) + 1) ([wp]) ([0]) ([]) 0)).1).length) last9C_161), (8, .int .i64 0)]) ⟨rfl, rfl, rfl, trivial⟩; clear hE563
          refine p_tn ?_
          refine wp_ret ?_
          have hF : F_UnravelFrame f0 f1 wp kp = (((F_frameOf ((okD (F_UnravelFrame_L1 f1 kp (Int.toNat (9 - 0) + 1) ([wp]) ([0]) ([]) 0)).2.2.1)).1, (okD (F_UnravelFrame_L1 f1 kp (Int.toNat (9 - 0) + 1) ([wp]) ([0]) ([]) 0)).2.2.1), (okD (F_UnravelFrame_L1 f1 kp (Int.toNat (9 - 0) + 1) ([wp]) ([0]) ([]) 0)).1, 0) := by unfold F_UnravelFrame; rw [hO536, ht114, hb67, ht32]; first | done | rfl
          refine c_retC3 hE564 rfl rfl rfl rfl Try.underlying28 rfl (by kernel_rfl) (St.row (i := 3) hS558 rfl _ (Ext.refl _)) ?_
          exact ⟨arrows11A_161, arrows11C_161, last9A_161, last9C_161, (by rw [hF]; first | done | rfl), (by rw [hF]; exact St.own2 0 2 hS558 rfl rfl (by decide)), hS558.ext⟩

theorem gI_mid (xs : List Int) (v : Int) (ys : List Int) {i : Int} (hi : (xs.length : Int) = i) : gI (xs ++ (v :: ys)) i = v := by
  subst hi
  unfold gI gi
  rw [Int.toNat_natCast, List.getD_eq_getElem?_getD]; simp
theorem sI_mid (xs : List Int) (v u : Int) (ys : List Int) {i : Int} (hi : (xs.length : Int) = i) : sI (xs ++ (v :: ys)) i u = xs ++ (u :: ys) := by
  subst hi
  unfold sI
  rw [Int.toNat_natCast, List.set_append_right _ _ (Nat.le_refl _)]; simp
theorem rep_app (n : Nat) : List.replicate n (0 : Int) ++ [0] = List.replicate (n + 1) 0 := by rw [List.replicate_succ']
def IM (xs : List Int) (b : Int) : Prop := ∀ m : Int, 0 ≤ m → m < (xs.length : Int) → 0 ≤ gI xs m ∧ gI xs m < b
theorem uf_inner {f0 : Int} {f1 : List Int} (h0 : 0 ≤ f0 ∧ f0 ≤ 8) (ends0 : List Int) (i kp : Int) (hi0 : 0 ≤ i) (hmk : 0 ≤ gI f1 (gI ends0 i) ∧ gI f1 (gI ends0 i) ≤ fullI f0) (aI : List Int) (haI : (aI.length : Int) = i) : ∀ (k : Nat) (j : Int) (ends steps : List Int) (mask : Int) (q : Nat), 0 ≤ j → ((F_membersOf (gI f1 (gI ends0 i))).length : Int) - j = (k : Int) → ends.length + k ≤ 62 → steps.length = ends.length → i < (ends.length : Int) → IM ends f0 → IM steps (kp + 1) → gI steps i < kp →
    ∃ (ends' steps' : List Int) (mask' j1 j2 : Int), F_s_UnravelFrame_L2 f1 ends0 i (k + 1) ends (aI ++ (mask :: List.replicate q 0)) steps j = (ends', aI ++ (mask' :: List.replicate (q + k) 0), steps', j1) ∧ F_UnravelFrame_L2 f1 ends0 i (k + 1) ends steps mask j = (ends', steps', mask', j2) ∧ ends'.length = ends.length + k ∧ steps'.length = ends'.length ∧ IM ends' f0 ∧ IM steps' (kp + 1) := by
  have hf8 := fullI_bd (n := f0) (by omega) (by omega)
  have hL : F_l01List (gI f1 (gI ends0 i)) = F_membersOf (gI f1 (gI ends0 i)) := l01List_eq hmk.1 (by omega)
  intro k
  induction k with
  | zero =>
    intro j ends steps mask q hj hk hen hst hie hIe hIs hik
    refine ⟨ends, steps, mask, j, j, ?_, ?_, by omega, hst, hIe, hIs⟩
    · show F_s_UnravelFrame_L2b f1 ends0 i _ _ _ _ _ = _
      unfold F_s_UnravelFrame_L2b
      rw [hL, decide_eq_false (by omega)]; rfl
    · show F_UnravelFrame_L2b f1 ends0 i _ _ _ _ _ = _
      unfold F_UnravelFrame_L2b
      rw [decide_eq_false (by omega)]; rfl
  | succ k ih =>
    intro j ends steps mask q hj hk hen hst hie hIe hIs hik
    have hx := members_lt (mask := gI f1 (gI ends0 i)) (n := f0.toNat) (by omega) hmk.1 (by rw [Int.toNat_of_nonneg (by omega)]; exact hmk.2) j hj (by omega)
    have hsi := hIs i hi0 (by omega)
    obtain ⟨e', s', m', j1, j2, a1, a2, a3, a4, a5, a6⟩ := ih (j + 1) (ends ++ [gI (F_membersOf (gI f1 (gI ends0 i))) j]) (steps ++ [gI steps i + 1]) (orI mask (powI (ends.length : Int))) (q + 1) (by omega) (by omega) (by rw [List.length_append, List.length_singleton]; omega) (by rw [List.length_append, List.length_append, List.length_singleton, List.length_singleton, hst]) (by rw [List.length_append, List.length_singleton]; omega) (im_app hIe (by omega) (by omega)) (im_app hIs (by omega) (by omega)) (by rw [gI_appL hi0 (by omega)]; exact hik)
    rw [List.length_append, List.length_singleton] at a3
    refine ⟨e', s', m', j1, j2, ?_, ?_, by omega, a4, a5, a6⟩
    · rw [show q + (k + 1) = q + 1 + k by omega, ← a1]
      show F_s_UnravelFrame_L2b f1 ends0 i _ _ _ _ _ = _
      unfold F_s_UnravelFrame_L2b
      rw [hL, decide_eq_true (by omega), cond_true, gI_mid _ _ _ haI, sI_mid _ _ _ _ haI, List.append_assoc, List.cons_append, rep_app]
    · rw [← a2]
      show F_UnravelFrame_L2b f1 ends0 i _ _ _ _ _ = _
      unfold F_UnravelFrame_L2b
      rw [decide_eq_true (by omega), cond_true, pow_shl (by omega) (by omega)]
theorem uf_outer {f0 : Int} {f1 : List Int} (h0 : 0 ≤ f0 ∧ f0 ≤ 8) (hfl : (f1.length : Int) = f0) (hfm : ∀ m : Int, 0 ≤ m → m < (f1.length : Int) → 0 ≤ gI f1 m ∧ gI f1 m ≤ fullI f0) (kp : Int) : ∀ (r : Nat) (ends steps aI : List Int) (i : Int), 9 - i < (r : Int) → i ≤ (ends.length : Int) → ends.length ≤ 8 → (aI.length : Int) = i → steps.length = ends.length → IM ends f0 → IM steps (kp + 1) →
    (F_s_UnravelFrame_L1 f1 kp r ends (aI ++ List.replicate (ends.length - aI.length) 0) steps i = .error ((0, []), [], 3) ∧ F_UnravelFrame_L1 f1 kp r ends steps aI i = .error ((0, []), [], 3)) ∨
    ∃ (e' a' s' : List Int) (i' : Int), F_s_UnravelFrame_L1 f1 kp r ends (aI ++ List.replicate (ends.length - aI.length) 0) steps i = .ok (e', a', s', i') ∧ F_UnravelFrame_L1 f1 kp r ends steps aI i = .ok (e', s', a', i') ∧ e'.length ≤ 8 ∧ a'.length ≤ 8 := by
  have hf8 := fullI_bd (n := f0) (by omega) (by omega)
  intro r
  induction r with
  | zero => intro ends steps aI i hr hie hen haI; omega
  | succ r ih =>
    intro ends steps aI i hr hie hen haI hst hIe hIs
    by_cases hlt : i < (ends.length : Int)
    · have hS : F_s_UnravelFrame_L1 f1 kp (r + 1) ends (aI ++ List.replicate (ends.length - aI.length) 0) steps i = F_s_UnravelFrame_L1b f1 kp (F_s_UnravelFrame_L1 f1 kp r) ends (aI ++ (0 :: List.replicate (ends.length - aI.length - 1) 0)) steps i := by
        rw [show ends.length - aI.length = (ends.length - aI.length - 1) + 1 by omega, List.replicate_succ]; rfl
      have hI : F_UnravelFrame_L1 f1 kp (r + 1) ends steps aI i = F_UnravelFrame_L1b f1 kp (F_UnravelFrame_L1 f1 kp r) ends steps aI i := rfl
      rw [hS, hI]
      unfold F_s_UnravelFrame_L1b F_UnravelFrame_L1b
      rw [decide_eq_true hlt, cond_true, cond_true]
      have hs := hIs i (by omega) (by omega)
      by_cases hk : gI steps i = kp
      · rw [decide_eq_true hk, cond_true, decide_eq_false (show ¬ gI steps i < kp by omega), cond_false, decide_eq_false (show ¬ 8 < (ends.length : Int) by omega), cond_false]
        have := ih ends steps (aI ++ [0]) (i + 1) (by omega) (by omega) hen (by rw [List.length_append, List.length_singleton]; omega) hst hIe hIs
        rw [List.append_assoc, List.length_append, List.length_singleton, show ends.length - (aI.length + 1) = ends.length - aI.length - 1 by omega] at this
        exact this
      · rw [decide_eq_false hk, cond_false, decide_eq_true (show gI steps i < kp by omega), cond_true]
        have he := hIe i (by omega) hlt
        have hmk := hfm (gI ends i) (by omega) (by omega)
        have hml := members_len (mask := gI f1 (gI ends i)) (n := f0.toNat) (by omega) hmk.1 (by rw [Int.toNat_of_nonneg (by omega)]; exact hmk.2)
        have hL : F_l01List (gI f1 (gI ends i)) = F_membersOf (gI f1 (gI ends i)) := l01List_eq hmk.1 (by omega)
        obtain ⟨e', s', m', j1, j2, a1, a2, a3, a4, a5, a6⟩ := uf_inner h0 ends i kp (by omega) hmk aI haI (F_membersOf (gI f1 (gI ends i))).length 0 ends steps 0 (ends.length - aI.length - 1) (by omega) (by omega) (by omega) hst hlt hIe hIs (by omega)
        rw [hL, show Int.toNat (((F_membersOf (gI f1 (gI ends i))).length : Int) - 0) = (F_membersOf (gI f1 (gI ends i))).length by omega, a1, a2]
        show ((bif decide (8 < (ends.length : Int) + ((F_membersOf (gI f1 (gI ends i))).length : Int)) then _ else F_s_UnravelFrame_L1 f1 kp r e' (aI ++ (m' :: List.replicate (ends.length - aI.length - 1 + (F_membersOf (gI f1 (gI ends i))).length) 0)) s' (i + 1)) = _ ∧ (bif decide (8 < (e'.length : Int)) then _ else F_UnravelFrame_L1 f1 kp r e' s' (aI ++ [m']) (i + 1)) = _) ∨ ∃ (e'' a'' s'' : List Int) (i'' : Int), (bif decide (8 < (ends.length : Int) + ((F_membersOf (gI f1 (gI ends i))).length : Int)) then _ else F_s_UnravelFrame_L1 f1 kp r e' (aI ++ (m' :: List.replicate (ends.length - aI.length - 1 + (F_membersOf (gI f1 (gI ends i))).length) 0)) s' (i + 1)) = _ ∧ (bif decide (8 < (e'.length : Int)) then _ else F_UnravelFrame_L1 f1 kp r e' s' (aI ++ [m']) (i + 1)) = _ ∧ _
        by_cases h8 : 8 < (ends.length : Int) + ((F_membersOf (gI f1 (gI ends i))).length : Int)
        · rw [decide_eq_true h8, decide_eq_true (show 8 < (e'.length : Int) by omega)]
          exact .inl ⟨rfl, rfl⟩
        · rw [decide_eq_false h8, decide_eq_false (show ¬ 8 < (e'.length : Int) by omega), cond_false, cond_false]
          have := ih e' s' (aI ++ [m']) (i + 1) (by omega) (by omega) (by omega) (by rw [List.length_append, List.length_singleton]; omega) a4 a5 a6
          rw [List.append_assoc, List.length_append, List.length_singleton, show e'.length - (aI.length + 1) = ends.length - aI.length - 1 + (F_membersOf (gI f1 (gI ends i))).length by omega] at this
          exact this
    · right
      refine ⟨ends, aI, steps, i, ?_, ?_, hen, by omega⟩
      · rw [show ends.length - aI.length = 0 by omega, List.replicate_zero, List.append_nil]
        show F_s_UnravelFrame_L1b f1 kp _ _ _ _ _ = _
        unfold F_s_UnravelFrame_L1b
        rw [decide_eq_false hlt]; rfl
      · show F_UnravelFrame_L1b f1 kp _ _ _ _ _ = _
        unfold F_UnravelFrame_L1b
        rw [decide_eq_false hlt]; rfl
theorem UnravelFrame_both (f0 : Int) (f1 : List Int) (wp kp : Int) : F_UnravelFrame f0 f1 wp kp = F_s_UnravelFrame f0 f1 wp kp ∧ (F_UnravelFrame f0 f1 wp kp).1.2.length ≤ 8 ∧ (F_UnravelFrame f0 f1 wp kp).2.1.length ≤ 8 := by
  unfold F_UnravelFrame F_s_UnravelFrame
  rw [isFrame_eq, show F_Frame_hasWorld f0 f1 wp = F_l05World f0 f1 wp from rfl, show F_inRange kp 0 8 = F_l01In kp 0 8 from rfl]
  cases h : F_l05Is f0 f1
  · refine ⟨rfl, ?_, ?_⟩ <;> simp
  · cases h1 : F_l05World f0 f1 wp
    · simp
    · cases h2 : F_l01In kp 0 8
      · simp
      · simp only [Bool.not_true, cond_false]
        have hf := l05Is_t h
        have hw := F_l01In_t h1
        have hk := F_l01In_t h2
        rcases uf_outer hf.1 hf.2 (l05Is_m h) kp (Int.toNat (9 - 0) + 1) [wp] [0] [] 0 (by omega) (by simp) (by simp) rfl rfl (im_one (by omega) (by omega)) (im_one (by omega) (by omega)) with ⟨e1, e2⟩ | ⟨e', a', s', i', e1, e2, e3, e4⟩
        · have e1' : F_s_UnravelFrame_L1 f1 kp (Int.toNat (9 - 0) + 1) [wp] [0] [0] 0 = .error ((0, []), [], 3) := e1
          rw [e1', e2]
          refine ⟨rfl, ?_, ?_⟩ <;> simp [isOk, errD]
        · have e1' : F_s_UnravelFrame_L1 f1 kp (Int.toNat (9 - 0) + 1) [wp] [0] [0] 0 = .ok (e', a', s', i') := e1
          rw [e1', e2]
          exact ⟨rfl, e4, e3⟩
theorem UnravelFrame_len (f0 : Int) (f1 : List Int) (wp kp : Int) : (F_UnravelFrame f0 f1 wp kp).1.2.length ≤ 8 ∧ (F_UnravelFrame f0 f1 wp kp).2.1.length ≤ 8 := (UnravelFrame_both f0 f1 wp kp).2

end Go.Proofs.Ytejfjcjdilbkdaa
