/- GSIS: models and contracts, printed by wip/gen/gen.py -/
import Derived.Test.YtlmmmblnaiddhaaGSI
import Derived.Test.YtlmmmblnaiddhaaGSB
set_option linter.unusedVariables false
set_option linter.unusedSimpArgs false
namespace Go.Proofs.Ytlmmmblnaiddhaa
open Go.RowKit

def F_IsSimulation_k1 (xp : Int) (yp : Int) (cap00 : Int) (cap01 : List Int) (cap02 : List Int) (cap10 : Int) (cap11 : List Int) (cap12 : List Int) (cap2 : List Int) : Bool :=
  ((F_within (F_Model_truths cap00 cap01 cap02 xp) (F_Model_truths cap10 cap11 cap12 yp)) && (F_forth cap00 cap01 cap02 cap10 cap11 cap12 cap2 xp yp))
theorem cf_IsSimulation_k1 (args : Array Value) (w : World) : (callFunc 84 args).run Try.prog w = .ok (.enter 84 args) w := by kernel_rfl
set_option maxRecDepth 100000 in
theorem c_IsSimulation_k1 (xp : Int) (yp : Int) (cap0B : Nat) (cap00 : Int) (cap01A : Option Addr) (cap01N cap01C : Nat) (cap01 : List Int) (cap02A : Option Addr) (cap02N cap02C : Nat) (cap02 : List Int) (cap1B : Nat) (cap10 : Int) (cap11A : Option Addr) (cap11N cap11C : Nat) (cap11 : List Int) (cap12A : Option Addr) (cap12N cap12C : Nat) (cap12 : List Int) (cap2B : Nat) (cap2A : Option Addr) (cap2N cap2C : Nat) (cap2 : List Int) (w : World) (cap01R : RdS w 1 cap01A cap01N cap01C cap01) (cap02R : RdS w 1 cap02A cap02N cap02C cap02) (cap0H : w.heap[cap0B]? = some (.cells #[.int .i64 cap00, .slice cap01A cap01N cap01C, .slice cap02A cap02N cap02C] 39 (0, 0))) (cap11R : RdS w 1 cap11A cap11N cap11C cap11) (cap12R : RdS w 1 cap12A cap12N cap12C cap12) (cap1H : w.heap[cap1B]? = some (.cells #[.int .i64 cap10, .slice cap11A cap11N cap11C, .slice cap12A cap12N cap12C] 39 (0, 0))) (cap2R : RdS w 1 cap2A cap2N cap2C cap2) (cap2H : w.heap[cap2B]? = some (.cells #[.slice cap2A cap2N cap2C] 22 (0, 0))) (h6m : (cap02.length : Int) = 6) (h6n : (cap12.length : Int) = 6) (hx : 0 ≤ xp ∧ xp < cap00) (hy : 0 ≤ yp ∧ yp < cap10) (hwm : 0 ≤ cap00 ∧ cap00 ≤ 8) (hwn : 0 ≤ cap10 ∧ cap10 ≤ 8) (hlm : (cap01.length : Int) = cap00) (hln : (cap11.length : Int) = cap10) (hll : (cap2.length : Int) = cap00) (hfm : ∀ m : Int, 0 ≤ m → m < (cap01.length : Int) → 0 ≤ gI cap01 m ∧ gI cap01 m ≤ fullI cap00) :
    Calls Try.prog 84 #[.int .i64 xp, .int .i64 yp, .pointer (some ⟨cap0B, 0, none⟩), .pointer (some ⟨cap1B, 0, none⟩), .pointer (some ⟨cap2B, 0, none⟩)] w (Ret fun v w' => v = .bool (F_IsSimulation_k1 xp yp cap00 cap01 cap02 cap10 cap11 cap12 cap2) ∧ Ext w w') := by
  obtain rfl : cap01N = cap01.length := cap01R.len1.symm
  have cap01Le := cap01R.le
  obtain rfl : cap02N = cap02.length := cap02R.len1.symm
  have cap02Le := cap02R.le
  obtain rfl : cap11N = cap11.length := cap11R.len1.symm
  have cap11Le := cap11R.le
  obtain rfl : cap12N = cap12.length := cap12R.len1.symm
  have cap12Le := cap12R.le
  obtain rfl : cap2N = cap2.length := cap2R.len1.symm
  have cap2Le := cap2R.le
  have hS := St.nil w
  have hS1 := St.rd0 hS rfl cap01R; clear hS
  have hS2 := St.rd0 hS1 rfl cap02R; clear hS1
  have hS3 := St.rb0 hS2 rfl cap0H; clear hS2
  have hS4 := St.rd0 hS3 rfl cap11R; clear hS3
  have hS5 := St.rd0 hS4 rfl cap12R; clear hS4
  have hS6 := St.rb0 hS5 rfl cap1H; clear hS5
  have hS7 := St.rd0 hS6 rfl cap2R; clear hS6
  have hS8 := St.rb0 hS7 rfl cap2H; clear hS7
  refine enter (args := [.int .i64 xp, .int .i64 yp, .pointer (some ⟨cap0B, 0, none⟩), .pointer (some ⟨cap1B, 0, none⟩), .pointer (some ⟨cap2B, 0, none⟩)]) Try.func84 rfl rfl ?_
  rw [Try.ntmps84]; intro a hE
  have hE := hE.sub (L' := [(0, .int .i64 xp), (1, .int .i64 yp), (2, .pointer (some ⟨cap0B, 0, none⟩)), (3, .pointer (some ⟨cap1B, 0, none⟩)), (4, .pointer (some ⟨cap2B, 0, none⟩))]) ⟨rfl, rfl, rfl, rfl, rfl, trivial⟩
  refine c_seq ?_
  refine c_reg ?_
  refine q_step (v := .bool false) hE (y_assign rfl) rfl rfl rfl ?_; intro a9 hE10; clear hE
  refine c_nil ?_
  have hE11 := hE10.sub (L' := [(0, .int .i64 xp), (1, .int .i64 yp), (2, .pointer (some ⟨cap0B, 0, none⟩)), (3, .pointer (some ⟨cap1B, 0, none⟩)), (4, .pointer (some ⟨cap2B, 0, none⟩))]) ⟨rfl, rfl, rfl, rfl, rfl, trivial⟩; clear hE10
  refine p_tn ?_
  refine c_cut (fun a' w' => E a' 23 [(7, .bool ((F_within (F_Model_truths cap00 cap01 cap02 xp) (F_Model_truths cap10 cap11 cap12 yp)) && (F_forth cap00 cap01 cap02 cap10 cap11 cap12 cap2 xp yp)))] ∧ St w w' [.rd 1 cap2A cap2.length cap2C cap2, .rb cap2B #[.slice cap2A cap2.length cap2C] 22, .rd 1 cap11A cap11.length cap11C cap11, .rd 1 cap12A cap12.length cap12C cap12, .rb cap1B #[.int .i64 cap10, .slice cap11A cap11.length cap11C, .slice cap12A cap12.length cap12C] 39, .rd 1 cap01A cap01.length cap01C cap01, .rd 1 cap02A cap02.length cap02C cap02, .rb cap0B #[.int .i64 cap00, .slice cap01A cap01.length cap01C, .slice cap02A cap02.length cap02C] 39]) ?_ ?_
  ·
    refine d_start (fun w' => w'.heap[cap0B]? = some (.cells #[.int .i64 cap00, .slice cap01A cap01.length cap01C, .slice cap02A cap02.length cap02C] 39 (0, 0)) ∧ w'.heap[cap1B]? = some (.cells #[.int .i64 cap10, .slice cap11A cap11.length cap11C, .slice cap12A cap12.length cap12C] 39 (0, 0)) ∧ w'.heap[cap0B]? = some (.cells #[.int .i64 cap00, .slice cap01A cap01.length cap01C, .slice cap02A cap02.length cap02C] 39 (0, 0)) ∧ w'.heap[cap1B]? = some (.cells #[.int .i64 cap10, .slice cap11A cap11.length cap11C, .slice cap12A cap12.length cap12C] 39 (0, 0)) ∧ w'.cell? ⟨cap2B, 0, none⟩ = some (.slice cap2A cap2.length cap2C) ∧ True) [0, 3, 8, 9, 10] 16 (by kernel_rfl) rfl ?_
    intro w12 he13; have hS14 := St.go hS8 he13; clear hS8
    refine d_take (v := .agg #[.int .i64 cap00, .slice cap01A cap01.length cap01C, .slice cap02A cap02.length cap02C]) 0 rfl hE11 ⟨(St.rowR (i := 5) hS14 rfl _ (Ext.refl _)), (St.rowR (i := 2) hS14 rfl _ (Ext.refl _)), (St.rowR (i := 5) hS14 rfl _ (Ext.refl _)), (St.rowR (i := 2) hS14 rfl _ (Ext.refl _)), (St.cellR (i := 0) hS14 rfl rfl _ (Ext.refl _)), trivial⟩ (y_loadS Try.underlying39 rfl (by kernel_rfl) rfl (fun _ h => h.1)) rfl rfl (by kernel_rfl) (by kernel_rfl) (by kernel_rfl) rfl rfl (fun _ _ _ h => h) ?_; intro a15 hE16; clear hE11
    refine d_pure (v := .int .i64 xp) 1 rfl hE16 (y_move rfl) rfl (by kernel_rfl) (by kernel_rfl) (by kernel_rfl) rfl rfl (fun _ _ _ h => h) ?_; intro a17 hE18; clear hE16
    refine d_take (v := .agg #[.int .i64 cap10, .slice cap11A cap11.length cap11C, .slice cap12A cap12.length cap12C]) 3 rfl hE18 ⟨(St.rowR (i := 5) hS14 rfl _ (Ext.refl _)), (St.rowR (i := 2) hS14 rfl _ (Ext.refl _)), (St.rowR (i := 5) hS14 rfl _ (Ext.refl _)), (St.rowR (i := 2) hS14 rfl _ (Ext.refl _)), (St.cellR (i := 0) hS14 rfl rfl _ (Ext.refl _)), trivial⟩ (y_loadS Try.underlying39 rfl (by kernel_rfl) rfl (fun _ h => h.2.1)) rfl rfl (by kernel_rfl) (by kernel_rfl) (by kernel_rfl) rfl rfl (fun _ _ _ h => h) ?_; intro a19 hE20; clear hE18
    refine d_pure (v := .int .i64 yp) 4 rfl hE20 (y_move rfl) rfl (by kernel_rfl) (by kernel_rfl) (by kernel_rfl) rfl rfl (fun _ _ _ h => h) ?_; intro a21 hE22; clear hE20
    refine d_only 2 (by kernel_rfl) rfl hE22 rfl (l_call (f := 75) (argv := [.agg #[.int .i64 cap00, .slice cap01A cap01.length cap01C, .slice cap02A cap02.length cap02C], .int .i64 xp]) hE22 (fun _ => cf_Model_truths _ _) rfl rfl (c_Model_truths cap00 cap01A cap01.length cap01C cap01 cap02A cap02.length cap02C cap02 xp w12 (St.rdR (i := 7) hS14 rfl) (St.rdR (i := 6) hS14 rfl) (by omega) (by omega)) ?_)
    rintro _ w24 ⟨rfl, he28⟩ a25 hE26; clear hE22
    have hS27 := St.go hS14 he28; clear hS14
    refine ⟨fun _ _ => ⟨(St.rowR (i := 5) hS27 rfl _ (Ext.refl _)), (St.rowR (i := 2) hS27 rfl _ (Ext.refl _)), (St.rowR (i := 5) hS27 rfl _ (Ext.refl _)), (St.rowR (i := 2) hS27 rfl _ (Ext.refl _)), (St.cellR (i := 0) hS27 rfl rfl _ (Ext.refl _)), trivial⟩, ?_⟩
    refine d_only 5 (by kernel_rfl) rfl hE26 rfl (l_call (f := 75) (argv := [.agg #[.int .i64 cap10, .slice cap11A cap11.length cap11C, .slice cap12A cap12.length cap12C], .int .i64 yp]) hE26 (fun _ => cf_Model_truths _ _) rfl rfl (c_Model_truths cap10 cap11A cap11.length cap11C cap11 cap12A cap12.length cap12C cap12 yp w24 (St.rdR (i := 4) hS27 rfl) (St.rdR (i := 3) hS27 rfl) (by omega) (by omega)) ?_)
    rintro _ w30 ⟨rfl, he34⟩ a31 hE32; clear hE26
    have hS33 := St.go hS27 he34; clear hS27
    refine ⟨fun _ _ => ⟨(St.rowR (i := 5) hS33 rfl _ (Ext.refl _)), (St.rowR (i := 2) hS33 rfl _ (Ext.refl _)), (St.rowR (i := 5) hS33 rfl _ (Ext.refl _)), (St.rowR (i := 2) hS33 rfl _ (Ext.refl _)), (St.cellR (i := 0) hS33 rfl rfl _ (Ext.refl _)), trivial⟩, ?_⟩
    refine d_only 6 (by kernel_rfl) rfl hE32 rfl (l_call (f := 85) (argv := [.int .i64 (F_Model_truths cap00 cap01 cap02 xp), .int .i64 (F_Model_truths cap10 cap11 cap12 yp)]) hE32 (fun _ => cf_within _ _) rfl rfl (c_within (F_Model_truths cap00 cap01 cap02 xp) (F_Model_truths cap10 cap11 cap12 yp) w30) ?_)
    rintro _ _ ⟨rfl, rfl⟩ a37 hE38; clear hE32
    refine ⟨fun _ _ => ⟨(St.rowR (i := 5) hS33 rfl _ (Ext.refl _)), (St.rowR (i := 2) hS33 rfl _ (Ext.refl _)), (St.rowR (i := 5) hS33 rfl _ (Ext.refl _)), (St.rowR (i := 2) hS33 rfl _ (Ext.refl _)), (St.cellR (i := 0) hS33 rfl rfl _ (Ext.refl _)), trivial⟩, ?_⟩
    refine d_pure (v := .bool (F_within (F_Model_truths cap00 cap01 cap02 xp) (F_Model_truths cap10 cap11 cap12 yp))) 7 rfl hE38 (y_move rfl) rfl (by kernel_rfl) (by kernel_rfl) (by kernel_rfl) rfl rfl (fun _ _ _ h => h) ?_; intro a41 hE42; clear hE38
    rcases Bool.eq_false_or_eq_true (F_within (F_Model_truths cap00 cap01 cap02 xp) (F_Model_truths cap10 cap11 cap12 yp)) with hb43 | hb43
    ·
      have hE44 := hE42; rw [hb43] at hE44; clear hE42
      refine d_take (v := .agg #[.int .i64 cap00, .slice cap01A cap01.length cap01C, .slice cap02A cap02.length cap02C]) 8 rfl hE44 ⟨(St.rowR (i := 5) hS33 rfl _ (Ext.refl _)), (St.rowR (i := 2) hS33 rfl _ (Ext.refl _)), (St.rowR (i := 5) hS33 rfl _ (Ext.refl _)), (St.rowR (i := 2) hS33 rfl _ (Ext.refl _)), (St.cellR (i := 0) hS33 rfl rfl _ (Ext.refl _)), trivial⟩ (y_loadS Try.underlying39 rfl (by kernel_rfl) rfl (fun _ h => h.2.2.1)) rfl rfl (by kernel_rfl) (by kernel_rfl) (by kernel_rfl) rfl rfl (fun _ _ _ h => h) ?_; intro a45 hE46; clear hE44
      refine d_take (v := .agg #[.int .i64 cap10, .slice cap11A cap11.length cap11C, .slice cap12A cap12.length cap12C]) 9 rfl hE46 ⟨(St.rowR (i := 5) hS33 rfl _ (Ext.refl _)), (St.rowR (i := 2) hS33 rfl _ (Ext.refl _)), (St.rowR (i := 5) hS33 rfl _ (Ext.refl _)), (St.rowR (i := 2) hS33 rfl _ (Ext.refl _)), (St.cellR (i := 0) hS33 rfl rfl _ (Ext.refl _)), trivial⟩ (y_loadS Try.underlying39 rfl (by kernel_rfl) rfl (fun _ h => h.2.2.2.1)) rfl rfl (by kernel_rfl) (by kernel_rfl) (by kernel_rfl) rfl rfl (fun _ _ _ h => h) ?_; intro a47 hE48; clear hE46
      refine d_take (v := .slice cap2A cap2.length cap2C) 10 rfl hE48 ⟨(St.rowR (i := 5) hS33 rfl _ (Ext.refl _)), (St.rowR (i := 2) hS33 rfl _ (Ext.refl _)), (St.rowR (i := 5) hS33 rfl _ (Ext.refl _)), (St.rowR (i := 2) hS33 rfl _ (Ext.refl _)), (St.cellR (i := 0) hS33 rfl rfl _ (Ext.refl _)), trivial⟩ (y_load (fun _ => by kernel_rfl) rfl (fun _ h => h.2.2.2.2.1)) rfl rfl (by kernel_rfl) (by kernel_rfl) (by kernel_rfl) rfl rfl (fun _ _ _ h => h) ?_; intro a49 hE50; clear hE48
      refine d_pure (v := .int .i64 xp) 11 rfl hE50 (y_move rfl) rfl (by kernel_rfl) (by kernel_rfl) (by kernel_rfl) rfl rfl (fun _ _ _ h => h) ?_; intro a51 hE52; clear hE50
      refine d_pure (v := .int .i64 yp) 12 rfl hE52 (y_move rfl) rfl (by kernel_rfl) (by kernel_rfl) (by kernel_rfl) rfl rfl (fun _ _ _ h => h) ?_; intro a53 hE54; clear hE52
      refine d_only 13 (by kernel_rfl) rfl hE54 rfl (l_call (f := 86) (argv := [.agg #[.int .i64 cap00, .slice cap01A cap01.length cap01C, .slice cap02A cap02.length cap02C], .agg #[.int .i64 cap10, .slice cap11A cap11.length cap11C, .slice cap12A cap12.length cap12C], .slice cap2A cap2.length cap2C, .int .i64 xp, .int .i64 yp]) hE54 (fun _ => cf_forth _ _) rfl rfl (c_forth cap00 cap01A cap01.length cap01C cap01 cap02A cap02.length cap02C cap02 cap10 cap11A cap11.length cap11C cap11 cap12A cap12.length cap12C cap12 cap2A cap2.length cap2C cap2 xp yp w30 (St.rdR (i := 7) hS33 rfl) (St.rdR (i := 6) hS33 rfl) (St.rdR (i := 4) hS33 rfl) (St.rdR (i := 3) hS33 rfl) (St.rdR (i := 1) hS33 rfl) (by omega) (by omega) (by omega) (by omega) (by omega) (by omega) (by omega) hfm) ?_)
      rintro _ w56 ⟨rfl, he60⟩ a57 hE58; clear hE54
      have hS59 := St.go hS33 he60; clear hS33
      refine ⟨fun _ _ => ⟨(St.rowR (i := 5) hS59 rfl _ (Ext.refl _)), (St.rowR (i := 2) hS59 rfl _ (Ext.refl _)), (St.rowR (i := 5) hS59 rfl _ (Ext.refl _)), (St.rowR (i := 2) hS59 rfl _ (Ext.refl _)), (St.cellR (i := 0) hS59 rfl rfl _ (Ext.refl _)), trivial⟩, ?_⟩
      refine d_pure (v := .bool (F_forth cap00 cap01 cap02 cap10 cap11 cap12 cap2 xp yp)) 14 rfl hE58 (y_pick (b := true) rfl rfl) rfl (by kernel_rfl) (by kernel_rfl) (by kernel_rfl) rfl rfl (fun _ _ _ h => h) ?_; intro a61 hE62; clear hE58
      refine d_pure (v := .bool (F_forth cap00 cap01 cap02 cap10 cap11 cap12 cap2 xp yp)) 15 rfl hE62 (y_assign rfl) rfl (by kernel_rfl) (by kernel_rfl) (by kernel_rfl) rfl rfl (fun _ _ _ h => h) ?_; intro a63 hE64; clear hE62
      refine d_done (by kernel_rfl) ?_
      have hE65 := hE64.sub (L' := [(7, .bool (F_forth cap00 cap01 cap02 cap10 cap11 cap12 cap2 xp yp))]) ⟨rfl, trivial⟩; clear hE64
      refine p_tn ?_
      have hE66 := hE65.sub (L' := [(7, .bool (F_forth cap00 cap01 cap02 cap10 cap11 cap12 cap2 xp yp))]) ⟨rfl, trivial⟩
      have hS67 := (St.pick (Γ' := [.rd 1 cap2A cap2.length cap2C cap2, .rb cap2B #[.slice cap2A cap2.length cap2C] 22, .rd 1 cap11A cap11.length cap11C cap11, .rd 1 cap12A cap12.length cap12C cap12, .rb cap1B #[.int .i64 cap10, .slice cap11A cap11.length cap11C, .slice cap12A cap12.length cap12C] 39, .rd 1 cap01A cap01.length cap01C cap01, .rd 1 cap02A cap02.length cap02C cap02, .rb cap0B #[.int .i64 cap00, .slice cap01A cap01.length cap01C, .slice cap02A cap02.length cap02C] 39]) hS59 [1, 0, 4, 3, 2, 7, 6, 5] (by decide) rfl)
      exact ⟨(by rw [hb43]; exact hE66), hS67⟩
    ·
      have hE68 := hE42; rw [hb43] at hE68; clear hE42
      refine d_skip 8 rfl hE68 rfl (by kernel_rfl) (by kernel_rfl) (by kernel_rfl) rfl rfl (fun _ _ _ h => h) ?_; intro a69 hE70; clear hE68
      refine d_skip 9 rfl hE70 rfl (by kernel_rfl) (by kernel_rfl) (by kernel_rfl) rfl rfl (fun _ _ _ h => h) ?_; intro a71 hE72; clear hE70
      refine d_skip 10 rfl hE72 rfl (by kernel_rfl) (by kernel_rfl) (by kernel_rfl) rfl rfl (fun _ _ _ h => h) ?_; intro a73 hE74; clear hE72
      refine d_skip 11 rfl hE74 rfl (by kernel_rfl) (by kernel_rfl) (by kernel_rfl) rfl rfl (fun _ _ _ h => h) ?_; intro a75 hE76; clear hE74
      refine d_skip 12 rfl hE76 rfl (by kernel_rfl) (by kernel_rfl) (by kernel_rfl) rfl rfl (fun _ _ _ h => h) ?_; intro a77 hE78; clear hE76
      refine d_skip 13 rfl hE78 rfl (by kernel_rfl) (by kernel_rfl) (by kernel_rfl) rfl rfl (fun _ _ _ h => h) ?_; intro a79 hE80; clear hE78
      refine d_pure (v := .bool false) 14 rfl hE80 (y_pick (b := false) rfl rfl) rfl (by kernel_rfl) (by kernel_rfl) (by kernel_rfl) rfl rfl (fun _ _ _ h => h) ?_; intro a81 hE82; clear hE80
      refine d_pure (v := .bool false) 15 rfl hE82 (y_assign rfl) rfl (by kernel_rfl) (by kernel_rfl) (by kernel_rfl) rfl rfl (fun _ _ _ h => h) ?_; intro a83 hE84; clear hE82
      refine d_done (by kernel_rfl) ?_
      have hE85 := hE84.sub (L' := [(7, .bool false)]) ⟨rfl, trivial⟩; clear hE84
      refine p_tn ?_
      have hE86 := hE85.sub (L' := [(7, .bool false)]) ⟨rfl, trivial⟩
      have hS87 := (St.pick (Γ' := [.rd 1 cap2A cap2.length cap2C cap2, .rb cap2B #[.slice cap2A cap2.length cap2C] 22, .rd 1 cap11A cap11.length cap11C cap11, .rd 1 cap12A cap12.length cap12C cap12, .rb cap1B #[.int .i64 cap10, .slice cap11A cap11.length cap11C, .slice cap12A cap12.length cap12C] 39, .rd 1 cap01A cap01.length cap01C cap01, .rd 1 cap02A cap02.length cap02C cap02, .rb cap0B #[.int .i64 cap00, .slice cap01A cap01.length cap01C, .slice cap02A cap02.length cap02C] 39]) hS33 [1, 0, 4, 3, 2, 7, 6, 5] (by decide) rfl)
      exact ⟨(by rw [hb43]; exact hE86), hS87⟩
  ·
    rintro a88 w89 ⟨hE90, hS91⟩; clear hE11 hS8
    refine wp_ret ?_
    have hF : F_IsSimulation_k1 xp yp cap00 cap01 cap02 cap10 cap11 cap12 cap2 = ((F_within (F_Model_truths cap00 cap01 cap02 xp) (F_Model_truths cap10 cap11 cap12 yp)) && (F_forth cap00 cap01 cap02 cap10 cap11 cap12 cap2 xp yp)) := by unfold F_IsSimulation_k1; rfl
    refine c_ret1 hE90 rfl rfl ?_
    exact ⟨(by rw [hF]; first | done | rfl), hS91.ext⟩

def F_IsSimulation (mp0 : Int) (mp1 : List Int) (mp2 : List Int) (np0 : Int) (np1 : List Int) (np2 : List Int) (linkp : List Int) : (Bool) × (Int) :=
  bif (!decide ((F_linkCode mp0 mp1 mp2 np0 np1 np2 linkp) = 0)) then (false, F_linkCode mp0 mp1 mp2 np0 np1 np2 linkp) else (F_everyLinked linkp (fun x0 x1 => F_IsSimulation_k1 x0 x1 mp0 mp1 mp2 np0 np1 np2 linkp), 0)
theorem cf_IsSimulation (args : Array Value) (w : World) : (callFunc 32 args).run Try.prog w = .ok (.enter 32 args) w := by kernel_rfl
set_option maxRecDepth 100000 in
theorem c_IsSimulation (mp0 : Int) (mp1A : Option Addr) (mp1N mp1C : Nat) (mp1 : List Int) (mp2A : Option Addr) (mp2N mp2C : Nat) (mp2 : List Int) (np0 : Int) (np1A : Option Addr) (np1N np1C : Nat) (np1 : List Int) (np2A : Option Addr) (np2N np2C : Nat) (np2 : List Int) (linkpA : Option Addr) (linkpN linkpC : Nat) (linkp : List Int) (w : World) (mp1R : RdS w 1 mp1A mp1N mp1C mp1) (mp2R : RdS w 1 mp2A mp2N mp2C mp2) (np1R : RdS w 1 np1A np1N np1C np1) (np2R : RdS w 1 np2A np2N np2C np2) (linkpR : RdS w 1 linkpA linkpN linkpC linkp) :
    Calls Try.prog 32 #[.agg #[.int .i64 mp0, .slice mp1A mp1N mp1C, .slice mp2A mp2N mp2C], .agg #[.int .i64 np0, .slice np1A np1N np1C, .slice np2A np2N np2C], .slice linkpA linkpN linkpC] w (Ret fun v w' => v = .tuple #[.bool ((F_IsSimulation mp0 mp1 mp2 np0 np1 np2 linkp).1), .int .i64 ((F_IsSimulation mp0 mp1 mp2 np0 np1 np2 linkp).2)] ∧ Ext w w') := by
  obtain rfl : mp1N = mp1.length := mp1R.len1.symm
  have mp1Le := mp1R.le
  obtain rfl : mp2N = mp2.length := mp2R.len1.symm
  have mp2Le := mp2R.le
  obtain rfl : np1N = np1.length := np1R.len1.symm
  have np1Le := np1R.le
  obtain rfl : np2N = np2.length := np2R.len1.symm
  have np2Le := np2R.le
  obtain rfl : linkpN = linkp.length := linkpR.len1.symm
  have linkpLe := linkpR.le
  have hS := St.nil w
  have hS1 := St.rd0 hS rfl mp1R; clear hS
  have hS2 := St.rd0 hS1 rfl mp2R; clear hS1
  have hS3 := St.rd0 hS2 rfl np1R; clear hS2
  have hS4 := St.rd0 hS3 rfl np2R; clear hS3
  have hS5 := St.rd0 hS4 rfl linkpR; clear hS4
  refine enter (args := [.agg #[.int .i64 mp0, .slice mp1A mp1.length mp1C, .slice mp2A mp2.length mp2C], .agg #[.int .i64 np0, .slice np1A np1.length np1C, .slice np2A np2.length np2C], .slice linkpA linkp.length linkpC]) Try.func32 rfl rfl ?_
  rw [Try.ntmps32]; intro a hE
  have hE := hE.sub (L' := [(0, .agg #[.int .i64 mp0, .slice mp1A mp1.length mp1C, .slice mp2A mp2.length mp2C]), (1, .agg #[.int .i64 np0, .slice np1A np1.length np1C, .slice np2A np2.length np2C]), (2, .slice linkpA linkp.length linkpC)]) ⟨rfl, rfl, rfl, trivial⟩
  refine c_seq ?_
  refine c_reg ?_
  refine l_step hE rfl (l_box (v := .agg #[.int .i64 mp0, .slice mp1A mp1.length mp1C, .slice mp2A mp2.length mp2C]) (cs := #[.int .i64 mp0, .slice mp1A mp1.length mp1C, .slice mp2A mp2.length mp2C]) hS5 hE rfl rfl rfl ?_)
  intro b6 w7 hS10 he11 a8 hE9; clear hS5 hE
  refine l_step hE9 rfl (l_box (v := .agg #[.int .i64 np0, .slice np1A np1.length np1C, .slice np2A np2.length np2C]) (cs := #[.int .i64 np0, .slice np1A np1.length np1C, .slice np2A np2.length np2C]) hS10 hE9 rfl rfl rfl ?_)
  intro b12 w13 hS16 he17 a14 hE15; clear hS10 hE9
  refine l_step hE15 rfl (l_box (v := .slice linkpA linkp.length linkpC) (cs := #[.slice linkpA linkp.length linkpC]) hS16 hE15 rfl rfl rfl ?_)
  intro b18 w19 hS22 he23 a20 hE21; clear hS16 hE15
  refine q_step (v := .bool false) hE21 (y_assign rfl) rfl rfl rfl ?_; intro a24 hE25; clear hE21
  refine q_step (v := .int .i64 0) hE25 (y_assign rfl) rfl rfl rfl ?_; intro a26 hE27; clear hE25
  refine c_nil ?_
  have hE28 := hE27.sub (L' := [(3, .pointer (some ⟨b6, 0, none⟩)), (4, .pointer (some ⟨b12, 0, none⟩)), (5, .pointer (some ⟨b18, 0, none⟩))]) ⟨rfl, rfl, rfl, trivial⟩; clear hE27
  refine p_tn ?_
  refine c_seq ?_
  refine c_seq ?_
  refine c_reg ?_
  refine q_step (v := .agg #[.int .i64 mp0, .slice mp1A mp1.length mp1C, .slice mp2A mp2.length mp2C]) hE28 (y_loadS Try.underlying39 rfl (by kernel_rfl) rfl (St.row (i := 2) hS22 rfl)) rfl rfl rfl ?_; intro a29 hE30; clear hE28
  refine q_step (v := .agg #[.int .i64 np0, .slice np1A np1.length np1C, .slice np2A np2.length np2C]) hE30 (y_loadS Try.underlying39 rfl (by kernel_rfl) rfl (St.row (i := 1) hS22 rfl)) rfl rfl rfl ?_; intro a31 hE32; clear hE30
  refine q_step (v := .slice linkpA linkp.length linkpC) hE32 (y_load (fun _ => by kernel_rfl) rfl (St.cell (i := 0) hS22 rfl rfl)) rfl rfl rfl ?_; intro a33 hE34; clear hE32
  refine l_step hE34 rfl (l_call (f := 82) (argv := [.agg #[.int .i64 mp0, .slice mp1A mp1.length mp1C, .slice mp2A mp2.length mp2C], .agg #[.int .i64 np0, .slice np1A np1.length np1C, .slice np2A np2.length np2C], .slice linkpA linkp.length linkpC]) hE34 (fun _ => cf_linkCode _ _) rfl rfl (c_linkCode mp0 mp1A mp1.length mp1C mp1 mp2A mp2.length mp2C mp2 np0 np1A np1.length np1C np1 np2A np2.length np2C np2 linkpA linkp.length linkpC linkp w19 (St.rdR (i := 7) hS22 rfl) (St.rdR (i := 6) hS22 rfl) (St.rdR (i := 5) hS22 rfl) (St.rdR (i := 4) hS22 rfl) (St.rdR (i := 3) hS22 rfl)) ?_)
  rintro _ w36 ⟨rfl, he40⟩ a37 hE38; clear hE34
  have hS39 := St.go hS22 he40; clear hS22
  refine q_step (v := .int .i64 (F_linkCode mp0 mp1 mp2 np0 np1 np2 linkp)) hE38 (y_assign rfl) rfl rfl rfl ?_; intro a41 hE42; clear hE38
  refine c_nil ?_
  have hE43 := hE42.sub (L' := [(3, .pointer (some ⟨b6, 0, none⟩)), (4, .pointer (some ⟨b12, 0, none⟩)), (5, .pointer (some ⟨b18, 0, none⟩)), (8, .int .i64 (F_linkCode mp0 mp1 mp2 np0 np1 np2 linkp))]) ⟨rfl, rfl, rfl, rfl, trivial⟩; clear hE42
  refine p_tn ?_
  refine c_seq ?_
  refine c_reg ?_
  refine q_step (v := .int .i64 (F_linkCode mp0 mp1 mp2 np0 np1 np2 linkp)) hE43 (y_move rfl) rfl rfl rfl ?_; intro a44 hE45; clear hE43
  refine q_step (v := .bool (!decide ((F_linkCode mp0 mp1 mp2 np0 np1 np2 linkp) = 0))) hE45 (y_neq rfl rfl) rfl rfl rfl ?_; intro a46 hE47; clear hE45
  refine c_nil ?_
  have hE48 := hE47.sub (L' := [(3, .pointer (some ⟨b6, 0, none⟩)), (4, .pointer (some ⟨b12, 0, none⟩)), (5, .pointer (some ⟨b18, 0, none⟩)), (8, .int .i64 (F_linkCode mp0 mp1 mp2 np0 np1 np2 linkp)), (14, .bool (!decide ((F_linkCode mp0 mp1 mp2 np0 np1 np2 linkp) = 0)))]) ⟨rfl, rfl, rfl, rfl, rfl, trivial⟩; clear hE47
  refine p_tn ?_
  refine c_cond hE48 rfl (fun ht49 => ?_) (fun ht49 => ?_)
  ·
    have ht50 := bn_t ht49
    have hp51 := of_decide_eq_false ht50
    have hE52 := hE48; rw [ht49] at hE52; clear hE48
    refine c_seq ?_
    refine c_reg ?_
    refine q_step (v := .int .i64 (F_linkCode mp0 mp1 mp2 np0 np1 np2 linkp)) hE52 (y_move rfl) rfl rfl rfl ?_; intro a53 hE54; clear hE52
    refine q_step (v := .bool false) hE54 (y_assign rfl) rfl rfl rfl ?_; intro a55 hE56; clear hE54
    refine q_step (v := .int .i64 (F_linkCode mp0 mp1 mp2 np0 np1 np2 linkp)) hE56 (y_assign rfl) rfl rfl rfl ?_; intro a57 hE58; clear hE56
    refine c_nil ?_
    have hE59 := hE58.sub (L' := [(6, .bool false), (7, .int .i64 (F_linkCode mp0 mp1 mp2 np0 np1 np2 linkp))]) ⟨rfl, rfl, trivial⟩; clear hE58
    refine p_tn ?_
    refine wp_ret ?_
    refine p_tr ?_
    have hF : F_IsSimulation mp0 mp1 mp2 np0 np1 np2 linkp = (false, F_linkCode mp0 mp1 mp2 np0 np1 np2 linkp) := by unfold F_IsSimulation; rw [ht49]; first | done | rfl
    refine c_ret2 hE59 rfl rfl rfl ?_
    exact ⟨(by rw [hF]; first | done | rfl), hS39.ext⟩
  ·
    have ht60 := bn_f ht49
    have hp61 := of_decide_eq_true ht60
    have hq62 := linkCode_t hp61
    have hE63 := hE48; rw [ht49] at hE63; clear hE48
    refine wp_skip ?_
    refine p_tn ?_
    refine c_seq ?_
    refine c_reg ?_
    refine q_step (v := .slice linkpA linkp.length linkpC) hE63 (y_load (fun _ => by kernel_rfl) rfl (St.cell (i := 0) hS39 rfl rfl)) rfl rfl rfl ?_; intro a64 hE65; clear hE63
    refine q_step (v := .func (.func 84) #[] #[.pointer (some ⟨b6, 0, none⟩), .pointer (some ⟨b12, 0, none⟩), .pointer (some ⟨b18, 0, none⟩)]) hE65 (y_makeFunc (vs := [.pointer (some ⟨b6, 0, none⟩), .pointer (some ⟨b12, 0, none⟩), .pointer (some ⟨b18, 0, none⟩)]) rfl) rfl rfl rfl ?_; intro a66 hE67; clear hE65
    refine l_step hE67 rfl (l_call (f := 83) (argv := [.slice linkpA linkp.length linkpC, .func (.func 84) #[] #[.pointer (some ⟨b6, 0, none⟩), .pointer (some ⟨b12, 0, none⟩), .pointer (some ⟨b18, 0, none⟩)]]) hE67 (fun _ => cf_everyLinked _ _) rfl rfl (c_everyLinked linkpA linkp.length linkpC linkp 84 [.pointer (some ⟨b6, 0, none⟩), .pointer (some ⟨b12, 0, none⟩), .pointer (some ⟨b18, 0, none⟩)] (fun x0 x1 => F_IsSimulation_k1 x0 x1 mp0 mp1 mp2 np0 np1 np2 linkp) (fun x y => (0 ≤ x ∧ x < mp0) ∧ 0 ≤ y ∧ y < np0) w36 (St.rdR (i := 3) hS39 rfl) (fun _ _ => cf_IsSimulation_k1 _ _) (fun x0 x1 w' hx he => c_IsSimulation_k1 x0 x1 b6 mp0 mp1A mp1.length mp1C mp1 mp2A mp2.length mp2C mp2 b12 np0 np1A np1.length np1C np1 np2A np2.length np2C np2 b18 linkpA linkp.length linkpC linkp w' (RdS.ext (St.rdR (i := 7) hS39 rfl) he) (RdS.ext (St.rdR (i := 6) hS39 rfl) he) (St.row (i := 2) hS39 rfl w' he) (RdS.ext (St.rdR (i := 5) hS39 rfl) he) (RdS.ext (St.rdR (i := 4) hS39 rfl) he) (St.row (i := 1) hS39 rfl w' he) (RdS.ext (St.rdR (i := 3) hS39 rfl) he) (St.row (i := 0) hS39 rfl w' he) (by omega) (by omega) hx.1 hx.2 (by omega) (by omega) (by omega) (by omega) (by omega) (l05Is_m (linkCode_t (by assumption)).1.1)) (by omega) (link_62 (by assumption)) (fun x y h0 h1 h2 => link_dom (by assumption) x y h0 h1 h2)) ?_)
    rintro _ w69 ⟨rfl, he73⟩ a70 hE71; clear hE67
    have hS72 := St.go hS39 he73; clear hS39
    refine q_step (v := .bool (F_everyLinked linkp (fun x0 x1 => F_IsSimulation_k1 x0 x1 mp0 mp1 mp2 np0 np1 np2 linkp))) hE71 (y_assign rfl) rfl rfl rfl ?_; intro a74 hE75; clear hE71
    refine q_step (v := .int .i64 0) hE75 (y_assign rfl) rfl rfl rfl ?_; intro a76 hE77; clear hE75
    refine c_nil ?_
    have hE78 := hE77.sub (L' := [(6, .bool (F_everyLinked linkp (fun x0 x1 => F_IsSimulation_k1 x0 x1 mp0 mp1 mp2 np0 np1 np2 linkp))), (7, .int .i64 0)]) ⟨rfl, rfl, trivial⟩; clear hE77
    refine p_tn ?_
    refine wp_ret ?_
    have hF : F_IsSimulation mp0 mp1 mp2 np0 np1 np2 linkp = (F_everyLinked linkp (fun x0 x1 => F_IsSimulation_k1 x0 x1 mp0 mp1 mp2 np0 np1 np2 linkp), 0) := by unfold F_IsSimulation; rw [ht49]; first | done | rfl
    refine c_ret2 hE78 rfl rfl rfl ?_
    exact ⟨(by rw [hF]; first | done | rfl), hS72.ext⟩

theorem IsSimulation_eq (mp0 : Int) (mp1 mp2 : List Int) (np0 : Int) (np1 np2 : List Int) (linkp : List Int) : F_IsSimulation mp0 mp1 mp2 np0 np1 np2 linkp = F_s_IsSimulation mp0 mp1 mp2 np0 np1 np2 linkp := by
  unfold F_IsSimulation F_s_IsSimulation
  rw [linkCode_eq]
  cases h : ((!decide ((F_l07Two mp0 mp1 mp2 np0 np1 np2) = 0)) || (!(F_l07Link mp0 mp1 mp2 np0 np1 np2 linkp)))
  · obtain ⟨h2, h3⟩ := bor_f h
    obtain ⟨hm, hn⟩ := l07Two_t (of_decide_eq_true (bn_f h2))
    obtain ⟨hl, hx⟩ := l07Link_t (bn_f h3)
    rw [cond_false, decide_eq_true rfl, Bool.not_true, cond_false, cond_false]
    congr 1
    refine link_key (by omega) (by omega) hx _ (goodB mp1 mp2 np1 np2 linkp) ?_ _ ?_
    · intro x y hx1 hy
      have hmx := l05Is_m hm.1 (x : Int) (by omega) (by omega)
      unfold F_IsSimulation_k1 goodB
      rw [forth_eq _ _ _ _ _ _ _ _ _ (by omega) hmx.1 (by rw [hl]; exact hmx.2), Bool.and_comm]
      congr 1
      obtain ⟨a1, a2⟩ := truths_bits (mp0 := mp0) (mp1 := mp1) (x : Int) hm.2.2.1
      obtain ⟨b1, b2⟩ := truths_bits (mp0 := np0) (mp1 := np1) (y : Int) hn.2.2.1
      rw [Bool.eq_iff_iff, within_bits (by omega) a1 b1, List.all_eq_true, show mp2.length = 6 by omega]
      constructor
      · intro h j hj
        have hj := List.mem_range.1 hj
        cases e : F_has (gI mp2 (j : Int)) (x : Int)
        · rfl
        · have := (b2 j).1 (h j ((a2 j).2 ⟨hj, e⟩))
          rw [this.2]; rfl
      · intro h j hj
        have := (a2 j).1 hj
        have h1 := h j (List.mem_range.2 this.1)
        rw [this.2, Bool.not_true, Bool.false_or] at h1
        exact (b2 j).2 ⟨this.1, h1⟩
    · intro x hx1
      rw [l07Below_map _ _ _ _ _ _ _ (by omega), gI_map (by omega), l07Below_row (by omega)]
  · rfl

end Go.Proofs.Ytlmmmblnaiddhaa
