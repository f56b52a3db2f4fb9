/- GSIB: models and contracts, printed by wip/gen/gen.py -/
import Derived.Test.YtlmmmblnaiddhaaGSI
import Derived.Test.YtlmmmblnaiddhaaGSS
set_option linter.unusedVariables false
set_option linter.unusedSimpArgs false
namespace Go.Proofs.Ytlmmmblnaiddhaa
open Go.RowKit

def F_back (mp0 : Int) (mp1 : List Int) (mp2 : List Int) (np0 : Int) (np1 : List Int) (np2 : List Int) (linkp : List Int) (xp : Int) (yp : Int) : Bool :=
  F_within (gI np1 yp) (F_image linkp (gI mp1 xp))
theorem cf_back (args : Array Value) (w : World) : (callFunc 92 args).run Try.prog w = .ok (.enter 92 args) w := by kernel_rfl
set_option maxRecDepth 100000 in
theorem c_back (mp0 : Int) (mp1A : Option Addr) (mp1N mp1C : Nat) (mp1 : List Int) (mp2A : Option Addr) (mp2N mp2C : Nat) (mp2 : List Int) (np0 : Int) (np1A : Option Addr) (np1N np1C : Nat) (np1 : List Int) (np2A : Option Addr) (np2N np2C : Nat) (np2 : List Int) (linkpA : Option Addr) (linkpN linkpC : Nat) (linkp : List Int) (xp : Int) (yp : Int) (w : World) (mp1R : RdS w 1 mp1A mp1N mp1C mp1) (mp2R : RdS w 1 mp2A mp2N mp2C mp2) (np1R : RdS w 1 np1A np1N np1C np1) (np2R : RdS w 1 np2A np2N np2C np2) (linkpR : RdS w 1 linkpA linkpN linkpC linkp) (hx : 0 ≤ xp ∧ xp < mp0) (hy : 0 ≤ yp ∧ yp < np0) (hwm : 0 ≤ mp0 ∧ mp0 ≤ 8) (hwn : 0 ≤ np0 ∧ np0 ≤ 8) (hlm : (mp1.length : Int) = mp0) (hln : (np1.length : Int) = np0) (hll : (linkp.length : Int) = mp0) (hfm : ∀ m : Int, 0 ≤ m → m < (mp1.length : Int) → 0 ≤ gI mp1 m ∧ gI mp1 m ≤ fullI mp0) :
    Calls Try.prog 92 #[.agg #[.int .i64 mp0, .slice mp1A mp1N mp1C, .slice mp2A mp2N mp2C], .agg #[.int .i64 np0, .slice np1A np1N np1C, .slice np2A np2N np2C], .slice linkpA linkpN linkpC, .int .i64 xp, .int .i64 yp] w (Ret fun v w' => v = .bool (F_back mp0 mp1 mp2 np0 np1 np2 linkp xp yp) ∧ Ext w w') := by
  obtain rfl : mp1N = mp1.length := mp1R.len1.symm
  have mp1Le := mp1R.le
  obtain rfl : mp2N = mp2.length := mp2R.len1.symm
  have mp2Le := mp2R.le
  obtain rfl : np1N = np1.length := np1R.len1.symm
  have np1Le := np1R.le
  obtain rfl : np2N = np2.length := np2R.len1.symm
  have np2Le := np2R.le
  obtain rfl : linkpN = linkp.length := linkpR.len1.symm
  have linkpLe := linkpR.le
  have hm1 := hfm xp (by omega) (by omega)
  have hf8 := fullI_bd (n := mp0) (by omega) (by omega)
  have hS := St.nil w
  have hS1 := St.rd0 hS rfl mp1R; clear hS
  have hS2 := St.rd0 hS1 rfl mp2R; clear hS1
  have hS3 := St.rd0 hS2 rfl np1R; clear hS2
  have hS4 := St.rd0 hS3 rfl np2R; clear hS3
  have hS5 := St.rd0 hS4 rfl linkpR; clear hS4
  refine enter (args := [.agg #[.int .i64 mp0, .slice mp1A mp1.length mp1C, .slice mp2A mp2.length mp2C], .agg #[.int .i64 np0, .slice np1A np1.length np1C, .slice np2A np2.length np2C], .slice linkpA linkp.length linkpC, .int .i64 xp, .int .i64 yp]) Try.func92 rfl rfl ?_
  rw [Try.ntmps92]; intro a hE
  have hE := hE.sub (L' := [(0, .agg #[.int .i64 mp0, .slice mp1A mp1.length mp1C, .slice mp2A mp2.length mp2C]), (1, .agg #[.int .i64 np0, .slice np1A np1.length np1C, .slice np2A np2.length np2C]), (2, .slice linkpA linkp.length linkpC), (3, .int .i64 xp), (4, .int .i64 yp)]) ⟨rfl, rfl, rfl, rfl, rfl, trivial⟩
  refine c_seq ?_
  refine c_reg ?_
  refine l_step hE rfl (l_box (v := .agg #[.int .i64 mp0, .slice mp1A mp1.length mp1C, .slice mp2A mp2.length mp2C]) (cs := #[.int .i64 mp0, .slice mp1A mp1.length mp1C, .slice mp2A mp2.length mp2C]) hS5 hE rfl rfl rfl ?_)
  intro b6 w7 hS10 he11 a8 hE9; clear hS5 hE
  refine l_step hE9 rfl (l_box (v := .agg #[.int .i64 np0, .slice np1A np1.length np1C, .slice np2A np2.length np2C]) (cs := #[.int .i64 np0, .slice np1A np1.length np1C, .slice np2A np2.length np2C]) hS10 hE9 rfl rfl rfl ?_)
  intro b12 w13 hS16 he17 a14 hE15; clear hS10 hE9
  refine q_step (v := .bool false) hE15 (y_assign rfl) rfl rfl rfl ?_; intro a18 hE19; clear hE15
  refine c_nil ?_
  have hE20 := hE19.sub (L' := [(2, .slice linkpA linkp.length linkpC), (3, .int .i64 xp), (4, .int .i64 yp), (5, .pointer (some ⟨b6, 0, none⟩)), (6, .pointer (some ⟨b12, 0, none⟩))]) ⟨rfl, rfl, rfl, rfl, rfl, trivial⟩; clear hE19
  refine p_tn ?_
  refine c_seq ?_
  refine d_start (fun w' => w'.cell? ⟨b12, 1, none⟩ = some (.slice np1A np1.length np1C) ∧ w'.cell? (adr np1A (Int.toNat yp)) = some (.int .i64 (gI np1 yp)) ∧ w'.cell? ⟨b6, 1, none⟩ = some (.slice mp1A mp1.length mp1C) ∧ w'.cell? (adr mp1A (Int.toNat xp)) = some (.int .i64 (gI mp1 xp)) ∧ True) [2, 5, 9, 12] 16 (by kernel_rfl) rfl ?_
  intro w21 he22; have hS23 := St.go hS16 he22; clear hS16
  refine d_pure (v := .pointer (some ⟨b12, 0, none⟩)) 0 rfl hE20 (y_field rfl (fun _ => by kernel_rfl)) rfl (by kernel_rfl) (by kernel_rfl) (by kernel_rfl) rfl rfl (fun _ _ _ h => h) ?_; intro a24 hE25; clear hE20
  refine d_pure (v := .pointer (some ⟨b12, 1, none⟩)) 1 rfl hE25 (y_field rfl (fun _ => by kernel_rfl)) rfl (by kernel_rfl) (by kernel_rfl) (by kernel_rfl) rfl rfl (fun _ _ _ h => h) ?_; intro a26 hE27; clear hE25
  refine d_take (v := .slice np1A np1.length np1C) 2 rfl hE27 ⟨(St.cell (i := 0) hS23 rfl rfl _ (Ext.refl _)), (RdS.elt (St.rdR (i := 4) hS23 rfl) (by omega) (by omega) _ (Ext.refl _)), (St.cell (i := 1) hS23 rfl rfl _ (Ext.refl _)), (RdS.elt (St.rdR (i := 6) hS23 rfl) (by omega) (by omega) _ (Ext.refl _)), trivial⟩ (y_load (fun _ => by kernel_rfl) rfl (fun _ h => h.1)) rfl rfl (by kernel_rfl) (by kernel_rfl) (by kernel_rfl) rfl rfl (fun _ _ _ h => h) ?_; intro a28 hE29; clear hE27
  refine d_pure (v := .int .i64 yp) 3 rfl hE29 (y_move rfl) rfl (by kernel_rfl) (by kernel_rfl) (by kernel_rfl) rfl rfl (fun _ _ _ h => h) ?_; intro a30 hE31; clear hE29
  refine d_pure (v := .pointer (some (adr np1A (Int.toNat yp)))) 4 rfl hE31 (y_idx (by kernel_rfl) (fun _ => by kernel_rfl) rfl rfl (RdS.isS (m := yp) (St.rdR (i := 4) hS23 rfl) (by omega) (by omega)) (by omega) (by omega) (Nat.mul_one _).symm) rfl (by kernel_rfl) (by kernel_rfl) (by kernel_rfl) rfl rfl (fun _ _ _ h => h) ?_; intro a32 hE33; clear hE31
  refine d_take (v := .int .i64 (gI np1 yp)) 5 rfl hE33 ⟨(St.cell (i := 0) hS23 rfl rfl _ (Ext.refl _)), (RdS.elt (St.rdR (i := 4) hS23 rfl) (by omega) (by omega) _ (Ext.refl _)), (St.cell (i := 1) hS23 rfl rfl _ (Ext.refl _)), (RdS.elt (St.rdR (i := 6) hS23 rfl) (by omega) (by omega) _ (Ext.refl _)), trivial⟩ (y_load (fun _ => by kernel_rfl) rfl (fun _ h => h.2.1)) rfl rfl (by kernel_rfl) (by kernel_rfl) (by kernel_rfl) rfl rfl (fun _ _ _ h => h) ?_; intro a34 hE35; clear hE33
  refine d_pure (v := .slice linkpA linkp.length linkpC) 6 rfl hE35 (y_move rfl) rfl (by kernel_rfl) (by kernel_rfl) (by kernel_rfl) rfl rfl (fun _ _ _ h => h) ?_; intro a36 hE37; clear hE35
  refine d_pure (v := .pointer (some ⟨b6, 0, none⟩)) 7 rfl hE37 (y_field rfl (fun _ => by kernel_rfl)) rfl (by kernel_rfl) (by kernel_rfl) (by kernel_rfl) rfl rfl (fun _ _ _ h => h) ?_; intro a38 hE39; clear hE37
  refine d_pure (v := .pointer (some ⟨b6, 1, none⟩)) 8 rfl hE39 (y_field rfl (fun _ => by kernel_rfl)) rfl (by kernel_rfl) (by kernel_rfl) (by kernel_rfl) rfl rfl (fun _ _ _ h => h) ?_; intro a40 hE41; clear hE39
  refine d_take (v := .slice mp1A mp1.length mp1C) 9 rfl hE41 ⟨(St.cell (i := 0) hS23 rfl rfl _ (Ext.refl _)), (RdS.elt (St.rdR (i := 4) hS23 rfl) (by omega) (by omega) _ (Ext.refl _)), (St.cell (i := 1) hS23 rfl rfl _ (Ext.refl _)), (RdS.elt (St.rdR (i := 6) hS23 rfl) (by omega) (by omega) _ (Ext.refl _)), trivial⟩ (y_load (fun _ => by kernel_rfl) rfl (fun _ h => h.2.2.1)) rfl rfl (by kernel_rfl) (by kernel_rfl) (by kernel_rfl) rfl rfl (fun _ _ _ h => h) ?_; intro a42 hE43; clear hE41
  refine d_pure (v := .int .i64 xp) 10 rfl hE43 (y_move rfl) rfl (by kernel_rfl) (by kernel_rfl) (by kernel_rfl) rfl rfl (fun _ _ _ h => h) ?_; intro a44 hE45; clear hE43
  refine d_pure (v := .pointer (some (adr mp1A (Int.toNat xp)))) 11 rfl hE45 (y_idx (by kernel_rfl) (fun _ => by kernel_rfl) rfl rfl (RdS.isS (m := xp) (St.rdR (i := 6) hS23 rfl) (by omega) (by omega)) (by omega) (by omega) (Nat.mul_one _).symm) rfl (by kernel_rfl) (by kernel_rfl) (by kernel_rfl) rfl rfl (fun _ _ _ h => h) ?_; intro a46 hE47; clear hE45
  refine d_take (v := .int .i64 (gI mp1 xp)) 12 rfl hE47 ⟨(St.cell (i := 0) hS23 rfl rfl _ (Ext.refl _)), (RdS.elt (St.rdR (i := 4) hS23 rfl) (by omega) (by omega) _ (Ext.refl _)), (St.cell (i := 1) hS23 rfl rfl _ (Ext.refl _)), (RdS.elt (St.rdR (i := 6) hS23 rfl) (by omega) (by omega) _ (Ext.refl _)), trivial⟩ (y_load (fun _ => by kernel_rfl) rfl (fun _ h => h.2.2.2.1)) rfl rfl (by kernel_rfl) (by kernel_rfl) (by kernel_rfl) rfl rfl (fun _ _ _ h => h) ?_; intro a48 hE49; clear hE47
  refine d_only 13 (by kernel_rfl) rfl hE49 rfl (l_call (f := 154) (argv := [.slice linkpA linkp.length linkpC, .int .i64 (gI mp1 xp)]) hE49 (fun _ => cf_image _ _) rfl rfl (c_image linkpA linkp.length linkpC linkp (gI mp1 xp) w21 (St.rdR (i := 2) hS23 rfl) (by omega) (by omega) (by rw [hll]; omega) (by omega)) ?_)
  rintro _ w51 ⟨rfl, he55⟩ a52 hE53; clear hE49
  have hS54 := St.go hS23 he55; clear hS23
  refine ⟨fun _ _ => ⟨(St.cell (i := 0) hS54 rfl rfl _ (Ext.refl _)), (RdS.elt (St.rdR (i := 4) hS54 rfl) (by omega) (by omega) _ (Ext.refl _)), (St.cell (i := 1) hS54 rfl rfl _ (Ext.refl _)), (RdS.elt (St.rdR (i := 6) hS54 rfl) (by omega) (by omega) _ (Ext.refl _)), trivial⟩, ?_⟩
  refine d_only 14 (by kernel_rfl) rfl hE53 rfl (l_call (f := 85) (argv := [.int .i64 (gI np1 yp), .int .i64 (F_image linkp (gI mp1 xp))]) hE53 (fun _ => cf_within _ _) rfl rfl (c_within (gI np1 yp) (F_image linkp (gI mp1 xp)) w51) ?_)
  rintro _ _ ⟨rfl, rfl⟩ a58 hE59; clear hE53
  refine ⟨fun _ _ => ⟨(St.cell (i := 0) hS54 rfl rfl _ (Ext.refl _)), (RdS.elt (St.rdR (i := 4) hS54 rfl) (by omega) (by omega) _ (Ext.refl _)), (St.cell (i := 1) hS54 rfl rfl _ (Ext.refl _)), (RdS.elt (St.rdR (i := 6) hS54 rfl) (by omega) (by omega) _ (Ext.refl _)), trivial⟩, ?_⟩
  refine d_pure (v := .bool (F_within (gI np1 yp) (F_image linkp (gI mp1 xp)))) 15 rfl hE59 (y_assign rfl) rfl (by kernel_rfl) (by kernel_rfl) (by kernel_rfl) rfl rfl (fun _ _ _ h => h) ?_; intro a62 hE63; clear hE59
  refine d_done (by kernel_rfl) ?_
  have hE64 := hE63.sub (L' := [(10, .bool (F_within (gI np1 yp) (F_image linkp (gI mp1 xp))))]) ⟨rfl, trivial⟩; clear hE63
  refine p_tn ?_
  refine wp_ret ?_
  have hF : F_back mp0 mp1 mp2 np0 np1 np2 linkp xp yp = F_within (gI np1 yp) (F_image linkp (gI mp1 xp)) := by unfold F_back; rfl
  refine c_ret1 hE64 rfl rfl ?_
  exact ⟨(by rw [hF]; first | done | rfl), hS54.ext⟩

theorem back_eq (mp0 : Int) (mp1 mp2 : List Int) (np0 : Int) (np1 np2 : List Int) (linkp : List Int) (xp yp : Int) (hl : linkp.length ≤ 62) (h0 : 0 ≤ gI mp1 xp) (h1 : gI mp1 xp ≤ fullI (linkp.length : Int)) : F_back mp0 mp1 mp2 np0 np1 np2 linkp xp yp = F_l07Back linkp (gI mp1 xp) (gI np1 yp) := by
  unfold F_back F_within F_l07Back
  rw [image_fold hl h0 h1, rangeLoop0 (linkp.length : Int) (by omega) (fun o i => bif F_has (gI mp1 xp) i then orI o (gI linkp i) else o) (F_l07Back_L1 linkp (gI mp1 xp)) (fun _ _ _ => rfl), Int.toNat_natCast]

def F_IsBisimulation_k1 (xp : Int) (yp : Int) (cap00 : Int) (cap01 : List Int) (cap02 : List Int) (cap10 : Int) (cap11 : List Int) (cap12 : List Int) (cap2 : List Int) : Bool :=
  ((decide ((F_Model_truths cap00 cap01 cap02 xp) = (F_Model_truths cap10 cap11 cap12 yp))) && ((F_forth cap00 cap01 cap02 cap10 cap11 cap12 cap2 xp yp) && (F_back cap00 cap01 cap02 cap10 cap11 cap12 cap2 xp yp)))
theorem cf_IsBisimulation_k1 (args : Array Value) (w : World) : (callFunc 91 args).run Try.prog w = .ok (.enter 91 args) w := by kernel_rfl
set_option maxRecDepth 100000 in
theorem c_IsBisimulation_k1 (xp : Int) (yp : Int) (cap0B : Nat) (cap00 : Int) (cap01A : Option Addr) (cap01N cap01C : Nat) (cap01 : List Int) (cap02A : Option Addr) (cap02N cap02C : Nat) (cap02 : List Int) (cap1B : Nat) (cap10 : Int) (cap11A : Option Addr) (cap11N cap11C : Nat) (cap11 : List Int) (cap12A : Option Addr) (cap12N cap12C : Nat) (cap12 : List Int) (cap2B : Nat) (cap2A : Option Addr) (cap2N cap2C : Nat) (cap2 : List Int) (w : World) (cap01R : RdS w 1 cap01A cap01N cap01C cap01) (cap02R : RdS w 1 cap02A cap02N cap02C cap02) (cap0H : w.heap[cap0B]? = some (.cells #[.int .i64 cap00, .slice cap01A cap01N cap01C, .slice cap02A cap02N cap02C] 39 (0, 0))) (cap11R : RdS w 1 cap11A cap11N cap11C cap11) (cap12R : RdS w 1 cap12A cap12N cap12C cap12) (cap1H : w.heap[cap1B]? = some (.cells #[.int .i64 cap10, .slice cap11A cap11N cap11C, .slice cap12A cap12N cap12C] 39 (0, 0))) (cap2R : RdS w 1 cap2A cap2N cap2C cap2) (cap2H : w.heap[cap2B]? = some (.cells #[.slice cap2A cap2N cap2C] 22 (0, 0))) (h6m : (cap02.length : Int) = 6) (h6n : (cap12.length : Int) = 6) (hx : 0 ≤ xp ∧ xp < cap00) (hy : 0 ≤ yp ∧ yp < cap10) (hwm : 0 ≤ cap00 ∧ cap00 ≤ 8) (hwn : 0 ≤ cap10 ∧ cap10 ≤ 8) (hlm : (cap01.length : Int) = cap00) (hln : (cap11.length : Int) = cap10) (hll : (cap2.length : Int) = cap00) (hfm : ∀ m : Int, 0 ≤ m → m < (cap01.length : Int) → 0 ≤ gI cap01 m ∧ gI cap01 m ≤ fullI cap00) :
    Calls Try.prog 91 #[.int .i64 xp, .int .i64 yp, .pointer (some ⟨cap0B, 0, none⟩), .pointer (some ⟨cap1B, 0, none⟩), .pointer (some ⟨cap2B, 0, none⟩)] w (Ret fun v w' => v = .bool (F_IsBisimulation_k1 xp yp cap00 cap01 cap02 cap10 cap11 cap12 cap2) ∧ Ext w w') := by
  obtain rfl : cap01N = cap01.length := cap01R.len1.symm
  have cap01Le := cap01R.le
  obtain rfl : cap02N = cap02.length := cap02R.len1.symm
  have cap02Le := cap02R.le
  obtain rfl : cap11N = cap11.length := cap11R.len1.symm
  have cap11Le := cap11R.le
  obtain rfl : cap12N = cap12.length := cap12R.len1.symm
  have cap12Le := cap12R.le
  obtain rfl : cap2N = cap2.length := cap2R.len1.symm
  have cap2Le := cap2R.le
  have hS := St.nil w
  have hS1 := St.rd0 hS rfl cap01R; clear hS
  have hS2 := St.rd0 hS1 rfl cap02R; clear hS1
  have hS3 := St.rb0 hS2 rfl cap0H; clear hS2
  have hS4 := St.rd0 hS3 rfl cap11R; clear hS3
  have hS5 := St.rd0 hS4 rfl cap12R; clear hS4
  have hS6 := St.rb0 hS5 rfl cap1H; clear hS5
  have hS7 := St.rd0 hS6 rfl cap2R; clear hS6
  have hS8 := St.rb0 hS7 rfl cap2H; clear hS7
  refine enter (args := [.int .i64 xp, .int .i64 yp, .pointer (some ⟨cap0B, 0, none⟩), .pointer (some ⟨cap1B, 0, none⟩), .pointer (some ⟨cap2B, 0, none⟩)]) Try.func91 rfl rfl ?_
  rw [Try.ntmps91]; intro a hE
  have hE := hE.sub (L' := [(0, .int .i64 xp), (1, .int .i64 yp), (2, .pointer (some ⟨cap0B, 0, none⟩)), (3, .pointer (some ⟨cap1B, 0, none⟩)), (4, .pointer (some ⟨cap2B, 0, none⟩))]) ⟨rfl, rfl, rfl, rfl, rfl, trivial⟩
  refine c_seq ?_
  refine c_reg ?_
  refine q_step (v := .bool false) hE (y_assign rfl) rfl rfl rfl ?_; intro a9 hE10; clear hE
  refine c_nil ?_
  have hE11 := hE10.sub (L' := [(0, .int .i64 xp), (1, .int .i64 yp), (2, .pointer (some ⟨cap0B, 0, none⟩)), (3, .pointer (some ⟨cap1B, 0, none⟩)), (4, .pointer (some ⟨cap2B, 0, none⟩))]) ⟨rfl, rfl, rfl, rfl, rfl, trivial⟩; clear hE10
  refine p_tn ?_
  refine c_cut (fun a' w' => E a' 31 [(7, .bool ((decide ((F_Model_truths cap00 cap01 cap02 xp) = (F_Model_truths cap10 cap11 cap12 yp))) && ((F_forth cap00 cap01 cap02 cap10 cap11 cap12 cap2 xp yp) && (F_back cap00 cap01 cap02 cap10 cap11 cap12 cap2 xp yp))))] ∧ St w w' [.rd 1 cap2A cap2.length cap2C cap2, .rb cap2B #[.slice cap2A cap2.length cap2C] 22, .rd 1 cap11A cap11.length cap11C cap11, .rd 1 cap12A cap12.length cap12C cap12, .rb cap1B #[.int .i64 cap10, .slice cap11A cap11.length cap11C, .slice cap12A cap12.length cap12C] 39, .rd 1 cap01A cap01.length cap01C cap01, .rd 1 cap02A cap02.length cap02C cap02, .rb cap0B #[.int .i64 cap00, .slice cap01A cap01.length cap01C, .slice cap02A cap02.length cap02C] 39]) ?_ ?_
  ·
    refine d_start (fun w' => w'.heap[cap0B]? = some (.cells #[.int .i64 cap00, .slice cap01A cap01.length cap01C, .slice cap02A cap02.length cap02C] 39 (0, 0)) ∧ w'.heap[cap1B]? = some (.cells #[.int .i64 cap10, .slice cap11A cap11.length cap11C, .slice cap12A cap12.length cap12C] 39 (0, 0)) ∧ w'.heap[cap0B]? = some (.cells #[.int .i64 cap00, .slice cap01A cap01.length cap01C, .slice cap02A cap02.length cap02C] 39 (0, 0)) ∧ w'.heap[cap1B]? = some (.cells #[.int .i64 cap10, .slice cap11A cap11.length cap11C, .slice cap12A cap12.length cap12C] 39 (0, 0)) ∧ w'.cell? ⟨cap2B, 0, none⟩ = some (.slice cap2A cap2.length cap2C) ∧ w'.heap[cap0B]? = some (.cells #[.int .i64 cap00, .slice cap01A cap01.length cap01C, .slice cap02A cap02.length cap02C] 39 (0, 0)) ∧ w'.heap[cap1B]? = some (.cells #[.int .i64 cap10, .slice cap11A cap11.length cap11C, .slice cap12A cap12.length cap12C] 39 (0, 0)) ∧ w'.cell? ⟨cap2B, 0, none⟩ = some (.slice cap2A cap2.length cap2C) ∧ True) [0, 3, 8, 9, 10, 16, 17, 18] 24 (by kernel_rfl) rfl ?_
    intro w12 he13; have hS14 := St.go hS8 he13; clear hS8
    refine d_take (v := .agg #[.int .i64 cap00, .slice cap01A cap01.length cap01C, .slice cap02A cap02.length cap02C]) 0 rfl hE11 ⟨(St.rowR (i := 5) hS14 rfl _ (Ext.refl _)), (St.rowR (i := 2) hS14 rfl _ (Ext.refl _)), (St.rowR (i := 5) hS14 rfl _ (Ext.refl _)), (St.rowR (i := 2) hS14 rfl _ (Ext.refl _)), (St.cellR (i := 0) hS14 rfl rfl _ (Ext.refl _)), (St.rowR (i := 5) hS14 rfl _ (Ext.refl _)), (St.rowR (i := 2) hS14 rfl _ (Ext.refl _)), (St.cellR (i := 0) hS14 rfl rfl _ (Ext.refl _)), trivial⟩ (y_loadS Try.underlying39 rfl (by kernel_rfl) rfl (fun _ h => h.1)) rfl rfl (by kernel_rfl) (by kernel_rfl) (by kernel_rfl) rfl rfl (fun _ _ _ h => h) ?_; intro a15 hE16; clear hE11
    refine d_pure (v := .int .i64 xp) 1 rfl hE16 (y_move rfl) rfl (by kernel_rfl) (by kernel_rfl) (by kernel_rfl) rfl rfl (fun _ _ _ h => h) ?_; intro a17 hE18; clear hE16
    refine d_take (v := .agg #[.int .i64 cap10, .slice cap11A cap11.length cap11C, .slice cap12A cap12.length cap12C]) 3 rfl hE18 ⟨(St.rowR (i := 5) hS14 rfl _ (Ext.refl _)), (St.rowR (i := 2) hS14 rfl _ (Ext.refl _)), (St.rowR (i := 5) hS14 rfl _ (Ext.refl _)), (St.rowR (i := 2) hS14 rfl _ (Ext.refl _)), (St.cellR (i := 0) hS14 rfl rfl _ (Ext.refl _)), (St.rowR (i := 5) hS14 rfl _ (Ext.refl _)), (St.rowR (i := 2) hS14 rfl _ (Ext.refl _)), (St.cellR (i := 0) hS14 rfl rfl _ (Ext.refl _)), trivial⟩ (y_loadS Try.underlying39 rfl (by kernel_rfl) rfl (fun _ h => h.2.1)) rfl rfl (by kernel_rfl) (by kernel_rfl) (by kernel_rfl) rfl rfl (fun _ _ _ h => h) ?_; intro a19 hE20; clear hE18
    refine d_pure (v := .int .i64 yp) 4 rfl hE20 (y_move rfl) rfl (by kernel_rfl) (by kernel_rfl) (by kernel_rfl) rfl rfl (fun _ _ _ h => h) ?_; intro a21 hE22; clear hE20
    refine d_only 2 (by kernel_rfl) rfl hE22 rfl (l_call (f := 75) (argv := [.agg #[.int .i64 cap00, .slice cap01A cap01.length cap01C, .slice cap02A cap02.length cap02C], .int .i64 xp]) hE22 (fun _ => cf_Model_truths _ _) rfl rfl (c_Model_truths cap00 cap01A cap01.length cap01C cap01 cap02A cap02.length cap02C cap02 xp w12 (St.rdR (i := 7) hS14 rfl) (St.rdR (i := 6) hS14 rfl) (by omega) (by omega)) ?_)
    rintro _ w24 ⟨rfl, he28⟩ a25 hE26; clear hE22
    have hS27 := St.go hS14 he28; clear hS14
    refine ⟨fun _ _ => ⟨(St.rowR (i := 5) hS27 rfl _ (Ext.refl _)), (St.rowR (i := 2) hS27 rfl _ (Ext.refl _)), (St.rowR (i := 5) hS27 rfl _ (Ext.refl _)), (St.rowR (i := 2) hS27 rfl _ (Ext.refl _)), (St.cellR (i := 0) hS27 rfl rfl _ (Ext.refl _)), (St.rowR (i := 5) hS27 rfl _ (Ext.refl _)), (St.rowR (i := 2) hS27 rfl _ (Ext.refl _)), (St.cellR (i := 0) hS27 rfl rfl _ (Ext.refl _)), trivial⟩, ?_⟩
    refine d_only 5 (by kernel_rfl) rfl hE26 rfl (l_call (f := 75) (argv := [.agg #[.int .i64 cap10, .slice cap11A cap11.length cap11C, .slice cap12A cap12.length cap12C], .int .i64 yp]) hE26 (fun _ => cf_Model_truths _ _) rfl rfl (c_Model_truths cap10 cap11A cap11.length cap11C cap11 cap12A cap12.length cap12C cap12 yp w24 (St.rdR (i := 4) hS27 rfl) (St.rdR (i := 3) hS27 rfl) (by omega) (by omega)) ?_)
    rintro _ w30 ⟨rfl, he34⟩ a31 hE32; clear hE26
    have hS33 := St.go hS27 he34; clear hS27
    refine ⟨fun _ _ => ⟨(St.rowR (i := 5) hS33 rfl _ (Ext.refl _)), (St.rowR (i := 2) hS33 rfl _ (Ext.refl _)), (St.rowR (i := 5) hS33 rfl _ (Ext.refl _)), (St.rowR (i := 2) hS33 rfl _ (Ext.refl _)), (St.cellR (i := 0) hS33 rfl rfl _ (Ext.refl _)), (St.rowR (i := 5) hS33 rfl _ (Ext.refl _)), (St.rowR (i := 2) hS33 rfl _ (Ext.refl _)), (St.cellR (i := 0) hS33 rfl rfl _ (Ext.refl _)), trivial⟩, ?_⟩
    refine d_pure (v := .bool (decide ((F_Model_truths cap00 cap01 cap02 xp) = (F_Model_truths cap10 cap11 cap12 yp)))) 6 rfl hE32 (y_eql rfl rfl) rfl (by kernel_rfl) (by kernel_rfl) (by kernel_rfl) rfl rfl (fun _ _ _ h => h) ?_; intro a35 hE36; clear hE32
    refine d_pure (v := .bool (decide ((F_Model_truths cap00 cap01 cap02 xp) = (F_Model_truths cap10 cap11 cap12 yp)))) 7 rfl hE36 (y_move rfl) rfl (by kernel_rfl) (by kernel_rfl) (by kernel_rfl) rfl rfl (fun _ _ _ h => h) ?_; intro a37 hE38; clear hE36
    rcases Bool.eq_false_or_eq_true (decide ((F_Model_truths cap00 cap01 cap02 xp) = (F_Model_truths cap10 cap11 cap12 yp))) with hb39 | hb39
    ·
      have hE40 := hE38; rw [hb39] at hE40; clear hE38
      have hp41 := of_decide_eq_true hb39
      refine d_take (v := .agg #[.int .i64 cap00, .slice cap01A cap01.length cap01C, .slice cap02A cap02.length cap02C]) 8 rfl hE40 ⟨(St.rowR (i := 5) hS33 rfl _ (Ext.refl _)), (St.rowR (i := 2) hS33 rfl _ (Ext.refl _)), (St.rowR (i := 5) hS33 rfl _ (Ext.refl _)), (St.rowR (i := 2) hS33 rfl _ (Ext.refl _)), (St.cellR (i := 0) hS33 rfl rfl _ (Ext.refl _)), (St.rowR (i := 5) hS33 rfl _ (Ext.refl _)), (St.rowR (i := 2) hS33 rfl _ (Ext.refl _)), (St.cellR (i := 0) hS33 rfl rfl _ (Ext.refl _)), trivial⟩ (y_loadS Try.underlying39 rfl (by kernel_rfl) rfl (fun _ h => h.2.2.1)) rfl rfl (by kernel_rfl) (by kernel_rfl) (by kernel_rfl) rfl rfl (fun _ _ _ h => h) ?_; intro a42 hE43; clear hE40
      refine d_take (v := .agg #[.int .i64 cap10, .slice cap11A cap11.length cap11C, .slice cap12A cap12.length cap12C]) 9 rfl hE43 ⟨(St.rowR (i := 5) hS33 rfl _ (Ext.refl _)), (St.rowR (i := 2) hS33 rfl _ (Ext.refl _)), (St.rowR (i := 5) hS33 rfl _ (Ext.refl _)), (St.rowR (i := 2) hS33 rfl _ (Ext.refl _)), (St.cellR (i := 0) hS33 rfl rfl _ (Ext.refl _)), (St.rowR (i := 5) hS33 rfl _ (Ext.refl _)), (St.rowR (i := 2) hS33 rfl _ (Ext.refl _)), (St.cellR (i := 0) hS33 rfl rfl _ (Ext.refl _)), trivial⟩ (y_loadS Try.underlying39 rfl (by kernel_rfl) rfl (fun _ h => h.2.2.2.1)) rfl rfl (by kernel_rfl) (by kernel_rfl) (by kernel_rfl) rfl rfl (fun _ _ _ h => h) ?_; intro a44 hE45; clear hE43
      refine d_take (v := .slice cap2A cap2.length cap2C) 10 rfl hE45 ⟨(St.rowR (i := 5) hS33 rfl _ (Ext.refl _)), (St.rowR (i := 2) hS33 rfl _ (Ext.refl _)), (St.rowR (i := 5) hS33 rfl _ (Ext.refl _)), (St.rowR (i := 2) hS33 rfl _ (Ext.refl _)), (St.cellR (i := 0) hS33 rfl rfl _ (Ext.refl _)), (St.rowR (i := 5) hS33 rfl _ (Ext.refl _)), (St.rowR (i := 2) hS33 rfl _ (Ext.refl _)), (St.cellR (i := 0) hS33 rfl rfl _ (Ext.refl _)), trivial⟩ (y_load (fun _ => by kernel_rfl) rfl (fun _ h => h.2.2.2.2.1)) rfl rfl (by kernel_rfl) (by kernel_rfl) (by kernel_rfl) rfl rfl (fun _ _ _ h => h) ?_; intro a46 hE47; clear hE45
      refine d_pure (v := .int .i64 xp) 11 rfl hE47 (y_move rfl) rfl (by kernel_rfl) (by kernel_rfl) (by kernel_rfl) rfl rfl (fun _ _ _ h => h) ?_; intro a48 hE49; clear hE47
      refine d_pure (v := .int .i64 yp) 12 rfl hE49 (y_move rfl) rfl (by kernel_rfl) (by kernel_rfl) (by kernel_rfl) rfl rfl (fun _ _ _ h => h) ?_; intro a50 hE51; clear hE49
      refine d_only 13 (by kernel_rfl) rfl hE51 rfl (l_call (f := 86) (argv := [.agg #[.int .i64 cap00, .slice cap01A cap01.length cap01C, .slice cap02A cap02.length cap02C], .agg #[.int .i64 cap10, .slice cap11A cap11.length cap11C, .slice cap12A cap12.length cap12C], .slice cap2A cap2.length cap2C, .int .i64 xp, .int .i64 yp]) hE51 (fun _ => cf_forth _ _) rfl rfl (c_forth cap00 cap01A cap01.length cap01C cap01 cap02A cap02.length cap02C cap02 cap10 cap11A cap11.length cap11C cap11 cap12A cap12.length cap12C cap12 cap2A cap2.length cap2C cap2 xp yp w30 (St.rdR (i := 7) hS33 rfl) (St.rdR (i := 6) hS33 rfl) (St.rdR (i := 4) hS33 rfl) (St.rdR (i := 3) hS33 rfl) (St.rdR (i := 1) hS33 rfl) (by omega) (by omega) (by omega) (by omega) (by omega) (by omega) (by omega) hfm) ?_)
      rintro _ w53 ⟨rfl, he57⟩ a54 hE55; clear hE51
      have hS56 := St.go hS33 he57; clear hS33
      refine ⟨fun _ _ => ⟨(St.rowR (i := 5) hS56 rfl _ (Ext.refl _)), (St.rowR (i := 2) hS56 rfl _ (Ext.refl _)), (St.rowR (i := 5) hS56 rfl _ (Ext.refl _)), (St.rowR (i := 2) hS56 rfl _ (Ext.refl _)), (St.cellR (i := 0) hS56 rfl rfl _ (Ext.refl _)), (St.rowR (i := 5) hS56 rfl _ (Ext.refl _)), (St.rowR (i := 2) hS56 rfl _ (Ext.refl _)), (St.cellR (i := 0) hS56 rfl rfl _ (Ext.refl _)), trivial⟩, ?_⟩
      refine d_pure (v := .bool (F_forth cap00 cap01 cap02 cap10 cap11 cap12 cap2 xp yp)) 14 rfl hE55 (y_pick (b := true) rfl rfl) rfl (by kernel_rfl) (by kernel_rfl) (by kernel_rfl) rfl rfl (fun _ _ _ h => h) ?_; intro a58 hE59; clear hE55
      refine d_pure (v := .bool (F_forth cap00 cap01 cap02 cap10 cap11 cap12 cap2 xp yp)) 15 rfl hE59 (y_move rfl) rfl (by kernel_rfl) (by kernel_rfl) (by kernel_rfl) rfl rfl (fun _ _ _ h => h) ?_; intro a60 hE61; clear hE59
      rcases Bool.eq_false_or_eq_true (F_forth cap00 cap01 cap02 cap10 cap11 cap12 cap2 xp yp) with hb62 | hb62
      ·
        have hE63 := hE61; rw [hb62] at hE63; clear hE61
        refine d_take (v := .agg #[.int .i64 cap00, .slice cap01A cap01.length cap01C, .slice cap02A cap02.length cap02C]) 16 rfl hE63 ⟨(St.rowR (i := 5) hS56 rfl _ (Ext.refl _)), (St.rowR (i := 2) hS56 rfl _ (Ext.refl _)), (St.rowR (i := 5) hS56 rfl _ (Ext.refl _)), (St.rowR (i := 2) hS56 rfl _ (Ext.refl _)), (St.cellR (i := 0) hS56 rfl rfl _ (Ext.refl _)), (St.rowR (i := 5) hS56 rfl _ (Ext.refl _)), (St.rowR (i := 2) hS56 rfl _ (Ext.refl _)), (St.cellR (i := 0) hS56 rfl rfl _ (Ext.refl _)), trivial⟩ (y_loadS Try.underlying39 rfl (by kernel_rfl) rfl (fun _ h => h.2.2.2.2.2.1)) rfl rfl (by kernel_rfl) (by kernel_rfl) (by kernel_rfl) rfl rfl (fun _ _ _ h => h) ?_; intro a64 hE65; clear hE63
        refine d_take (v := .agg #[.int .i64 cap10, .slice cap11A cap11.length cap11C, .slice cap12A cap12.length cap12C]) 17 rfl hE65 ⟨(St.rowR (i := 5) hS56 rfl _ (Ext.refl _)), (St.rowR (i := 2) hS56 rfl _ (Ext.refl _)), (St.rowR (i := 5) hS56 rfl _ (Ext.refl _)), (St.rowR (i := 2) hS56 rfl _ (Ext.refl _)), (St.cellR (i := 0) hS56 rfl rfl _ (Ext.refl _)), (St.rowR (i := 5) hS56 rfl _ (Ext.refl _)), (St.rowR (i := 2) hS56 rfl _ (Ext.refl _)), (St.cellR (i := 0) hS56 rfl rfl _ (Ext.refl _)), trivial⟩ (y_loadS Try.underlying39 rfl (by kernel_rfl) rfl (fun _ h => h.2.2.2.2.2.2.1)) rfl rfl (by kernel_rfl) (by kernel_rfl) (by kernel_rfl) rfl rfl (fun _ _ _ h => h) ?_; intro a66 hE67; clear hE65
        refine d_take (v := .slice cap2A cap2.length cap2C) 18 rfl hE67 ⟨(St.rowR (i := 5) hS56 rfl _ (Ext.refl _)), (St.rowR (i := 2) hS56 rfl _ (Ext.refl _)), (St.rowR (i := 5) hS56 rfl _ (Ext.refl _)), (St.rowR (i := 2) hS56 rfl _ (Ext.refl _)), (St.cellR (i := 0) hS56 rfl rfl _ (Ext.refl _)), (St.rowR (i := 5) hS56 rfl _ (Ext.refl _)), (St.rowR (i := 2) hS56 rfl _ (Ext.refl _)), (St.cellR (i := 0) hS56 rfl rfl _ (Ext.refl _)), trivial⟩ (y_load (fun _ => by kernel_rfl) rfl (fun _ h => h.2.2.2.2.2.2.2.1)) rfl rfl (by kernel_rfl) (by kernel_rfl) (by kernel_rfl) rfl rfl (fun _ _ _ h => h) ?_; intro a68 hE69; clear hE67
        refine d_pure (v := .int .i64 xp) 19 rfl hE69 (y_move rfl) rfl (by kernel_rfl) (by kernel_rfl) (by kernel_rfl) rfl rfl (fun _ _ _ h => h) ?_; intro a70 hE71; clear hE69
        refine d_pure (v := .int .i64 yp) 20 rfl hE71 (y_move rfl) rfl (by kernel_rfl) (by kernel_rfl) (by kernel_rfl) rfl rfl (fun _ _ _ h => h) ?_; intro a72 hE73; clear hE71
        refine d_only 21 (by kernel_rfl) rfl hE73 rfl (l_call (f := 92) (argv := [.agg #[.int .i64 cap00, .slice cap01A cap01.length cap01C, .slice cap02A cap02.length cap02C], .agg #[.int .i64 cap10, .slice cap11A cap11.length cap11C, .slice cap12A cap12.length cap12C], .slice cap2A cap2.length cap2C, .int .i64 xp, .int .i64 yp]) hE73 (fun _ => cf_back _ _) rfl rfl (c_back cap00 cap01A cap01.length cap01C cap01 cap02A cap02.length cap02C cap02 cap10 cap11A cap11.length cap11C cap11 cap12A cap12.length cap12C cap12 cap2A cap2.length cap2C cap2 xp yp w53 (St.rdR (i := 7) hS56 rfl) (St.rdR (i := 6) hS56 rfl) (St.rdR (i := 4) hS56 rfl) (St.rdR (i := 3) hS56 rfl) (St.rdR (i := 1) hS56 rfl) (by omega) (by omega) (by omega) (by omega) (by omega) (by omega) (by omega) hfm) ?_)
        rintro _ w75 ⟨rfl, he79⟩ a76 hE77; clear hE73
        have hS78 := St.go hS56 he79; clear hS56
        refine ⟨fun _ _ => ⟨(St.rowR (i := 5) hS78 rfl _ (Ext.refl _)), (St.rowR (i := 2) hS78 rfl _ (Ext.refl _)), (St.rowR (i := 5) hS78 rfl _ (Ext.refl _)), (St.rowR (i := 2) hS78 rfl _ (Ext.refl _)), (St.cellR (i := 0) hS78 rfl rfl _ (Ext.refl _)), (St.rowR (i := 5) hS78 rfl _ (Ext.refl _)), (St.rowR (i := 2) hS78 rfl _ (Ext.refl _)), (St.cellR (i := 0) hS78 rfl rfl _ (Ext.refl _)), trivial⟩, ?_⟩
        refine d_pure (v := .bool (F_back cap00 cap01 cap02 cap10 cap11 cap12 cap2 xp yp)) 22 rfl hE77 (y_pick (b := true) rfl rfl) rfl (by kernel_rfl) (by kernel_rfl) (by kernel_rfl) rfl rfl (fun _ _ _ h => h) ?_; intro a80 hE81; clear hE77
        refine d_pure (v := .bool (F_back cap00 cap01 cap02 cap10 cap11 cap12 cap2 xp yp)) 23 rfl hE81 (y_assign rfl) rfl (by kernel_rfl) (by kernel_rfl) (by kernel_rfl) rfl rfl (fun _ _ _ h => h) ?_; intro a82 hE83; clear hE81
        refine d_done (by kernel_rfl) ?_
        have hE84 := hE83.sub (L' := [(7, .bool (F_back cap00 cap01 cap02 cap10 cap11 cap12 cap2 xp yp))]) ⟨rfl, trivial⟩; clear hE83
        refine p_tn ?_
        have hE85 := hE84.sub (L' := [(7, .bool (F_back cap00 cap01 cap02 cap10 cap11 cap12 cap2 xp yp))]) ⟨rfl, trivial⟩
        have hS86 := (St.pick (Γ' := [.rd 1 cap2A cap2.length cap2C cap2, .rb cap2B #[.slice cap2A cap2.length cap2C] 22, .rd 1 cap11A cap11.length cap11C cap11, .rd 1 cap12A cap12.length cap12C cap12, .rb cap1B #[.int .i64 cap10, .slice cap11A cap11.length cap11C, .slice cap12A cap12.length cap12C] 39, .rd 1 cap01A cap01.length cap01C cap01, .rd 1 cap02A cap02.length cap02C cap02, .rb cap0B #[.int .i64 cap00, .slice cap01A cap01.length cap01C, .slice cap02A cap02.length cap02C] 39]) hS78 [1, 0, 4, 3, 2, 7, 6, 5] (by decide) rfl)
        exact ⟨(by rw [hb62, hb39]; exact hE85), hS86⟩
      ·
        have hE87 := hE61; rw [hb62] at hE87; clear hE61
        refine d_skip 16 rfl hE87 rfl (by kernel_rfl) (by kernel_rfl) (by kernel_rfl) rfl rfl (fun _ _ _ h => h) ?_; intro a88 hE89; clear hE87
        refine d_skip 17 rfl hE89 rfl (by kernel_rfl) (by kernel_rfl) (by kernel_rfl) rfl rfl (fun _ _ _ h => h) ?_; intro a90 hE91; clear hE89
        refine d_skip 18 rfl hE91 rfl (by kernel_rfl) (by kernel_rfl) (by kernel_rfl) rfl rfl (fun _ _ _ h => h) ?_; intro a92 hE93; clear hE91
        refine d_skip 19 rfl hE93 rfl (by kernel_rfl) (by kernel_rfl) (by kernel_rfl) rfl rfl (fun _ _ _ h => h) ?_; intro a94 hE95; clear hE93
        refine d_skip 20 rfl hE95 rfl (by kernel_rfl) (by kernel_rfl) (by kernel_rfl) rfl rfl (fun _ _ _ h => h) ?_; intro a96 hE97; clear hE95
        refine d_skip 21 rfl hE97 rfl (by kernel_rfl) (by kernel_rfl) (by kernel_rfl) rfl rfl (fun _ _ _ h => h) ?_; intro a98 hE99; clear hE97
        refine d_pure (v := .bool false) 22 rfl hE99 (y_pick (b := false) rfl rfl) rfl (by kernel_rfl) (by kernel_rfl) (by kernel_rfl) rfl rfl (fun _ _ _ h => h) ?_; intro a100 hE101; clear hE99
        refine d_pure (v := .bool false) 23 rfl hE101 (y_assign rfl) rfl (by kernel_rfl) (by kernel_rfl) (by kernel_rfl) rfl rfl (fun _ _ _ h => h) ?_; intro a102 hE103; clear hE101
        refine d_done (by kernel_rfl) ?_
        have hE104 := hE103.sub (L' := [(7, .bool false)]) ⟨rfl, trivial⟩; clear hE103
        refine p_tn ?_
        have hE105 := hE104.sub (L' := [(7, .bool false)]) ⟨rfl, trivial⟩
        have hS106 := (St.pick (Γ' := [.rd 1 cap2A cap2.length cap2C cap2, .rb cap2B #[.slice cap2A cap2.length cap2C] 22, .rd 1 cap11A cap11.length cap11C cap11, .rd 1 cap12A cap12.length cap12C cap12, .rb cap1B #[.int .i64 cap10, .slice cap11A cap11.length cap11C, .slice cap12A cap12.length cap12C] 39, .rd 1 cap01A cap01.length cap01C cap01, .rd 1 cap02A cap02.length cap02C cap02, .rb cap0B #[.int .i64 cap00, .slice cap01A cap01.length cap01C, .slice cap02A cap02.length cap02C] 39]) hS56 [1, 0, 4, 3, 2, 7, 6, 5] (by decide) rfl)
        exact ⟨(by rw [hb62, hb39]; exact hE105), hS106⟩
    ·
      have hE107 := hE38; rw [hb39] at hE107; clear hE38
      have hp108 := of_decide_eq_false hb39
      refine d_skip 8 rfl hE107 rfl (by kernel_rfl) (by kernel_rfl) (by kernel_rfl) rfl rfl (fun _ _ _ h => h) ?_; intro a109 hE110; clear hE107
      refine d_skip 9 rfl hE110 rfl (by kernel_rfl) (by kernel_rfl) (by kernel_rfl) rfl rfl (fun _ _ _ h => h) ?_; intro a111 hE112; clear hE110
      refine d_skip 10 rfl hE112 rfl (by kernel_rfl) (by kernel_rfl) (by kernel_rfl) rfl rfl (fun _ _ _ h => h) ?_; intro a113 hE114; clear hE112
      refine d_skip 11 rfl hE114 rfl (by kernel_rfl) (by kernel_rfl) (by kernel_rfl) rfl rfl (fun _ _ _ h => h) ?_; intro a115 hE116; clear hE114
      refine d_skip 12 rfl hE116 rfl (by kernel_rfl) (by kernel_rfl) (by kernel_rfl) rfl rfl (fun _ _ _ h => h) ?_; intro a117 hE118; clear hE116
      refine d_skip 13 rfl hE118 rfl (by kernel_rfl) (by kernel_rfl) (by kernel_rfl) rfl rfl (fun _ _ _ h => h) ?_; intro a119 hE120; clear hE118
      refine d_pure (v := .bool false) 14 rfl hE120 (y_pick (b := false) rfl rfl) rfl (by kernel_rfl) (by kernel_rfl) (by kernel_rfl) rfl rfl (fun _ _ _ h => h) ?_; intro a121 hE122; clear hE120
      refine d_pure (v := .bool false) 15 rfl hE122 (y_move rfl) rfl (by kernel_rfl) (by kernel_rfl) (by kernel_rfl) rfl rfl (fun _ _ _ h => h) ?_; intro a123 hE124; clear hE122
      refine d_skip 16 rfl hE124 rfl (by kernel_rfl) (by kernel_rfl) (by kernel_rfl) rfl rfl (fun _ _ _ h => h) ?_; intro a125 hE126; clear hE124
      refine d_skip 17 rfl hE126 rfl (by kernel_rfl) (by kernel_rfl) (by kernel_rfl) rfl rfl (fun _ _ _ h => h) ?_; intro a127 hE128; clear hE126
      refine d_skip 18 rfl hE128 rfl (by kernel_rfl) (by kernel_rfl) (by kernel_rfl) rfl rfl (fun _ _ _ h => h) ?_; intro a129 hE130; clear hE128
      refine d_skip 19 rfl hE130 rfl (by kernel_rfl) (by kernel_rfl) (by kernel_rfl) rfl rfl (fun _ _ _ h => h) ?_; intro a131 hE132; clear hE130
      refine d_skip 20 rfl hE132 rfl (by kernel_rfl) (by kernel_rfl) (by kernel_rfl) rfl rfl (fun _ _ _ h => h) ?_; intro a133 hE134; clear hE132
      refine d_skip 21 rfl hE134 rfl (by kernel_rfl) (by kernel_rfl) (by kernel_rfl) rfl rfl (fun _ _ _ h => h) ?_; intro a135 hE136; clear hE134
      refine d_pure (v := .bool false) 22 rfl hE136 (y_pick (b := false) rfl rfl) rfl (by kernel_rfl) (by kernel_rfl) (by kernel_rfl) rfl rfl (fun _ _ _ h => h) ?_; intro a137 hE138; clear hE136
      refine d_pure (v := .bool false) 23 rfl hE138 (y_assign rfl) rfl (by kernel_rfl) (by kernel_rfl) (by kernel_rfl) rfl rfl (fun _ _ _ h => h) ?_; intro a139 hE140; clear hE138
      refine d_done (by kernel_rfl) ?_
      have hE141 := hE140.sub (L' := [(7, .bool false)]) ⟨rfl, trivial⟩; clear hE140
      refine p_tn ?_
      have hE142 := hE141.sub (L' := [(7, .bool false)]) ⟨rfl, trivial⟩
      have hS143 := (St.pick (Γ' := [.rd 1 cap2A cap2.length cap2C cap2, .rb cap2B #[.slice cap2A cap2.length cap2C] 22, .rd 1 cap11A cap11.length cap11C cap11, .rd 1 cap12A cap12.length cap12C cap12, .rb cap1B #[.int .i64 cap10, .slice cap11A cap11.length cap11C, .slice cap12A cap12.length cap12C] 39, .rd 1 cap01A cap01.length cap01C cap01, .rd 1 cap02A cap02.length cap02C cap02, .rb cap0B #[.int .i64 cap00, .slice cap01A cap01.length cap01C, .slice cap02A cap02.length cap02C] 39]) hS33 [1, 0, 4, 3, 2, 7, 6, 5] (by decide) rfl)
      exact ⟨(by rw [hb39]; exact hE142), hS143⟩
  ·
    rintro a144 w145 ⟨hE146, hS147⟩; clear hE11 hS8
    refine wp_ret ?_
    have hF : F_IsBisimulation_k1 xp yp cap00 cap01 cap02 cap10 cap11 cap12 cap2 = ((decide ((F_Model_truths cap00 cap01 cap02 xp) = (F_Model_truths cap10 cap11 cap12 yp))) && ((F_forth cap00 cap01 cap02 cap10 cap11 cap12 cap2 xp yp) && (F_back cap00 cap01 cap02 cap10 cap11 cap12 cap2 xp yp))) := by unfold F_IsBisimulation_k1; rfl
    refine c_ret1 hE146 rfl rfl ?_
    exact ⟨(by rw [hF]; first | done | rfl), hS147.ext⟩

def F_IsBisimulation (mp0 : Int) (mp1 : List Int) (mp2 : List Int) (np0 : Int) (np1 : List Int) (np2 : List Int) (linkp : List Int) : (Bool) × (Int) :=
  bif (!decide ((F_linkCode mp0 mp1 mp2 np0 np1 np2 linkp) = 0)) then (false, F_linkCode mp0 mp1 mp2 np0 np1 np2 linkp) else (F_everyLinked linkp (fun x0 x1 => F_IsBisimulation_k1 x0 x1 mp0 mp1 mp2 np0 np1 np2 linkp), 0)
theorem cf_IsBisimulation (args : Array Value) (w : World) : (callFunc 39 args).run Try.prog w = .ok (.enter 39 args) w := by kernel_rfl
set_option maxRecDepth 100000 in
theorem c_IsBisimulation (mp0 : Int) (mp1A : Option Addr) (mp1N mp1C : Nat) (mp1 : List Int) (mp2A : Option Addr) (mp2N mp2C : Nat) (mp2 : List Int) (np0 : Int) (np1A : Option Addr) (np1N np1C : Nat) (np1 : List Int) (np2A : Option Addr) (np2N np2C : Nat) (np2 : List Int) (linkpA : Option Addr) (linkpN linkpC : Nat) (linkp : List Int) (w : World) (mp1R : RdS w 1 mp1A mp1N mp1C mp1) (mp2R : RdS w 1 mp2A mp2N mp2C mp2) (np1R : RdS w 1 np1A np1N np1C np1) (np2R : RdS w 1 np2A np2N np2C np2) (linkpR : RdS w 1 linkpA linkpN linkpC linkp) :
    Calls Try.prog 39 #[.agg #[.int .i64 mp0, .slice mp1A mp1N mp1C, .slice mp2A mp2N mp2C], .agg #[.int .i64 np0, .slice np1A np1N np1C, .slice np2A np2N np2C], .slice linkpA linkpN linkpC] w (Ret fun v w' => v = .tuple #[.bool ((F_IsBisimulation mp0 mp1 mp2 np0 np1 np2 linkp).1), .int .i64 ((F_IsBisimulation mp0 mp1 mp2 np0 np1 np2 linkp).2)] ∧ Ext w w') := by
  obtain rfl : mp1N = mp1.length := mp1R.len1.symm
  have mp1Le := mp1R.le
  obtain rfl : mp2N = mp2.length := mp2R.len1.symm
  have mp2Le := mp2R.le
  obtain rfl : np1N = np1.length := np1R.len1.symm
  have np1Le := np1R.le
  obtain rfl : np2N = np2.length := np2R.len1.symm
  have np2Le := np2R.le
  obtain rfl : linkpN = linkp.length := linkpR.len1.symm
  have linkpLe := linkpR.le
  have hS := St.nil w
  have hS1 := St.rd0 hS rfl mp1R; clear hS
  have hS2 := St.rd0 hS1 rfl mp2R; clear hS1
  have hS3 := St.rd0 hS2 rfl np1R; clear hS2
  have hS4 := St.rd0 hS3 rfl np2R; clear hS3
  have hS5 := St.rd0 hS4 rfl linkpR; clear hS4
  refine enter (args := [.agg #[.int .i64 mp0, .slice mp1A mp1.length mp1C, .slice mp2A mp2.length mp2C], .agg #[.int .i64 np0, .slice np1A np1.length np1C, .slice np2A np2.length np2C], .slice linkpA linkp.length linkpC]) Try.func39 rfl rfl ?_
  rw [Try.ntmps39]; intro a hE
  have hE := hE.sub (L' := [(0, .agg #[.int .i64 mp0, .slice mp1A mp1.length mp1C, .slice mp2A mp2.length mp2C]), (1, .agg #[.int .i64 np0, .slice np1A np1.length np1C, .slice np2A np2.length np2C]), (2, .slice linkpA linkp.length linkpC)]) ⟨rfl, rfl, rfl, trivial⟩
  refine c_seq ?_
  refine c_reg ?_
  refine l_step hE rfl (l_box (v := .agg #[.int .i64 mp0, .slice mp1A mp1.length mp1C, .slice mp2A mp2.length mp2C]) (cs := #[.int .i64 mp0, .slice mp1A mp1.length mp1C, .slice mp2A mp2.length mp2C]) hS5 hE rfl rfl rfl ?_)
  intro b6 w7 hS10 he11 a8 hE9; clear hS5 hE
  refine l_step hE9 rfl (l_box (v := .agg #[.int .i64 np0, .slice np1A np1.length np1C, .slice np2A np2.length np2C]) (cs := #[.int .i64 np0, .slice np1A np1.length np1C, .slice np2A np2.length np2C]) hS10 hE9 rfl rfl rfl ?_)
  intro b12 w13 hS16 he17 a14 hE15; clear hS10 hE9
  refine l_step hE15 rfl (l_box (v := .slice linkpA linkp.length linkpC) (cs := #[.slice linkpA linkp.length linkpC]) hS16 hE15 rfl rfl rfl ?_)
  intro b18 w19 hS22 he23 a20 hE21; clear hS16 hE15
  refine q_step (v := .bool false) hE21 (y_assign rfl) rfl rfl rfl ?_; intro a24 hE25; clear hE21
  refine q_step (v := .int .i64 0) hE25 (y_assign rfl) rfl rfl rfl ?_; intro a26 hE27; clear hE25
  refine c_nil ?_
  have hE28 := hE27.sub (L' := [(3, .pointer (some ⟨b6, 0, none⟩)), (4, .pointer (some ⟨b12, 0, none⟩)), (5, .pointer (some ⟨b18, 0, none⟩))]) ⟨rfl, rfl, rfl, trivial⟩; clear hE27
  refine p_tn ?_
  refine c_seq ?_
  refine c_seq ?_
  refine c_reg ?_
  refine q_step (v := .agg #[.int .i64 mp0, .slice mp1A mp1.length mp1C, .slice mp2A mp2.length mp2C]) hE28 (y_loadS Try.underlying39 rfl (by kernel_rfl) rfl (St.row (i := 2) hS22 rfl)) rfl rfl rfl ?_; intro a29 hE30; clear hE28
  refine q_step (v := .agg #[.int .i64 np0, .slice np1A np1.length np1C, .slice np2A np2.length np2C]) hE30 (y_loadS Try.underlying39 rfl (by kernel_rfl) rfl (St.row (i := 1) hS22 rfl)) rfl rfl rfl ?_; intro a31 hE32; clear hE30
  refine q_step (v := .slice linkpA linkp.length linkpC) hE32 (y_load (fun _ => by kernel_rfl) rfl (St.cell (i := 0) hS22 rfl rfl)) rfl rfl rfl ?_; intro a33 hE34; clear hE32
  refine l_step hE34 rfl (l_call (f := 82) (argv := [.agg #[.int .i64 mp0, .slice mp1A mp1.length mp1C, .slice mp2A mp2.length mp2C], .agg #[.int .i64 np0, .slice np1A np1.length np1C, .slice np2A np2.length np2C], .slice linkpA linkp.length linkpC]) hE34 (fun _ => cf_linkCode _ _) rfl rfl (c_linkCode mp0 mp1A mp1.length mp1C mp1 mp2A mp2.length mp2C mp2 np0 np1A np1.length np1C np1 np2A np2.length np2C np2 linkpA linkp.length linkpC linkp w19 (St.rdR (i := 7) hS22 rfl) (St.rdR (i := 6) hS22 rfl) (St.rdR (i := 5) hS22 rfl) (St.rdR (i := 4) hS22 rfl) (St.rdR (i := 3) hS22 rfl)) ?_)
  rintro _ w36 ⟨rfl, he40⟩ a37 hE38; clear hE34
  have hS39 := St.go hS22 he40; clear hS22
  refine q_step (v := .int .i64 (F_linkCode mp0 mp1 mp2 np0 np1 np2 linkp)) hE38 (y_assign rfl) rfl rfl rfl ?_; intro a41 hE42; clear hE38
  refine c_nil ?_
  have hE43 := hE42.sub (L' := [(3, .pointer (some ⟨b6, 0, none⟩)), (4, .pointer (some ⟨b12, 0, none⟩)), (5, .pointer (some ⟨b18, 0, none⟩)), (8, .int .i64 (F_linkCode mp0 mp1 mp2 np0 np1 np2 linkp))]) ⟨rfl, rfl, rfl, rfl, trivial⟩; clear hE42
  refine p_tn ?_
  refine c_seq ?_
  refine c_reg ?_
  refine q_step (v := .int .i64 (F_linkCode mp0 mp1 mp2 np0 np1 np2 linkp)) hE43 (y_move rfl) rfl rfl rfl ?_; intro a44 hE45; clear hE43
  refine q_step (v := .bool (!decide ((F_linkCode mp0 mp1 mp2 np0 np1 np2 linkp) = 0))) hE45 (y_neq rfl rfl) rfl rfl rfl ?_; intro a46 hE47; clear hE45
  refine c_nil ?_
  have hE48 := hE47.sub (L' := [(3, .pointer (some ⟨b6, 0, none⟩)), (4, .pointer (some ⟨b12, 0, none⟩)), (5, .pointer (some ⟨b18, 0, none⟩)), (8, .int .i64 (F_linkCode mp0 mp1 mp2 np0 np1 np2 linkp)), (14, .bool (!decide ((F_linkCode mp0 mp1 mp2 np0 np1 np2 linkp) = 0)))]) ⟨rfl, rfl, rfl, rfl, rfl, trivial⟩; clear hE47
  refine p_tn ?_
  refine c_cond hE48 rfl (fun ht49 => ?_) (fun ht49 => ?_)
  ·
    have ht50 := bn_t ht49
    have hp51 := of_decide_eq_false ht50
    have hE52 := hE48; rw [ht49] at hE52; clear hE48
    refine c_seq ?_
    refine c_reg ?_
    refine q_step (v := .int .i64 (F_linkCode mp0 mp1 mp2 np0 np1 np2 linkp)) hE52 (y_move rfl) rfl rfl rfl ?_; intro a53 hE54; clear hE52
    refine q_step (v := .bool false) hE54 (y_assign rfl) rfl rfl rfl ?_; intro a55 hE56; clear hE54
    refine q_step (v := .int .i64 (F_linkCode mp0 mp1 mp2 np0 np1 np2 linkp)) hE56 (y_assign rfl) rfl rfl rfl ?_; intro a57 hE58; clear hE56
    refine c_nil ?_
    have hE59 := hE58.sub (L' := [(6, .bool false), (7, .int .i64 (F_linkCode mp0 mp1 mp2 np0 np1 np2 linkp))]) ⟨rfl, rfl, trivial⟩; clear hE58
    refine p_tn ?_
    refine wp_ret ?_
    refine p_tr ?_
    have hF : F_IsBisimulation mp0 mp1 mp2 np0 np1 np2 linkp = (false, F_linkCode mp0 mp1 mp2 np0 np1 np2 linkp) := by unfold F_IsBisimulation; rw [ht49]; first | done | rfl
    refine c_ret2 hE59 rfl rfl rfl ?_
    exact ⟨(by rw [hF]; first | done | rfl), hS39.ext⟩
  ·
    have ht60 := bn_f ht49
    have hp61 := of_decide_eq_true ht60
    have hq62 := linkCode_t hp61
    have hE63 := hE48; rw [ht49] at hE63; clear hE48
    refine wp_skip ?_
    refine p_tn ?_
    refine c_seq ?_
    refine c_reg ?_
    refine q_step (v := .slice linkpA linkp.length linkpC) hE63 (y_load (fun _ => by kernel_rfl) rfl (St.cell (i := 0) hS39 rfl rfl)) rfl rfl rfl ?_; intro a64 hE65; clear hE63
    refine q_step (v := .func (.func 91) #[] #[.pointer (some ⟨b6, 0, none⟩), .pointer (some ⟨b12, 0, none⟩), .pointer (some ⟨b18, 0, none⟩)]) hE65 (y_makeFunc (vs := [.pointer (some ⟨b6, 0, none⟩), .pointer (some ⟨b12, 0, none⟩), .pointer (some ⟨b18, 0, none⟩)]) rfl) rfl rfl rfl ?_; intro a66 hE67; clear hE65
    refine l_step hE67 rfl (l_call (f := 83) (argv := [.slice linkpA linkp.length linkpC, .func (.func 91) #[] #[.pointer (some ⟨b6, 0, none⟩), .pointer (some ⟨b12, 0, none⟩), .pointer (some ⟨b18, 0, none⟩)]]) hE67 (fun _ => cf_everyLinked _ _) rfl rfl (c_everyLinked linkpA linkp.length linkpC linkp 91 [.pointer (some ⟨b6, 0, none⟩), .pointer (some ⟨b12, 0, none⟩), .pointer (some ⟨b18, 0, none⟩)] (fun x0 x1 => F_IsBisimulation_k1 x0 x1 mp0 mp1 mp2 np0 np1 np2 linkp) (fun x y => (0 ≤ x ∧ x < mp0) ∧ 0 ≤ y ∧ y < np0) w36 (St.rdR (i := 3) hS39 rfl) (fun _ _ => cf_IsBisimulation_k1 _ _) (fun x0 x1 w' hx he => c_IsBisimulation_k1 x0 x1 b6 mp0 mp1A mp1.length mp1C mp1 mp2A mp2.length mp2C mp2 b12 np0 np1A np1.length np1C np1 np2A np2.length np2C np2 b18 linkpA linkp.length linkpC linkp w' (RdS.ext (St.rdR (i := 7) hS39 rfl) he) (RdS.ext (St.rdR (i := 6) hS39 rfl) he) (St.row (i := 2) hS39 rfl w' he) (RdS.ext (St.rdR (i := 5) hS39 rfl) he) (RdS.ext (St.rdR (i := 4) hS39 rfl) he) (St.row (i := 1) hS39 rfl w' he) (RdS.ext (St.rdR (i := 3) hS39 rfl) he) (St.row (i := 0) hS39 rfl w' he) (by omega) (by omega) hx.1 hx.2 (by omega) (by omega) (by omega) (by omega) (by omega) (l05Is_m (linkCode_t (by assumption)).1.1)) (by omega) (link_62 (by assumption)) (fun x y h0 h1 h2 => link_dom (by assumption) x y h0 h1 h2)) ?_)
    rintro _ w69 ⟨rfl, he73⟩ a70 hE71; clear hE67
    have hS72 := St.go hS39 he73; clear hS39
    refine q_step (v := .bool (F_everyLinked linkp (fun x0 x1 => F_IsBisimulation_k1 x0 x1 mp0 mp1 mp2 np0 np1 np2 linkp))) hE71 (y_assign rfl) rfl rfl rfl ?_; intro a74 hE75; clear hE71
    refine q_step (v := .int .i64 0) hE75 (y_assign rfl) rfl rfl rfl ?_; intro a76 hE77; clear hE75
    refine c_nil ?_
    have hE78 := hE77.sub (L' := [(6, .bool (F_everyLinked linkp (fun x0 x1 => F_IsBisimulation_k1 x0 x1 mp0 mp1 mp2 np0 np1 np2 linkp))), (7, .int .i64 0)]) ⟨rfl, rfl, trivial⟩; clear hE77
    refine p_tn ?_
    refine wp_ret ?_
    have hF : F_IsBisimulation mp0 mp1 mp2 np0 np1 np2 linkp = (F_everyLinked linkp (fun x0 x1 => F_IsBisimulation_k1 x0 x1 mp0 mp1 mp2 np0 np1 np2 linkp), 0) := by unfold F_IsBisimulation; rw [ht49]; first | done | rfl
    refine c_ret2 hE78 rfl rfl rfl ?_
    exact ⟨(by rw [hF]; first | done | rfl), hS72.ext⟩

theorem IsBisimulation_eq (mp0 : Int) (mp1 mp2 : List Int) (np0 : Int) (np1 np2 : List Int) (linkp : List Int) : F_IsBisimulation mp0 mp1 mp2 np0 np1 np2 linkp = F_s_IsBisimulation mp0 mp1 mp2 np0 np1 np2 linkp := by
  unfold F_IsBisimulation F_s_IsBisimulation
  rw [linkCode_eq]
  cases h : ((!decide ((F_l07Two mp0 mp1 mp2 np0 np1 np2) = 0)) || (!(F_l07Link mp0 mp1 mp2 np0 np1 np2 linkp)))
  · obtain ⟨h2, h3⟩ := bor_f h
    obtain ⟨hm, hn⟩ := l07Two_t (of_decide_eq_true (bn_f h2))
    obtain ⟨hl, hx⟩ := l07Link_t (bn_f h3)
    rw [cond_false, decide_eq_true rfl, Bool.not_true, cond_false, cond_false]
    congr 1
    refine link_key (by omega) (by omega) hx _ (goodS mp0 mp1 mp2 np0 np1 np2 linkp) ?_ _ ?_
    · intro x y hx1 hy
      have hmx := l05Is_m hm.1 (x : Int) (by omega) (by omega)
      unfold F_IsBisimulation_k1 goodS
      rw [forth_eq _ _ _ _ _ _ _ _ _ (by omega) hmx.1 (by rw [hl]; exact hmx.2), back_eq _ _ _ _ _ _ _ _ _ (by omega) hmx.1 (by rw [hl]; exact hmx.2), atoms_eq _ _ hm.2.2.1 hn.2.2.1]
    · intro x hx1
      rw [l07Step_map _ _ _ _ _ _ _ (by omega) (by omega), gI_map (by omega)]
  · rfl

end Go.Proofs.Ytlmmmblnaiddhaa
