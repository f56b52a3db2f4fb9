/- GSIB: models and contracts, printed by wip/gen/gen.py -/
import Derived.Test.YtlbonhloeefnmaaGSI
import Derived.Test.YtlbonhloeefnmaaGSS
set_option linter.unusedVariables false
set_option linter.unusedSimpArgs false
namespace Go.Proofs.Ytlbonhloeefnmaa
open Go.RowKit

def F_back (mp0 : Int) (mp1 : List Int) (mp2 : List Int) (np0 : Int) (np1 : List Int) (np2 : List Int) (linkp : List Int) (xp : Int) (yp : Int) : Bool :=
  F_within (gI np1 yp) (F_image linkp (gI mp1 xp))
theorem cf_back (args : Array Value) (w : World) : (callFunc 157 args).run Try.prog w = .ok (.enter 157 args) w := by kernel_rfl
set_option maxRecDepth 100000 in
theorem c_back (mp0 : Int) (mp1A : Option Addr) (mp1N mp1C : Nat) (mp1 : List Int) (mp2A : Option Addr) (mp2N mp2C : Nat) (mp2 : List Int) (np0 : Int) (np1A : Option Addr) (np1N np1C : Nat) (np1 : List Int) (np2A : Option Addr) (np2N np2C : Nat) (np2 : List Int) (linkpA : Option Addr) (linkpN linkpC : Nat) (linkp : List Int) (xp : Int) (yp : Int) (w : World) (mp1R : RdS w 1 mp1A mp1N mp1C mp1) (mp2R : RdS w 1 mp2A mp2N mp2C mp2) (np1R : RdS w 1 np1A np1N np1C np1) (np2R : RdS w 1 np2A np2N np2C np2) (linkpR : RdS w 1 linkpA linkpN linkpC linkp) (hx : 0 ≤ xp ∧ xp < mp0) (hy : 0 ≤ yp ∧ yp < np0) (hwm : 0 ≤ mp0 ∧ mp0 ≤ 8) (hwn : 0 ≤ np0 ∧ np0 ≤ 8) (hlm : (mp1.length : Int) = mp0) (hln : (np1.length : Int) = np0) (hll : (linkp.length : Int) = mp0) (hfm : ∀ m : Int, 0 ≤ m → m < (mp1.length : Int) → 0 ≤ gI mp1 m ∧ gI mp1 m ≤ fullI mp0) :
    Calls Try.prog 157 #[.agg #[.int .i64 mp0, .slice mp1A mp1N mp1C, .slice mp2A mp2N mp2C], .agg #[.int .i64 np0, .slice np1A np1N np1C, .slice np2A np2N np2C], .slice linkpA linkpN linkpC, .int .i64 xp, .int .i64 yp] w (Ret fun v w' => v = .bool (F_back mp0 mp1 mp2 np0 np1 np2 linkp xp yp) ∧ Ext w w') := by
  obtain rfl : mp1N = mp1.length := mp1R.len1.symm
  have mp1Le := mp1R.le
  obtain rfl : mp2N = mp2.length := mp2R.len1.symm
  have mp2Le := mp2R.le
  obtain rfl : np1N = np1.length := np1R.len1.symm
  have np1Le := np1R.le
  obtain rfl : np2N = np2.length := np2R.len1.symm
  have np2Le := np2R.le
  obtain rfl : linkpN = linkp.length := linkpR.len1.symm
  have linkpLe := linkpR.le
  have hm1 := hfm xp (by omega) (by omega)
  have hf8 := fullI_bd (n := mp0) (by omega) (by omega)
  have hS := St.nil w
  have hS1 := St.rd0 hS rfl mp1R; clear hS
  have hS2 := St.rd0 hS1 rfl mp2R; clear hS1
  have hS3 := St.rd0 hS2 rfl np1R; clear hS2
  have hS4 := St.rd0 hS3 rfl np2R; clear hS3
  have hS5 := St.rd0 hS4 rfl linkpR; clear hS4
  refine enter (args := [.agg #[.int .i64 mp0, .slice mp1A mp1.length mp1C, .slice mp2A mp2.length mp2C], .agg #[.int .i64 np0, .slice np1A np1.length np1C, .slice np2A np2.length np2C], .slice linkpA linkp.length linkpC, .int .i64 xp, .int .i64 yp]) Try.func157 rfl rfl ?_
  rw [Try.ntmps157]; intro a hE
  have hE := hE.sub (L' := [(0, .agg #[.int .i64 mp0, .slice mp1A mp1.length mp1C, .slice mp2A mp2.length mp2C]), (1, .agg #[.int .i64 np0, .slice np1A np1.length np1C, .slice np2A np2.length np2C]), (2, .slice linkpA linkp.length linkpC), (3, .int .i64 xp), (4, .int .i64 yp)]) ⟨rfl, rfl, rfl, rfl, rfl, trivial⟩
  refine c_seq ?_
  refine c_reg ?_
  refine l_step hE rfl (l_box (v := .agg #[.int .i64 mp0, .slice mp1A mp1.length mp1C, .slice mp2A mp2.length mp2C]) (cs := #[.int .i64 mp0, .slice mp1A mp1.length mp1C, .slice mp2A mp2.length mp2C]) hS5 hE rfl rfl rfl ?_)
  intro b6 w7 hS10 he11 a8 hE9; clear hS5 hE
  refine l_step hE9 rfl (l_box (v := .agg #[.int .i64 np0, .slice np1A np1.length np1C, .slice np2A np2.length np2C]) (cs := #[.int .i64 np0, .slice np1A np1.length np1C, .slice np2A np2.length np2C]) hS10 hE9 rfl rfl rfl ?_)
  intro b12 w13 hS16 he17 a14 hE15; clear hS10 hE9
  refine q_step (v := .bool false) hE15 (y_assign rfl) rfl rfl rfl ?_; intro a18 hE19; clear hE15
  refine c_nil ?_
  have hE20 := hE19.sub (L' := [(2, .slice linkpA linkp.length linkpC), (3, .int .i64 xp), (4, .int .i64 yp), (5, .pointer (some ⟨b6, 0, none⟩)), (6, .pointer (some ⟨b12, 0, none⟩))]) ⟨rfl, rfl, rfl, rfl, rfl, trivial⟩; clear hE19
  refine p_tn ?_
  refine c_seq ?_
  refine d_start (fun w w' => (fun w' => w'.cell? ⟨b12, 1, none⟩ = some (.slice np1A np1.length np1C) ∧ w'.cell? (adr np1A (Int.toNat yp)) = some (.int .i64 (gI np1 yp)) ∧ w'.cell? ⟨b6, 1, none⟩ = some (.slice mp1A mp1.length mp1C) ∧ w'.cell? (adr mp1A (Int.toNat xp)) = some (.int .i64 (gI mp1 xp)) ∧ True) w → (fun w' => w'.cell? ⟨b12, 1, none⟩ = some (.slice np1A np1.length np1C) ∧ w'.cell? (adr np1A (Int.toNat yp)) = some (.int .i64 (gI np1 yp)) ∧ w'.cell? ⟨b6, 1, none⟩ = some (.slice mp1A mp1.length mp1C) ∧ w'.cell? (adr mp1A (Int.toNat xp)) = some (.int .i64 (gI mp1 xp)) ∧ True) w') [2, 5, 9, 12] 16 (by kernel_rfl) rfl ?_
  intro w21 he22; have hS23 := St.go hS16 he22; clear hS16
  refine d_pure (fun _ h => h) (v := .pointer (some ⟨b12, 0, none⟩)) 0 rfl hE20 (y_field rfl (fun _ => by kernel_rfl)) rfl (by kernel_rfl) (by kernel_rfl) (by kernel_rfl) rfl rfl (fun _ _ _ h => h) ?_; intro a24 hE25; clear hE20
  refine d_pure (fun _ h => h) (v := .pointer (some ⟨b12, 1, none⟩)) 1 rfl hE25 (y_field rfl (fun _ => by kernel_rfl)) rfl (by kernel_rfl) (by kernel_rfl) (by kernel_rfl) rfl rfl (fun _ _ _ h => h) ?_; intro a26 hE27; clear hE25
  refine d_take (fun _ h => h) (fun _ _ h k => h k) (v := .slice np1A np1.length np1C) 2 rfl hE27 (S := fun w' => w'.cell? ⟨b12, 1, none⟩ = some (.slice np1A np1.length np1C) ∧ w'.cell? (adr np1A (Int.toNat yp)) = some (.int .i64 (gI np1 yp)) ∧ w'.cell? ⟨b6, 1, none⟩ = some (.slice mp1A mp1.length mp1C) ∧ w'.cell? (adr mp1A (Int.toNat xp)) = some (.int .i64 (gI mp1 xp)) ∧ True) ⟨(St.cell (i := 0) hS23 rfl rfl _ (Ext.refl _)), (RdS.elt (St.rdR (i := 4) hS23 rfl) (by omega) (by omega) _ (Ext.refl _)), (St.cell (i := 1) hS23 rfl rfl _ (Ext.refl _)), (RdS.elt (St.rdR (i := 6) hS23 rfl) (by omega) (by omega) _ (Ext.refl _)), trivial⟩ (y_load (fun _ => by kernel_rfl) rfl (fun _ h => h.1)) rfl rfl (by kernel_rfl) (by kernel_rfl) (by kernel_rfl) (by kernel_rfl) rfl rfl (fun _ _ _ h => h) ?_; intro a28 hE29; clear hE27
  refine d_pure (fun _ h => h) (v := .int .i64 yp) 3 rfl hE29 (y_move rfl) rfl (by kernel_rfl) (by kernel_rfl) (by kernel_rfl) rfl rfl (fun _ _ _ h => h) ?_; intro a30 hE31; clear hE29
  refine d_pure (fun _ h => h) (v := .pointer (some (adr np1A (Int.toNat yp)))) 4 rfl hE31 (y_idx (by kernel_rfl) (fun _ => by kernel_rfl) rfl rfl (RdS.isS (m := yp) (St.rdR (i := 4) hS23 rfl) (by omega) (by omega)) (by omega) (by omega) (Nat.mul_one _).symm) rfl (by kernel_rfl) (by kernel_rfl) (by kernel_rfl) rfl rfl (fun _ _ _ h => h) ?_; intro a32 hE33; clear hE31
  refine d_take (fun _ h => h) (fun _ _ h k => h k) (v := .int .i64 (gI np1 yp)) 5 rfl hE33 (S := fun w' => w'.cell? ⟨b12, 1, none⟩ = some (.slice np1A np1.length np1C) ∧ w'.cell? (adr np1A (Int.toNat yp)) = some (.int .i64 (gI np1 yp)) ∧ w'.cell? ⟨b6, 1, none⟩ = some (.slice mp1A mp1.length mp1C) ∧ w'.cell? (adr mp1A (Int.toNat xp)) = some (.int .i64 (gI mp1 xp)) ∧ True) ⟨(St.cell (i := 0) hS23 rfl rfl _ (Ext.refl _)), (RdS.elt (St.rdR (i := 4) hS23 rfl) (by omega) (by omega) _ (Ext.refl _)), (St.cell (i := 1) hS23 rfl rfl _ (Ext.refl _)), (RdS.elt (St.rdR (i := 6) hS23 rfl) (by omega) (by omega) _ (Ext.refl _)), trivial⟩ (y_load (fun _ => by kernel_rfl) rfl (fun _ h => h.2.1)) rfl rfl (by kernel_rfl) (by kernel_rfl) (by kernel_rfl) (by kernel_rfl) rfl rfl (fun _ _ _ h => h) ?_; intro a34 hE35; clear hE33
  refine d_pure (fun _ h => h) (v := .slice linkpA linkp.length linkpC) 6 rfl hE35 (y_move rfl) rfl (by kernel_rfl) (by kernel_rfl) (by kernel_rfl) rfl rfl (fun _ _ _ h => h) ?_; intro a36 hE37; clear hE35
  refine d_pure (fun _ h => h) (v := .pointer (some ⟨b6, 0, none⟩)) 7 rfl hE37 (y_field rfl (fun _ => by kernel_rfl)) rfl (by kernel_rfl) (by kernel_rfl) (by kernel_rfl) rfl rfl (fun _ _ _ h => h) ?_; intro a38 hE39; clear hE37
  refine d_pure (fun _ h => h) (v := .pointer (some ⟨b6, 1, none⟩)) 8 rfl hE39 (y_field rfl (fun _ => by kernel_rfl)) rfl (by kernel_rfl) (by kernel_rfl) (by kernel_rfl) rfl rfl (fun _ _ _ h => h) ?_; intro a40 hE41; clear hE39
  refine d_take (fun _ h => h) (fun _ _ h k => h k) (v := .slice mp1A mp1.length mp1C) 9 rfl hE41 (S := fun w' => w'.cell? ⟨b12, 1, none⟩ = some (.slice np1A np1.length np1C) ∧ w'.cell? (adr np1A (Int.toNat yp)) = some (.int .i64 (gI np1 yp)) ∧ w'.cell? ⟨b6, 1, none⟩ = some (.slice mp1A mp1.length mp1C) ∧ w'.cell? (adr mp1A (Int.toNat xp)) = some (.int .i64 (gI mp1 xp)) ∧ True) ⟨(St.cell (i := 0) hS23 rfl rfl _ (Ext.refl _)), (RdS.elt (St.rdR (i := 4) hS23 rfl) (by omega) (by omega) _ (Ext.refl _)), (St.cell (i := 1) hS23 rfl rfl _ (Ext.refl _)), (RdS.elt (St.rdR (i := 6) hS23 rfl) (by omega) (by omega) _ (Ext.refl _)), trivial⟩ (y_load (fun _ => by kernel_rfl) rfl (fun _ h => h.2.2.1)) rfl rfl (by kernel_rfl) (by kernel_rfl) (by kernel_rfl) (by kernel_rfl) rfl rfl (fun _ _ _ h => h) ?_; intro a42 hE43; clear hE41
  refine d_pure (fun _ h => h) (v := .int .i64 xp) 10 rfl hE43 (y_move rfl) rfl (by kernel_rfl) (by kernel_rfl) (by kernel_rfl) rfl rfl (fun _ _ _ h => h) ?_; intro a44 hE45; clear hE43
  refine d_pure (fun _ h => h) (v := .pointer (some (adr mp1A (Int.toNat xp)))) 11 rfl hE45 (y_idx (by kernel_rfl) (fun _ => by kernel_rfl) rfl rfl (RdS.isS (m := xp) (St.rdR (i := 6) hS23 rfl) (by omega) (by omega)) (by omega) (by omega) (Nat.mul_one _).symm) rfl (by kernel_rfl) (by kernel_rfl) (by kernel_rfl) rfl rfl (fun _ _ _ h => h) ?_; intro a46 hE47; clear hE45
  refine d_take (fun _ h => h) (fun _ _ h k => h k) (v := .int .i64 (gI mp1 xp)) 12 rfl hE47 (S := fun w' => w'.cell? ⟨b12, 1, none⟩ = some (.slice np1A np1.length np1C) ∧ w'.cell? (adr np1A (Int.toNat yp)) = some (.int .i64 (gI np1 yp)) ∧ w'.cell? ⟨b6, 1, none⟩ = some (.slice mp1A mp1.length mp1C) ∧ w'.cell? (adr mp1A (Int.toNat xp)) = some (.int .i64 (gI mp1 xp)) ∧ True) ⟨(St.cell (i := 0) hS23 rfl rfl _ (Ext.refl _)), (RdS.elt (St.rdR (i := 4) hS23 rfl) (by omega) (by omega) _ (Ext.refl _)), (St.cell (i := 1) hS23 rfl rfl _ (Ext.refl _)), (RdS.elt (St.rdR (i := 6) hS23 rfl) (by omega) (by omega) _ (Ext.refl _)), trivial⟩ (y_load (fun _ => by kernel_rfl) rfl (fun _ h => h.2.2.2.1)) rfl rfl (by kernel_rfl) (by kernel_rfl) (by kernel_rfl) (by kernel_rfl) rfl rfl (fun _ _ _ h => h) ?_; intro a48 hE49; clear hE47
  refine d_only 13 (by kernel_rfl) rfl hE49 rfl (l_call (f := 119) (argv := [.slice linkpA linkp.length linkpC, .int .i64 (gI mp1 xp)]) hE49 (fun _ => cf_image _ _) rfl rfl (c_image linkpA linkp.length linkpC linkp (gI mp1 xp) w21 (St.rdR (i := 2) hS23 rfl) (by omega) (by omega) (by rw [hll]; omega) (by omega)) ?_)
  rintro _ w51 ⟨rfl, he55⟩ a52 hE53; clear hE49
  have hS54 := St.go hS23 he55; clear hS23
  refine ⟨fun _ _ => ⟨(St.cell (i := 0) hS54 rfl rfl _ (Ext.refl _)), (RdS.elt (St.rdR (i := 4) hS54 rfl) (by omega) (by omega) _ (Ext.refl _)), (St.cell (i := 1) hS54 rfl rfl _ (Ext.refl _)), (RdS.elt (St.rdR (i := 6) hS54 rfl) (by omega) (by omega) _ (Ext.refl _)), trivial⟩, ?_⟩
  refine d_only 14 (by kernel_rfl) rfl hE53 rfl (l_call (f := 204) (argv := [.int .i64 (gI np1 yp), .int .i64 (F_image linkp (gI mp1 xp))]) hE53 (fun _ => cf_within _ _) rfl rfl (c_within (gI np1 yp) (F_image linkp (gI mp1 xp)) w51) ?_)
  rintro _ _ ⟨rfl, rfl⟩ a58 hE59; clear hE53
  refine ⟨fun h => Bool.noConfusion (h.symm.trans (show exm _ _ _ = true by kernel_rfl)), ?_⟩
  refine d_pure (fun _ h => h) (v := .bool (F_within (gI np1 yp) (F_image linkp (gI mp1 xp)))) 15 rfl hE59 (y_assign rfl) rfl (by kernel_rfl) (by kernel_rfl) (by kernel_rfl) rfl rfl (fun _ _ _ h => h) ?_; intro a62 hE63; clear hE59
  refine d_done (by kernel_rfl) ?_
  have hE64 := hE63.sub (L' := [(10, .bool (F_within (gI np1 yp) (F_image linkp (gI mp1 xp))))]) ⟨rfl, trivial⟩; clear hE63
  refine p_tn ?_
  refine wp_ret ?_
  have hF : F_back mp0 mp1 mp2 np0 np1 np2 linkp xp yp = F_within (gI np1 yp) (F_image linkp (gI mp1 xp)) := by unfold F_back; rfl
  refine c_ret1 hE64 rfl rfl ?_
  exact ⟨(by rw [hF]; first | done | (dsimp only; done) | rfl), hS54.ext⟩

theorem back_eq (mp0 : Int) (mp1 mp2 : List Int) (np0 : Int) (np1 np2 : List Int) (linkp : List Int) (xp yp : Int) (hl : linkp.length ≤ 62) (h0 : 0 ≤ gI mp1 xp) (h1 : gI mp1 xp ≤ fullI (linkp.length : Int)) : F_back mp0 mp1 mp2 np0 np1 np2 linkp xp yp = F_l07Back linkp (gI mp1 xp) (gI np1 yp) := by
  unfold F_back F_within F_l07Back
  rw [image_fold hl h0 h1, rangeLoop0 (linkp.length : Int) (by omega) (fun o i => bif F_has (gI mp1 xp) i then orI o (gI linkp i) else o) (F_l07Back_L1 linkp (gI mp1 xp)) (fun _ _ _ => rfl), Int.toNat_natCast]


end Go.Proofs.Ytlbonhloeefnmaa
