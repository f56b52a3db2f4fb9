/- GRT: models and contracts, printed by wip/gen/gen.py -/
import Derived.Test.YtlbonhloeefnmaaGBB
set_option linter.unusedVariables false
set_option linter.unusedSimpArgs false
namespace Go.Proofs.Ytlbonhloeefnmaa
open Go.RowKit

def F_newTeller (mp0 : Int) (mp1 : List Int) (mp2 : List Int) (np0 : Int) (np1 : List Int) (np2 : List Int) : Int × List Int × List Int × Int × List Int × List Int × List (List Int) :=
  (mp0, mp1, mp2, np0, np1, np2, F_bounded mp0 mp1 mp2 np0 np1 np2 16)
theorem cf_newTeller (args : Array Value) (w : World) : (callFunc 92 args).run Try.prog w = .ok (.enter 92 args) w := by kernel_rfl
set_option maxRecDepth 100000 in
theorem c_newTeller (mp0 : Int) (mp1A : Option Addr) (mp1N mp1C : Nat) (mp1 : List Int) (mp2A : Option Addr) (mp2N mp2C : Nat) (mp2 : List Int) (np0 : Int) (np1A : Option Addr) (np1N np1C : Nat) (np1 : List Int) (np2A : Option Addr) (np2N np2C : Nat) (np2 : List Int) (w : World) (mp1R : RdS w 1 mp1A mp1N mp1C mp1) (mp2R : RdS w 1 mp2A mp2N mp2C mp2) (np1R : RdS w 1 np1A np1N np1C np1) (np2R : RdS w 1 np2A np2N np2C np2) (h6mp : (mp2.length : Int) = 6) (hwmp : 0 ≤ mp0 ∧ mp0 ≤ 8) (hlmp : (mp1.length : Int) = mp0) (h6np : (np2.length : Int) = 6) (hwnp : 0 ≤ np0 ∧ np0 ≤ 8) (hlnp : (np1.length : Int) = np0) (hfm : ∀ m : Int, 0 ≤ m → m < (mp1.length : Int) → 0 ≤ gI mp1 m ∧ gI mp1 m ≤ fullI mp0) :
    Calls Try.prog 92 #[.agg #[.int .i64 mp0, .slice mp1A mp1N mp1C, .slice mp2A mp2N mp2C], .agg #[.int .i64 np0, .slice np1A np1N np1C, .slice np2A np2N np2C]] w (Ret fun v w' => ∃ pB : Nat, ∃ a6 : Option Addr, ∃ c6 : Nat, ∃ h6 : List Hd, v = .pointer (some ⟨pB, 0, none⟩) ∧ St w w' [.blk pB #[.int .i64 ((F_newTeller mp0 mp1 mp2 np0 np1 np2).1), .slice mp1A mp1N mp1C, .slice mp2A mp2N mp2C, .int .i64 ((F_newTeller mp0 mp1 mp2 np0 np1 np2).2.2.2.1), .slice np1A np1N np1C, .slice np2A np2N np2C, .slice a6 ((F_newTeller mp0 mp1 mp2 np0 np1 np2).2.2.2.2.2.2).length c6] 138, .nest 22 1 (some 2) a6 c6 h6 ((F_newTeller mp0 mp1 mp2 np0 np1 np2).2.2.2.2.2.2)]) := by
  obtain rfl : mp1N = mp1.length := mp1R.len1.symm
  have mp1Le := mp1R.le
  obtain rfl : mp2N = mp2.length := mp2R.len1.symm
  have mp2Le := mp2R.le
  obtain rfl : np1N = np1.length := np1R.len1.symm
  have np1Le := np1R.le
  obtain rfl : np2N = np2.length := np2R.len1.symm
  have np2Le := np2R.le
  have hS := St.nil w
  have hS1 := St.rd0 hS rfl mp1R; clear hS
  have hS2 := St.rd0 hS1 rfl mp2R; clear hS1
  have hS3 := St.rd0 hS2 rfl np1R; clear hS2
  have hS4 := St.rd0 hS3 rfl np2R; clear hS3
  refine enter (args := [.agg #[.int .i64 mp0, .slice mp1A mp1.length mp1C, .slice mp2A mp2.length mp2C], .agg #[.int .i64 np0, .slice np1A np1.length np1C, .slice np2A np2.length np2C]]) Try.func92 rfl rfl ?_
  rw [Try.ntmps92]; intro a hE
  have hE := hE.sub (L' := [(0, .agg #[.int .i64 mp0, .slice mp1A mp1.length mp1C, .slice mp2A mp2.length mp2C]), (1, .agg #[.int .i64 np0, .slice np1A np1.length np1C, .slice np2A np2.length np2C])]) ⟨rfl, rfl, trivial⟩
  refine c_seq ?_
  refine c_reg ?_
  refine l_step hE rfl (l_box (v := .agg #[.int .i64 mp0, .slice mp1A mp1.length mp1C, .slice mp2A mp2.length mp2C]) (cs := #[.int .i64 mp0, .slice mp1A mp1.length mp1C, .slice mp2A mp2.length mp2C]) hS4 hE rfl rfl rfl ?_)
  intro b5 w6 hS9 he10 a7 hE8; clear hS4 hE
  refine l_step hE8 rfl (l_box (v := .agg #[.int .i64 np0, .slice np1A np1.length np1C, .slice np2A np2.length np2C]) (cs := #[.int .i64 np0, .slice np1A np1.length np1C, .slice np2A np2.length np2C]) hS9 hE8 rfl rfl rfl ?_)
  intro b11 w12 hS15 he16 a13 hE14; clear hS9 hE8
  refine q_step (v := .pointer none) hE14 (y_assign rfl) rfl rfl rfl ?_; intro a17 hE18; clear hE14
  refine c_nil ?_
  have hE19 := hE18.sub (L' := [(2, .pointer (some ⟨b5, 0, none⟩)), (3, .pointer (some ⟨b11, 0, none⟩))]) ⟨rfl, rfl, trivial⟩; clear hE18
  refine p_tn ?_
  refine c_seq ?_
  refine d_start (fun w w' => (fun w' => w'.heap[b5]? = some (.cells #[.int .i64 mp0, .slice mp1A mp1.length mp1C, .slice mp2A mp2.length mp2C] 32 (0, 0)) ∧ w'.heap[b11]? = some (.cells #[.int .i64 np0, .slice np1A np1.length np1C, .slice np2A np2.length np2C] 32 (0, 0)) ∧ w'.heap[b5]? = some (.cells #[.int .i64 mp0, .slice mp1A mp1.length mp1C, .slice mp2A mp2.length mp2C] 32 (0, 0)) ∧ w'.heap[b11]? = some (.cells #[.int .i64 np0, .slice np1A np1.length np1C, .slice np2A np2.length np2C] 32 (0, 0)) ∧ True) w → (fun w' => w'.heap[b5]? = some (.cells #[.int .i64 mp0, .slice mp1A mp1.length mp1C, .slice mp2A mp2.length mp2C] 32 (0, 0)) ∧ w'.heap[b11]? = some (.cells #[.int .i64 np0, .slice np1A np1.length np1C, .slice np2A np2.length np2C] 32 (0, 0)) ∧ w'.heap[b5]? = some (.cells #[.int .i64 mp0, .slice mp1A mp1.length mp1C, .slice mp2A mp2.length mp2C] 32 (0, 0)) ∧ w'.heap[b11]? = some (.cells #[.int .i64 np0, .slice np1A np1.length np1C, .slice np2A np2.length np2C] 32 (0, 0)) ∧ True) w') [0, 1, 2, 3] 8 (by kernel_rfl) rfl ?_
  intro w20 he21; have hS22 := St.go hS15 he21; clear hS15
  refine d_take (fun _ h => h) (fun _ _ h k => h k) (v := .agg #[.int .i64 mp0, .slice mp1A mp1.length mp1C, .slice mp2A mp2.length mp2C]) 0 rfl hE19 (S := fun w' => w'.heap[b5]? = some (.cells #[.int .i64 mp0, .slice mp1A mp1.length mp1C, .slice mp2A mp2.length mp2C] 32 (0, 0)) ∧ w'.heap[b11]? = some (.cells #[.int .i64 np0, .slice np1A np1.length np1C, .slice np2A np2.length np2C] 32 (0, 0)) ∧ w'.heap[b5]? = some (.cells #[.int .i64 mp0, .slice mp1A mp1.length mp1C, .slice mp2A mp2.length mp2C] 32 (0, 0)) ∧ w'.heap[b11]? = some (.cells #[.int .i64 np0, .slice np1A np1.length np1C, .slice np2A np2.length np2C] 32 (0, 0)) ∧ True) ⟨(St.row (i := 1) hS22 rfl _ (Ext.refl _)), (St.row (i := 0) hS22 rfl _ (Ext.refl _)), (St.row (i := 1) hS22 rfl _ (Ext.refl _)), (St.row (i := 0) hS22 rfl _ (Ext.refl _)), trivial⟩ (y_loadS Try.underlying32 rfl (by kernel_rfl) rfl (fun _ h => h.1)) rfl rfl (by kernel_rfl) (by kernel_rfl) (by kernel_rfl) (by kernel_rfl) rfl rfl (fun _ _ _ h => h) ?_; intro a23 hE24; clear hE19
  refine d_take (fun _ h => h) (fun _ _ h k => h k) (v := .agg #[.int .i64 np0, .slice np1A np1.length np1C, .slice np2A np2.length np2C]) 1 rfl hE24 (S := fun w' => w'.heap[b5]? = some (.cells #[.int .i64 mp0, .slice mp1A mp1.length mp1C, .slice mp2A mp2.length mp2C] 32 (0, 0)) ∧ w'.heap[b11]? = some (.cells #[.int .i64 np0, .slice np1A np1.length np1C, .slice np2A np2.length np2C] 32 (0, 0)) ∧ w'.heap[b5]? = some (.cells #[.int .i64 mp0, .slice mp1A mp1.length mp1C, .slice mp2A mp2.length mp2C] 32 (0, 0)) ∧ w'.heap[b11]? = some (.cells #[.int .i64 np0, .slice np1A np1.length np1C, .slice np2A np2.length np2C] 32 (0, 0)) ∧ True) ⟨(St.row (i := 1) hS22 rfl _ (Ext.refl _)), (St.row (i := 0) hS22 rfl _ (Ext.refl _)), (St.row (i := 1) hS22 rfl _ (Ext.refl _)), (St.row (i := 0) hS22 rfl _ (Ext.refl _)), trivial⟩ (y_loadS Try.underlying32 rfl (by kernel_rfl) rfl (fun _ h => h.2.1)) rfl rfl (by kernel_rfl) (by kernel_rfl) (by kernel_rfl) (by kernel_rfl) rfl rfl (fun _ _ _ h => h) ?_; intro a25 hE26; clear hE24
  refine d_take (fun _ h => h) (fun _ _ h k => h k) (v := .agg #[.int .i64 mp0, .slice mp1A mp1.length mp1C, .slice mp2A mp2.length mp2C]) 2 rfl hE26 (S := fun w' => w'.heap[b5]? = some (.cells #[.int .i64 mp0, .slice mp1A mp1.length mp1C, .slice mp2A mp2.length mp2C] 32 (0, 0)) ∧ w'.heap[b11]? = some (.cells #[.int .i64 np0, .slice np1A np1.length np1C, .slice np2A np2.length np2C] 32 (0, 0)) ∧ w'.heap[b5]? = some (.cells #[.int .i64 mp0, .slice mp1A mp1.length mp1C, .slice mp2A mp2.length mp2C] 32 (0, 0)) ∧ w'.heap[b11]? = some (.cells #[.int .i64 np0, .slice np1A np1.length np1C, .slice np2A np2.length np2C] 32 (0, 0)) ∧ True) ⟨(St.row (i := 1) hS22 rfl _ (Ext.refl _)), (St.row (i := 0) hS22 rfl _ (Ext.refl _)), (St.row (i := 1) hS22 rfl _ (Ext.refl _)), (St.row (i := 0) hS22 rfl _ (Ext.refl _)), trivial⟩ (y_loadS Try.underlying32 rfl (by kernel_rfl) rfl (fun _ h => h.2.2.1)) rfl rfl (by kernel_rfl) (by kernel_rfl) (by kernel_rfl) (by kernel_rfl) rfl rfl (fun _ _ _ h => h) ?_; intro a27 hE28; clear hE26
  refine d_take (fun _ h => h) (fun _ _ h k => h k) (v := .agg #[.int .i64 np0, .slice np1A np1.length np1C, .slice np2A np2.length np2C]) 3 rfl hE28 (S := fun w' => w'.heap[b5]? = some (.cells #[.int .i64 mp0, .slice mp1A mp1.length mp1C, .slice mp2A mp2.length mp2C] 32 (0, 0)) ∧ w'.heap[b11]? = some (.cells #[.int .i64 np0, .slice np1A np1.length np1C, .slice np2A np2.length np2C] 32 (0, 0)) ∧ w'.heap[b5]? = some (.cells #[.int .i64 mp0, .slice mp1A mp1.length mp1C, .slice mp2A mp2.length mp2C] 32 (0, 0)) ∧ w'.heap[b11]? = some (.cells #[.int .i64 np0, .slice np1A np1.length np1C, .slice np2A np2.length np2C] 32 (0, 0)) ∧ True) ⟨(St.row (i := 1) hS22 rfl _ (Ext.refl _)), (St.row (i := 0) hS22 rfl _ (Ext.refl _)), (St.row (i := 1) hS22 rfl _ (Ext.refl _)), (St.row (i := 0) hS22 rfl _ (Ext.refl _)), trivial⟩ (y_loadS Try.underlying32 rfl (by kernel_rfl) rfl (fun _ h => h.2.2.2.1)) rfl rfl (by kernel_rfl) (by kernel_rfl) (by kernel_rfl) (by kernel_rfl) rfl rfl (fun _ _ _ h => h) ?_; intro a29 hE30; clear hE28
  refine d_only 4 (by kernel_rfl) rfl hE30 rfl (l_call (f := 88) (argv := [.agg #[.int .i64 mp0, .slice mp1A mp1.length mp1C, .slice mp2A mp2.length mp2C], .agg #[.int .i64 np0, .slice np1A np1.length np1C, .slice np2A np2.length np2C], .int .i64 16]) hE30 (fun _ => cf_bounded _ _) rfl rfl (c_bounded mp0 mp1A mp1.length mp1C mp1 mp2A mp2.length mp2C mp2 np0 np1A np1.length np1C np1 np2A np2.length np2C np2 16 w20 (St.rdR (i := 5) hS22 rfl) (St.rdR (i := 4) hS22 rfl) (St.rdR (i := 3) hS22 rfl) (St.rdR (i := 2) hS22 rfl) (by omega) (by omega) (by omega) (by omega) (by omega) (by omega) (by omega) (by omega)) ?_)
  rintro _ w32 ⟨b37, c38, h39, rfl, ho40, he36⟩ a33 hE34; clear hE30
  have hS35 := St.ownN hS22 he36 ho40; clear hS22
  refine ⟨fun _ _ => ⟨(St.row (i := 2) hS35 rfl _ (Ext.refl _)), (St.row (i := 1) hS35 rfl _ (Ext.refl _)), (St.row (i := 2) hS35 rfl _ (Ext.refl _)), (St.row (i := 1) hS35 rfl _ (Ext.refl _)), trivial⟩, ?_⟩
  refine d_pure (fun _ h => h) (v := .agg #[.int .i64 mp0, .slice mp1A mp1.length mp1C, .slice mp2A mp2.length mp2C, .int .i64 np0, .slice np1A np1.length np1C, .slice np2A np2.length np2C, .slice b37 ((F_bounded mp0 mp1 mp2 np0 np1 np2 16).length) c38]) 5 rfl hE34 (y_build (vs := #[(0, .agg #[.int .i64 mp0, .slice mp1A mp1.length mp1C, .slice mp2A mp2.length mp2C]), (1, .agg #[.int .i64 np0, .slice np1A np1.length np1C, .slice np2A np2.length np2C]), (2, .slice b37 ((F_bounded mp0 mp1 mp2 np0 np1 np2 16).length) c38)]) (fun a n hE => by simp only [hE.eval (x := .tmp 5) (v := .agg #[.int .i64 mp0, .slice mp1A mp1.length mp1C, .slice mp2A mp2.length mp2C]) rfl, hE.eval (x := .tmp 6) (v := .agg #[.int .i64 np0, .slice np1A np1.length np1C, .slice np2A np2.length np2C]) rfl, hE.eval (x := .tmp 9) (v := .slice b37 ((F_bounded mp0 mp1 mp2 np0 np1 np2 16).length) c38) rfl, List.map_toArray, List.map_cons, List.map_nil]) (fun _ => by kernel_rfl)) rfl (by kernel_rfl) (by kernel_rfl) (by kernel_rfl) rfl rfl (fun _ _ _ h => h) ?_; intro a41 hE42; clear hE34
  refine d_only 6 (by kernel_rfl) rfl hE42 rfl (l_box (v := .agg #[.int .i64 mp0, .slice mp1A mp1.length mp1C, .slice mp2A mp2.length mp2C, .int .i64 np0, .slice np1A np1.length np1C, .slice np2A np2.length np2C, .slice b37 ((F_bounded mp0 mp1 mp2 np0 np1 np2 16).length) c38]) (cs := #[.int .i64 mp0, .slice mp1A mp1.length mp1C, .slice mp2A mp2.length mp2C, .int .i64 np0, .slice np1A np1.length np1C, .slice np2A np2.length np2C, .slice b37 ((F_bounded mp0 mp1 mp2 np0 np1 np2 16).length) c38]) hS35 hE42 rfl rfl rfl ?_)
  intro b43 w44 hS47 he48 a45 hE46; clear hS35 hE42
  refine ⟨fun h => Bool.noConfusion (h.symm.trans (show exm _ _ _ = true by kernel_rfl)), ?_⟩
  refine d_pure (fun _ h => h) (v := .pointer (some ⟨b43, 0, none⟩)) 7 rfl hE46 (y_assign rfl) rfl (by kernel_rfl) (by kernel_rfl) (by kernel_rfl) rfl rfl (fun _ _ _ h => h) ?_; intro a49 hE50; clear hE46
  refine d_done (by kernel_rfl) ?_
  have hE51 := hE50.sub (L' := [(4, .pointer (some ⟨b43, 0, none⟩))]) ⟨rfl, trivial⟩; clear hE50
  refine p_tn ?_
  refine wp_ret ?_
  have hF : F_newTeller mp0 mp1 mp2 np0 np1 np2 = (mp0, mp1, mp2, np0, np1, np2, F_bounded mp0 mp1 mp2 np0 np1 np2 16) := by unfold F_newTeller; rfl
  refine c_ret1 hE51 rfl rfl ?_
  exact ⟨b43, b37, c38, h39, rfl, (by rw [hF]; (try dsimp only); exact (St.pick (Γ' := [.blk b43 #[.int .i64 mp0, .slice mp1A mp1.length mp1C, .slice mp2A mp2.length mp2C, .int .i64 np0, .slice np1A np1.length np1C, .slice np2A np2.length np2C, .slice b37 ((F_bounded mp0 mp1 mp2 np0 np1 np2 16).length) c38] 138, .nest 22 1 (some 2) b37 c38 h39 (F_bounded mp0 mp1 mp2 np0 np1 np2 16)]) hS47 [0, 1] (by decide) rfl))⟩

def F_teller_rounds_k1 (lp : List Int) (cap0 : Int) (cap1 : Int) : Bool :=
  (!(F_has (gI lp cap0) cap1))
theorem cf_teller_rounds_k1 (args : Array Value) (w : World) : (callFunc 161 args).run Try.prog w = .ok (.enter 161 args) w := by kernel_rfl
set_option maxRecDepth 100000 in
theorem c_teller_rounds_k1 (lpA : Option Addr) (lpN lpC : Nat) (lp : List Int) (cap0B : Nat) (cap0 : Int) (cap1B : Nat) (cap1 : Int) (w : World) (lpR : RdS w 1 lpA lpN lpC lp) (cap0H : w.heap[cap0B]? = some (.cells #[.int .i64 cap0] 2 (0, 0))) (cap1H : w.heap[cap1B]? = some (.cells #[.int .i64 cap1] 2 (0, 0))) (h0 : 0 ≤ cap0) (h1 : cap0 < (lp.length : Int)) (h2 : 0 ≤ cap1) :
    Calls Try.prog 161 #[.slice lpA lpN lpC, .pointer (some ⟨cap0B, 0, none⟩), .pointer (some ⟨cap1B, 0, none⟩)] w (Ret fun v w' => v = .bool (F_teller_rounds_k1 lp cap0 cap1) ∧ Ext w w') := by
  obtain rfl : lpN = lp.length := lpR.len1.symm
  have lpLe := lpR.le
  have hS := St.nil w
  have hS1 := St.rd0 hS rfl lpR; clear hS
  have hS2 := St.rb0 hS1 rfl cap0H; clear hS1
  have hS3 := St.rb0 hS2 rfl cap1H; clear hS2
  refine enter (args := [.slice lpA lp.length lpC, .pointer (some ⟨cap0B, 0, none⟩), .pointer (some ⟨cap1B, 0, none⟩)]) Try.func161 rfl rfl ?_
  rw [Try.ntmps161]; intro a hE
  have hE := hE.sub (L' := [(0, .slice lpA lp.length lpC), (1, .pointer (some ⟨cap0B, 0, none⟩)), (2, .pointer (some ⟨cap1B, 0, none⟩))]) ⟨rfl, rfl, rfl, trivial⟩
  refine c_seq ?_
  refine c_reg ?_
  refine q_step (v := .bool false) hE (y_assign rfl) rfl rfl rfl ?_; intro a4 hE5; clear hE
  refine c_nil ?_
  have hE6 := hE5.sub (L' := [(0, .slice lpA lp.length lpC), (1, .pointer (some ⟨cap0B, 0, none⟩)), (2, .pointer (some ⟨cap1B, 0, none⟩))]) ⟨rfl, rfl, rfl, trivial⟩; clear hE5
  refine p_tn ?_
  refine c_seq ?_
  refine d_start (fun w w' => (fun w' => w'.cell? ⟨cap0B, 0, none⟩ = some (.int .i64 cap0) ∧ w'.cell? (adr lpA (Int.toNat cap0)) = some (.int .i64 (gI lp cap0)) ∧ w'.cell? ⟨cap1B, 0, none⟩ = some (.int .i64 cap1) ∧ True) w → (fun w' => w'.cell? ⟨cap0B, 0, none⟩ = some (.int .i64 cap0) ∧ w'.cell? (adr lpA (Int.toNat cap0)) = some (.int .i64 (gI lp cap0)) ∧ w'.cell? ⟨cap1B, 0, none⟩ = some (.int .i64 cap1) ∧ True) w') [1, 3, 4] 8 (by kernel_rfl) rfl ?_
  intro w7 he8; have hS9 := St.go hS3 he8; clear hS3
  refine d_pure (fun _ h => h) (v := .slice lpA lp.length lpC) 0 rfl hE6 (y_move rfl) rfl (by kernel_rfl) (by kernel_rfl) (by kernel_rfl) rfl rfl (fun _ _ _ h => h) ?_; intro a10 hE11; clear hE6
  refine d_take (fun _ h => h) (fun _ _ h k => h k) (v := .int .i64 cap0) 1 rfl hE11 (S := fun w' => w'.cell? ⟨cap0B, 0, none⟩ = some (.int .i64 cap0) ∧ w'.cell? (adr lpA (Int.toNat cap0)) = some (.int .i64 (gI lp cap0)) ∧ w'.cell? ⟨cap1B, 0, none⟩ = some (.int .i64 cap1) ∧ True) ⟨(St.cellR (i := 1) hS9 rfl rfl _ (Ext.refl _)), (RdS.elt (St.rdR (i := 2) hS9 rfl) (by omega) (by omega) _ (Ext.refl _)), (St.cellR (i := 0) hS9 rfl rfl _ (Ext.refl _)), trivial⟩ (y_load (fun _ => by kernel_rfl) rfl (fun _ h => h.1)) rfl rfl (by kernel_rfl) (by kernel_rfl) (by kernel_rfl) (by kernel_rfl) rfl rfl (fun _ _ _ h => h) ?_; intro a12 hE13; clear hE11
  refine d_pure (fun _ h => h) (v := .pointer (some (adr lpA (Int.toNat cap0)))) 2 rfl hE13 (y_idx (by kernel_rfl) (fun _ => by kernel_rfl) rfl rfl (RdS.isS (m := cap0) (St.rdR (i := 2) hS9 rfl) (by omega) (by omega)) (by omega) (by omega) (Nat.mul_one _).symm) rfl (by kernel_rfl) (by kernel_rfl) (by kernel_rfl) rfl rfl (fun _ _ _ h => h) ?_; intro a14 hE15; clear hE13
  refine d_take (fun _ h => h) (fun _ _ h k => h k) (v := .int .i64 (gI lp cap0)) 3 rfl hE15 (S := fun w' => w'.cell? ⟨cap0B, 0, none⟩ = some (.int .i64 cap0) ∧ w'.cell? (adr lpA (Int.toNat cap0)) = some (.int .i64 (gI lp cap0)) ∧ w'.cell? ⟨cap1B, 0, none⟩ = some (.int .i64 cap1) ∧ True) ⟨(St.cellR (i := 1) hS9 rfl rfl _ (Ext.refl _)), (RdS.elt (St.rdR (i := 2) hS9 rfl) (by omega) (by omega) _ (Ext.refl _)), (St.cellR (i := 0) hS9 rfl rfl _ (Ext.refl _)), trivial⟩ (y_load (fun _ => by kernel_rfl) rfl (fun _ h => h.2.1)) rfl rfl (by kernel_rfl) (by kernel_rfl) (by kernel_rfl) (by kernel_rfl) rfl rfl (fun _ _ _ h => h) ?_; intro a16 hE17; clear hE15
  refine d_take (fun _ h => h) (fun _ _ h k => h k) (v := .int .i64 cap1) 4 rfl hE17 (S := fun w' => w'.cell? ⟨cap0B, 0, none⟩ = some (.int .i64 cap0) ∧ w'.cell? (adr lpA (Int.toNat cap0)) = some (.int .i64 (gI lp cap0)) ∧ w'.cell? ⟨cap1B, 0, none⟩ = some (.int .i64 cap1) ∧ True) ⟨(St.cellR (i := 1) hS9 rfl rfl _ (Ext.refl _)), (RdS.elt (St.rdR (i := 2) hS9 rfl) (by omega) (by omega) _ (Ext.refl _)), (St.cellR (i := 0) hS9 rfl rfl _ (Ext.refl _)), trivial⟩ (y_load (fun _ => by kernel_rfl) rfl (fun _ h => h.2.2.1)) rfl rfl (by kernel_rfl) (by kernel_rfl) (by kernel_rfl) (by kernel_rfl) rfl rfl (fun _ _ _ h => h) ?_; intro a18 hE19; clear hE17
  refine d_only 5 (by kernel_rfl) rfl hE19 rfl (l_call (f := 155) (argv := [.int .i64 (gI lp cap0), .int .i64 cap1]) hE19 (fun _ => cf_has _ _) rfl rfl (c_has (gI lp cap0) cap1 w7 (by omega)) ?_)
  rintro _ _ ⟨rfl, rfl⟩ a22 hE23; clear hE19
  refine ⟨fun h => Bool.noConfusion (h.symm.trans (show exm _ _ _ = true by kernel_rfl)), ?_⟩
  refine d_pure (fun _ h => h) (v := .bool (!(F_has (gI lp cap0) cap1))) 6 rfl hE23 (y_not rfl) rfl (by kernel_rfl) (by kernel_rfl) (by kernel_rfl) rfl rfl (fun _ _ _ h => h) ?_; intro a26 hE27; clear hE23
  refine d_pure (fun _ h => h) (v := .bool (!(F_has (gI lp cap0) cap1))) 7 rfl hE27 (y_assign rfl) rfl (by kernel_rfl) (by kernel_rfl) (by kernel_rfl) rfl rfl (fun _ _ _ h => h) ?_; intro a28 hE29; clear hE27
  refine d_done (by kernel_rfl) ?_
  have hE30 := hE29.sub (L' := [(4, .bool (!(F_has (gI lp cap0) cap1)))]) ⟨rfl, trivial⟩; clear hE29
  refine p_tn ?_
  refine wp_ret ?_
  have hF : F_teller_rounds_k1 lp cap0 cap1 = (!(F_has (gI lp cap0) cap1)) := by unfold F_teller_rounds_k1; rfl
  refine c_ret1 hE30 rfl rfl ?_
  exact ⟨(by rw [hF]; first | done | (dsimp only; done) | rfl), hS9.ext⟩

def F_z_IndexFuncS_L1b (sp : List (List Int)) (fp : List Int → Bool) (rec : Int → Except (Int) (Int)) (t8 : Int) : Except (Int) (Int) :=
  bif (decide (t8 < ((sp).length : Int))) then (bif (fp (gL sp t8)) then (.error t8) else (rec (t8 + 1))) else (.ok t8)
def F_z_IndexFuncS_L1 (sp : List (List Int)) (fp : List Int → Bool) : Nat → Int → Except (Int) (Int)
  | 0, t8 => .ok t8
  | r + 1, t8 => F_z_IndexFuncS_L1b sp fp (F_z_IndexFuncS_L1 sp fp r) t8
def F_z_IndexFuncS (sp : List (List Int)) (fp : List Int → Bool) : Int :=
  bif (isOk (F_z_IndexFuncS_L1 sp fp (Int.toNat (((sp).length : Int) - 0) + 1) 0)) then (-1) else (errD (F_z_IndexFuncS_L1 sp fp (Int.toNat (((sp).length : Int) - 0) + 1) 0))
theorem cf_z_IndexFuncS (args : Array Value) (w : World) : (callFunc 160 args).run Try.prog w = .ok (.enter 160 args) w := by kernel_rfl
set_option maxRecDepth 100000 in
theorem c_z_IndexFuncS (spA : Option Addr) (spN spC : Nat) (spQ : List Hd) (sp : List (List Int)) (fpF : FuncId) (fpC : List Value) (fp : List Int → Bool) (fpD : List Int → Prop) (w : World) (spR : RdN w 1 spA spN spC spQ sp) (fpE : ∀ args w, (callFunc fpF args).run Try.prog w = .ok (.enter fpF args) w) (fpH : ∀ (x0A : Option Addr) (x0N x0C : Nat) (x0 : List Int) (w' : World), fpD x0 → Ext w w' → RdS w' 1 x0A x0N x0C x0 → Calls Try.prog fpF (([.slice x0A x0N x0C] ++ fpC : List Value).toArray) w' (Ret fun v w'' => v = .bool (fp x0) ∧ Ext w' w'')) (fpDom : ∀ m : Int, 0 ≤ m → m < (sp.length : Int) → fpD (gL sp m)) :
    Calls Try.prog 160 #[.slice spA spN spC, .func (.func fpF) #[] fpC.toArray] w (Ret fun v w' => v = .int .i64 (F_z_IndexFuncS sp fp) ∧ Ext w w') := by
  obtain rfl : spN = sp.length := spR.len
  have spLe := spR.le
  have hS := St.nil w
  have hS1 := St.rdn0 hS rfl spR; clear hS
  refine enter (args := [.slice spA ((sp).length) spC, .func (.func fpF) #[] fpC.toArray]) Try.func160 rfl rfl ?_
  rw [Try.ntmps160]; intro a hE
  have hE := hE.sub (L' := [(0, .slice spA ((sp).length) spC), (1, .func (.func fpF) #[] fpC.toArray)]) ⟨rfl, rfl, trivial⟩
  refine c_seq ?_
  refine c_reg ?_
  refine q_step (v := .int .i64 0) hE (y_assign rfl) rfl rfl rfl ?_; intro a2 hE3; clear hE
  refine c_nil ?_
  have hE4 := hE3.sub (L' := [(0, .slice spA ((sp).length) spC), (1, .func (.func fpF) #[] fpC.toArray)]) ⟨rfl, rfl, trivial⟩; clear hE3
  refine p_tn ?_
  refine c_seq ?_
  refine c_seq ?_
  refine c_reg ?_
  refine q_step (v := .slice spA ((sp).length) spC) hE4 (y_move rfl) rfl rfl rfl ?_; intro a5 hE6; clear hE4
  refine q_step (v := .int .i64 ((sp).length : Int)) hE6 (y_len (e := 22) (by kernel_rfl) rfl) rfl rfl rfl ?_; intro a7 hE8; clear hE6
  refine q_step (v := .int .i64 0) hE8 (y_move rfl) rfl rfl rfl ?_; intro a9 hE10; clear hE8
  refine c_nil ?_
  have hE11 := hE10.sub (L' := [(0, .slice spA ((sp).length) spC), (1, .func (.func fpF) #[] fpC.toArray), (7, .int .i64 ((sp).length : Int)), (8, .int .i64 0)]) ⟨rfl, rfl, rfl, rfl, trivial⟩; clear hE10
  refine p_tn ?_
  refine c_cut1 (fun a' w' => isOk (F_z_IndexFuncS_L1 sp fp (Int.toNat (((sp).length : Int) - 0) + 1) 0) = true ∧ (0 ≤ (okD (F_z_IndexFuncS_L1 sp fp (Int.toNat (((sp).length : Int) - 0) + 1) 0))) ∧ ((okD (F_z_IndexFuncS_L1 sp fp (Int.toNat (((sp).length : Int) - 0) + 1) 0)) ≤ ((sp).length : Int)) ∧ E a' 19 [(0, .slice spA ((sp).length) spC), (1, .func (.func fpF) #[] fpC.toArray), (7, .int .i64 ((sp).length : Int)), (8, .int .i64 (okD (F_z_IndexFuncS_L1 sp fp (Int.toNat (((sp).length : Int) - 0) + 1) 0)))] ∧ St w w' [.rdn 1 spA ((sp).length) spC spQ sp]) ?_ ?_
  ·
    refine wp_block ?_
    refine c_loop (fun r a' w' => ∃ t8 : Int, F_z_IndexFuncS_L1 sp fp r t8 = F_z_IndexFuncS_L1 sp fp (Int.toNat (((sp).length : Int) - 0) + 1) 0 ∧ Int.toNat (((sp).length : Int) - t8) < r ∧ (0 ≤ t8) ∧ (t8 ≤ ((sp).length : Int)) ∧ E a' 19 [(0, .slice spA ((sp).length) spC), (1, .func (.func fpF) #[] fpC.toArray), (7, .int .i64 ((sp).length : Int)), (8, .int .i64 t8)] ∧ St w w' [.rdn 1 spA ((sp).length) spC spQ sp]) (r := (Int.toNat (((sp).length : Int) - 0) + 1)) ?_ ?_
    · exact ⟨0, rfl, Nat.lt_succ_self _, (by first | omega | (simp only [sS_len, sL_len]; omega) | (simp only [List.length_replicate, sI_len]; omega) | (simp only [List.length_append, List.length_cons, List.length_nil, sI_len, cond_true, cond_false]; omega) | (simp only [List.length_append, List.length_cons, List.length_nil, sI_len, cond_eq_ite, apply_ite List.length]; split <;> simp only [List.length_append, List.length_cons, List.length_nil, sI_len] <;> omega) | grind), (by first | omega | (simp only [sS_len, sL_len]; omega) | (simp only [List.length_replicate, sI_len]; omega) | (simp only [List.length_append, List.length_cons, List.length_nil, sI_len, cond_true, cond_false]; omega) | (simp only [List.length_append, List.length_cons, List.length_nil, sI_len, cond_eq_ite, apply_ite List.length]; split <;> simp only [List.length_append, List.length_cons, List.length_nil, sI_len] <;> omega) | grind), (hE11.sub (L' := [(0, .slice spA ((sp).length) spC), (1, .func (.func fpF) #[] fpC.toArray), (7, .int .i64 ((sp).length : Int)), (8, .int .i64 0)]) ⟨rfl, rfl, rfl, rfl, trivial⟩), (St.pick (Γ' := [.rdn 1 spA ((sp).length) spC spQ sp]) hS1 [0] (by decide) rfl)⟩
    ·
      clear hE11 hS1
      rintro r21 a13 w14 ⟨t8, hT17, hr18, hi19, hi20, hE15, hS16⟩
      obtain ⟨r21, rfl⟩ : ∃ r', r21 = r' + 1 := ⟨r21 - 1, by omega⟩
      refine c_seq ?_
      refine c_reg ?_
      refine q_step (v := .bool (decide (t8 < ((sp).length : Int)))) hE15 (y_lss rfl rfl) rfl rfl rfl ?_; intro a22 hE23; clear hE15
      refine c_nil ?_
      have hE24 := hE23.sub (L' := [(0, .slice spA ((sp).length) spC), (1, .func (.func fpF) #[] fpC.toArray), (7, .int .i64 ((sp).length : Int)), (8, .int .i64 t8), (9, .bool (decide (t8 < ((sp).length : Int))))]) ⟨rfl, rfl, rfl, rfl, rfl, trivial⟩; clear hE23
      refine p_tn ?_
      refine c_seq ?_
      refine c_cond hE24 rfl (fun ht25 => ?_) (fun ht25 => ?_)
      ·
        have hp26 := of_decide_eq_true ht25
        have hE27 := hE24; rw [ht25] at hE27; clear hE24
        refine wp_skip ?_
        refine p_tn ?_
        refine c_seq ?_
        refine wp_block ?_
        refine c_seq ?_
        refine c_reg ?_
        refine q_step (v := .int .i64 t8) hE27 (y_move rfl) rfl rfl rfl ?_; intro a28 hE29; clear hE27
        refine q_step (v := .int .i64 t8) hE29 (y_assign rfl) rfl rfl rfl ?_; intro a30 hE31; clear hE29
        refine c_nil ?_
        have hE32 := hE31.sub (L' := [(0, .slice spA ((sp).length) spC), (1, .func (.func fpF) #[] fpC.toArray), (5, .int .i64 t8), (7, .int .i64 ((sp).length : Int)), (8, .int .i64 t8)]) ⟨rfl, rfl, rfl, rfl, rfl, trivial⟩; clear hE31
        refine p_tn ?_
        refine c_seq ?_
        refine c_reg ?_
        refine q_step (v := .func (.func fpF) #[] fpC.toArray) hE32 (y_move rfl) rfl rfl rfl ?_; intro a33 hE34; clear hE32
        refine q_step (v := .slice spA ((sp).length) spC) hE34 (y_move rfl) rfl rfl rfl ?_; intro a35 hE36; clear hE34
        refine q_step (v := .int .i64 t8) hE36 (y_move rfl) rfl rfl rfl ?_; intro a37 hE38; clear hE36
        refine q_step (v := .pointer (some (adr spA (Int.toNat t8)))) hE38 (y_idx (by kernel_rfl) (fun _ => by kernel_rfl) rfl rfl (RdN.isS (m := t8) (St.rdNr (i := 0) hS16 rfl) (by omega) (by omega)) (by omega) (by omega) (Nat.mul_one _).symm) rfl rfl rfl ?_; intro a39 hE40; clear hE38
        have hv41 : (0 : Int) ≤ t8 ∧ t8 < (((sp).length) : Int) := ⟨(by omega), (by omega)⟩
        refine q_step (v := .slice (hdA spQ t8) ((gL sp t8).length) (hdC spQ t8)) hE40 (y_load (fun _ => by kernel_rfl) rfl (RdN.elt1 (St.rdNr (i := 0) hS16 rfl) (by omega) (by omega))) rfl rfl rfl ?_; intro a43 hE44; clear hE40
        refine l_step hE44 rfl (l_callv (f := fpF) (caps := fpC) (argv := [.slice (hdA spQ t8) ((gL sp t8).length) (hdC spQ t8)]) hE44 rfl (fun _ => fpE _ _) rfl rfl (fpH (hdA spQ t8) ((gL sp t8).length) (hdC spQ t8) (gL sp t8) w14 (fpDom t8 (by omega) (by omega)) hS16.ext (RdN.row1 (St.rdNr (i := 0) hS16 rfl) hv41.1 hv41.2)) ?_)
        rintro _ w46 ⟨rfl, he50⟩ a47 hE48; clear hE44
        have hS49 := St.go hS16 he50; clear hS16
        refine c_nil ?_
        have hE51 := hE48.sub (L' := [(0, .slice spA ((sp).length) spC), (1, .func (.func fpF) #[] fpC.toArray), (5, .int .i64 t8), (7, .int .i64 ((sp).length : Int)), (8, .int .i64 t8), (16, .bool (fp (gL sp t8)))]) ⟨rfl, rfl, rfl, rfl, rfl, rfl, trivial⟩; clear hE48
        refine p_tn ?_
        refine c_cond hE51 rfl (fun ht52 => ?_) (fun ht52 => ?_)
        ·
          have hE53 := hE51; rw [ht52] at hE53; clear hE51
          refine c_seq ?_
          refine c_reg ?_
          refine q_step (v := .int .i64 t8) hE53 (y_move rfl) rfl rfl rfl ?_; intro a54 hE55; clear hE53
          refine q_step (v := .int .i64 t8) hE55 (y_assign rfl) rfl rfl rfl ?_; intro a56 hE57; clear hE55
          refine c_nil ?_
          have hE58 := hE57.sub (L' := [(4, .int .i64 t8)]) ⟨rfl, trivial⟩; clear hE57
          refine p_tn ?_
          refine wp_ret ?_
          refine p_br ?_
          refine p_tr ?_
          have hX59 : F_z_IndexFuncS_L1 sp fp (Int.toNat (((sp).length : Int) - 0) + 1) 0 = .error t8 := hT17.symm.trans (show F_z_IndexFuncS_L1b sp fp (F_z_IndexFuncS_L1 sp fp r21) t8 = .error t8 by unfold F_z_IndexFuncS_L1b; rw [ht52, ht25]; first | done | rfl)
          refine p_tr (p_br (p_tr ?_))
          refine p_tr ?_
          have hF : F_z_IndexFuncS sp fp = t8 := by unfold F_z_IndexFuncS; rw [hX59]; first | done | rfl
          refine c_ret1 hE58 rfl rfl ?_
          exact ⟨(by rw [hF]; first | done | (dsimp only; done) | rfl), hS49.ext⟩
        ·
          have hE60 := hE51; rw [ht52] at hE60; clear hE51
          refine wp_skip ?_
          refine p_bn ?_
          refine p_tn ?_
          refine c_reg ?_
          refine q_step (v := .int .i64 (t8 + 1)) hE60 (y_add rfl rfl ⟨(by omega), (by omega)⟩) rfl rfl rfl ?_; intro a61 hE62; clear hE60
          refine q_step (v := .int .i64 (t8 + 1)) hE62 (y_move rfl) rfl rfl rfl ?_; intro a63 hE64; clear hE62
          refine c_nil ?_
          have hE65 := hE64.sub (L' := [(0, .slice spA ((sp).length) spC), (1, .func (.func fpF) #[] fpC.toArray), (7, .int .i64 ((sp).length : Int)), (8, .int .i64 (t8 + 1))]) ⟨rfl, rfl, rfl, rfl, trivial⟩; clear hE64
          refine p_tn ⟨r21, Nat.lt_succ_self _, t8 + 1, (hT17.symm.trans (show F_z_IndexFuncS_L1b sp fp (F_z_IndexFuncS_L1 sp fp r21) t8 = F_z_IndexFuncS_L1 sp fp r21 (t8 + 1) by unfold F_z_IndexFuncS_L1b; rw [ht52, ht25]; first | done | rfl)).symm, (by omega), (by first | omega | (simp only [sS_len, sL_len]; omega) | (simp only [List.length_replicate, sI_len]; omega) | (simp only [List.length_append, List.length_cons, List.length_nil, sI_len, cond_true, cond_false]; omega) | (simp only [List.length_append, List.length_cons, List.length_nil, sI_len, cond_eq_ite, apply_ite List.length]; split <;> simp only [List.length_append, List.length_cons, List.length_nil, sI_len] <;> omega) | grind), (by first | omega | (simp only [sS_len, sL_len]; omega) | (simp only [List.length_replicate, sI_len]; omega) | (simp only [List.length_append, List.length_cons, List.length_nil, sI_len, cond_true, cond_false]; omega) | (simp only [List.length_append, List.length_cons, List.length_nil, sI_len, cond_eq_ite, apply_ite List.length]; split <;> simp only [List.length_append, List.length_cons, List.length_nil, sI_len] <;> omega) | grind), (hE65.sub (L' := [(0, .slice spA ((sp).length) spC), (1, .func (.func fpF) #[] fpC.toArray), (7, .int .i64 ((sp).length : Int)), (8, .int .i64 (t8 + 1))]) ⟨rfl, rfl, rfl, rfl, trivial⟩), (St.pick (Γ' := [.rdn 1 spA ((sp).length) spC spQ sp]) hS49 [0] (by decide) rfl)⟩
      ·
        have hp66 := of_decide_eq_false ht25
        have hE67 := hE24; rw [ht25] at hE67; clear hE24
        refine wp_exit ?_
        refine p_te ?_
        have hX68 : F_z_IndexFuncS_L1 sp fp (Int.toNat (((sp).length : Int) - 0) + 1) 0 = .ok t8 := hT17.symm.trans (show F_z_IndexFuncS_L1b sp fp (F_z_IndexFuncS_L1 sp fp r21) t8 = .ok t8 by unfold F_z_IndexFuncS_L1b; rw [ht25]; first | done | rfl)
        refine p_te (p_be (p_tn ?_))
        exact ⟨(by rw [hX68]; rfl), (by rw [hX68]; exact (show 0 ≤ t8 from (by first | omega | (simp only [sS_len, sL_len]; omega) | (simp only [List.length_replicate, sI_len]; omega) | (simp only [List.length_append, List.length_cons, List.length_nil, sI_len, cond_true, cond_false]; omega) | (simp only [List.length_append, List.length_cons, List.length_nil, sI_len, cond_eq_ite, apply_ite List.length]; split <;> simp only [List.length_append, List.length_cons, List.length_nil, sI_len] <;> omega) | grind))), (by rw [hX68]; exact (show t8 ≤ ((sp).length : Int) from (by first | omega | (simp only [sS_len, sL_len]; omega) | (simp only [List.length_replicate, sI_len]; omega) | (simp only [List.length_append, List.length_cons, List.length_nil, sI_len, cond_true, cond_false]; omega) | (simp only [List.length_append, List.length_cons, List.length_nil, sI_len, cond_eq_ite, apply_ite List.length]; split <;> simp only [List.length_append, List.length_cons, List.length_nil, sI_len] <;> omega) | grind))), (by rw [hX68]; exact (hE67.sub (L' := [(0, .slice spA ((sp).length) spC), (1, .func (.func fpF) #[] fpC.toArray), (7, .int .i64 ((sp).length : Int)), (8, .int .i64 t8)]) ⟨rfl, rfl, rfl, rfl, trivial⟩)), (St.pick (Γ' := [.rdn 1 spA ((sp).length) spC spQ sp]) hS16 [0] (by decide) rfl)⟩
  ·
    rintro a69 w70 ⟨hO73, hi74, hi75, hE71, hS72⟩; clear hE11 hS1
    refine p_tn ?_
    refine c_seq ?_
    refine c_reg ?_
    refine q_step (v := .int .i64 (-1)) hE71 (y_assign rfl) rfl rfl rfl ?_; intro a76 hE77; clear hE71
    refine c_nil ?_
    have hE78 := hE77.sub (L' := [(4, .int .i64 (-1))]) ⟨rfl, trivial⟩; clear hE77
    refine p_tn ?_
    refine wp_ret ?_
    have hF : F_z_IndexFuncS sp fp = -1 := by unfold F_z_IndexFuncS; rw [hO73]; first | done | rfl
    refine c_ret1 hE78 rfl rfl ?_
    exact ⟨(by rw [hF]; first | done | (dsimp only; done) | rfl), hS72.ext⟩

def F_teller_rounds (tp0 : Int) (tp1 : List Int) (tp2 : List Int) (tp3 : Int) (tp4 : List Int) (tp5 : List Int) (tp6 : List (List Int)) (xp : Int) (yp : Int) : Int :=
  F_z_IndexFuncS tp6 (fun x0 => F_teller_rounds_k1 x0 xp yp)
theorem cf_teller_rounds (args : Array Value) (w : World) : (callFunc 93 args).run Try.prog w = .ok (.enter 93 args) w := by kernel_rfl
set_option maxRecDepth 100000 in
theorem c_teller_rounds (tpB : Nat) (tp0 : Int) (tp1A : Option Addr) (tp1N tp1C : Nat) (tp1 : List Int) (tp2A : Option Addr) (tp2N tp2C : Nat) (tp2 : List Int) (tp3 : Int) (tp4A : Option Addr) (tp4N tp4C : Nat) (tp4 : List Int) (tp5A : Option Addr) (tp5N tp5C : Nat) (tp5 : List Int) (tp6A : Option Addr) (tp6N tp6C : Nat) (tp6Q : List Hd) (tp6 : List (List Int)) (xp : Int) (yp : Int) (w : World) (tp1R : RdS w 1 tp1A tp1N tp1C tp1) (tp2R : RdS w 1 tp2A tp2N tp2C tp2) (tp4R : RdS w 1 tp4A tp4N tp4C tp4) (tp5R : RdS w 1 tp5A tp5N tp5C tp5) (tp6R : RdN w 1 tp6A tp6N tp6C tp6Q tp6) (tpH : w.heap[tpB]? = some (.cells #[.int .i64 tp0, .slice tp1A tp1N tp1C, .slice tp2A tp2N tp2C, .int .i64 tp3, .slice tp4A tp4N tp4C, .slice tp5A tp5N tp5C, .slice tp6A tp6N tp6C] 138 (0, 0))) (h0 : 0 ≤ xp) (h2 : 0 ≤ yp) (hx : ∀ r : Int, 0 ≤ r → r < (tp6.length : Int) → xp < ((gL tp6 r).length : Int)) :
    Calls Try.prog 93 #[.pointer (some ⟨tpB, 0, none⟩), .int .i64 xp, .int .i64 yp] w (Ret fun v w' => v = .int .i64 (F_teller_rounds tp0 tp1 tp2 tp3 tp4 tp5 tp6 xp yp) ∧ Ext w w') := by
  obtain rfl : tp1N = tp1.length := tp1R.len1.symm
  have tp1Le := tp1R.le
  obtain rfl : tp2N = tp2.length := tp2R.len1.symm
  have tp2Le := tp2R.le
  obtain rfl : tp4N = tp4.length := tp4R.len1.symm
  have tp4Le := tp4R.le
  obtain rfl : tp5N = tp5.length := tp5R.len1.symm
  have tp5Le := tp5R.le
  obtain rfl : tp6N = tp6.length := tp6R.len
  have tp6Le := tp6R.le
  have hS := St.nil w
  have hS1 := St.rd0 hS rfl tp1R; clear hS
  have hS2 := St.rd0 hS1 rfl tp2R; clear hS1
  have hS3 := St.rd0 hS2 rfl tp4R; clear hS2
  have hS4 := St.rd0 hS3 rfl tp5R; clear hS3
  have hS5 := St.rdn0 hS4 rfl tp6R; clear hS4
  have hS6 := St.rb0 hS5 rfl tpH; clear hS5
  refine enter (args := [.pointer (some ⟨tpB, 0, none⟩), .int .i64 xp, .int .i64 yp]) Try.func93 rfl rfl ?_
  rw [Try.ntmps93]; intro a hE
  have hE := hE.sub (L' := [(0, .pointer (some ⟨tpB, 0, none⟩)), (1, .int .i64 xp), (2, .int .i64 yp)]) ⟨rfl, rfl, rfl, trivial⟩
  refine c_seq ?_
  refine c_reg ?_
  refine l_step hE rfl (l_box (v := .int .i64 xp) (cs := #[.int .i64 xp]) hS6 hE rfl rfl rfl ?_)
  intro b7 w8 hS11 he12 a9 hE10; clear hS6 hE
  refine l_step hE10 rfl (l_box (v := .int .i64 yp) (cs := #[.int .i64 yp]) hS11 hE10 rfl rfl rfl ?_)
  intro b13 w14 hS17 he18 a15 hE16; clear hS11 hE10
  refine q_step (v := .int .i64 0) hE16 (y_assign rfl) rfl rfl rfl ?_; intro a19 hE20; clear hE16
  refine c_nil ?_
  have hE21 := hE20.sub (L' := [(0, .pointer (some ⟨tpB, 0, none⟩)), (4, .pointer (some ⟨b7, 0, none⟩)), (5, .pointer (some ⟨b13, 0, none⟩))]) ⟨rfl, rfl, rfl, trivial⟩; clear hE20
  refine p_tn ?_
  refine c_seq ?_
  refine c_reg ?_
  refine q_step (v := .pointer (some ⟨tpB, 0, none⟩)) hE21 (y_move rfl) rfl rfl rfl ?_; intro a22 hE23; clear hE21
  refine q_step (v := .pointer (some ⟨tpB, 0, none⟩)) hE23 (y_nilCheck rfl) rfl rfl rfl ?_; intro a24 hE25; clear hE23
  refine q_step (v := .pointer (some ⟨tpB, 6, none⟩)) hE25 (y_field rfl (fun _ => by kernel_rfl)) rfl rfl rfl ?_; intro a26 hE27; clear hE25
  refine q_step (v := .slice tp6A ((tp6).length) tp6C) hE27 (y_load (fun _ => by kernel_rfl) rfl (St.cellR (i := 2) hS17 rfl rfl)) rfl rfl rfl ?_; intro a28 hE29; clear hE27
  refine q_step (v := .func (.func 161) #[] #[.pointer (some ⟨b7, 0, none⟩), .pointer (some ⟨b13, 0, none⟩)]) hE29 (y_makeFunc (vs := [.pointer (some ⟨b7, 0, none⟩), .pointer (some ⟨b13, 0, none⟩)]) rfl) rfl rfl rfl ?_; intro a30 hE31; clear hE29
  refine l_step hE31 rfl (l_call (f := 160) (argv := [.slice tp6A ((tp6).length) tp6C, .func (.func 161) #[] #[.pointer (some ⟨b7, 0, none⟩), .pointer (some ⟨b13, 0, none⟩)]]) hE31 (fun _ => cf_z_IndexFuncS _ _) rfl rfl (c_z_IndexFuncS tp6A ((tp6).length) tp6C tp6Q tp6 161 [.pointer (some ⟨b7, 0, none⟩), .pointer (some ⟨b13, 0, none⟩)] (fun x0 => F_teller_rounds_k1 x0 xp yp) (fun l => xp < (l.length : Int)) w14 (St.rdNr (i := 3) hS17 rfl) (fun _ _ => cf_teller_rounds_k1 _ _) (fun x0A x0N x0C x0 w' hx he r0 => c_teller_rounds_k1 x0A x0N x0C x0 b7 xp b13 yp w' r0 (St.row (i := 1) hS17 rfl w' he) (St.row (i := 0) hS17 rfl w' he) (by omega) hx (by omega)) hx) ?_)
  rintro _ w33 ⟨rfl, he37⟩ a34 hE35; clear hE31
  have hS36 := St.go hS17 he37; clear hS17
  refine q_step (v := .int .i64 (F_z_IndexFuncS tp6 (fun x0 => F_teller_rounds_k1 x0 xp yp))) hE35 (y_assign rfl) rfl rfl rfl ?_; intro a38 hE39; clear hE35
  refine c_nil ?_
  have hE40 := hE39.sub (L' := [(6, .int .i64 (F_z_IndexFuncS tp6 (fun x0 => F_teller_rounds_k1 x0 xp yp)))]) ⟨rfl, trivial⟩; clear hE39
  refine p_tn ?_
  refine wp_ret ?_
  have hF : F_teller_rounds tp0 tp1 tp2 tp3 tp4 tp5 tp6 xp yp = F_z_IndexFuncS tp6 (fun x0 => F_teller_rounds_k1 x0 xp yp) := by unfold F_teller_rounds; rfl
  refine c_ret1 hE40 rfl rfl ?_
  exact ⟨(by rw [hF]; first | done | (dsimp only; done) | rfl), hS36.ext⟩

def F_tellingCode (mp0 : Int) (mp1 : List Int) (mp2 : List Int) (xp : Int) (np0 : Int) (np1 : List Int) (np2 : List Int) (yp : Int) : Int :=
  bif ((!(F_isModel mp0 mp1 mp2)) || (!(F_isModel np0 np1 np2))) then 1 else (bif ((!(F_Frame_hasWorld mp0 mp1 xp)) || (!(F_Frame_hasWorld np0 np1 yp))) then 2 else 0)
theorem cf_tellingCode (args : Array Value) (w : World) : (callFunc 91 args).run Try.prog w = .ok (.enter 91 args) w := by kernel_rfl
set_option maxRecDepth 100000 in
theorem c_tellingCode (mp0 : Int) (mp1A : Option Addr) (mp1N mp1C : Nat) (mp1 : List Int) (mp2A : Option Addr) (mp2N mp2C : Nat) (mp2 : List Int) (xp : Int) (np0 : Int) (np1A : Option Addr) (np1N np1C : Nat) (np1 : List Int) (np2A : Option Addr) (np2N np2C : Nat) (np2 : List Int) (yp : Int) (w : World) (mp1R : RdS w 1 mp1A mp1N mp1C mp1) (mp2R : RdS w 1 mp2A mp2N mp2C mp2) (np1R : RdS w 1 np1A np1N np1C np1) (np2R : RdS w 1 np2A np2N np2C np2) :
    Calls Try.prog 91 #[.agg #[.int .i64 mp0, .slice mp1A mp1N mp1C, .slice mp2A mp2N mp2C], .int .i64 xp, .agg #[.int .i64 np0, .slice np1A np1N np1C, .slice np2A np2N np2C], .int .i64 yp] w (Ret fun v w' => v = .int .i64 (F_tellingCode mp0 mp1 mp2 xp np0 np1 np2 yp) ∧ Ext w w') := by
  obtain rfl : mp1N = mp1.length := mp1R.len1.symm
  have mp1Le := mp1R.le
  obtain rfl : mp2N = mp2.length := mp2R.len1.symm
  have mp2Le := mp2R.le
  obtain rfl : np1N = np1.length := np1R.len1.symm
  have np1Le := np1R.le
  obtain rfl : np2N = np2.length := np2R.len1.symm
  have np2Le := np2R.le
  have hS := St.nil w
  have hS1 := St.rd0 hS rfl mp1R; clear hS
  have hS2 := St.rd0 hS1 rfl mp2R; clear hS1
  have hS3 := St.rd0 hS2 rfl np1R; clear hS2
  have hS4 := St.rd0 hS3 rfl np2R; clear hS3
  refine enter (args := [.agg #[.int .i64 mp0, .slice mp1A mp1.length mp1C, .slice mp2A mp2.length mp2C], .int .i64 xp, .agg #[.int .i64 np0, .slice np1A np1.length np1C, .slice np2A np2.length np2C], .int .i64 yp]) Try.func91 rfl rfl ?_
  rw [Try.ntmps91]; intro a hE
  have hE := hE.sub (L' := [(0, .agg #[.int .i64 mp0, .slice mp1A mp1.length mp1C, .slice mp2A mp2.length mp2C]), (1, .int .i64 xp), (2, .agg #[.int .i64 np0, .slice np1A np1.length np1C, .slice np2A np2.length np2C]), (3, .int .i64 yp)]) ⟨rfl, rfl, rfl, rfl, trivial⟩
  refine c_seq ?_
  refine c_reg ?_
  refine l_step hE rfl (l_box (v := .agg #[.int .i64 mp0, .slice mp1A mp1.length mp1C, .slice mp2A mp2.length mp2C]) (cs := #[.int .i64 mp0, .slice mp1A mp1.length mp1C, .slice mp2A mp2.length mp2C]) hS4 hE rfl rfl rfl ?_)
  intro b5 w6 hS9 he10 a7 hE8; clear hS4 hE
  refine l_step hE8 rfl (l_box (v := .agg #[.int .i64 np0, .slice np1A np1.length np1C, .slice np2A np2.length np2C]) (cs := #[.int .i64 np0, .slice np1A np1.length np1C, .slice np2A np2.length np2C]) hS9 hE8 rfl rfl rfl ?_)
  intro b11 w12 hS15 he16 a13 hE14; clear hS9 hE8
  refine q_step (v := .int .i64 0) hE14 (y_assign rfl) rfl rfl rfl ?_; intro a17 hE18; clear hE14
  refine c_nil ?_
  have hE19 := hE18.sub (L' := [(1, .int .i64 xp), (3, .int .i64 yp), (4, .pointer (some ⟨b5, 0, none⟩)), (6, .pointer (some ⟨b11, 0, none⟩))]) ⟨rfl, rfl, rfl, rfl, trivial⟩; clear hE18
  refine p_tn ?_
  refine c_seq ?_
  refine wp_block ?_
  refine c_cut (fun a' w' => E a' 31 [(1, .int .i64 xp), (3, .int .i64 yp), (4, .pointer (some ⟨b5, 0, none⟩)), (6, .pointer (some ⟨b11, 0, none⟩)), (9, .bool ((!(F_isModel mp0 mp1 mp2)) || (!(F_isModel np0 np1 np2))))] ∧ St w w' [.rd 1 np1A np1.length np1C np1, .rd 1 np2A np2.length np2C np2, .blk b11 #[.int .i64 np0, .slice np1A np1.length np1C, .slice np2A np2.length np2C] 32, .rd 1 mp1A mp1.length mp1C mp1, .rd 1 mp2A mp2.length mp2C mp2, .blk b5 #[.int .i64 mp0, .slice mp1A mp1.length mp1C, .slice mp2A mp2.length mp2C] 32]) ?_ ?_
  ·
    refine c_reg ?_
    refine q_step (v := .agg #[.int .i64 mp0, .slice mp1A mp1.length mp1C, .slice mp2A mp2.length mp2C]) hE19 (y_loadS Try.underlying32 rfl (by kernel_rfl) rfl (St.row (i := 1) hS15 rfl)) rfl rfl rfl ?_; intro a20 hE21; clear hE19
    refine l_step hE21 rfl (l_call (f := 83) (argv := [.agg #[.int .i64 mp0, .slice mp1A mp1.length mp1C, .slice mp2A mp2.length mp2C]]) hE21 (fun _ => cf_isModel _ _) rfl rfl (c_isModel mp0 mp1A mp1.length mp1C mp1 mp2A mp2.length mp2C mp2 w12 (St.rdR (i := 5) hS15 rfl) (St.rdR (i := 4) hS15 rfl)) ?_)
    rintro _ w23 ⟨rfl, he27⟩ a24 hE25; clear hE21
    have hS26 := St.go hS15 he27; clear hS15
    refine q_step (v := .bool (!(F_isModel mp0 mp1 mp2))) hE25 (y_not rfl) rfl rfl rfl ?_; intro a28 hE29; clear hE25
    refine q_step (v := .bool (!(F_isModel mp0 mp1 mp2))) hE29 (y_move rfl) rfl rfl rfl ?_; intro a30 hE31; clear hE29
    rcases Bool.eq_false_or_eq_true (!(F_isModel mp0 mp1 mp2)) with hb32 | hb32
    ·
      have hE33 := hE31; (try rw [hb32] at hE33); clear hE31
      have ht34 := bn_t hb32
      refine q_skip hE33 rfl rfl rfl ?_; intro a35 hE36; clear hE33
      refine q_skip hE36 rfl rfl rfl ?_; intro a37 hE38; clear hE36
      refine q_skip hE38 rfl rfl rfl ?_; intro a39 hE40; clear hE38
      refine q_step (v := .bool true) hE40 (y_pick (b := true) rfl rfl) rfl rfl rfl ?_; intro a41 hE42; clear hE40
      refine q_step (v := .bool true) hE42 (y_assign rfl) rfl rfl rfl ?_; intro a43 hE44; clear hE42
      refine c_nil ?_
      have hE45 := hE44.sub (L' := [(1, .int .i64 xp), (3, .int .i64 yp), (4, .pointer (some ⟨b5, 0, none⟩)), (6, .pointer (some ⟨b11, 0, none⟩)), (9, .bool true)]) ⟨rfl, rfl, rfl, rfl, rfl, trivial⟩; clear hE44
      refine p_tn ?_
      have hE46 := hE45.sub (L' := [(1, .int .i64 xp), (3, .int .i64 yp), (4, .pointer (some ⟨b5, 0, none⟩)), (6, .pointer (some ⟨b11, 0, none⟩)), (9, .bool true)]) ⟨rfl, rfl, rfl, rfl, rfl, trivial⟩
      have hS47 := (St.pick (Γ' := [.rd 1 np1A np1.length np1C np1, .rd 1 np2A np2.length np2C np2, .blk b11 #[.int .i64 np0, .slice np1A np1.length np1C, .slice np2A np2.length np2C] 32, .rd 1 mp1A mp1.length mp1C mp1, .rd 1 mp2A mp2.length mp2C mp2, .blk b5 #[.int .i64 mp0, .slice mp1A mp1.length mp1C, .slice mp2A mp2.length mp2C] 32]) hS26 [3, 2, 0, 5, 4, 1] (by decide) rfl)
      exact ⟨(by rw [hb32]; exact hE46), hS47⟩
    ·
      have hE48 := hE31; (try rw [hb32] at hE48); clear hE31
      have ht49 := bn_f hb32
      have hp50 := isModel_t ht49
      refine q_step (v := .agg #[.int .i64 np0, .slice np1A np1.length np1C, .slice np2A np2.length np2C]) hE48 (y_loadS Try.underlying32 rfl (by kernel_rfl) rfl (St.row (i := 0) hS26 rfl)) rfl rfl rfl ?_; intro a51 hE52; clear hE48
      refine l_step hE52 rfl (l_call (f := 83) (argv := [.agg #[.int .i64 np0, .slice np1A np1.length np1C, .slice np2A np2.length np2C]]) hE52 (fun _ => cf_isModel _ _) rfl rfl (c_isModel np0 np1A np1.length np1C np1 np2A np2.length np2C np2 w23 (St.rdR (i := 3) hS26 rfl) (St.rdR (i := 2) hS26 rfl)) ?_)
      rintro _ w54 ⟨rfl, he58⟩ a55 hE56; clear hE52
      have hS57 := St.go hS26 he58; clear hS26
      refine q_step (v := .bool (!(F_isModel np0 np1 np2))) hE56 (y_not rfl) rfl rfl rfl ?_; intro a59 hE60; clear hE56
      refine q_step (v := .bool (!(F_isModel np0 np1 np2))) hE60 (y_pick (b := false) rfl rfl) rfl rfl rfl ?_; intro a61 hE62; clear hE60
      refine q_step (v := .bool (!(F_isModel np0 np1 np2))) hE62 (y_assign rfl) rfl rfl rfl ?_; intro a63 hE64; clear hE62
      refine c_nil ?_
      have hE65 := hE64.sub (L' := [(1, .int .i64 xp), (3, .int .i64 yp), (4, .pointer (some ⟨b5, 0, none⟩)), (6, .pointer (some ⟨b11, 0, none⟩)), (9, .bool (!(F_isModel np0 np1 np2)))]) ⟨rfl, rfl, rfl, rfl, rfl, trivial⟩; clear hE64
      refine p_tn ?_
      have hE66 := hE65.sub (L' := [(1, .int .i64 xp), (3, .int .i64 yp), (4, .pointer (some ⟨b5, 0, none⟩)), (6, .pointer (some ⟨b11, 0, none⟩)), (9, .bool (!(F_isModel np0 np1 np2)))]) ⟨rfl, rfl, rfl, rfl, rfl, trivial⟩
      have hS67 := (St.pick (Γ' := [.rd 1 np1A np1.length np1C np1, .rd 1 np2A np2.length np2C np2, .blk b11 #[.int .i64 np0, .slice np1A np1.length np1C, .slice np2A np2.length np2C] 32, .rd 1 mp1A mp1.length mp1C mp1, .rd 1 mp2A mp2.length mp2C mp2, .blk b5 #[.int .i64 mp0, .slice mp1A mp1.length mp1C, .slice mp2A mp2.length mp2C] 32]) hS57 [3, 2, 0, 5, 4, 1] (by decide) rfl)
      exact ⟨(by rw [hb32]; exact hE66), hS67⟩
  ·
    rintro a68 w69 ⟨hE70, hS71⟩; clear hE19 hS15
    refine c_cond hE70 rfl (fun ht73 => ?_) (fun ht73 => ?_)
    ·
      have hE74 := hE70; rw [ht73] at hE74; clear hE70
      refine c_seq ?_
      refine c_reg ?_
      refine q_step (v := .int .i64 1) hE74 (y_assign rfl) rfl rfl rfl ?_; intro a75 hE76; clear hE74
      refine c_nil ?_
      have hE77 := hE76.sub (L' := [(8, .int .i64 1)]) ⟨rfl, trivial⟩; clear hE76
      refine p_tn ?_
      refine wp_ret ?_
      refine p_br ?_
      refine p_tr ?_
      have hF : F_tellingCode mp0 mp1 mp2 xp np0 np1 np2 yp = 1 := by unfold F_tellingCode; rw [ht73]; first | done | rfl
      refine c_ret1 hE77 rfl rfl ?_
      exact ⟨(by rw [hF]; first | done | (dsimp only; done) | rfl), hS71.ext⟩
    ·
      obtain ⟨ht78, ht79⟩ := bor_f ht73
      have ht80 := bn_f ht78
      have hp81 := isModel_t ht80
      have ht82 := bn_f ht79
      have hp83 := isModel_t ht82
      have hE84 := hE70; rw [ht73] at hE84; clear hE70
      refine c_cut (fun a' w' => E a' 31 [(18, .bool ((!(F_Frame_hasWorld mp0 mp1 xp)) || (!(F_Frame_hasWorld np0 np1 yp))))] ∧ St w w' [.rd 1 np1A np1.length np1C np1, .rd 1 np2A np2.length np2C np2, .blk b11 #[.int .i64 np0, .slice np1A np1.length np1C, .slice np2A np2.length np2C] 32, .rd 1 mp1A mp1.length mp1C mp1, .rd 1 mp2A mp2.length mp2C mp2, .blk b5 #[.int .i64 mp0, .slice mp1A mp1.length mp1C, .slice mp2A mp2.length mp2C] 32]) ?_ ?_
      ·
        refine c_reg ?_
        refine q_step (v := .pointer (some ⟨b5, 0, none⟩)) hE84 (y_field rfl (fun _ => by kernel_rfl)) rfl rfl rfl ?_; intro a85 hE86; clear hE84
        refine q_step (v := .agg #[.int .i64 mp0, .slice mp1A mp1.length mp1C]) hE86 (y_loadP Try.underlying30 rfl (by kernel_rfl) rfl rfl (St.row (i := 5) hS71 rfl)) rfl rfl rfl ?_; intro a87 hE88; clear hE86
        refine q_step (v := .int .i64 xp) hE88 (y_move rfl) rfl rfl rfl ?_; intro a89 hE90; clear hE88
        refine l_step hE90 rfl (l_call (f := 159) (argv := [.agg #[.int .i64 mp0, .slice mp1A mp1.length mp1C], .int .i64 xp]) hE90 (fun _ => cf_Frame_hasWorld _ _) rfl rfl (c_Frame_hasWorld mp0 mp1A mp1.length mp1C mp1 xp w69 (St.rdR (i := 3) hS71 rfl) (by omega) (by omega)) ?_)
        rintro _ w92 ⟨rfl, he96⟩ a93 hE94; clear hE90
        have hS95 := St.go hS71 he96; clear hS71
        refine q_step (v := .bool (!(F_Frame_hasWorld mp0 mp1 xp))) hE94 (y_not rfl) rfl rfl rfl ?_; intro a97 hE98; clear hE94
        refine q_step (v := .bool (!(F_Frame_hasWorld mp0 mp1 xp))) hE98 (y_move rfl) rfl rfl rfl ?_; intro a99 hE100; clear hE98
        rcases Bool.eq_false_or_eq_true (!(F_Frame_hasWorld mp0 mp1 xp)) with hb101 | hb101
        ·
          have hE102 := hE100; (try rw [hb101] at hE102); clear hE100
          have ht103 := bn_t hb101
          refine q_skip hE102 rfl rfl rfl ?_; intro a104 hE105; clear hE102
          refine q_skip hE105 rfl rfl rfl ?_; intro a106 hE107; clear hE105
          refine q_skip hE107 rfl rfl rfl ?_; intro a108 hE109; clear hE107
          refine q_skip hE109 rfl rfl rfl ?_; intro a110 hE111; clear hE109
          refine q_skip hE111 rfl rfl rfl ?_; intro a112 hE113; clear hE111
          refine q_step (v := .bool true) hE113 (y_pick (b := true) rfl rfl) rfl rfl rfl ?_; intro a114 hE115; clear hE113
          refine q_step (v := .bool true) hE115 (y_assign rfl) rfl rfl rfl ?_; intro a116 hE117; clear hE115
          refine c_nil ?_
          have hE118 := hE117.sub (L' := [(18, .bool true)]) ⟨rfl, trivial⟩; clear hE117
          refine p_tn ?_
          have hE119 := hE118.sub (L' := [(18, .bool true)]) ⟨rfl, trivial⟩
          have hS120 := (St.pick (Γ' := [.rd 1 np1A np1.length np1C np1, .rd 1 np2A np2.length np2C np2, .blk b11 #[.int .i64 np0, .slice np1A np1.length np1C, .slice np2A np2.length np2C] 32, .rd 1 mp1A mp1.length mp1C mp1, .rd 1 mp2A mp2.length mp2C mp2, .blk b5 #[.int .i64 mp0, .slice mp1A mp1.length mp1C, .slice mp2A mp2.length mp2C] 32]) hS95 [0, 1, 2, 3, 4, 5] (by decide) rfl)
          exact ⟨(by rw [hb101]; exact hE119), hS120⟩
        ·
          have hE121 := hE100; (try rw [hb101] at hE121); clear hE100
          have ht122 := bn_f hb101
          refine q_step (v := .pointer (some ⟨b11, 0, none⟩)) hE121 (y_field rfl (fun _ => by kernel_rfl)) rfl rfl rfl ?_; intro a123 hE124; clear hE121
          refine q_step (v := .agg #[.int .i64 np0, .slice np1A np1.length np1C]) hE124 (y_loadP Try.underlying30 rfl (by kernel_rfl) rfl rfl (St.row (i := 2) hS95 rfl)) rfl rfl rfl ?_; intro a125 hE126; clear hE124
          refine q_step (v := .int .i64 yp) hE126 (y_move rfl) rfl rfl rfl ?_; intro a127 hE128; clear hE126
          refine l_step hE128 rfl (l_call (f := 159) (argv := [.agg #[.int .i64 np0, .slice np1A np1.length np1C], .int .i64 yp]) hE128 (fun _ => cf_Frame_hasWorld _ _) rfl rfl (c_Frame_hasWorld np0 np1A np1.length np1C np1 yp w92 (St.rdR (i := 0) hS95 rfl) (by omega) (by omega)) ?_)
          rintro _ w130 ⟨rfl, he134⟩ a131 hE132; clear hE128
          have hS133 := St.go hS95 he134; clear hS95
          refine q_step (v := .bool (!(F_Frame_hasWorld np0 np1 yp))) hE132 (y_not rfl) rfl rfl rfl ?_; intro a135 hE136; clear hE132
          refine q_step (v := .bool (!(F_Frame_hasWorld np0 np1 yp))) hE136 (y_pick (b := false) rfl rfl) rfl rfl rfl ?_; intro a137 hE138; clear hE136
          refine q_step (v := .bool (!(F_Frame_hasWorld np0 np1 yp))) hE138 (y_assign rfl) rfl rfl rfl ?_; intro a139 hE140; clear hE138
          refine c_nil ?_
          have hE141 := hE140.sub (L' := [(18, .bool (!(F_Frame_hasWorld np0 np1 yp)))]) ⟨rfl, trivial⟩; clear hE140
          refine p_tn ?_
          have hE142 := hE141.sub (L' := [(18, .bool (!(F_Frame_hasWorld np0 np1 yp)))]) ⟨rfl, trivial⟩
          have hS143 := (St.pick (Γ' := [.rd 1 np1A np1.length np1C np1, .rd 1 np2A np2.length np2C np2, .blk b11 #[.int .i64 np0, .slice np1A np1.length np1C, .slice np2A np2.length np2C] 32, .rd 1 mp1A mp1.length mp1C mp1, .rd 1 mp2A mp2.length mp2C mp2, .blk b5 #[.int .i64 mp0, .slice mp1A mp1.length mp1C, .slice mp2A mp2.length mp2C] 32]) hS133 [0, 1, 2, 3, 4, 5] (by decide) rfl)
          exact ⟨(by rw [hb101]; exact hE142), hS143⟩
      ·
        rintro a144 w145 ⟨hE146, hS147⟩; clear hE84 hS71
        refine c_cond hE146 rfl (fun ht149 => ?_) (fun ht149 => ?_)
        ·
          have hE150 := hE146; rw [ht149] at hE150; clear hE146
          refine c_seq ?_
          refine c_reg ?_
          refine q_step (v := .int .i64 2) hE150 (y_assign rfl) rfl rfl rfl ?_; intro a151 hE152; clear hE150
          refine c_nil ?_
          have hE153 := hE152.sub (L' := [(8, .int .i64 2)]) ⟨rfl, trivial⟩; clear hE152
          refine p_tn ?_
          refine wp_ret ?_
          refine p_br ?_
          refine p_tr ?_
          have hF : F_tellingCode mp0 mp1 mp2 xp np0 np1 np2 yp = 2 := by unfold F_tellingCode; rw [ht149, ht73]; first | done | rfl
          refine c_ret1 hE153 rfl rfl ?_
          exact ⟨(by rw [hF]; first | done | (dsimp only; done) | rfl), hS147.ext⟩
        ·
          obtain ⟨ht154, ht155⟩ := bor_f ht149
          have ht156 := bn_f ht154
          have ht157 := bn_f ht155
          have hE158 := hE146; rw [ht149] at hE158; clear hE146
          refine wp_skip ?_
          refine p_bn ?_
          refine p_tn ?_
          refine c_seq ?_
          refine c_reg ?_
          refine q_step (v := .int .i64 0) hE158 (y_assign rfl) rfl rfl rfl ?_; intro a159 hE160; clear hE158
          refine c_nil ?_
          have hE161 := hE160.sub (L' := [(8, .int .i64 0)]) ⟨rfl, trivial⟩; clear hE160
          refine p_tn ?_
          refine wp_ret ?_
          have hF : F_tellingCode mp0 mp1 mp2 xp np0 np1 np2 yp = 0 := by unfold F_tellingCode; rw [ht149, ht73]; first | done | rfl
          refine c_ret1 hE161 rfl rfl ?_
          exact ⟨(by rw [hF]; first | done | (dsimp only; done) | rfl), hS147.ext⟩

def F_l07Places (mp0 : Int) (mp1 : List Int) (mp2 : List Int) (xp : Int) (np0 : Int) (np1 : List Int) (np2 : List Int) (yp : Int) : Int :=
  bif ((decide ((F_l07Two mp0 mp1 mp2 np0 np1 np2) = 0)) && ((!(F_l05World mp0 mp1 xp)) || (!(F_l05World np0 np1 yp)))) then 2 else F_l07Two mp0 mp1 mp2 np0 np1 np2
theorem cf_l07Places (args : Array Value) (w : World) : (callFunc 89 args).run Try.prog w = .ok (.enter 89 args) w := by kernel_rfl
set_option maxRecDepth 100000 in
theorem c_l07Places (mp0 : Int) (mp1A : Option Addr) (mp1N mp1C : Nat) (mp1 : List Int) (mp2A : Option Addr) (mp2N mp2C : Nat) (mp2 : List Int) (xp : Int) (np0 : Int) (np1A : Option Addr) (np1N np1C : Nat) (np1 : List Int) (np2A : Option Addr) (np2N np2C : Nat) (np2 : List Int) (yp : Int) (w : World) (mp1R : RdS w 1 mp1A mp1N mp1C mp1) (mp2R : RdS w 1 mp2A mp2N mp2C mp2) (np1R : RdS w 1 np1A np1N np1C np1) (np2R : RdS w 1 np2A np2N np2C np2) :
    Calls Try.prog 89 #[.agg #[.int .i64 mp0, .slice mp1A mp1N mp1C, .slice mp2A mp2N mp2C], .int .i64 xp, .agg #[.int .i64 np0, .slice np1A np1N np1C, .slice np2A np2N np2C], .int .i64 yp] w (Ret fun v w' => v = .int .i64 (F_l07Places mp0 mp1 mp2 xp np0 np1 np2 yp) ∧ Ext w w') := by
  obtain rfl : mp1N = mp1.length := mp1R.len1.symm
  have mp1Le := mp1R.le
  obtain rfl : mp2N = mp2.length := mp2R.len1.symm
  have mp2Le := mp2R.le
  obtain rfl : np1N = np1.length := np1R.len1.symm
  have np1Le := np1R.le
  obtain rfl : np2N = np2.length := np2R.len1.symm
  have np2Le := np2R.le
  have hS := St.nil w
  have hS1 := St.rd0 hS rfl mp1R; clear hS
  have hS2 := St.rd0 hS1 rfl mp2R; clear hS1
  have hS3 := St.rd0 hS2 rfl np1R; clear hS2
  have hS4 := St.rd0 hS3 rfl np2R; clear hS3
  refine enter (args := [.agg #[.int .i64 mp0, .slice mp1A mp1.length mp1C, .slice mp2A mp2.length mp2C], .int .i64 xp, .agg #[.int .i64 np0, .slice np1A np1.length np1C, .slice np2A np2.length np2C], .int .i64 yp]) Try.func89 rfl rfl ?_
  rw [Try.ntmps89]; intro a hE
  have hE := hE.sub (L' := [(0, .agg #[.int .i64 mp0, .slice mp1A mp1.length mp1C, .slice mp2A mp2.length mp2C]), (1, .int .i64 xp), (2, .agg #[.int .i64 np0, .slice np1A np1.length np1C, .slice np2A np2.length np2C]), (3, .int .i64 yp)]) ⟨rfl, rfl, rfl, rfl, trivial⟩
  refine c_seq ?_
  refine c_reg ?_
  refine l_step hE rfl (l_box (v := .agg #[.int .i64 mp0, .slice mp1A mp1.length mp1C, .slice mp2A mp2.length mp2C]) (cs := #[.int .i64 mp0, .slice mp1A mp1.length mp1C, .slice mp2A mp2.length mp2C]) hS4 hE rfl rfl rfl ?_)
  intro b5 w6 hS9 he10 a7 hE8; clear hS4 hE
  refine l_step hE8 rfl (l_box (v := .agg #[.int .i64 np0, .slice np1A np1.length np1C, .slice np2A np2.length np2C]) (cs := #[.int .i64 np0, .slice np1A np1.length np1C, .slice np2A np2.length np2C]) hS9 hE8 rfl rfl rfl ?_)
  intro b11 w12 hS15 he16 a13 hE14; clear hS9 hE8
  refine q_step (v := .int .i64 0) hE14 (y_assign rfl) rfl rfl rfl ?_; intro a17 hE18; clear hE14
  refine c_nil ?_
  have hE19 := hE18.sub (L' := [(1, .int .i64 xp), (3, .int .i64 yp), (4, .pointer (some ⟨b5, 0, none⟩)), (6, .pointer (some ⟨b11, 0, none⟩))]) ⟨rfl, rfl, rfl, rfl, trivial⟩; clear hE18
  refine p_tn ?_
  refine c_seq ?_
  refine c_reg ?_
  refine q_step (v := .agg #[.int .i64 mp0, .slice mp1A mp1.length mp1C, .slice mp2A mp2.length mp2C]) hE19 (y_loadS Try.underlying32 rfl (by kernel_rfl) rfl (St.row (i := 1) hS15 rfl)) rfl rfl rfl ?_; intro a20 hE21; clear hE19
  refine q_step (v := .agg #[.int .i64 np0, .slice np1A np1.length np1C, .slice np2A np2.length np2C]) hE21 (y_loadS Try.underlying32 rfl (by kernel_rfl) rfl (St.row (i := 0) hS15 rfl)) rfl rfl rfl ?_; intro a22 hE23; clear hE21
  refine l_step hE23 rfl (l_call (f := 80) (argv := [.agg #[.int .i64 mp0, .slice mp1A mp1.length mp1C, .slice mp2A mp2.length mp2C], .agg #[.int .i64 np0, .slice np1A np1.length np1C, .slice np2A np2.length np2C]]) hE23 (fun _ => cf_l07Two _ _) rfl rfl (c_l07Two mp0 mp1A mp1.length mp1C mp1 mp2A mp2.length mp2C mp2 np0 np1A np1.length np1C np1 np2A np2.length np2C np2 w12 (St.rdR (i := 5) hS15 rfl) (St.rdR (i := 4) hS15 rfl) (St.rdR (i := 3) hS15 rfl) (St.rdR (i := 2) hS15 rfl)) ?_)
  rintro _ w25 ⟨rfl, he29⟩ a26 hE27; clear hE23
  have hS28 := St.go hS15 he29; clear hS15
  refine q_step (v := .int .i64 (F_l07Two mp0 mp1 mp2 np0 np1 np2)) hE27 (y_assign rfl) rfl rfl rfl ?_; intro a30 hE31; clear hE27
  refine c_nil ?_
  have hE32 := hE31.sub (L' := [(1, .int .i64 xp), (3, .int .i64 yp), (4, .pointer (some ⟨b5, 0, none⟩)), (6, .pointer (some ⟨b11, 0, none⟩)), (9, .int .i64 (F_l07Two mp0 mp1 mp2 np0 np1 np2))]) ⟨rfl, rfl, rfl, rfl, rfl, trivial⟩; clear hE31
  refine p_tn ?_
  refine c_cut (fun a' w' => E a' 30 [(9, .int .i64 (bif ((decide ((F_l07Two mp0 mp1 mp2 np0 np1 np2) = 0)) && ((!(F_l05World mp0 mp1 xp)) || (!(F_l05World np0 np1 yp)))) then 2 else F_l07Two mp0 mp1 mp2 np0 np1 np2))] ∧ St w w' [.rd 1 np1A np1.length np1C np1, .rd 1 np2A np2.length np2C np2, .blk b11 #[.int .i64 np0, .slice np1A np1.length np1C, .slice np2A np2.length np2C] 32, .rd 1 mp1A mp1.length mp1C mp1, .rd 1 mp2A mp2.length mp2C mp2, .blk b5 #[.int .i64 mp0, .slice mp1A mp1.length mp1C, .slice mp2A mp2.length mp2C] 32]) ?_ ?_
  ·
    refine c_cut (fun a' w' => E a' 30 [(9, .int .i64 (F_l07Two mp0 mp1 mp2 np0 np1 np2)), (28, .bool ((decide ((F_l07Two mp0 mp1 mp2 np0 np1 np2) = 0)) && ((!(F_l05World mp0 mp1 xp)) || (!(F_l05World np0 np1 yp)))))] ∧ St w w' [.rd 1 np1A np1.length np1C np1, .rd 1 np2A np2.length np2C np2, .blk b11 #[.int .i64 np0, .slice np1A np1.length np1C, .slice np2A np2.length np2C] 32, .rd 1 mp1A mp1.length mp1C mp1, .rd 1 mp2A mp2.length mp2C mp2, .blk b5 #[.int .i64 mp0, .slice mp1A mp1.length mp1C, .slice mp2A mp2.length mp2C] 32]) ?_ ?_
    ·
      refine c_reg ?_
      refine q_step (v := .int .i64 (F_l07Two mp0 mp1 mp2 np0 np1 np2)) hE32 (y_move rfl) rfl rfl rfl ?_; intro a33 hE34; clear hE32
      refine q_step (v := .bool (decide ((F_l07Two mp0 mp1 mp2 np0 np1 np2) = 0))) hE34 (y_eql rfl rfl) rfl rfl rfl ?_; intro a35 hE36; clear hE34
      refine q_step (v := .bool (decide ((F_l07Two mp0 mp1 mp2 np0 np1 np2) = 0))) hE36 (y_move rfl) rfl rfl rfl ?_; intro a37 hE38; clear hE36
      rcases Bool.eq_false_or_eq_true (decide ((F_l07Two mp0 mp1 mp2 np0 np1 np2) = 0)) with hb39 | hb39
      ·
        have hE40 := hE38; (try rw [hb39] at hE40); clear hE38
        have hp41 := of_decide_eq_true hb39
        have hq42 := l07Two_t hp41
        refine q_step (v := .pointer (some ⟨b5, 0, none⟩)) hE40 (y_field rfl (fun _ => by kernel_rfl)) rfl rfl rfl ?_; intro a43 hE44; clear hE40
        refine q_step (v := .agg #[.int .i64 mp0, .slice mp1A mp1.length mp1C]) hE44 (y_loadP Try.underlying30 rfl (by kernel_rfl) rfl rfl (St.row (i := 1) hS28 rfl)) rfl rfl rfl ?_; intro a45 hE46; clear hE44
        refine q_step (v := .int .i64 xp) hE46 (y_move rfl) rfl rfl rfl ?_; intro a47 hE48; clear hE46
        refine l_step hE48 rfl (l_call (f := 158) (argv := [.agg #[.int .i64 mp0, .slice mp1A mp1.length mp1C], .int .i64 xp]) hE48 (fun _ => cf_l05World _ _) rfl rfl (c_l05World mp0 mp1A mp1.length mp1C mp1 xp w25 (St.rdR (i := 5) hS28 rfl) (by omega) (by omega)) ?_)
        rintro _ w50 ⟨rfl, he54⟩ a51 hE52; clear hE48
        have hS53 := St.go hS28 he54; clear hS28
        refine q_step (v := .bool (!(F_l05World mp0 mp1 xp))) hE52 (y_not rfl) rfl rfl rfl ?_; intro a55 hE56; clear hE52
        refine q_step (v := .bool (!(F_l05World mp0 mp1 xp))) hE56 (y_move rfl) rfl rfl rfl ?_; intro a57 hE58; clear hE56
        rcases Bool.eq_false_or_eq_true (!(F_l05World mp0 mp1 xp)) with hb59 | hb59
        ·
          have hE60 := hE58; (try rw [hb59] at hE60); clear hE58
          have ht61 := bn_t hb59
          refine q_skip hE60 rfl rfl rfl ?_; intro a62 hE63; clear hE60
          refine q_skip hE63 rfl rfl rfl ?_; intro a64 hE65; clear hE63
          refine q_skip hE65 rfl rfl rfl ?_; intro a66 hE67; clear hE65
          refine q_skip hE67 rfl rfl rfl ?_; intro a68 hE69; clear hE67
          refine q_skip hE69 rfl rfl rfl ?_; intro a70 hE71; clear hE69
          refine q_step (v := .bool true) hE71 (y_pick (b := true) rfl rfl) rfl rfl rfl ?_; intro a72 hE73; clear hE71
          refine q_step (v := .bool true) hE73 (y_pick (b := true) rfl rfl) rfl rfl rfl ?_; intro a74 hE75; clear hE73
          refine c_nil ?_
          have hE76 := hE75.sub (L' := [(9, .int .i64 (F_l07Two mp0 mp1 mp2 np0 np1 np2)), (28, .bool true)]) ⟨rfl, rfl, trivial⟩; clear hE75
          refine p_tn ?_
          have hE77 := hE76.sub (L' := [(9, .int .i64 (F_l07Two mp0 mp1 mp2 np0 np1 np2)), (28, .bool true)]) ⟨rfl, rfl, trivial⟩
          have hS78 := (St.pick (Γ' := [.rd 1 np1A np1.length np1C np1, .rd 1 np2A np2.length np2C np2, .blk b11 #[.int .i64 np0, .slice np1A np1.length np1C, .slice np2A np2.length np2C] 32, .rd 1 mp1A mp1.length mp1C mp1, .rd 1 mp2A mp2.length mp2C mp2, .blk b5 #[.int .i64 mp0, .slice mp1A mp1.length mp1C, .slice mp2A mp2.length mp2C] 32]) hS53 [3, 2, 0, 5, 4, 1] (by decide) rfl)
          exact ⟨(by rw [hb59, hb39]; exact hE77), hS78⟩
        ·
          have hE79 := hE58; (try rw [hb59] at hE79); clear hE58
          have ht80 := bn_f hb59
          refine q_step (v := .pointer (some ⟨b11, 0, none⟩)) hE79 (y_field rfl (fun _ => by kernel_rfl)) rfl rfl rfl ?_; intro a81 hE82; clear hE79
          refine q_step (v := .agg #[.int .i64 np0, .slice np1A np1.length np1C]) hE82 (y_loadP Try.underlying30 rfl (by kernel_rfl) rfl rfl (St.row (i := 0) hS53 rfl)) rfl rfl rfl ?_; intro a83 hE84; clear hE82
          refine q_step (v := .int .i64 yp) hE84 (y_move rfl) rfl rfl rfl ?_; intro a85 hE86; clear hE84
          refine l_step hE86 rfl (l_call (f := 158) (argv := [.agg #[.int .i64 np0, .slice np1A np1.length np1C], .int .i64 yp]) hE86 (fun _ => cf_l05World _ _) rfl rfl (c_l05World np0 np1A np1.length np1C np1 yp w50 (St.rdR (i := 3) hS53 rfl) (by omega) (by omega)) ?_)
          rintro _ w88 ⟨rfl, he92⟩ a89 hE90; clear hE86
          have hS91 := St.go hS53 he92; clear hS53
          refine q_step (v := .bool (!(F_l05World np0 np1 yp))) hE90 (y_not rfl) rfl rfl rfl ?_; intro a93 hE94; clear hE90
          refine q_step (v := .bool (!(F_l05World np0 np1 yp))) hE94 (y_pick (b := false) rfl rfl) rfl rfl rfl ?_; intro a95 hE96; clear hE94
          refine q_step (v := .bool (!(F_l05World np0 np1 yp))) hE96 (y_pick (b := true) rfl rfl) rfl rfl rfl ?_; intro a97 hE98; clear hE96
          refine c_nil ?_
          have hE99 := hE98.sub (L' := [(9, .int .i64 (F_l07Two mp0 mp1 mp2 np0 np1 np2)), (28, .bool (!(F_l05World np0 np1 yp)))]) ⟨rfl, rfl, trivial⟩; clear hE98
          refine p_tn ?_
          have hE100 := hE99.sub (L' := [(9, .int .i64 (F_l07Two mp0 mp1 mp2 np0 np1 np2)), (28, .bool (!(F_l05World np0 np1 yp)))]) ⟨rfl, rfl, trivial⟩
          have hS101 := (St.pick (Γ' := [.rd 1 np1A np1.length np1C np1, .rd 1 np2A np2.length np2C np2, .blk b11 #[.int .i64 np0, .slice np1A np1.length np1C, .slice np2A np2.length np2C] 32, .rd 1 mp1A mp1.length mp1C mp1, .rd 1 mp2A mp2.length mp2C mp2, .blk b5 #[.int .i64 mp0, .slice mp1A mp1.length mp1C, .slice mp2A mp2.length mp2C] 32]) hS91 [3, 2, 0, 5, 4, 1] (by decide) rfl)
          exact ⟨(by rw [hb59, hb39]; exact hE100), hS101⟩
      ·
        have hE102 := hE38; (try rw [hb39] at hE102); clear hE38
        have hp103 := of_decide_eq_false hb39
        refine q_skip hE102 rfl rfl rfl ?_; intro a104 hE105; clear hE102
        refine q_skip hE105 rfl rfl rfl ?_; intro a106 hE107; clear hE105
        refine q_skip hE107 rfl rfl rfl ?_; intro a108 hE109; clear hE107
        refine q_skip hE109 rfl rfl rfl ?_; intro a110 hE111; clear hE109
        refine q_skip hE111 rfl rfl rfl ?_; intro a112 hE113; clear hE111
        refine q_skip hE113 rfl rfl rfl ?_; intro a114 hE115; clear hE113
        refine q_skip hE115 rfl rfl rfl ?_; intro a116 hE117; clear hE115
        refine q_skip hE117 rfl rfl rfl ?_; intro a118 hE119; clear hE117
        refine q_skip hE119 rfl rfl rfl ?_; intro a120 hE121; clear hE119
        refine q_skip hE121 rfl rfl rfl ?_; intro a122 hE123; clear hE121
        refine q_skip hE123 rfl rfl rfl ?_; intro a124 hE125; clear hE123
        refine q_skip hE125 rfl rfl rfl ?_; intro a126 hE127; clear hE125
        refine q_step (v := .bool false) hE127 (y_pick (b := false) rfl rfl) rfl rfl rfl ?_; intro a128 hE129; clear hE127
        refine c_nil ?_
        have hE130 := hE129.sub (L' := [(9, .int .i64 (F_l07Two mp0 mp1 mp2 np0 np1 np2)), (28, .bool false)]) ⟨rfl, rfl, trivial⟩; clear hE129
        refine p_tn ?_
        have hE131 := hE130.sub (L' := [(9, .int .i64 (F_l07Two mp0 mp1 mp2 np0 np1 np2)), (28, .bool false)]) ⟨rfl, rfl, trivial⟩
        have hS132 := (St.pick (Γ' := [.rd 1 np1A np1.length np1C np1, .rd 1 np2A np2.length np2C np2, .blk b11 #[.int .i64 np0, .slice np1A np1.length np1C, .slice np2A np2.length np2C] 32, .rd 1 mp1A mp1.length mp1C mp1, .rd 1 mp2A mp2.length mp2C mp2, .blk b5 #[.int .i64 mp0, .slice mp1A mp1.length mp1C, .slice mp2A mp2.length mp2C] 32]) hS28 [3, 2, 0, 5, 4, 1] (by decide) rfl)
        exact ⟨(by rw [hb39]; exact hE131), hS132⟩
    ·
      rintro a133 w134 ⟨hE135, hS136⟩; clear hE32 hS28
      refine c_cond hE135 rfl (fun ht138 => ?_) (fun ht138 => ?_)
      ·
        obtain ⟨ht139, ht140⟩ := band_t ht138
        have hp141 := of_decide_eq_true ht139
        have hq142 := l07Two_t hp141
        have hE143 := hE135; rw [ht138] at hE143; clear hE135
        refine c_reg ?_
        refine q_step (v := .int .i64 2) hE143 (y_assign rfl) rfl rfl rfl ?_; intro a144 hE145; clear hE143
        refine c_nil ?_
        have hE146 := hE145.sub (L' := [(9, .int .i64 2)]) ⟨rfl, trivial⟩; clear hE145
        refine p_tn ?_
        have hE147 := hE146.sub (L' := [(9, .int .i64 2)]) ⟨rfl, trivial⟩
        have hS148 := (St.pick (Γ' := [.rd 1 np1A np1.length np1C np1, .rd 1 np2A np2.length np2C np2, .blk b11 #[.int .i64 np0, .slice np1A np1.length np1C, .slice np2A np2.length np2C] 32, .rd 1 mp1A mp1.length mp1C mp1, .rd 1 mp2A mp2.length mp2C mp2, .blk b5 #[.int .i64 mp0, .slice mp1A mp1.length mp1C, .slice mp2A mp2.length mp2C] 32]) hS136 [0, 1, 2, 3, 4, 5] (by decide) rfl)
        exact ⟨(by rw [ht138]; exact hE147), hS148⟩
      ·
        have hE149 := hE135; rw [ht138] at hE149; clear hE135
        refine wp_skip ?_
        refine p_tn ?_
        have hE150 := hE149.sub (L' := [(9, .int .i64 (F_l07Two mp0 mp1 mp2 np0 np1 np2))]) ⟨rfl, trivial⟩
        have hS151 := (St.pick (Γ' := [.rd 1 np1A np1.length np1C np1, .rd 1 np2A np2.length np2C np2, .blk b11 #[.int .i64 np0, .slice np1A np1.length np1C, .slice np2A np2.length np2C] 32, .rd 1 mp1A mp1.length mp1C mp1, .rd 1 mp2A mp2.length mp2C mp2, .blk b5 #[.int .i64 mp0, .slice mp1A mp1.length mp1C, .slice mp2A mp2.length mp2C] 32]) hS136 [0, 1, 2, 3, 4, 5] (by decide) rfl)
        exact ⟨(by rw [ht138]; exact hE150), hS151⟩
  ·
    rintro a152 w153 ⟨hE154, hS155⟩; clear hE32 hS28
    refine c_seq ?_
    refine c_reg ?_
    refine q_step (v := .int .i64 (bif ((decide ((F_l07Two mp0 mp1 mp2 np0 np1 np2) = 0)) && ((!(F_l05World mp0 mp1 xp)) || (!(F_l05World np0 np1 yp)))) then 2 else F_l07Two mp0 mp1 mp2 np0 np1 np2)) hE154 (y_move rfl) rfl rfl rfl ?_; intro a157 hE158; clear hE154
    refine q_step (v := .int .i64 (bif ((decide ((F_l07Two mp0 mp1 mp2 np0 np1 np2) = 0)) && ((!(F_l05World mp0 mp1 xp)) || (!(F_l05World np0 np1 yp)))) then 2 else F_l07Two mp0 mp1 mp2 np0 np1 np2)) hE158 (y_assign rfl) rfl rfl rfl ?_; intro a159 hE160; clear hE158
    refine c_nil ?_
    have hE161 := hE160.sub (L' := [(8, .int .i64 (bif ((decide ((F_l07Two mp0 mp1 mp2 np0 np1 np2) = 0)) && ((!(F_l05World mp0 mp1 xp)) || (!(F_l05World np0 np1 yp)))) then 2 else F_l07Two mp0 mp1 mp2 np0 np1 np2))]) ⟨rfl, trivial⟩; clear hE160
    refine p_tn ?_
    refine wp_ret ?_
    have hF : F_l07Places mp0 mp1 mp2 xp np0 np1 np2 yp = bif ((decide ((F_l07Two mp0 mp1 mp2 np0 np1 np2) = 0)) && ((!(F_l05World mp0 mp1 xp)) || (!(F_l05World np0 np1 yp)))) then 2 else F_l07Two mp0 mp1 mp2 np0 np1 np2 := by unfold F_l07Places; rfl
    refine c_ret1 hE161 rfl rfl ?_
    exact ⟨(by rw [hF]; first | done | (dsimp only; done) | rfl), hS155.ext⟩

theorem l07Places_t {mp0 : Int} {mp1 mp2 : List Int} {xp np0 : Int} {np1 np2 : List Int} {yp : Int} (h : F_l07Places mp0 mp1 mp2 xp np0 np1 np2 yp = 0) : ((F_l05Is mp0 mp1 = true ∧ ((0 ≤ mp0 ∧ mp0 ≤ 8) ∧ (mp1.length : Int) = mp0) ∧ (mp2.length : Int) = 6 ∧ ∀ m : Int, 0 ≤ m → m < (mp2.length : Int) → 0 ≤ gI mp2 m ∧ gI mp2 m ≤ fullI mp0) ∧ (F_l05Is np0 np1 = true ∧ ((0 ≤ np0 ∧ np0 ≤ 8) ∧ (np1.length : Int) = np0) ∧ (np2.length : Int) = 6 ∧ ∀ m : Int, 0 ≤ m → m < (np2.length : Int) → 0 ≤ gI np2 m ∧ gI np2 m ≤ fullI np0)) ∧ (0 ≤ xp ∧ xp < mp0) ∧ 0 ≤ yp ∧ yp < np0 := by
  unfold F_l07Places at h
  by_cases h1 : F_l07Two mp0 mp1 mp2 np0 np1 np2 = 0
  · rw [decide_eq_true h1, Bool.true_and] at h
    have h2 := l07Two_t h1
    cases hx : F_l05World mp0 mp1 xp <;> cases hy : F_l05World np0 np1 yp <;> simp [hx, hy] at h
    have a := F_l01In_t (show F_l01In xp 0 (mp0 - 1) = true from hx)
    have b := F_l01In_t (show F_l01In yp 0 (np0 - 1) = true from hy)
    exact ⟨h2, ⟨by omega, by omega⟩, by omega, by omega⟩
  · rw [decide_eq_false h1, Bool.false_and, cond_false] at h; exact absurd h h1
theorem tellingCode_eq (mp0 : Int) (mp1 mp2 : List Int) (xp np0 : Int) (np1 np2 : List Int) (yp : Int) : F_tellingCode mp0 mp1 mp2 xp np0 np1 np2 yp = F_l07Places mp0 mp1 mp2 xp np0 np1 np2 yp := by
  unfold F_tellingCode F_l07Places
  rw [isModel_eq, isModel_eq, show F_l07Two mp0 mp1 mp2 np0 np1 np2 = bif ((!(F_l06Is mp0 mp1 mp2)) || (!(F_l06Is np0 np1 np2))) then 1 else 0 from rfl, show F_Frame_hasWorld mp0 mp1 xp = F_l05World mp0 mp1 xp from rfl, show F_Frame_hasWorld np0 np1 yp = F_l05World np0 np1 yp from rfl]
  cases F_l06Is mp0 mp1 mp2 <;> cases F_l06Is np0 np1 np2 <;> cases F_l05World mp0 mp1 xp <;> cases F_l05World np0 np1 yp <;> rfl
theorem tellingCode_t {mp0 : Int} {mp1 mp2 : List Int} {xp np0 : Int} {np1 np2 : List Int} {yp : Int} (h : F_tellingCode mp0 mp1 mp2 xp np0 np1 np2 yp = 0) : ((F_l05Is mp0 mp1 = true ∧ ((0 ≤ mp0 ∧ mp0 ≤ 8) ∧ (mp1.length : Int) = mp0) ∧ (mp2.length : Int) = 6 ∧ ∀ m : Int, 0 ≤ m → m < (mp2.length : Int) → 0 ≤ gI mp2 m ∧ gI mp2 m ≤ fullI mp0) ∧ (F_l05Is np0 np1 = true ∧ ((0 ≤ np0 ∧ np0 ≤ 8) ∧ (np1.length : Int) = np0) ∧ (np2.length : Int) = 6 ∧ ∀ m : Int, 0 ≤ m → m < (np2.length : Int) → 0 ≤ gI np2 m ∧ gI np2 m ≤ fullI np0)) ∧ (0 ≤ xp ∧ xp < mp0) ∧ 0 ≤ yp ∧ yp < np0 := l07Places_t (by rw [← tellingCode_eq]; exact h)
theorem spec_rows {mp0 : Int} {mp1 mp2 : List Int} {xp np0 : Int} {np1 np2 : List Int} {yp : Int} (h : F_l07Places mp0 mp1 mp2 xp np0 np1 np2 yp = 0) : ∀ r : Int, 0 ≤ r → r < ((F_l07Bounded mp0 mp1 mp2 np0 np1 np2).length : Int) → xp < ((gL (F_l07Bounded mp0 mp1 mp2 np0 np1 np2) r).length : Int) := fun r h0 h1 => by
  obtain ⟨⟨hM, hN⟩, hx, hy⟩ := l07Places_t h
  rw [l07Bounded_len] at h1
  have hat := bounded_at (np1 := np1) hM.2.1.1 hN.2.1.1 hM.2.2.1 hN.2.2.1 (fun m h0 h1 => l05Is_m hM.1 m h0 (by omega)) (k := r) h0 (by omega)
  rw [hat.2]; exact hx.2
theorem teller_bounded {mp0 : Int} {mp1 mp2 : List Int} {xp np0 : Int} {np1 np2 : List Int} {yp : Int} (h : F_tellingCode mp0 mp1 mp2 xp np0 np1 np2 yp = 0) : (F_newTeller mp0 mp1 mp2 np0 np1 np2).2.2.2.2.2.2 = F_l07Bounded mp0 mp1 mp2 np0 np1 np2 := by
  obtain ⟨⟨hM, hN⟩, hx, hy⟩ := tellingCode_t h
  unfold F_newTeller
  have := bounded_eq (np1 := np1) hM.2.1.1 hN.2.1.1 hM.2.2.1 hN.2.2.1 (fun m h0 h1 => l05Is_m hM.1 m h0 (by omega)) 16
  rw [l07Bounded_eq]
  exact this
theorem teller_rows {mp0 : Int} {mp1 mp2 : List Int} {xp np0 : Int} {np1 np2 : List Int} {yp : Int} (h : F_tellingCode mp0 mp1 mp2 xp np0 np1 np2 yp = 0) : ∀ r : Int, 0 ≤ r → r < (((F_newTeller mp0 mp1 mp2 np0 np1 np2).2.2.2.2.2.2).length : Int) → xp < ((gL ((F_newTeller mp0 mp1 mp2 np0 np1 np2).2.2.2.2.2.2) r).length : Int) := by
  rw [teller_bounded h]; exact spec_rows (by rw [← tellingCode_eq]; exact h)


def F_RoundsToTell (mp0 : Int) (mp1 : List Int) (mp2 : List Int) (xp : Int) (np0 : Int) (np1 : List Int) (np2 : List Int) (yp : Int) : (Int) × (Int) :=
  bif (!decide ((F_tellingCode mp0 mp1 mp2 xp np0 np1 np2 yp) = 0)) then (0, F_tellingCode mp0 mp1 mp2 xp np0 np1 np2 yp) else (bif (decide ((F_teller_rounds mp0 mp1 mp2 np0 np1 np2 ((F_newTeller mp0 mp1 mp2 np0 np1 np2).2.2.2.2.2.2) xp yp) < 0)) then (0, 4) else (F_teller_rounds mp0 mp1 mp2 np0 np1 np2 ((F_newTeller mp0 mp1 mp2 np0 np1 np2).2.2.2.2.2.2) xp yp, 0))
theorem cf_RoundsToTell (args : Array Value) (w : World) : (callFunc 27 args).run Try.prog w = .ok (.enter 27 args) w := by kernel_rfl
set_option maxRecDepth 100000 in
theorem c_RoundsToTell (mp0 : Int) (mp1A : Option Addr) (mp1N mp1C : Nat) (mp1 : List Int) (mp2A : Option Addr) (mp2N mp2C : Nat) (mp2 : List Int) (xp : Int) (np0 : Int) (np1A : Option Addr) (np1N np1C : Nat) (np1 : List Int) (np2A : Option Addr) (np2N np2C : Nat) (np2 : List Int) (yp : Int) (w : World) (mp1R : RdS w 1 mp1A mp1N mp1C mp1) (mp2R : RdS w 1 mp2A mp2N mp2C mp2) (np1R : RdS w 1 np1A np1N np1C np1) (np2R : RdS w 1 np2A np2N np2C np2) :
    Calls Try.prog 27 #[.agg #[.int .i64 mp0, .slice mp1A mp1N mp1C, .slice mp2A mp2N mp2C], .int .i64 xp, .agg #[.int .i64 np0, .slice np1A np1N np1C, .slice np2A np2N np2C], .int .i64 yp] w (Ret fun v w' => v = .tuple #[.int .i64 ((F_RoundsToTell mp0 mp1 mp2 xp np0 np1 np2 yp).1), .int .i64 ((F_RoundsToTell mp0 mp1 mp2 xp np0 np1 np2 yp).2)] ∧ Ext w w') := by
  obtain rfl : mp1N = mp1.length := mp1R.len1.symm
  have mp1Le := mp1R.le
  obtain rfl : mp2N = mp2.length := mp2R.len1.symm
  have mp2Le := mp2R.le
  obtain rfl : np1N = np1.length := np1R.len1.symm
  have np1Le := np1R.le
  obtain rfl : np2N = np2.length := np2R.len1.symm
  have np2Le := np2R.le
  have hS := St.nil w
  have hS1 := St.rd0 hS rfl mp1R; clear hS
  have hS2 := St.rd0 hS1 rfl mp2R; clear hS1
  have hS3 := St.rd0 hS2 rfl np1R; clear hS2
  have hS4 := St.rd0 hS3 rfl np2R; clear hS3
  refine enter (args := [.agg #[.int .i64 mp0, .slice mp1A mp1.length mp1C, .slice mp2A mp2.length mp2C], .int .i64 xp, .agg #[.int .i64 np0, .slice np1A np1.length np1C, .slice np2A np2.length np2C], .int .i64 yp]) Try.func27 rfl rfl ?_
  rw [Try.ntmps27]; intro a hE
  have hE := hE.sub (L' := [(0, .agg #[.int .i64 mp0, .slice mp1A mp1.length mp1C, .slice mp2A mp2.length mp2C]), (1, .int .i64 xp), (2, .agg #[.int .i64 np0, .slice np1A np1.length np1C, .slice np2A np2.length np2C]), (3, .int .i64 yp)]) ⟨rfl, rfl, rfl, rfl, trivial⟩
  refine c_seq ?_
  refine c_reg ?_
  refine l_step hE rfl (l_box (v := .agg #[.int .i64 mp0, .slice mp1A mp1.length mp1C, .slice mp2A mp2.length mp2C]) (cs := #[.int .i64 mp0, .slice mp1A mp1.length mp1C, .slice mp2A mp2.length mp2C]) hS4 hE rfl rfl rfl ?_)
  intro b5 w6 hS9 he10 a7 hE8; clear hS4 hE
  refine l_step hE8 rfl (l_box (v := .agg #[.int .i64 np0, .slice np1A np1.length np1C, .slice np2A np2.length np2C]) (cs := #[.int .i64 np0, .slice np1A np1.length np1C, .slice np2A np2.length np2C]) hS9 hE8 rfl rfl rfl ?_)
  intro b11 w12 hS15 he16 a13 hE14; clear hS9 hE8
  refine q_step (v := .int .i64 0) hE14 (y_assign rfl) rfl rfl rfl ?_; intro a17 hE18; clear hE14
  refine q_step (v := .int .i64 0) hE18 (y_assign rfl) rfl rfl rfl ?_; intro a19 hE20; clear hE18
  refine c_nil ?_
  have hE21 := hE20.sub (L' := [(1, .int .i64 xp), (3, .int .i64 yp), (4, .pointer (some ⟨b5, 0, none⟩)), (6, .pointer (some ⟨b11, 0, none⟩))]) ⟨rfl, rfl, rfl, rfl, trivial⟩; clear hE20
  refine p_tn ?_
  refine c_seq ?_
  refine c_seq ?_
  refine c_reg ?_
  refine q_step (v := .agg #[.int .i64 mp0, .slice mp1A mp1.length mp1C, .slice mp2A mp2.length mp2C]) hE21 (y_loadS Try.underlying32 rfl (by kernel_rfl) rfl (St.row (i := 1) hS15 rfl)) rfl rfl rfl ?_; intro a22 hE23; clear hE21
  refine q_step (v := .int .i64 xp) hE23 (y_move rfl) rfl rfl rfl ?_; intro a24 hE25; clear hE23
  refine q_step (v := .agg #[.int .i64 np0, .slice np1A np1.length np1C, .slice np2A np2.length np2C]) hE25 (y_loadS Try.underlying32 rfl (by kernel_rfl) rfl (St.row (i := 0) hS15 rfl)) rfl rfl rfl ?_; intro a26 hE27; clear hE25
  refine q_step (v := .int .i64 yp) hE27 (y_move rfl) rfl rfl rfl ?_; intro a28 hE29; clear hE27
  refine l_step hE29 rfl (l_call (f := 91) (argv := [.agg #[.int .i64 mp0, .slice mp1A mp1.length mp1C, .slice mp2A mp2.length mp2C], .int .i64 xp, .agg #[.int .i64 np0, .slice np1A np1.length np1C, .slice np2A np2.length np2C], .int .i64 yp]) hE29 (fun _ => cf_tellingCode _ _) rfl rfl (c_tellingCode mp0 mp1A mp1.length mp1C mp1 mp2A mp2.length mp2C mp2 xp np0 np1A np1.length np1C np1 np2A np2.length np2C np2 yp w12 (St.rdR (i := 5) hS15 rfl) (St.rdR (i := 4) hS15 rfl) (St.rdR (i := 3) hS15 rfl) (St.rdR (i := 2) hS15 rfl)) ?_)
  rintro _ w31 ⟨rfl, he35⟩ a32 hE33; clear hE29
  have hS34 := St.go hS15 he35; clear hS15
  refine q_step (v := .int .i64 (F_tellingCode mp0 mp1 mp2 xp np0 np1 np2 yp)) hE33 (y_assign rfl) rfl rfl rfl ?_; intro a36 hE37; clear hE33
  refine c_nil ?_
  have hE38 := hE37.sub (L' := [(1, .int .i64 xp), (3, .int .i64 yp), (4, .pointer (some ⟨b5, 0, none⟩)), (6, .pointer (some ⟨b11, 0, none⟩)), (10, .int .i64 (F_tellingCode mp0 mp1 mp2 xp np0 np1 np2 yp))]) ⟨rfl, rfl, rfl, rfl, rfl, trivial⟩; clear hE37
  refine p_tn ?_
  refine c_seq ?_
  refine c_reg ?_
  refine q_step (v := .int .i64 (F_tellingCode mp0 mp1 mp2 xp np0 np1 np2 yp)) hE38 (y_move rfl) rfl rfl rfl ?_; intro a39 hE40; clear hE38
  refine q_step (v := .bool (!decide ((F_tellingCode mp0 mp1 mp2 xp np0 np1 np2 yp) = 0))) hE40 (y_neq rfl rfl) rfl rfl rfl ?_; intro a41 hE42; clear hE40
  refine c_nil ?_
  have hE43 := hE42.sub (L' := [(1, .int .i64 xp), (3, .int .i64 yp), (4, .pointer (some ⟨b5, 0, none⟩)), (6, .pointer (some ⟨b11, 0, none⟩)), (10, .int .i64 (F_tellingCode mp0 mp1 mp2 xp np0 np1 np2 yp)), (18, .bool (!decide ((F_tellingCode mp0 mp1 mp2 xp np0 np1 np2 yp) = 0)))]) ⟨rfl, rfl, rfl, rfl, rfl, rfl, trivial⟩; clear hE42
  refine p_tn ?_
  refine c_cond hE43 rfl (fun ht44 => ?_) (fun ht44 => ?_)
  ·
    have ht45 := bn_t ht44
    have hp46 := of_decide_eq_false ht45
    have hE47 := hE43; rw [ht44] at hE47; clear hE43
    refine c_seq ?_
    refine c_reg ?_
    refine q_step (v := .int .i64 (F_tellingCode mp0 mp1 mp2 xp np0 np1 np2 yp)) hE47 (y_move rfl) rfl rfl rfl ?_; intro a48 hE49; clear hE47
    refine q_step (v := .int .i64 0) hE49 (y_assign rfl) rfl rfl rfl ?_; intro a50 hE51; clear hE49
    refine q_step (v := .int .i64 (F_tellingCode mp0 mp1 mp2 xp np0 np1 np2 yp)) hE51 (y_assign rfl) rfl rfl rfl ?_; intro a52 hE53; clear hE51
    refine c_nil ?_
    have hE54 := hE53.sub (L' := [(8, .int .i64 0), (9, .int .i64 (F_tellingCode mp0 mp1 mp2 xp np0 np1 np2 yp))]) ⟨rfl, rfl, trivial⟩; clear hE53
    refine p_tn ?_
    refine wp_ret ?_
    refine p_tr ?_
    have hF : F_RoundsToTell mp0 mp1 mp2 xp np0 np1 np2 yp = (0, F_tellingCode mp0 mp1 mp2 xp np0 np1 np2 yp) := by unfold F_RoundsToTell; rw [ht44]; first | done | rfl
    refine c_ret2 hE54 rfl rfl rfl ?_
    exact ⟨(by rw [hF]; first | done | (dsimp only; done) | rfl), hS34.ext⟩
  ·
    have ht55 := bn_f ht44
    have hp56 := of_decide_eq_true ht55
    have hq57 := tellingCode_t hp56
    have hE58 := hE43; rw [ht44] at hE58; clear hE43
    refine wp_skip ?_
    refine p_tn ?_
    refine c_seq ?_
    refine c_reg ?_
    refine q_step (v := .agg #[.int .i64 mp0, .slice mp1A mp1.length mp1C, .slice mp2A mp2.length mp2C]) hE58 (y_loadS Try.underlying32 rfl (by kernel_rfl) rfl (St.row (i := 1) hS34 rfl)) rfl rfl rfl ?_; intro a59 hE60; clear hE58
    refine q_step (v := .agg #[.int .i64 np0, .slice np1A np1.length np1C, .slice np2A np2.length np2C]) hE60 (y_loadS Try.underlying32 rfl (by kernel_rfl) rfl (St.row (i := 0) hS34 rfl)) rfl rfl rfl ?_; intro a61 hE62; clear hE60
    refine l_step hE62 rfl (l_call (f := 92) (argv := [.agg #[.int .i64 mp0, .slice mp1A mp1.length mp1C, .slice mp2A mp2.length mp2C], .agg #[.int .i64 np0, .slice np1A np1.length np1C, .slice np2A np2.length np2C]]) hE62 (fun _ => cf_newTeller _ _) rfl rfl (c_newTeller mp0 mp1A mp1.length mp1C mp1 mp2A mp2.length mp2C mp2 np0 np1A np1.length np1C np1 np2A np2.length np2C np2 w31 (St.rdR (i := 5) hS34 rfl) (St.rdR (i := 4) hS34 rfl) (St.rdR (i := 3) hS34 rfl) (St.rdR (i := 2) hS34 rfl) (by omega) (by omega) (by omega) (by omega) (by omega) (by omega) (l05Is_m (tellingCode_t (by assumption)).1.1.1)) ?_)
    rintro _ w64 ⟨b69, b70, c71, h72, rfl, ho73⟩ a65 hE66; clear hE62
    have he68 := ho73.ext
    have hS67 := St.comp hS34 ho73 rfl; clear hS34
    simp only [List.cons_append, List.nil_append] at hS67
    refine q_step (v := .int .i64 xp) hE66 (y_move rfl) rfl rfl rfl ?_; intro a74 hE75; clear hE66
    refine q_step (v := .int .i64 yp) hE75 (y_move rfl) rfl rfl rfl ?_; intro a76 hE77; clear hE75
    refine l_step hE77 rfl (l_call (f := 93) (argv := [.pointer (some ⟨b69, 0, none⟩), .int .i64 xp, .int .i64 yp]) hE77 (fun _ => cf_teller_rounds _ _) rfl rfl (c_teller_rounds b69 mp0 mp1A mp1.length mp1C mp1 mp2A mp2.length mp2C mp2 np0 np1A np1.length np1C np1 np2A np2.length np2C np2 b70 (((F_newTeller mp0 mp1 mp2 np0 np1 np2).2.2.2.2.2.2).length) c71 h72 ((F_newTeller mp0 mp1 mp2 np0 np1 np2).2.2.2.2.2.2) xp yp w64 (St.rdR (i := 7) hS67 rfl) (St.rdR (i := 6) hS67 rfl) (St.rdR (i := 5) hS67 rfl) (St.rdR (i := 4) hS67 rfl) (St.rdNo (i := 1) hS67 rfl) (St.row (i := 0) hS67 rfl _ (Ext.refl _)) (by omega) (by omega) (teller_rows (by assumption))) ?_)
    rintro _ w79 ⟨rfl, he83⟩ a80 hE81; clear hE77
    have hS82 := St.go hS67 he83; clear hS67
    refine q_step (v := .int .i64 (F_teller_rounds mp0 mp1 mp2 np0 np1 np2 ((F_newTeller mp0 mp1 mp2 np0 np1 np2).2.2.2.2.2.2) xp yp)) hE81 (y_assign rfl) rfl rfl rfl ?_; intro a84 hE85; clear hE81
    refine c_nil ?_
    have hE86 := hE85.sub (L' := [(11, .int .i64 (F_teller_rounds mp0 mp1 mp2 np0 np1 np2 ((F_newTeller mp0 mp1 mp2 np0 np1 np2).2.2.2.2.2.2) xp yp))]) ⟨rfl, trivial⟩; clear hE85
    refine p_tn ?_
    refine c_seq ?_
    refine c_seq ?_
    refine c_reg ?_
    refine q_step (v := .int .i64 (F_teller_rounds mp0 mp1 mp2 np0 np1 np2 ((F_newTeller mp0 mp1 mp2 np0 np1 np2).2.2.2.2.2.2) xp yp)) hE86 (y_move rfl) rfl rfl rfl ?_; intro a87 hE88; clear hE86
    refine q_step (v := .bool (decide ((F_teller_rounds mp0 mp1 mp2 np0 np1 np2 ((F_newTeller mp0 mp1 mp2 np0 np1 np2).2.2.2.2.2.2) xp yp) < 0))) hE88 (y_lss rfl rfl) rfl rfl rfl ?_; intro a89 hE90; clear hE88
    refine c_nil ?_
    have hE91 := hE90.sub (L' := [(11, .int .i64 (F_teller_rounds mp0 mp1 mp2 np0 np1 np2 ((F_newTeller mp0 mp1 mp2 np0 np1 np2).2.2.2.2.2.2) xp yp)), (27, .bool (decide ((F_teller_rounds mp0 mp1 mp2 np0 np1 np2 ((F_newTeller mp0 mp1 mp2 np0 np1 np2).2.2.2.2.2.2) xp yp) < 0)))]) ⟨rfl, rfl, trivial⟩; clear hE90
    refine p_tn ?_
    refine c_cond hE91 rfl (fun ht92 => ?_) (fun ht92 => ?_)
    ·
      have hp93 := of_decide_eq_true ht92
      have hE94 := hE91; rw [ht92] at hE94; clear hE91
      refine c_seq ?_
      refine c_reg ?_
      refine q_step (v := .int .i64 0) hE94 (y_assign rfl) rfl rfl rfl ?_; intro a95 hE96; clear hE94
      refine q_step (v := .int .i64 4) hE96 (y_assign rfl) rfl rfl rfl ?_; intro a97 hE98; clear hE96
      refine c_nil ?_
      have hE99 := hE98.sub (L' := [(8, .int .i64 0), (9, .int .i64 4)]) ⟨rfl, rfl, trivial⟩; clear hE98
      refine p_tn ?_
      refine wp_ret ?_
      refine p_tr ?_
      have hF : F_RoundsToTell mp0 mp1 mp2 xp np0 np1 np2 yp = (0, 4) := by unfold F_RoundsToTell; rw [ht92, ht44]; first | done | rfl
      refine c_ret2 hE99 rfl rfl rfl ?_
      exact ⟨(by rw [hF]; first | done | (dsimp only; done) | rfl), hS82.ext⟩
    ·
      have hp100 := of_decide_eq_false ht92
      have hE101 := hE91; rw [ht92] at hE101; clear hE91
      refine wp_skip ?_
      refine p_tn ?_
      refine c_seq ?_
      refine c_reg ?_
      refine q_step (v := .int .i64 (F_teller_rounds mp0 mp1 mp2 np0 np1 np2 ((F_newTeller mp0 mp1 mp2 np0 np1 np2).2.2.2.2.2.2) xp yp)) hE101 (y_move rfl) rfl rfl rfl ?_; intro a102 hE103; clear hE101
      refine q_step (v := .int .i64 (F_teller_rounds mp0 mp1 mp2 np0 np1 np2 ((F_newTeller mp0 mp1 mp2 np0 np1 np2).2.2.2.2.2.2) xp yp)) hE103 (y_assign rfl) rfl rfl rfl ?_; intro a104 hE105; clear hE103
      refine q_step (v := .int .i64 0) hE105 (y_assign rfl) rfl rfl rfl ?_; intro a106 hE107; clear hE105
      refine c_nil ?_
      have hE108 := hE107.sub (L' := [(8, .int .i64 (F_teller_rounds mp0 mp1 mp2 np0 np1 np2 ((F_newTeller mp0 mp1 mp2 np0 np1 np2).2.2.2.2.2.2) xp yp)), (9, .int .i64 0)]) ⟨rfl, rfl, trivial⟩; clear hE107
      refine p_tn ?_
      refine wp_ret ?_
      have hF : F_RoundsToTell mp0 mp1 mp2 xp np0 np1 np2 yp = (F_teller_rounds mp0 mp1 mp2 np0 np1 np2 ((F_newTeller mp0 mp1 mp2 np0 np1 np2).2.2.2.2.2.2) xp yp, 0) := by unfold F_RoundsToTell; rw [ht92, ht44]; first | done | rfl
      refine c_ret2 hE108 rfl rfl rfl ?_
      exact ⟨(by rw [hF]; first | done | (dsimp only; done) | rfl), hS82.ext⟩

def F_l07Rounds_L1b (links : List (List Int)) (xp : Int) (yp : Int) (rec : Int → Except (Int) (Int)) (k7 : Int) : Except (Int) (Int) :=
  bif (decide (k7 < ((links).length : Int))) then (bif (!(F_l01Bit (gI (gL links k7) xp) yp)) then (.error k7) else (rec (k7 + 1))) else (.ok k7)
def F_l07Rounds_L1 (links : List (List Int)) (xp : Int) (yp : Int) : Nat → Int → Except (Int) (Int)
  | 0, k7 => .ok k7
  | r + 1, k7 => F_l07Rounds_L1b links xp yp (F_l07Rounds_L1 links xp yp r) k7
def F_l07Rounds (links : List (List Int)) (xp : Int) (yp : Int) : Int :=
  bif (isOk (F_l07Rounds_L1 links xp yp (Int.toNat (((links).length : Int) - 0) + 1) 0)) then (-1) else (errD (F_l07Rounds_L1 links xp yp (Int.toNat (((links).length : Int) - 0) + 1) 0))
theorem cf_l07Rounds (args : Array Value) (w : World) : (callFunc 90 args).run Try.prog w = .ok (.enter 90 args) w := by kernel_rfl
set_option maxRecDepth 100000 in
theorem c_l07Rounds (linksA : Option Addr) (linksN linksC : Nat) (linksQ : List Hd) (links : List (List Int)) (xp : Int) (yp : Int) (w : World) (linksR : RdN w 1 linksA linksN linksC linksQ links) (h0 : 0 ≤ xp) (h2 : 0 ≤ yp ∧ yp < 64) (hx : ∀ r : Int, 0 ≤ r → r < (links.length : Int) → xp < ((gL links r).length : Int)) :
    Calls Try.prog 90 #[.slice linksA linksN linksC, .int .i64 xp, .int .i64 yp] w (Ret fun v w' => v = .int .i64 (F_l07Rounds links xp yp) ∧ Ext w w') := by
  obtain rfl : linksN = links.length := linksR.len
  have linksLe := linksR.le
  have hS := St.nil w
  have hS1 := St.rdn0 hS rfl linksR; clear hS
  refine enter (args := [.slice linksA ((links).length) linksC, .int .i64 xp, .int .i64 yp]) Try.func90 rfl rfl ?_
  rw [Try.ntmps90]; intro a hE
  have hE := hE.sub (L' := [(0, .slice linksA ((links).length) linksC), (1, .int .i64 xp), (2, .int .i64 yp)]) ⟨rfl, rfl, rfl, trivial⟩
  refine c_seq ?_
  refine c_reg ?_
  refine q_step (v := .int .i64 0) hE (y_assign rfl) rfl rfl rfl ?_; intro a2 hE3; clear hE
  refine c_nil ?_
  have hE4 := hE3.sub (L' := [(0, .slice linksA ((links).length) linksC), (1, .int .i64 xp), (2, .int .i64 yp)]) ⟨rfl, rfl, rfl, trivial⟩; clear hE3
  refine p_tn ?_
  refine c_seq ?_
  refine c_seq ?_
  refine c_reg ?_
  refine q_step (v := .int .i64 0) hE4 (y_assign rfl) rfl rfl rfl ?_; intro a5 hE6; clear hE4
  refine c_nil ?_
  have hE7 := hE6.sub (L' := [(0, .slice linksA ((links).length) linksC), (1, .int .i64 xp), (2, .int .i64 yp), (7, .int .i64 0)]) ⟨rfl, rfl, rfl, rfl, trivial⟩; clear hE6
  refine p_tn ?_
  refine c_cut1 (fun a' w' => isOk (F_l07Rounds_L1 links xp yp (Int.toNat (((links).length : Int) - 0) + 1) 0) = true ∧ (0 ≤ (okD (F_l07Rounds_L1 links xp yp (Int.toNat (((links).length : Int) - 0) + 1) 0))) ∧ ((okD (F_l07Rounds_L1 links xp yp (Int.toNat (((links).length : Int) - 0) + 1) 0)) ≤ ((links).length : Int)) ∧ E a' 25 [(0, .slice linksA ((links).length) linksC), (1, .int .i64 xp), (2, .int .i64 yp), (7, .int .i64 (okD (F_l07Rounds_L1 links xp yp (Int.toNat (((links).length : Int) - 0) + 1) 0)))] ∧ St w w' [.rdn 1 linksA ((links).length) linksC linksQ links]) ?_ ?_
  ·
    refine wp_block ?_
    refine c_loop (fun r a' w' => ∃ k7 : Int, F_l07Rounds_L1 links xp yp r k7 = F_l07Rounds_L1 links xp yp (Int.toNat (((links).length : Int) - 0) + 1) 0 ∧ Int.toNat (((links).length : Int) - k7) < r ∧ (0 ≤ k7) ∧ (k7 ≤ ((links).length : Int)) ∧ E a' 25 [(0, .slice linksA ((links).length) linksC), (1, .int .i64 xp), (2, .int .i64 yp), (7, .int .i64 k7)] ∧ St w w' [.rdn 1 linksA ((links).length) linksC linksQ links]) (r := (Int.toNat (((links).length : Int) - 0) + 1)) ?_ ?_
    · exact ⟨0, rfl, Nat.lt_succ_self _, (by first | omega | (simp only [sS_len, sL_len]; omega) | (simp only [List.length_replicate, sI_len]; omega) | (simp only [List.length_append, List.length_cons, List.length_nil, sI_len, cond_true, cond_false]; omega) | (simp only [List.length_append, List.length_cons, List.length_nil, sI_len, cond_eq_ite, apply_ite List.length]; split <;> simp only [List.length_append, List.length_cons, List.length_nil, sI_len] <;> omega) | grind), (by first | omega | (simp only [sS_len, sL_len]; omega) | (simp only [List.length_replicate, sI_len]; omega) | (simp only [List.length_append, List.length_cons, List.length_nil, sI_len, cond_true, cond_false]; omega) | (simp only [List.length_append, List.length_cons, List.length_nil, sI_len, cond_eq_ite, apply_ite List.length]; split <;> simp only [List.length_append, List.length_cons, List.length_nil, sI_len] <;> omega) | grind), (hE7.sub (L' := [(0, .slice linksA ((links).length) linksC), (1, .int .i64 xp), (2, .int .i64 yp), (7, .int .i64 0)]) ⟨rfl, rfl, rfl, rfl, trivial⟩), (St.pick (Γ' := [.rdn 1 linksA ((links).length) linksC linksQ links]) hS1 [0] (by decide) rfl)⟩
    ·
      clear hE7 hS1
      rintro r17 a9 w10 ⟨k7, hT13, hr14, hi15, hi16, hE11, hS12⟩
      obtain ⟨r17, rfl⟩ : ∃ r', r17 = r' + 1 := ⟨r17 - 1, by omega⟩
      refine c_seq ?_
      refine c_seq ?_
      refine c_reg ?_
      refine q_step (v := .int .i64 k7) hE11 (y_move rfl) rfl rfl rfl ?_; intro a18 hE19; clear hE11
      refine q_step (v := .slice linksA ((links).length) linksC) hE19 (y_move rfl) rfl rfl rfl ?_; intro a20 hE21; clear hE19
      refine q_step (v := .int .i64 ((links).length : Int)) hE21 (y_len (e := 22) (by kernel_rfl) rfl) rfl rfl rfl ?_; intro a22 hE23; clear hE21
      refine q_step (v := .bool (decide (k7 < ((links).length : Int)))) hE23 (y_lss rfl rfl) rfl rfl rfl ?_; intro a24 hE25; clear hE23
      refine c_nil ?_
      have hE26 := hE25.sub (L' := [(0, .slice linksA ((links).length) linksC), (1, .int .i64 xp), (2, .int .i64 yp), (7, .int .i64 k7), (11, .bool (decide (k7 < ((links).length : Int))))]) ⟨rfl, rfl, rfl, rfl, rfl, trivial⟩; clear hE25
      refine p_tn ?_
      refine c_cond hE26 rfl (fun ht27 => ?_) (fun ht27 => ?_)
      ·
        have hp28 := of_decide_eq_true ht27
        have hE29 := hE26; rw [ht27] at hE29; clear hE26
        have hx1 := hx k7 (by omega) (by omega)
        refine wp_skip ?_
        refine p_tn ?_
        refine c_seq ?_
        refine wp_block ?_
        refine c_seq ?_
        refine c_reg ?_
        refine q_step (v := .slice linksA ((links).length) linksC) hE29 (y_move rfl) rfl rfl rfl ?_; intro a30 hE31; clear hE29
        refine q_step (v := .int .i64 k7) hE31 (y_move rfl) rfl rfl rfl ?_; intro a32 hE33; clear hE31
        refine q_step (v := .pointer (some (adr linksA (Int.toNat k7)))) hE33 (y_idx (by kernel_rfl) (fun _ => by kernel_rfl) rfl rfl (RdN.isS (m := k7) (St.rdNr (i := 0) hS12 rfl) (by omega) (by omega)) (by omega) (by omega) (Nat.mul_one _).symm) rfl rfl rfl ?_; intro a34 hE35; clear hE33
        have hv36 : (0 : Int) ≤ k7 ∧ k7 < (((links).length) : Int) := ⟨(by omega), (by omega)⟩
        refine q_step (v := .slice (hdA linksQ k7) ((gL links k7).length) (hdC linksQ k7)) hE35 (y_load (fun _ => by kernel_rfl) rfl (RdN.elt1 (St.rdNr (i := 0) hS12 rfl) (by omega) (by omega))) rfl rfl rfl ?_; intro a38 hE39; clear hE35
        refine q_step (v := .int .i64 xp) hE39 (y_move rfl) rfl rfl rfl ?_; intro a40 hE41; clear hE39
        refine q_step (v := .pointer (some (adr (hdA linksQ k7) (Int.toNat xp)))) hE41 (y_idx (by kernel_rfl) (fun _ => by kernel_rfl) rfl rfl (RdS.isS (m := xp) (RdN.row1 (St.rdNr (i := 0) hS12 rfl) hv36.1 hv36.2) (by omega) (by omega)) (by omega) (by omega) (Nat.mul_one _).symm) rfl rfl rfl ?_; intro a42 hE43; clear hE41
        refine q_step (v := .int .i64 (gI (gL links k7) xp)) hE43 (y_load (fun _ => by kernel_rfl) rfl (RdS.elt (RdN.row1 (St.rdNr (i := 0) hS12 rfl) hv36.1 hv36.2) (by omega) (by omega))) rfl rfl rfl ?_; intro a44 hE45; clear hE43
        refine q_step (v := .int .i64 yp) hE45 (y_move rfl) rfl rfl rfl ?_; intro a46 hE47; clear hE45
        refine l_step hE47 rfl (l_call (f := 144) (argv := [.int .i64 (gI (gL links k7) xp), .int .i64 yp]) hE47 (fun _ => cf_l01Bit _ _) rfl rfl (c_l01Bit (gI (gL links k7) xp) yp w10 (by omega) (by omega)) ?_)
        rintro _ _ ⟨rfl, rfl⟩ a50 hE51; clear hE47
        refine q_step (v := .bool (!(F_l01Bit (gI (gL links k7) xp) yp))) hE51 (y_not rfl) rfl rfl rfl ?_; intro a54 hE55; clear hE51
        refine c_nil ?_
        have hE56 := hE55.sub (L' := [(0, .slice linksA ((links).length) linksC), (1, .int .i64 xp), (2, .int .i64 yp), (7, .int .i64 k7), (23, .bool (!(F_l01Bit (gI (gL links k7) xp) yp)))]) ⟨rfl, rfl, rfl, rfl, rfl, trivial⟩; clear hE55
        refine p_tn ?_
        refine c_cond hE56 rfl (fun ht57 => ?_) (fun ht57 => ?_)
        ·
          have ht58 := bn_t ht57
          have hE59 := hE56; rw [ht57] at hE59; clear hE56
          refine c_seq ?_
          refine c_reg ?_
          refine q_step (v := .int .i64 k7) hE59 (y_move rfl) rfl rfl rfl ?_; intro a60 hE61; clear hE59
          refine q_step (v := .int .i64 k7) hE61 (y_assign rfl) rfl rfl rfl ?_; intro a62 hE63; clear hE61
          refine c_nil ?_
          have hE64 := hE63.sub (L' := [(6, .int .i64 k7)]) ⟨rfl, trivial⟩; clear hE63
          refine p_tn ?_
          refine wp_ret ?_
          refine p_br ?_
          refine p_tr ?_
          have hX65 : F_l07Rounds_L1 links xp yp (Int.toNat (((links).length : Int) - 0) + 1) 0 = .error k7 := hT13.symm.trans (show F_l07Rounds_L1b links xp yp (F_l07Rounds_L1 links xp yp r17) k7 = .error k7 by unfold F_l07Rounds_L1b; rw [ht57, ht27]; first | done | rfl)
          refine p_tr (p_br (p_tr ?_))
          refine p_tr ?_
          have hF : F_l07Rounds links xp yp = k7 := by unfold F_l07Rounds; rw [hX65]; first | done | rfl
          refine c_ret1 hE64 rfl rfl ?_
          exact ⟨(by rw [hF]; first | done | (dsimp only; done) | rfl), hS12.ext⟩
        ·
          have ht66 := bn_f ht57
          have hE67 := hE56; rw [ht57] at hE67; clear hE56
          refine wp_skip ?_
          refine p_bn ?_
          refine p_tn ?_
          refine c_reg ?_
          refine q_step (v := .int .i64 k7) hE67 (y_move rfl) rfl rfl rfl ?_; intro a68 hE69; clear hE67
          refine q_step (v := .int .i64 (k7 + 1)) hE69 (y_add rfl rfl ⟨(by omega), (by omega)⟩) rfl rfl rfl ?_; intro a70 hE71; clear hE69
          refine q_step (v := .int .i64 (k7 + 1)) hE71 (y_assign rfl) rfl rfl rfl ?_; intro a72 hE73; clear hE71
          refine c_nil ?_
          have hE74 := hE73.sub (L' := [(0, .slice linksA ((links).length) linksC), (1, .int .i64 xp), (2, .int .i64 yp), (7, .int .i64 (k7 + 1))]) ⟨rfl, rfl, rfl, rfl, trivial⟩; clear hE73
          refine p_tn ⟨r17, Nat.lt_succ_self _, k7 + 1, (hT13.symm.trans (show F_l07Rounds_L1b links xp yp (F_l07Rounds_L1 links xp yp r17) k7 = F_l07Rounds_L1 links xp yp r17 (k7 + 1) by unfold F_l07Rounds_L1b; rw [ht57, ht27]; first | done | rfl)).symm, (by omega), (by first | omega | (simp only [sS_len, sL_len]; omega) | (simp only [List.length_replicate, sI_len]; omega) | (simp only [List.length_append, List.length_cons, List.length_nil, sI_len, cond_true, cond_false]; omega) | (simp only [List.length_append, List.length_cons, List.length_nil, sI_len, cond_eq_ite, apply_ite List.length]; split <;> simp only [List.length_append, List.length_cons, List.length_nil, sI_len] <;> omega) | grind), (by first | omega | (simp only [sS_len, sL_len]; omega) | (simp only [List.length_replicate, sI_len]; omega) | (simp only [List.length_append, List.length_cons, List.length_nil, sI_len, cond_true, cond_false]; omega) | (simp only [List.length_append, List.length_cons, List.length_nil, sI_len, cond_eq_ite, apply_ite List.length]; split <;> simp only [List.length_append, List.length_cons, List.length_nil, sI_len] <;> omega) | grind), (hE74.sub (L' := [(0, .slice linksA ((links).length) linksC), (1, .int .i64 xp), (2, .int .i64 yp), (7, .int .i64 (k7 + 1))]) ⟨rfl, rfl, rfl, rfl, trivial⟩), (St.pick (Γ' := [.rdn 1 linksA ((links).length) linksC linksQ links]) hS12 [0] (by decide) rfl)⟩
      ·
        have hp75 := of_decide_eq_false ht27
        have hE76 := hE26; rw [ht27] at hE76; clear hE26
        refine wp_exit ?_
        refine p_te ?_
        have hX77 : F_l07Rounds_L1 links xp yp (Int.toNat (((links).length : Int) - 0) + 1) 0 = .ok k7 := hT13.symm.trans (show F_l07Rounds_L1b links xp yp (F_l07Rounds_L1 links xp yp r17) k7 = .ok k7 by unfold F_l07Rounds_L1b; rw [ht27]; first | done | rfl)
        refine p_te (p_be (p_tn ?_))
        exact ⟨(by rw [hX77]; rfl), (by rw [hX77]; exact (show 0 ≤ k7 from (by first | omega | (simp only [sS_len, sL_len]; omega) | (simp only [List.length_replicate, sI_len]; omega) | (simp only [List.length_append, List.length_cons, List.length_nil, sI_len, cond_true, cond_false]; omega) | (simp only [List.length_append, List.length_cons, List.length_nil, sI_len, cond_eq_ite, apply_ite List.length]; split <;> simp only [List.length_append, List.length_cons, List.length_nil, sI_len] <;> omega) | grind))), (by rw [hX77]; exact (show k7 ≤ ((links).length : Int) from (by first | omega | (simp only [sS_len, sL_len]; omega) | (simp only [List.length_replicate, sI_len]; omega) | (simp only [List.length_append, List.length_cons, List.length_nil, sI_len, cond_true, cond_false]; omega) | (simp only [List.length_append, List.length_cons, List.length_nil, sI_len, cond_eq_ite, apply_ite List.length]; split <;> simp only [List.length_append, List.length_cons, List.length_nil, sI_len] <;> omega) | grind))), (by rw [hX77]; exact (hE76.sub (L' := [(0, .slice linksA ((links).length) linksC), (1, .int .i64 xp), (2, .int .i64 yp), (7, .int .i64 k7)]) ⟨rfl, rfl, rfl, rfl, trivial⟩)), (St.pick (Γ' := [.rdn 1 linksA ((links).length) linksC linksQ links]) hS12 [0] (by decide) rfl)⟩
  ·
    rintro a78 w79 ⟨hO82, hi83, hi84, hE80, hS81⟩; clear hE7 hS1
    refine p_tn ?_
    refine c_seq ?_
    refine c_reg ?_
    refine q_step (v := .int .i64 (-1)) hE80 (y_assign rfl) rfl rfl rfl ?_; intro a85 hE86; clear hE80
    refine c_nil ?_
    have hE87 := hE86.sub (L' := [(6, .int .i64 (-1))]) ⟨rfl, trivial⟩; clear hE86
    refine p_tn ?_
    refine wp_ret ?_
    have hF : F_l07Rounds links xp yp = -1 := by unfold F_l07Rounds; rw [hO82]; first | done | rfl
    refine c_ret1 hE87 rfl rfl ?_
    exact ⟨(by rw [hF]; first | done | (dsimp only; done) | rfl), hS81.ext⟩

def F_s_RoundsToTell (mp0 : Int) (mp1 : List Int) (mp2 : List Int) (xp : Int) (np0 : Int) (np1 : List Int) (np2 : List Int) (yp : Int) : (Int) × (Int) :=
  bif (!decide ((F_l07Places mp0 mp1 mp2 xp np0 np1 np2 yp) = 0)) then (0, F_l07Places mp0 mp1 mp2 xp np0 np1 np2 yp) else (bif (decide ((F_l07Rounds (F_l07Bounded mp0 mp1 mp2 np0 np1 np2) xp yp) < 0)) then (0, 4) else (F_l07Rounds (F_l07Bounded mp0 mp1 mp2 np0 np1 np2) xp yp, 0))
theorem cf_s_RoundsToTell (args : Array Value) (w : World) : (callFunc 26 args).run Try.prog w = .ok (.enter 26 args) w := by kernel_rfl
set_option maxRecDepth 100000 in
theorem c_s_RoundsToTell (mp0 : Int) (mp1A : Option Addr) (mp1N mp1C : Nat) (mp1 : List Int) (mp2A : Option Addr) (mp2N mp2C : Nat) (mp2 : List Int) (xp : Int) (np0 : Int) (np1A : Option Addr) (np1N np1C : Nat) (np1 : List Int) (np2A : Option Addr) (np2N np2C : Nat) (np2 : List Int) (yp : Int) (w : World) (mp1R : RdS w 1 mp1A mp1N mp1C mp1) (mp2R : RdS w 1 mp2A mp2N mp2C mp2) (np1R : RdS w 1 np1A np1N np1C np1) (np2R : RdS w 1 np2A np2N np2C np2) :
    Calls Try.prog 26 #[.agg #[.int .i64 mp0, .slice mp1A mp1N mp1C, .slice mp2A mp2N mp2C], .int .i64 xp, .agg #[.int .i64 np0, .slice np1A np1N np1C, .slice np2A np2N np2C], .int .i64 yp] w (Ret fun v w' => v = .tuple #[.int .i64 ((F_s_RoundsToTell mp0 mp1 mp2 xp np0 np1 np2 yp).1), .int .i64 ((F_s_RoundsToTell mp0 mp1 mp2 xp np0 np1 np2 yp).2)] ∧ Ext w w') := by
  obtain rfl : mp1N = mp1.length := mp1R.len1.symm
  have mp1Le := mp1R.le
  obtain rfl : mp2N = mp2.length := mp2R.len1.symm
  have mp2Le := mp2R.le
  obtain rfl : np1N = np1.length := np1R.len1.symm
  have np1Le := np1R.le
  obtain rfl : np2N = np2.length := np2R.len1.symm
  have np2Le := np2R.le
  have hS := St.nil w
  have hS1 := St.rd0 hS rfl mp1R; clear hS
  have hS2 := St.rd0 hS1 rfl mp2R; clear hS1
  have hS3 := St.rd0 hS2 rfl np1R; clear hS2
  have hS4 := St.rd0 hS3 rfl np2R; clear hS3
  refine enter (args := [.agg #[.int .i64 mp0, .slice mp1A mp1.length mp1C, .slice mp2A mp2.length mp2C], .int .i64 xp, .agg #[.int .i64 np0, .slice np1A np1.length np1C, .slice np2A np2.length np2C], .int .i64 yp]) Try.func26 rfl rfl ?_
  rw [Try.ntmps26]; intro a hE
  have hE := hE.sub (L' := [(0, .agg #[.int .i64 mp0, .slice mp1A mp1.length mp1C, .slice mp2A mp2.length mp2C]), (1, .int .i64 xp), (2, .agg #[.int .i64 np0, .slice np1A np1.length np1C, .slice np2A np2.length np2C]), (3, .int .i64 yp)]) ⟨rfl, rfl, rfl, rfl, trivial⟩
  refine c_seq ?_
  refine c_reg ?_
  refine l_step hE rfl (l_box (v := .agg #[.int .i64 mp0, .slice mp1A mp1.length mp1C, .slice mp2A mp2.length mp2C]) (cs := #[.int .i64 mp0, .slice mp1A mp1.length mp1C, .slice mp2A mp2.length mp2C]) hS4 hE rfl rfl rfl ?_)
  intro b5 w6 hS9 he10 a7 hE8; clear hS4 hE
  refine l_step hE8 rfl (l_box (v := .agg #[.int .i64 np0, .slice np1A np1.length np1C, .slice np2A np2.length np2C]) (cs := #[.int .i64 np0, .slice np1A np1.length np1C, .slice np2A np2.length np2C]) hS9 hE8 rfl rfl rfl ?_)
  intro b11 w12 hS15 he16 a13 hE14; clear hS9 hE8
  refine q_step (v := .int .i64 0) hE14 (y_assign rfl) rfl rfl rfl ?_; intro a17 hE18; clear hE14
  refine q_step (v := .int .i64 0) hE18 (y_assign rfl) rfl rfl rfl ?_; intro a19 hE20; clear hE18
  refine c_nil ?_
  have hE21 := hE20.sub (L' := [(1, .int .i64 xp), (3, .int .i64 yp), (4, .pointer (some ⟨b5, 0, none⟩)), (6, .pointer (some ⟨b11, 0, none⟩))]) ⟨rfl, rfl, rfl, rfl, trivial⟩; clear hE20
  refine p_tn ?_
  refine c_seq ?_
  refine c_seq ?_
  refine c_reg ?_
  refine q_step (v := .agg #[.int .i64 mp0, .slice mp1A mp1.length mp1C, .slice mp2A mp2.length mp2C]) hE21 (y_loadS Try.underlying32 rfl (by kernel_rfl) rfl (St.row (i := 1) hS15 rfl)) rfl rfl rfl ?_; intro a22 hE23; clear hE21
  refine q_step (v := .int .i64 xp) hE23 (y_move rfl) rfl rfl rfl ?_; intro a24 hE25; clear hE23
  refine q_step (v := .agg #[.int .i64 np0, .slice np1A np1.length np1C, .slice np2A np2.length np2C]) hE25 (y_loadS Try.underlying32 rfl (by kernel_rfl) rfl (St.row (i := 0) hS15 rfl)) rfl rfl rfl ?_; intro a26 hE27; clear hE25
  refine q_step (v := .int .i64 yp) hE27 (y_move rfl) rfl rfl rfl ?_; intro a28 hE29; clear hE27
  refine l_step hE29 rfl (l_call (f := 89) (argv := [.agg #[.int .i64 mp0, .slice mp1A mp1.length mp1C, .slice mp2A mp2.length mp2C], .int .i64 xp, .agg #[.int .i64 np0, .slice np1A np1.length np1C, .slice np2A np2.length np2C], .int .i64 yp]) hE29 (fun _ => cf_l07Places _ _) rfl rfl (c_l07Places mp0 mp1A mp1.length mp1C mp1 mp2A mp2.length mp2C mp2 xp np0 np1A np1.length np1C np1 np2A np2.length np2C np2 yp w12 (St.rdR (i := 5) hS15 rfl) (St.rdR (i := 4) hS15 rfl) (St.rdR (i := 3) hS15 rfl) (St.rdR (i := 2) hS15 rfl)) ?_)
  rintro _ w31 ⟨rfl, he35⟩ a32 hE33; clear hE29
  have hS34 := St.go hS15 he35; clear hS15
  refine q_step (v := .int .i64 (F_l07Places mp0 mp1 mp2 xp np0 np1 np2 yp)) hE33 (y_assign rfl) rfl rfl rfl ?_; intro a36 hE37; clear hE33
  refine c_nil ?_
  have hE38 := hE37.sub (L' := [(1, .int .i64 xp), (3, .int .i64 yp), (4, .pointer (some ⟨b5, 0, none⟩)), (6, .pointer (some ⟨b11, 0, none⟩)), (10, .int .i64 (F_l07Places mp0 mp1 mp2 xp np0 np1 np2 yp))]) ⟨rfl, rfl, rfl, rfl, rfl, trivial⟩; clear hE37
  refine p_tn ?_
  refine c_seq ?_
  refine c_reg ?_
  refine q_step (v := .int .i64 (F_l07Places mp0 mp1 mp2 xp np0 np1 np2 yp)) hE38 (y_move rfl) rfl rfl rfl ?_; intro a39 hE40; clear hE38
  refine q_step (v := .bool (!decide ((F_l07Places mp0 mp1 mp2 xp np0 np1 np2 yp) = 0))) hE40 (y_neq rfl rfl) rfl rfl rfl ?_; intro a41 hE42; clear hE40
  refine c_nil ?_
  have hE43 := hE42.sub (L' := [(1, .int .i64 xp), (3, .int .i64 yp), (4, .pointer (some ⟨b5, 0, none⟩)), (6, .pointer (some ⟨b11, 0, none⟩)), (10, .int .i64 (F_l07Places mp0 mp1 mp2 xp np0 np1 np2 yp)), (18, .bool (!decide ((F_l07Places mp0 mp1 mp2 xp np0 np1 np2 yp) = 0)))]) ⟨rfl, rfl, rfl, rfl, rfl, rfl, trivial⟩; clear hE42
  refine p_tn ?_
  refine c_cond hE43 rfl (fun ht44 => ?_) (fun ht44 => ?_)
  ·
    have ht45 := bn_t ht44
    have hp46 := of_decide_eq_false ht45
    have hE47 := hE43; rw [ht44] at hE47; clear hE43
    refine c_seq ?_
    refine c_reg ?_
    refine q_step (v := .int .i64 (F_l07Places mp0 mp1 mp2 xp np0 np1 np2 yp)) hE47 (y_move rfl) rfl rfl rfl ?_; intro a48 hE49; clear hE47
    refine q_step (v := .int .i64 0) hE49 (y_assign rfl) rfl rfl rfl ?_; intro a50 hE51; clear hE49
    refine q_step (v := .int .i64 (F_l07Places mp0 mp1 mp2 xp np0 np1 np2 yp)) hE51 (y_assign rfl) rfl rfl rfl ?_; intro a52 hE53; clear hE51
    refine c_nil ?_
    have hE54 := hE53.sub (L' := [(8, .int .i64 0), (9, .int .i64 (F_l07Places mp0 mp1 mp2 xp np0 np1 np2 yp))]) ⟨rfl, rfl, trivial⟩; clear hE53
    refine p_tn ?_
    refine wp_ret ?_
    refine p_tr ?_
    have hF : F_s_RoundsToTell mp0 mp1 mp2 xp np0 np1 np2 yp = (0, F_l07Places mp0 mp1 mp2 xp np0 np1 np2 yp) := by unfold F_s_RoundsToTell; rw [ht44]; first | done | rfl
    refine c_ret2 hE54 rfl rfl rfl ?_
    exact ⟨(by rw [hF]; first | done | (dsimp only; done) | rfl), hS34.ext⟩
  ·
    have ht55 := bn_f ht44
    have hp56 := of_decide_eq_true ht55
    have hq57 := l07Places_t hp56
    have hE58 := hE43; rw [ht44] at hE58; clear hE43
    refine wp_skip ?_
    refine p_tn ?_
    refine c_seq ?_
    refine c_reg ?_
    refine q_step (v := .agg #[.int .i64 mp0, .slice mp1A mp1.length mp1C, .slice mp2A mp2.length mp2C]) hE58 (y_loadS Try.underlying32 rfl (by kernel_rfl) rfl (St.row (i := 1) hS34 rfl)) rfl rfl rfl ?_; intro a59 hE60; clear hE58
    refine q_step (v := .agg #[.int .i64 np0, .slice np1A np1.length np1C, .slice np2A np2.length np2C]) hE60 (y_loadS Try.underlying32 rfl (by kernel_rfl) rfl (St.row (i := 0) hS34 rfl)) rfl rfl rfl ?_; intro a61 hE62; clear hE60
    refine l_step hE62 rfl (l_call (f := 86) (argv := [.agg #[.int .i64 mp0, .slice mp1A mp1.length mp1C, .slice mp2A mp2.length mp2C], .agg #[.int .i64 np0, .slice np1A np1.length np1C, .slice np2A np2.length np2C]]) hE62 (fun _ => cf_l07Bounded _ _) rfl rfl (c_l07Bounded mp0 mp1A mp1.length mp1C mp1 mp2A mp2.length mp2C mp2 np0 np1A np1.length np1C np1 np2A np2.length np2C np2 w31 (St.rdR (i := 5) hS34 rfl) (St.rdR (i := 4) hS34 rfl) (St.rdR (i := 3) hS34 rfl) (St.rdR (i := 2) hS34 rfl) (by omega) (by omega) (by omega) (by omega) (by omega) (by omega)) ?_)
    rintro _ w64 ⟨b69, c70, h71, rfl, ho72, he68⟩ a65 hE66; clear hE62
    have hf73 := l07Bounded_len mp0 mp1 mp2 np0 np1 np2
    have hS67 := St.ownN hS34 he68 ho72; clear hS34
    refine q_step (v := .int .i64 xp) hE66 (y_move rfl) rfl rfl rfl ?_; intro a74 hE75; clear hE66
    refine q_step (v := .int .i64 yp) hE75 (y_move rfl) rfl rfl rfl ?_; intro a76 hE77; clear hE75
    refine l_step hE77 rfl (l_call (f := 90) (argv := [.slice b69 ((F_l07Bounded mp0 mp1 mp2 np0 np1 np2).length) c70, .int .i64 xp, .int .i64 yp]) hE77 (fun _ => cf_l07Rounds _ _) rfl rfl (c_l07Rounds b69 ((F_l07Bounded mp0 mp1 mp2 np0 np1 np2).length) c70 h71 (F_l07Bounded mp0 mp1 mp2 np0 np1 np2) xp yp w64 (St.rdNo (i := 0) hS67 rfl) (by omega) (by omega) (spec_rows (by assumption))) ?_)
    rintro _ w79 ⟨rfl, he83⟩ a80 hE81; clear hE77
    have hS82 := St.go hS67 he83; clear hS67
    refine q_step (v := .int .i64 (F_l07Rounds (F_l07Bounded mp0 mp1 mp2 np0 np1 np2) xp yp)) hE81 (y_assign rfl) rfl rfl rfl ?_; intro a84 hE85; clear hE81
    refine c_nil ?_
    have hE86 := hE85.sub (L' := [(11, .int .i64 (F_l07Rounds (F_l07Bounded mp0 mp1 mp2 np0 np1 np2) xp yp))]) ⟨rfl, trivial⟩; clear hE85
    refine p_tn ?_
    refine c_seq ?_
    refine c_seq ?_
    refine c_reg ?_
    refine q_step (v := .int .i64 (F_l07Rounds (F_l07Bounded mp0 mp1 mp2 np0 np1 np2) xp yp)) hE86 (y_move rfl) rfl rfl rfl ?_; intro a87 hE88; clear hE86
    refine q_step (v := .bool (decide ((F_l07Rounds (F_l07Bounded mp0 mp1 mp2 np0 np1 np2) xp yp) < 0))) hE88 (y_lss rfl rfl) rfl rfl rfl ?_; intro a89 hE90; clear hE88
    refine c_nil ?_
    have hE91 := hE90.sub (L' := [(11, .int .i64 (F_l07Rounds (F_l07Bounded mp0 mp1 mp2 np0 np1 np2) xp yp)), (27, .bool (decide ((F_l07Rounds (F_l07Bounded mp0 mp1 mp2 np0 np1 np2) xp yp) < 0)))]) ⟨rfl, rfl, trivial⟩; clear hE90
    refine p_tn ?_
    refine c_cond hE91 rfl (fun ht92 => ?_) (fun ht92 => ?_)
    ·
      have hp93 := of_decide_eq_true ht92
      have hE94 := hE91; rw [ht92] at hE94; clear hE91
      refine c_seq ?_
      refine c_reg ?_
      refine q_step (v := .int .i64 0) hE94 (y_assign rfl) rfl rfl rfl ?_; intro a95 hE96; clear hE94
      refine q_step (v := .int .i64 4) hE96 (y_assign rfl) rfl rfl rfl ?_; intro a97 hE98; clear hE96
      refine c_nil ?_
      have hE99 := hE98.sub (L' := [(8, .int .i64 0), (9, .int .i64 4)]) ⟨rfl, rfl, trivial⟩; clear hE98
      refine p_tn ?_
      refine wp_ret ?_
      refine p_tr ?_
      have hF : F_s_RoundsToTell mp0 mp1 mp2 xp np0 np1 np2 yp = (0, 4) := by unfold F_s_RoundsToTell; rw [ht92, ht44]; first | done | rfl
      refine c_ret2 hE99 rfl rfl rfl ?_
      exact ⟨(by rw [hF]; first | done | (dsimp only; done) | rfl), hS82.ext⟩
    ·
      have hp100 := of_decide_eq_false ht92
      have hE101 := hE91; rw [ht92] at hE101; clear hE91
      refine wp_skip ?_
      refine p_tn ?_
      refine c_seq ?_
      refine c_reg ?_
      refine q_step (v := .int .i64 (F_l07Rounds (F_l07Bounded mp0 mp1 mp2 np0 np1 np2) xp yp)) hE101 (y_move rfl) rfl rfl rfl ?_; intro a102 hE103; clear hE101
      refine q_step (v := .int .i64 (F_l07Rounds (F_l07Bounded mp0 mp1 mp2 np0 np1 np2) xp yp)) hE103 (y_assign rfl) rfl rfl rfl ?_; intro a104 hE105; clear hE103
      refine q_step (v := .int .i64 0) hE105 (y_assign rfl) rfl rfl rfl ?_; intro a106 hE107; clear hE105
      refine c_nil ?_
      have hE108 := hE107.sub (L' := [(8, .int .i64 (F_l07Rounds (F_l07Bounded mp0 mp1 mp2 np0 np1 np2) xp yp)), (9, .int .i64 0)]) ⟨rfl, rfl, trivial⟩; clear hE107
      refine p_tn ?_
      refine wp_ret ?_
      have hF : F_s_RoundsToTell mp0 mp1 mp2 xp np0 np1 np2 yp = (F_l07Rounds (F_l07Bounded mp0 mp1 mp2 np0 np1 np2) xp yp, 0) := by unfold F_s_RoundsToTell; rw [ht92, ht44]; first | done | rfl
      refine c_ret2 hE108 rfl rfl rfl ?_
      exact ⟨(by rw [hF]; first | done | (dsimp only; done) | rfl), hS82.ext⟩

theorem rounds_loop (links : List (List Int)) (xp yp : Int) : ∀ (r : Nat) (t : Int), F_z_IndexFuncS_L1 links (fun x0 => F_teller_rounds_k1 x0 xp yp) r t = F_l07Rounds_L1 links xp yp r t := by
  intro r
  induction r with
  | zero => intro t; rfl
  | succ r ih =>
    intro t
    show F_z_IndexFuncS_L1b links _ _ t = F_l07Rounds_L1b links xp yp _ t
    unfold F_z_IndexFuncS_L1b F_l07Rounds_L1b
    rw [ih]; rfl
theorem RoundsToTell_eq (mp0 : Int) (mp1 mp2 : List Int) (xp np0 : Int) (np1 np2 : List Int) (yp : Int) : F_RoundsToTell mp0 mp1 mp2 xp np0 np1 np2 yp = F_s_RoundsToTell mp0 mp1 mp2 xp np0 np1 np2 yp := by
  unfold F_RoundsToTell F_s_RoundsToTell
  by_cases h : F_tellingCode mp0 mp1 mp2 xp np0 np1 np2 yp = 0
  · rw [teller_bounded h]
    have h' := h
    rw [tellingCode_eq] at h'
    rw [decide_eq_true h, decide_eq_true h']
    have e : F_teller_rounds mp0 mp1 mp2 np0 np1 np2 (F_l07Bounded mp0 mp1 mp2 np0 np1 np2) xp yp = F_l07Rounds (F_l07Bounded mp0 mp1 mp2 np0 np1 np2) xp yp := by
      unfold F_teller_rounds F_z_IndexFuncS F_l07Rounds
      rw [rounds_loop]
    rw [e, Bool.not_true, cond_false, cond_false]
  · have h' := h
    rw [tellingCode_eq] at h'
    rw [decide_eq_false h, decide_eq_false h', tellingCode_eq, Bool.not_false, cond_true, cond_true]


end Go.Proofs.Ytlbonhloeefnmaa
