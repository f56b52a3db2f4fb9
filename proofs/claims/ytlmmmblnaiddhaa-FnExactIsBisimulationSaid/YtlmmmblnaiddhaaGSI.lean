/- GSI: models and contracts, printed by wip/gen/gen.py -/
import Derived.Test.YtlmmmblnaiddhaaGS
set_option linter.unusedVariables false
set_option linter.unusedSimpArgs false
namespace Go.Proofs.Ytlmmmblnaiddhaa
open Go.RowKit

def F_isLink_k1 (mask : Int) (cap00 : Int) (cap01 : List Int) (cap02 : List Int) : Bool :=
  (!(F_isMask cap00 mask))
theorem cf_isLink_k1 (args : Array Value) (w : World) : (callFunc 169 args).run Try.prog w = .ok (.enter 169 args) w := by kernel_rfl
set_option maxRecDepth 100000 in
theorem c_isLink_k1 (mask : Int) (cap0B : Nat) (cap00 : Int) (cap01A : Option Addr) (cap01N cap01C : Nat) (cap01 : List Int) (cap02A : Option Addr) (cap02N cap02C : Nat) (cap02 : List Int) (w : World) (cap01R : RdS w 1 cap01A cap01N cap01C cap01) (cap02R : RdS w 1 cap02A cap02N cap02C cap02) (cap0H : w.heap[cap0B]? = some (.cells #[.int .i64 cap00, .slice cap01A cap01N cap01C, .slice cap02A cap02N cap02C] 39 (0, 0))) :
    Calls Try.prog 169 #[.int .i64 mask, .pointer (some ⟨cap0B, 0, none⟩)] w (Ret fun v w' => v = .bool (F_isLink_k1 mask cap00 cap01 cap02) ∧ w = w') := by
  obtain rfl : cap01N = cap01.length := cap01R.len1.symm
  have cap01Le := cap01R.le
  obtain rfl : cap02N = cap02.length := cap02R.len1.symm
  have cap02Le := cap02R.le
  have hS := St.nil w
  have hS1 := St.rd0 hS rfl cap01R; clear hS
  have hS2 := St.rd0 hS1 rfl cap02R; clear hS1
  have hS3 := St.rb0 hS2 rfl cap0H; clear hS2
  refine enter (args := [.int .i64 mask, .pointer (some ⟨cap0B, 0, none⟩)]) Try.func169 rfl rfl ?_
  rw [Try.ntmps169]; intro a hE
  have hE := hE.sub (L' := [(0, .int .i64 mask), (1, .pointer (some ⟨cap0B, 0, none⟩))]) ⟨rfl, rfl, trivial⟩
  refine c_seq ?_
  refine c_reg ?_
  refine q_step (v := .bool false) hE (y_assign rfl) rfl rfl rfl ?_; intro a4 hE5; clear hE
  refine c_nil ?_
  have hE6 := hE5.sub (L' := [(0, .int .i64 mask), (1, .pointer (some ⟨cap0B, 0, none⟩))]) ⟨rfl, rfl, trivial⟩; clear hE5
  refine p_tn ?_
  refine c_seq ?_
  refine c_reg ?_
  refine q_step (v := .pointer (some ⟨cap0B, 0, none⟩)) hE6 (y_field rfl (fun _ => by kernel_rfl)) rfl rfl rfl ?_; intro a7 hE8; clear hE6
  refine q_step (v := .pointer (some ⟨cap0B, 0, none⟩)) hE8 (y_field rfl (fun _ => by kernel_rfl)) rfl rfl rfl ?_; intro a9 hE10; clear hE8
  refine q_step (v := .int .i64 cap00) hE10 (y_load (fun _ => by kernel_rfl) rfl (St.cellR (i := 0) hS3 rfl rfl)) rfl rfl rfl ?_; intro a11 hE12; clear hE10
  refine q_step (v := .int .i64 mask) hE12 (y_move rfl) rfl rfl rfl ?_; intro a13 hE14; clear hE12
  refine l_step hE14 rfl (l_call (f := 97) (argv := [.int .i64 cap00, .int .i64 mask]) hE14 (fun _ => cf_isMask _ _) rfl rfl (c_isMask cap00 mask w) ?_)
  rintro _ _ ⟨rfl, rfl⟩ a17 hE18; clear hE14
  refine q_step (v := .bool (!(F_isMask cap00 mask))) hE18 (y_not rfl) rfl rfl rfl ?_; intro a21 hE22; clear hE18
  refine q_step (v := .bool (!(F_isMask cap00 mask))) hE22 (y_assign rfl) rfl rfl rfl ?_; intro a23 hE24; clear hE22
  refine c_nil ?_
  have hE25 := hE24.sub (L' := [(3, .bool (!(F_isMask cap00 mask)))]) ⟨rfl, trivial⟩; clear hE24
  refine p_tn ?_
  refine wp_ret ?_
  have hF : F_isLink_k1 mask cap00 cap01 cap02 = (!(F_isMask cap00 mask)) := by unfold F_isLink_k1; rfl
  refine c_ret1 hE25 rfl rfl ?_
  exact ⟨(by rw [hF]; first | done | rfl), rfl⟩

def F_isLink (mp0 : Int) (mp1 : List Int) (mp2 : List Int) (np0 : Int) (np1 : List Int) (np2 : List Int) (linkp : List Int) : Bool :=
  ((decide ((linkp.length : Int) = mp0)) && (!(F_z_ContainsFunc linkp (fun x0 => F_isLink_k1 x0 np0 np1 np2))))
theorem cf_isLink (args : Array Value) (w : World) : (callFunc 150 args).run Try.prog w = .ok (.enter 150 args) w := by kernel_rfl
set_option maxRecDepth 100000 in
theorem c_isLink (mp0 : Int) (mp1A : Option Addr) (mp1N mp1C : Nat) (mp1 : List Int) (mp2A : Option Addr) (mp2N mp2C : Nat) (mp2 : List Int) (np0 : Int) (np1A : Option Addr) (np1N np1C : Nat) (np1 : List Int) (np2A : Option Addr) (np2N np2C : Nat) (np2 : List Int) (linkpA : Option Addr) (linkpN linkpC : Nat) (linkp : List Int) (w : World) (mp1R : RdS w 1 mp1A mp1N mp1C mp1) (mp2R : RdS w 1 mp2A mp2N mp2C mp2) (np1R : RdS w 1 np1A np1N np1C np1) (np2R : RdS w 1 np2A np2N np2C np2) (linkpR : RdS w 1 linkpA linkpN linkpC linkp) :
    Calls Try.prog 150 #[.agg #[.int .i64 mp0, .slice mp1A mp1N mp1C, .slice mp2A mp2N mp2C], .agg #[.int .i64 np0, .slice np1A np1N np1C, .slice np2A np2N np2C], .slice linkpA linkpN linkpC] w (Ret fun v w' => v = .bool (F_isLink mp0 mp1 mp2 np0 np1 np2 linkp) ∧ Ext w w') := by
  obtain rfl : mp1N = mp1.length := mp1R.len1.symm
  have mp1Le := mp1R.le
  obtain rfl : mp2N = mp2.length := mp2R.len1.symm
  have mp2Le := mp2R.le
  obtain rfl : np1N = np1.length := np1R.len1.symm
  have np1Le := np1R.le
  obtain rfl : np2N = np2.length := np2R.len1.symm
  have np2Le := np2R.le
  obtain rfl : linkpN = linkp.length := linkpR.len1.symm
  have linkpLe := linkpR.le
  have hS := St.nil w
  have hS1 := St.rd0 hS rfl mp1R; clear hS
  have hS2 := St.rd0 hS1 rfl mp2R; clear hS1
  have hS3 := St.rd0 hS2 rfl np1R; clear hS2
  have hS4 := St.rd0 hS3 rfl np2R; clear hS3
  have hS5 := St.rd0 hS4 rfl linkpR; clear hS4
  refine enter (args := [.agg #[.int .i64 mp0, .slice mp1A mp1.length mp1C, .slice mp2A mp2.length mp2C], .agg #[.int .i64 np0, .slice np1A np1.length np1C, .slice np2A np2.length np2C], .slice linkpA linkp.length linkpC]) Try.func150 rfl rfl ?_
  rw [Try.ntmps150]; intro a hE
  have hE := hE.sub (L' := [(0, .agg #[.int .i64 mp0, .slice mp1A mp1.length mp1C, .slice mp2A mp2.length mp2C]), (1, .agg #[.int .i64 np0, .slice np1A np1.length np1C, .slice np2A np2.length np2C]), (2, .slice linkpA linkp.length linkpC)]) ⟨rfl, rfl, rfl, trivial⟩
  refine c_seq ?_
  refine c_reg ?_
  refine l_step hE rfl (l_box (v := .agg #[.int .i64 mp0, .slice mp1A mp1.length mp1C, .slice mp2A mp2.length mp2C]) (cs := #[.int .i64 mp0, .slice mp1A mp1.length mp1C, .slice mp2A mp2.length mp2C]) hS5 hE rfl rfl rfl ?_)
  intro b6 w7 hS10 he11 a8 hE9; clear hS5 hE
  refine l_step hE9 rfl (l_box (v := .agg #[.int .i64 np0, .slice np1A np1.length np1C, .slice np2A np2.length np2C]) (cs := #[.int .i64 np0, .slice np1A np1.length np1C, .slice np2A np2.length np2C]) hS10 hE9 rfl rfl rfl ?_)
  intro b12 w13 hS16 he17 a14 hE15; clear hS10 hE9
  refine q_step (v := .bool false) hE15 (y_assign rfl) rfl rfl rfl ?_; intro a18 hE19; clear hE15
  refine c_nil ?_
  have hE20 := hE19.sub (L' := [(2, .slice linkpA linkp.length linkpC), (3, .pointer (some ⟨b6, 0, none⟩)), (4, .pointer (some ⟨b12, 0, none⟩))]) ⟨rfl, rfl, rfl, trivial⟩; clear hE19
  refine p_tn ?_
  refine c_cut (fun a' w' => E a' 19 [(6, .bool ((decide ((linkp.length : Int) = mp0)) && (!(F_z_ContainsFunc linkp (fun x0 => F_isLink_k1 x0 np0 np1 np2)))))] ∧ St w w' [.rd 1 np1A np1.length np1C np1, .rd 1 np2A np2.length np2C np2, .blk b12 #[.int .i64 np0, .slice np1A np1.length np1C, .slice np2A np2.length np2C] 39, .rd 1 mp1A mp1.length mp1C mp1, .rd 1 mp2A mp2.length mp2C mp2, .blk b6 #[.int .i64 mp0, .slice mp1A mp1.length mp1C, .slice mp2A mp2.length mp2C] 39, .rd 1 linkpA linkp.length linkpC linkp]) ?_ ?_
  ·
    refine d_start (fun w' => w'.cell? ⟨b6, 0, none⟩ = some (.int .i64 mp0) ∧ True) [4] 13 (by kernel_rfl) rfl ?_
    intro w21 he22; have hS23 := St.go hS16 he22; clear hS16
    refine d_pure (v := .slice linkpA linkp.length linkpC) 0 rfl hE20 (y_move rfl) rfl (by kernel_rfl) (by kernel_rfl) (by kernel_rfl) rfl rfl (fun _ _ _ h => h) ?_; intro a24 hE25; clear hE20
    refine d_pure (v := .pointer (some ⟨b6, 0, none⟩)) 2 rfl hE25 (y_field rfl (fun _ => by kernel_rfl)) rfl (by kernel_rfl) (by kernel_rfl) (by kernel_rfl) rfl rfl (fun _ _ _ h => h) ?_; intro a26 hE27; clear hE25
    refine d_pure (v := .pointer (some ⟨b6, 0, none⟩)) 3 rfl hE27 (y_field rfl (fun _ => by kernel_rfl)) rfl (by kernel_rfl) (by kernel_rfl) (by kernel_rfl) rfl rfl (fun _ _ _ h => h) ?_; intro a28 hE29; clear hE27
    refine d_take (v := .int .i64 mp0) 4 rfl hE29 ⟨(St.cell (i := 1) hS23 rfl rfl _ (Ext.refl _)), trivial⟩ (y_load (fun _ => by kernel_rfl) rfl (fun _ h => h.1)) rfl rfl (by kernel_rfl) (by kernel_rfl) (by kernel_rfl) rfl rfl (fun _ _ _ h => h) ?_; intro a30 hE31; clear hE29
    refine d_only 1 (by kernel_rfl) rfl hE31 rfl (l_call (f := 137) (argv := [.slice linkpA linkp.length linkpC]) hE31 (fun _ => cf_size _ _) rfl rfl (d_size linkpA linkp.length linkpC linkp w21 (St.rdR (i := 2) hS23 rfl)) ?_)
    rintro _ _ ⟨rfl, rfl⟩ a34 hE35; clear hE31
    refine ⟨fun _ _ => ⟨(St.cell (i := 1) hS23 rfl rfl _ (Ext.refl _)), trivial⟩, ?_⟩
    refine d_pure (v := .bool (decide ((linkp.length : Int) = mp0))) 5 rfl hE35 (y_eql rfl rfl) rfl (by kernel_rfl) (by kernel_rfl) (by kernel_rfl) rfl rfl (fun _ _ _ h => h) ?_; intro a38 hE39; clear hE35
    refine d_pure (v := .bool (decide ((linkp.length : Int) = mp0))) 6 rfl hE39 (y_move rfl) rfl (by kernel_rfl) (by kernel_rfl) (by kernel_rfl) rfl rfl (fun _ _ _ h => h) ?_; intro a40 hE41; clear hE39
    rcases Bool.eq_false_or_eq_true (decide ((linkp.length : Int) = mp0)) with hb42 | hb42
    ·
      have hE43 := hE41; rw [hb42] at hE43; clear hE41
      have hp44 := of_decide_eq_true hb42
      refine d_pure (v := .slice linkpA linkp.length linkpC) 7 rfl hE43 (y_move rfl) rfl (by kernel_rfl) (by kernel_rfl) (by kernel_rfl) rfl rfl (fun _ _ _ h => h) ?_; intro a45 hE46; clear hE43
      refine d_pure (v := .func (.func 169) #[] #[.pointer (some ⟨b12, 0, none⟩)]) 8 rfl hE46 (y_makeFunc (vs := [.pointer (some ⟨b12, 0, none⟩)]) rfl) rfl (by kernel_rfl) (by kernel_rfl) (by kernel_rfl) rfl rfl (fun _ _ _ h => h) ?_; intro a47 hE48; clear hE46
      refine d_only 9 (by kernel_rfl) rfl hE48 rfl (l_call (f := 141) (argv := [.slice linkpA linkp.length linkpC, .func (.func 169) #[] #[.pointer (some ⟨b12, 0, none⟩)]]) hE48 (fun _ => cf_z_ContainsFunc _ _) rfl rfl (c_z_ContainsFunc linkpA linkp.length linkpC linkp 169 [.pointer (some ⟨b12, 0, none⟩)] (fun x0 => F_isLink_k1 x0 np0 np1 np2) (fun _ => True) w21 (St.rdR (i := 2) hS23 rfl) (fun _ _ => cf_isLink_k1 _ _) (fun x0 w' hx he => Ret.ext (c_isLink_k1 x0 b12 np0 np1A np1.length np1C np1 np2A np2.length np2C np2 w' (RdS.ext (St.rdR (i := 4) hS23 rfl) he) (RdS.ext (St.rdR (i := 3) hS23 rfl) he) (St.row (i := 0) hS23 rfl w' he))) (fun _ _ _ => trivial)) ?_)
      rintro _ w50 ⟨rfl, he54⟩ a51 hE52; clear hE48
      have hS53 := St.go hS23 he54; clear hS23
      refine ⟨fun _ _ => ⟨(St.cell (i := 1) hS53 rfl rfl _ (Ext.refl _)), trivial⟩, ?_⟩
      refine d_pure (v := .bool (!(F_z_ContainsFunc linkp (fun x0 => F_isLink_k1 x0 np0 np1 np2)))) 10 rfl hE52 (y_not rfl) rfl (by kernel_rfl) (by kernel_rfl) (by kernel_rfl) rfl rfl (fun _ _ _ h => h) ?_; intro a55 hE56; clear hE52
      refine d_pure (v := .bool (!(F_z_ContainsFunc linkp (fun x0 => F_isLink_k1 x0 np0 np1 np2)))) 11 rfl hE56 (y_pick (b := true) rfl rfl) rfl (by kernel_rfl) (by kernel_rfl) (by kernel_rfl) rfl rfl (fun _ _ _ h => h) ?_; intro a57 hE58; clear hE56
      refine d_pure (v := .bool (!(F_z_ContainsFunc linkp (fun x0 => F_isLink_k1 x0 np0 np1 np2)))) 12 rfl hE58 (y_assign rfl) rfl (by kernel_rfl) (by kernel_rfl) (by kernel_rfl) rfl rfl (fun _ _ _ h => h) ?_; intro a59 hE60; clear hE58
      refine d_done (by kernel_rfl) ?_
      have hE61 := hE60.sub (L' := [(6, .bool (!(F_z_ContainsFunc linkp (fun x0 => F_isLink_k1 x0 np0 np1 np2))))]) ⟨rfl, trivial⟩; clear hE60
      refine p_tn ?_
      have hE62 := hE61.sub (L' := [(6, .bool (!(F_z_ContainsFunc linkp (fun x0 => F_isLink_k1 x0 np0 np1 np2))))]) ⟨rfl, trivial⟩
      have hS63 := (St.pick (Γ' := [.rd 1 np1A np1.length np1C np1, .rd 1 np2A np2.length np2C np2, .blk b12 #[.int .i64 np0, .slice np1A np1.length np1C, .slice np2A np2.length np2C] 39, .rd 1 mp1A mp1.length mp1C mp1, .rd 1 mp2A mp2.length mp2C mp2, .blk b6 #[.int .i64 mp0, .slice mp1A mp1.length mp1C, .slice mp2A mp2.length mp2C] 39, .rd 1 linkpA linkp.length linkpC linkp]) hS53 [4, 3, 0, 6, 5, 1, 2] (by decide) rfl)
      exact ⟨(by rw [hb42]; exact hE62), hS63⟩
    ·
      have hE64 := hE41; rw [hb42] at hE64; clear hE41
      have hp65 := of_decide_eq_false hb42
      refine d_skip 7 rfl hE64 rfl (by kernel_rfl) (by kernel_rfl) (by kernel_rfl) rfl rfl (fun _ _ _ h => h) ?_; intro a66 hE67; clear hE64
      refine d_skip 8 rfl hE67 rfl (by kernel_rfl) (by kernel_rfl) (by kernel_rfl) rfl rfl (fun _ _ _ h => h) ?_; intro a68 hE69; clear hE67
      refine d_skip 9 rfl hE69 rfl (by kernel_rfl) (by kernel_rfl) (by kernel_rfl) rfl rfl (fun _ _ _ h => h) ?_; intro a70 hE71; clear hE69
      refine d_skip 10 rfl hE71 rfl (by kernel_rfl) (by kernel_rfl) (by kernel_rfl) rfl rfl (fun _ _ _ h => h) ?_; intro a72 hE73; clear hE71
      refine d_pure (v := .bool false) 11 rfl hE73 (y_pick (b := false) rfl rfl) rfl (by kernel_rfl) (by kernel_rfl) (by kernel_rfl) rfl rfl (fun _ _ _ h => h) ?_; intro a74 hE75; clear hE73
      refine d_pure (v := .bool false) 12 rfl hE75 (y_assign rfl) rfl (by kernel_rfl) (by kernel_rfl) (by kernel_rfl) rfl rfl (fun _ _ _ h => h) ?_; intro a76 hE77; clear hE75
      refine d_done (by kernel_rfl) ?_
      have hE78 := hE77.sub (L' := [(6, .bool false)]) ⟨rfl, trivial⟩; clear hE77
      refine p_tn ?_
      have hE79 := hE78.sub (L' := [(6, .bool false)]) ⟨rfl, trivial⟩
      have hS80 := (St.pick (Γ' := [.rd 1 np1A np1.length np1C np1, .rd 1 np2A np2.length np2C np2, .blk b12 #[.int .i64 np0, .slice np1A np1.length np1C, .slice np2A np2.length np2C] 39, .rd 1 mp1A mp1.length mp1C mp1, .rd 1 mp2A mp2.length mp2C mp2, .blk b6 #[.int .i64 mp0, .slice mp1A mp1.length mp1C, .slice mp2A mp2.length mp2C] 39, .rd 1 linkpA linkp.length linkpC linkp]) hS23 [4, 3, 0, 6, 5, 1, 2] (by decide) rfl)
      exact ⟨(by rw [hb42]; exact hE79), hS80⟩
  ·
    rintro a81 w82 ⟨hE83, hS84⟩; clear hE20 hS16
    refine wp_ret ?_
    have hF : F_isLink mp0 mp1 mp2 np0 np1 np2 linkp = ((decide ((linkp.length : Int) = mp0)) && (!(F_z_ContainsFunc linkp (fun x0 => F_isLink_k1 x0 np0 np1 np2)))) := by unfold F_isLink; rfl
    refine c_ret1 hE83 rfl rfl ?_
    exact ⟨(by rw [hF]; first | done | rfl), hS84.ext⟩

def F_linkCode (mp0 : Int) (mp1 : List Int) (mp2 : List Int) (np0 : Int) (np1 : List Int) (np2 : List Int) (linkp : List Int) : Int :=
  bif ((!(F_isModel mp0 mp1 mp2)) || ((!(F_isModel np0 np1 np2)) || (!(F_isLink mp0 mp1 mp2 np0 np1 np2 linkp)))) then 1 else 0
theorem cf_linkCode (args : Array Value) (w : World) : (callFunc 82 args).run Try.prog w = .ok (.enter 82 args) w := by kernel_rfl
set_option maxRecDepth 100000 in
theorem c_linkCode (mp0 : Int) (mp1A : Option Addr) (mp1N mp1C : Nat) (mp1 : List Int) (mp2A : Option Addr) (mp2N mp2C : Nat) (mp2 : List Int) (np0 : Int) (np1A : Option Addr) (np1N np1C : Nat) (np1 : List Int) (np2A : Option Addr) (np2N np2C : Nat) (np2 : List Int) (linkpA : Option Addr) (linkpN linkpC : Nat) (linkp : List Int) (w : World) (mp1R : RdS w 1 mp1A mp1N mp1C mp1) (mp2R : RdS w 1 mp2A mp2N mp2C mp2) (np1R : RdS w 1 np1A np1N np1C np1) (np2R : RdS w 1 np2A np2N np2C np2) (linkpR : RdS w 1 linkpA linkpN linkpC linkp) :
    Calls Try.prog 82 #[.agg #[.int .i64 mp0, .slice mp1A mp1N mp1C, .slice mp2A mp2N mp2C], .agg #[.int .i64 np0, .slice np1A np1N np1C, .slice np2A np2N np2C], .slice linkpA linkpN linkpC] w (Ret fun v w' => v = .int .i64 (F_linkCode mp0 mp1 mp2 np0 np1 np2 linkp) ∧ Ext w w') := by
  obtain rfl : mp1N = mp1.length := mp1R.len1.symm
  have mp1Le := mp1R.le
  obtain rfl : mp2N = mp2.length := mp2R.len1.symm
  have mp2Le := mp2R.le
  obtain rfl : np1N = np1.length := np1R.len1.symm
  have np1Le := np1R.le
  obtain rfl : np2N = np2.length := np2R.len1.symm
  have np2Le := np2R.le
  obtain rfl : linkpN = linkp.length := linkpR.len1.symm
  have linkpLe := linkpR.le
  have hS := St.nil w
  have hS1 := St.rd0 hS rfl mp1R; clear hS
  have hS2 := St.rd0 hS1 rfl mp2R; clear hS1
  have hS3 := St.rd0 hS2 rfl np1R; clear hS2
  have hS4 := St.rd0 hS3 rfl np2R; clear hS3
  have hS5 := St.rd0 hS4 rfl linkpR; clear hS4
  refine enter (args := [.agg #[.int .i64 mp0, .slice mp1A mp1.length mp1C, .slice mp2A mp2.length mp2C], .agg #[.int .i64 np0, .slice np1A np1.length np1C, .slice np2A np2.length np2C], .slice linkpA linkp.length linkpC]) Try.func82 rfl rfl ?_
  rw [Try.ntmps82]; intro a hE
  have hE := hE.sub (L' := [(0, .agg #[.int .i64 mp0, .slice mp1A mp1.length mp1C, .slice mp2A mp2.length mp2C]), (1, .agg #[.int .i64 np0, .slice np1A np1.length np1C, .slice np2A np2.length np2C]), (2, .slice linkpA linkp.length linkpC)]) ⟨rfl, rfl, rfl, trivial⟩
  refine c_seq ?_
  refine c_reg ?_
  refine l_step hE rfl (l_box (v := .agg #[.int .i64 mp0, .slice mp1A mp1.length mp1C, .slice mp2A mp2.length mp2C]) (cs := #[.int .i64 mp0, .slice mp1A mp1.length mp1C, .slice mp2A mp2.length mp2C]) hS5 hE rfl rfl rfl ?_)
  intro b6 w7 hS10 he11 a8 hE9; clear hS5 hE
  refine l_step hE9 rfl (l_box (v := .agg #[.int .i64 np0, .slice np1A np1.length np1C, .slice np2A np2.length np2C]) (cs := #[.int .i64 np0, .slice np1A np1.length np1C, .slice np2A np2.length np2C]) hS10 hE9 rfl rfl rfl ?_)
  intro b12 w13 hS16 he17 a14 hE15; clear hS10 hE9
  refine q_step (v := .int .i64 0) hE15 (y_assign rfl) rfl rfl rfl ?_; intro a18 hE19; clear hE15
  refine c_nil ?_
  have hE20 := hE19.sub (L' := [(2, .slice linkpA linkp.length linkpC), (3, .pointer (some ⟨b6, 0, none⟩)), (4, .pointer (some ⟨b12, 0, none⟩))]) ⟨rfl, rfl, rfl, trivial⟩; clear hE19
  refine p_tn ?_
  refine c_seq ?_
  refine c_cut (fun a' w' => E a' 22 [(21, .bool ((!(F_isModel mp0 mp1 mp2)) || ((!(F_isModel np0 np1 np2)) || (!(F_isLink mp0 mp1 mp2 np0 np1 np2 linkp)))))] ∧ St w w' [.rd 1 np1A np1.length np1C np1, .rd 1 np2A np2.length np2C np2, .blk b12 #[.int .i64 np0, .slice np1A np1.length np1C, .slice np2A np2.length np2C] 39, .rd 1 mp1A mp1.length mp1C mp1, .rd 1 mp2A mp2.length mp2C mp2, .blk b6 #[.int .i64 mp0, .slice mp1A mp1.length mp1C, .slice mp2A mp2.length mp2C] 39, .rd 1 linkpA linkp.length linkpC linkp]) ?_ ?_
  ·
    refine c_reg ?_
    refine q_step (v := .agg #[.int .i64 mp0, .slice mp1A mp1.length mp1C, .slice mp2A mp2.length mp2C]) hE20 (y_loadS Try.underlying39 rfl (by kernel_rfl) rfl (St.row (i := 1) hS16 rfl)) rfl rfl rfl ?_; intro a21 hE22; clear hE20
    refine l_step hE22 rfl (l_call (f := 70) (argv := [.agg #[.int .i64 mp0, .slice mp1A mp1.length mp1C, .slice mp2A mp2.length mp2C]]) hE22 (fun _ => cf_isModel _ _) rfl rfl (c_isModel mp0 mp1A mp1.length mp1C mp1 mp2A mp2.length mp2C mp2 w13 (St.rdR (i := 6) hS16 rfl) (St.rdR (i := 5) hS16 rfl)) ?_)
    rintro _ w24 ⟨rfl, he28⟩ a25 hE26; clear hE22
    have hS27 := St.go hS16 he28; clear hS16
    refine q_step (v := .bool (!(F_isModel mp0 mp1 mp2))) hE26 (y_not rfl) rfl rfl rfl ?_; intro a29 hE30; clear hE26
    refine q_step (v := .bool (!(F_isModel mp0 mp1 mp2))) hE30 (y_move rfl) rfl rfl rfl ?_; intro a31 hE32; clear hE30
    rcases Bool.eq_false_or_eq_true (!(F_isModel mp0 mp1 mp2)) with hb33 | hb33
    ·
      have hE34 := hE32; rw [hb33] at hE34; clear hE32
      have ht35 := bn_t hb33
      refine q_skip hE34 rfl rfl rfl ?_; intro a36 hE37; clear hE34
      refine q_skip hE37 rfl rfl rfl ?_; intro a38 hE39; clear hE37
      refine q_skip hE39 rfl rfl rfl ?_; intro a40 hE41; clear hE39
      refine q_step (v := .bool true) hE41 (y_pick (b := true) rfl rfl) rfl rfl rfl ?_; intro a42 hE43; clear hE41
      refine q_step (v := .bool true) hE43 (y_move rfl) rfl rfl rfl ?_; intro a44 hE45; clear hE43
      refine q_skip hE45 rfl rfl rfl ?_; intro a46 hE47; clear hE45
      refine q_skip hE47 rfl rfl rfl ?_; intro a48 hE49; clear hE47
      refine q_skip hE49 rfl rfl rfl ?_; intro a50 hE51; clear hE49
      refine q_skip hE51 rfl rfl rfl ?_; intro a52 hE53; clear hE51
      refine q_skip hE53 rfl rfl rfl ?_; intro a54 hE55; clear hE53
      refine q_step (v := .bool true) hE55 (y_pick (b := true) rfl rfl) rfl rfl rfl ?_; intro a56 hE57; clear hE55
      refine c_nil ?_
      have hE58 := hE57.sub (L' := [(21, .bool true)]) ⟨rfl, trivial⟩; clear hE57
      refine p_tn ?_
      have hE59 := hE58.sub (L' := [(21, .bool true)]) ⟨rfl, trivial⟩
      have hS60 := (St.pick (Γ' := [.rd 1 np1A np1.length np1C np1, .rd 1 np2A np2.length np2C np2, .blk b12 #[.int .i64 np0, .slice np1A np1.length np1C, .slice np2A np2.length np2C] 39, .rd 1 mp1A mp1.length mp1C mp1, .rd 1 mp2A mp2.length mp2C mp2, .blk b6 #[.int .i64 mp0, .slice mp1A mp1.length mp1C, .slice mp2A mp2.length mp2C] 39, .rd 1 linkpA linkp.length linkpC linkp]) hS27 [4, 3, 0, 6, 5, 1, 2] (by decide) rfl)
      exact ⟨(by rw [hb33]; exact hE59), hS60⟩
    ·
      have hE61 := hE32; rw [hb33] at hE61; clear hE32
      have ht62 := bn_f hb33
      refine q_step (v := .agg #[.int .i64 np0, .slice np1A np1.length np1C, .slice np2A np2.length np2C]) hE61 (y_loadS Try.underlying39 rfl (by kernel_rfl) rfl (St.row (i := 0) hS27 rfl)) rfl rfl rfl ?_; intro a63 hE64; clear hE61
      refine l_step hE64 rfl (l_call (f := 70) (argv := [.agg #[.int .i64 np0, .slice np1A np1.length np1C, .slice np2A np2.length np2C]]) hE64 (fun _ => cf_isModel _ _) rfl rfl (c_isModel np0 np1A np1.length np1C np1 np2A np2.length np2C np2 w24 (St.rdR (i := 4) hS27 rfl) (St.rdR (i := 3) hS27 rfl)) ?_)
      rintro _ w66 ⟨rfl, he70⟩ a67 hE68; clear hE64
      have hS69 := St.go hS27 he70; clear hS27
      refine q_step (v := .bool (!(F_isModel np0 np1 np2))) hE68 (y_not rfl) rfl rfl rfl ?_; intro a71 hE72; clear hE68
      refine q_step (v := .bool (!(F_isModel np0 np1 np2))) hE72 (y_pick (b := false) rfl rfl) rfl rfl rfl ?_; intro a73 hE74; clear hE72
      refine q_step (v := .bool (!(F_isModel np0 np1 np2))) hE74 (y_move rfl) rfl rfl rfl ?_; intro a75 hE76; clear hE74
      rcases Bool.eq_false_or_eq_true (!(F_isModel np0 np1 np2)) with hb77 | hb77
      ·
        have hE78 := hE76; rw [hb77] at hE78; clear hE76
        have ht79 := bn_t hb77
        refine q_skip hE78 rfl rfl rfl ?_; intro a80 hE81; clear hE78
        refine q_skip hE81 rfl rfl rfl ?_; intro a82 hE83; clear hE81
        refine q_skip hE83 rfl rfl rfl ?_; intro a84 hE85; clear hE83
        refine q_skip hE85 rfl rfl rfl ?_; intro a86 hE87; clear hE85
        refine q_skip hE87 rfl rfl rfl ?_; intro a88 hE89; clear hE87
        refine q_step (v := .bool true) hE89 (y_pick (b := true) rfl rfl) rfl rfl rfl ?_; intro a90 hE91; clear hE89
        refine c_nil ?_
        have hE92 := hE91.sub (L' := [(21, .bool true)]) ⟨rfl, trivial⟩; clear hE91
        refine p_tn ?_
        have hE93 := hE92.sub (L' := [(21, .bool true)]) ⟨rfl, trivial⟩
        have hS94 := (St.pick (Γ' := [.rd 1 np1A np1.length np1C np1, .rd 1 np2A np2.length np2C np2, .blk b12 #[.int .i64 np0, .slice np1A np1.length np1C, .slice np2A np2.length np2C] 39, .rd 1 mp1A mp1.length mp1C mp1, .rd 1 mp2A mp2.length mp2C mp2, .blk b6 #[.int .i64 mp0, .slice mp1A mp1.length mp1C, .slice mp2A mp2.length mp2C] 39, .rd 1 linkpA linkp.length linkpC linkp]) hS69 [4, 3, 0, 6, 5, 1, 2] (by decide) rfl)
        exact ⟨(by rw [hb77, hb33]; exact hE93), hS94⟩
      ·
        have hE95 := hE76; rw [hb77] at hE95; clear hE76
        have ht96 := bn_f hb77
        refine q_step (v := .agg #[.int .i64 mp0, .slice mp1A mp1.length mp1C, .slice mp2A mp2.length mp2C]) hE95 (y_loadS Try.underlying39 rfl (by kernel_rfl) rfl (St.row (i := 1) hS69 rfl)) rfl rfl rfl ?_; intro a97 hE98; clear hE95
        refine q_step (v := .agg #[.int .i64 np0, .slice np1A np1.length np1C, .slice np2A np2.length np2C]) hE98 (y_loadS Try.underlying39 rfl (by kernel_rfl) rfl (St.row (i := 0) hS69 rfl)) rfl rfl rfl ?_; intro a99 hE100; clear hE98
        refine q_step (v := .slice linkpA linkp.length linkpC) hE100 (y_move rfl) rfl rfl rfl ?_; intro a101 hE102; clear hE100
        refine l_step hE102 rfl (l_call (f := 150) (argv := [.agg #[.int .i64 mp0, .slice mp1A mp1.length mp1C, .slice mp2A mp2.length mp2C], .agg #[.int .i64 np0, .slice np1A np1.length np1C, .slice np2A np2.length np2C], .slice linkpA linkp.length linkpC]) hE102 (fun _ => cf_isLink _ _) rfl rfl (c_isLink mp0 mp1A mp1.length mp1C mp1 mp2A mp2.length mp2C mp2 np0 np1A np1.length np1C np1 np2A np2.length np2C np2 linkpA linkp.length linkpC linkp w66 (St.rdR (i := 6) hS69 rfl) (St.rdR (i := 5) hS69 rfl) (St.rdR (i := 4) hS69 rfl) (St.rdR (i := 3) hS69 rfl) (St.rdR (i := 2) hS69 rfl)) ?_)
        rintro _ w104 ⟨rfl, he108⟩ a105 hE106; clear hE102
        have hS107 := St.go hS69 he108; clear hS69
        refine q_step (v := .bool (!(F_isLink mp0 mp1 mp2 np0 np1 np2 linkp))) hE106 (y_not rfl) rfl rfl rfl ?_; intro a109 hE110; clear hE106
        refine q_step (v := .bool (!(F_isLink mp0 mp1 mp2 np0 np1 np2 linkp))) hE110 (y_pick (b := false) rfl rfl) rfl rfl rfl ?_; intro a111 hE112; clear hE110
        refine c_nil ?_
        have hE113 := hE112.sub (L' := [(21, .bool (!(F_isLink mp0 mp1 mp2 np0 np1 np2 linkp)))]) ⟨rfl, trivial⟩; clear hE112
        refine p_tn ?_
        have hE114 := hE113.sub (L' := [(21, .bool (!(F_isLink mp0 mp1 mp2 np0 np1 np2 linkp)))]) ⟨rfl, trivial⟩
        have hS115 := (St.pick (Γ' := [.rd 1 np1A np1.length np1C np1, .rd 1 np2A np2.length np2C np2, .blk b12 #[.int .i64 np0, .slice np1A np1.length np1C, .slice np2A np2.length np2C] 39, .rd 1 mp1A mp1.length mp1C mp1, .rd 1 mp2A mp2.length mp2C mp2, .blk b6 #[.int .i64 mp0, .slice mp1A mp1.length mp1C, .slice mp2A mp2.length mp2C] 39, .rd 1 linkpA linkp.length linkpC linkp]) hS107 [4, 3, 0, 6, 5, 1, 2] (by decide) rfl)
        exact ⟨(by rw [hb77, hb33]; exact hE114), hS115⟩
  ·
    rintro a116 w117 ⟨hE118, hS119⟩; clear hE20 hS16
    refine c_cond hE118 rfl (fun ht120 => ?_) (fun ht120 => ?_)
    ·
      have hE121 := hE118; rw [ht120] at hE121; clear hE118
      refine c_seq ?_
      refine c_reg ?_
      refine q_step (v := .int .i64 1) hE121 (y_assign rfl) rfl rfl rfl ?_; intro a122 hE123; clear hE121
      refine c_nil ?_
      have hE124 := hE123.sub (L' := [(6, .int .i64 1)]) ⟨rfl, trivial⟩; clear hE123
      refine p_tn ?_
      refine wp_ret ?_
      refine p_tr ?_
      have hF : F_linkCode mp0 mp1 mp2 np0 np1 np2 linkp = 1 := by unfold F_linkCode; rw [ht120]; first | done | rfl
      refine c_ret1 hE124 rfl rfl ?_
      exact ⟨(by rw [hF]; first | done | rfl), hS119.ext⟩
    ·
      obtain ⟨ht125, ht126⟩ := bor_f ht120
      have ht127 := bn_f ht125
      obtain ⟨ht128, ht129⟩ := bor_f ht126
      have ht130 := bn_f ht128
      have ht131 := bn_f ht129
      have hE132 := hE118; rw [ht120] at hE132; clear hE118
      refine wp_skip ?_
      refine p_tn ?_
      refine c_seq ?_
      refine c_reg ?_
      refine q_step (v := .int .i64 0) hE132 (y_assign rfl) rfl rfl rfl ?_; intro a133 hE134; clear hE132
      refine c_nil ?_
      have hE135 := hE134.sub (L' := [(6, .int .i64 0)]) ⟨rfl, trivial⟩; clear hE134
      refine p_tn ?_
      refine wp_ret ?_
      have hF : F_linkCode mp0 mp1 mp2 np0 np1 np2 linkp = 0 := by unfold F_linkCode; rw [ht120]; first | done | rfl
      refine c_ret1 hE135 rfl rfl ?_
      exact ⟨(by rw [hF]; first | done | rfl), hS119.ext⟩

theorem isLink_eq (mp0 : Int) (mp1 mp2 : List Int) (np0 : Int) (np1 np2 : List Int) (linkp : List Int) (h0 : 0 ≤ np0) (h1 : np0 ≤ 8) : F_isLink mp0 mp1 mp2 np0 np1 np2 linkp = F_l07Link mp0 mp1 mp2 np0 np1 np2 linkp := by
  unfold F_isLink F_l07Link
  congr 1
  rw [contains_eq, masks_eq, List.all_eq_not_any_not]
  congr 2; funext x
  unfold F_isLink_k1
  rw [isMask_eq (by omega) (by omega)]
theorem linkCode_eq (mp0 : Int) (mp1 mp2 : List Int) (np0 : Int) (np1 np2 : List Int) (linkp : List Int) : F_linkCode mp0 mp1 mp2 np0 np1 np2 linkp = bif ((!decide ((F_l07Two mp0 mp1 mp2 np0 np1 np2) = 0)) || (!(F_l07Link mp0 mp1 mp2 np0 np1 np2 linkp))) then 1 else 0 := by
  unfold F_linkCode F_l07Two
  rw [isModel_eq, isModel_eq]
  cases h1 : F_l06Is mp0 mp1 mp2
  · rfl
  · cases h2 : F_l06Is np0 np1 np2
    · rfl
    · have hb := l06Is_t h2
      rw [isLink_eq _ _ _ _ _ _ _ hb.2.1.1.1 hb.2.1.1.2]; rfl
theorem linkCode_t {mp0 : Int} {mp1 mp2 : List Int} {np0 : Int} {np1 np2 : List Int} {linkp : List Int} (h : F_linkCode mp0 mp1 mp2 np0 np1 np2 linkp = 0) : (F_l05Is mp0 mp1 = true ∧ ((0 ≤ mp0 ∧ mp0 ≤ 8) ∧ (mp1.length : Int) = mp0) ∧ (mp2.length : Int) = 6 ∧ ∀ m : Int, 0 ≤ m → m < (mp2.length : Int) → 0 ≤ gI mp2 m ∧ gI mp2 m ≤ fullI mp0) ∧ (F_l05Is np0 np1 = true ∧ ((0 ≤ np0 ∧ np0 ≤ 8) ∧ (np1.length : Int) = np0) ∧ (np2.length : Int) = 6 ∧ ∀ m : Int, 0 ≤ m → m < (np2.length : Int) → 0 ≤ gI np2 m ∧ gI np2 m ≤ fullI np0) ∧ (linkp.length : Int) = mp0 ∧ ∀ m : Int, 0 ≤ m → m < (linkp.length : Int) → 0 ≤ gI linkp m ∧ gI linkp m ≤ fullI np0 := by
  rw [linkCode_eq] at h
  cases h1 : ((!decide ((F_l07Two mp0 mp1 mp2 np0 np1 np2) = 0)) || (!(F_l07Link mp0 mp1 mp2 np0 np1 np2 linkp)))
  · obtain ⟨h2, h3⟩ := bor_f h1
    have h4 := l07Two_t (of_decide_eq_true (bn_f h2))
    exact ⟨h4.1, h4.2, l07Link_t (bn_f h3)⟩
  · rw [h1, cond_true] at h; cases h
theorem link_62 {mp0 : Int} {mp1 mp2 : List Int} {np0 : Int} {np1 np2 : List Int} {linkp : List Int} (h : F_linkCode mp0 mp1 mp2 np0 np1 np2 linkp = 0) : ∀ m : Int, 0 ≤ m → m < (linkp.length : Int) → 0 ≤ gI linkp m ∧ gI linkp m < 4611686018427387904 := by
  intro m h0 h1
  obtain ⟨_, hn, _, hl⟩ := linkCode_t h
  have := hl m h0 h1
  have := fullI_bd (n := np0) (by omega) (by omega)
  omega
theorem link_dom {mp0 : Int} {mp1 mp2 : List Int} {np0 : Int} {np1 np2 : List Int} {linkp : List Int} (h : F_linkCode mp0 mp1 mp2 np0 np1 np2 linkp = 0) (x y : Int) (h0 : 0 ≤ x) (h1 : x < (linkp.length : Int)) (h2 : y ∈ F_membersOf (gI linkp x)) : (0 ≤ x ∧ x < mp0) ∧ 0 ≤ y ∧ y < np0 := by
  obtain ⟨_, hn, hl, hm⟩ := linkCode_t h
  have hx := hm x h0 h1
  have := members_mem (n := np0.toNat) (by omega) hx.1 (by rw [Int.toNat_of_nonneg hn.2.1.1.1]; exact hx.2) h2
  omega

def F_forth_L1b (mp1 : List Int) (np1 : List Int) (linkp : List Int) (xp : Int) (yp : Int) (rec : Int → Except (Bool) (Int)) (t21 : Int) : Except (Bool) (Int) :=
  bif (decide (t21 < ((F_membersOf (gI mp1 xp)).length : Int))) then (bif (decide ((andI (gI linkp (gI (F_membersOf (gI mp1 xp)) t21)) (gI np1 yp)) = 0)) then (.error false) else (rec (t21 + 1))) else (.ok t21)
def F_forth_L1 (mp1 : List Int) (np1 : List Int) (linkp : List Int) (xp : Int) (yp : Int) : Nat → Int → Except (Bool) (Int)
  | 0, t21 => .ok t21
  | r + 1, t21 => F_forth_L1b mp1 np1 linkp xp yp (F_forth_L1 mp1 np1 linkp xp yp r) t21
def F_forth (mp0 : Int) (mp1 : List Int) (mp2 : List Int) (np0 : Int) (np1 : List Int) (np2 : List Int) (linkp : List Int) (xp : Int) (yp : Int) : Bool :=
  bif (isOk (F_forth_L1 mp1 np1 linkp xp yp (Int.toNat (((F_membersOf (gI mp1 xp)).length : Int) - 0) + 1) 0)) then true else (errD (F_forth_L1 mp1 np1 linkp xp yp (Int.toNat (((F_membersOf (gI mp1 xp)).length : Int) - 0) + 1) 0))
theorem cf_forth (args : Array Value) (w : World) : (callFunc 86 args).run Try.prog w = .ok (.enter 86 args) w := by kernel_rfl
set_option maxRecDepth 100000 in
theorem c_forth (mp0 : Int) (mp1A : Option Addr) (mp1N mp1C : Nat) (mp1 : List Int) (mp2A : Option Addr) (mp2N mp2C : Nat) (mp2 : List Int) (np0 : Int) (np1A : Option Addr) (np1N np1C : Nat) (np1 : List Int) (np2A : Option Addr) (np2N np2C : Nat) (np2 : List Int) (linkpA : Option Addr) (linkpN linkpC : Nat) (linkp : List Int) (xp : Int) (yp : Int) (w : World) (mp1R : RdS w 1 mp1A mp1N mp1C mp1) (mp2R : RdS w 1 mp2A mp2N mp2C mp2) (np1R : RdS w 1 np1A np1N np1C np1) (np2R : RdS w 1 np2A np2N np2C np2) (linkpR : RdS w 1 linkpA linkpN linkpC linkp) (hx : 0 ≤ xp ∧ xp < mp0) (hy : 0 ≤ yp ∧ yp < np0) (hwm : 0 ≤ mp0 ∧ mp0 ≤ 8) (hwn : 0 ≤ np0 ∧ np0 ≤ 8) (hlm : (mp1.length : Int) = mp0) (hln : (np1.length : Int) = np0) (hll : (linkp.length : Int) = mp0) (hfm : ∀ m : Int, 0 ≤ m → m < (mp1.length : Int) → 0 ≤ gI mp1 m ∧ gI mp1 m ≤ fullI mp0) :
    Calls Try.prog 86 #[.agg #[.int .i64 mp0, .slice mp1A mp1N mp1C, .slice mp2A mp2N mp2C], .agg #[.int .i64 np0, .slice np1A np1N np1C, .slice np2A np2N np2C], .slice linkpA linkpN linkpC, .int .i64 xp, .int .i64 yp] w (Ret fun v w' => v = .bool (F_forth mp0 mp1 mp2 np0 np1 np2 linkp xp yp) ∧ Ext w w') := by
  obtain rfl : mp1N = mp1.length := mp1R.len1.symm
  have mp1Le := mp1R.le
  obtain rfl : mp2N = mp2.length := mp2R.len1.symm
  have mp2Le := mp2R.le
  obtain rfl : np1N = np1.length := np1R.len1.symm
  have np1Le := np1R.le
  obtain rfl : np2N = np2.length := np2R.len1.symm
  have np2Le := np2R.le
  obtain rfl : linkpN = linkp.length := linkpR.len1.symm
  have linkpLe := linkpR.le
  have hm1 := hfm xp (by omega) (by omega)
  have hf8 := fullI_bd (n := mp0) (by omega) (by omega)
  have hml := members_len (mask := gI mp1 xp) (n := linkp.length) (by omega) (by omega) (by rw [hll]; omega)
  have hS := St.nil w
  have hS1 := St.rd0 hS rfl mp1R; clear hS
  have hS2 := St.rd0 hS1 rfl mp2R; clear hS1
  have hS3 := St.rd0 hS2 rfl np1R; clear hS2
  have hS4 := St.rd0 hS3 rfl np2R; clear hS3
  have hS5 := St.rd0 hS4 rfl linkpR; clear hS4
  refine enter (args := [.agg #[.int .i64 mp0, .slice mp1A mp1.length mp1C, .slice mp2A mp2.length mp2C], .agg #[.int .i64 np0, .slice np1A np1.length np1C, .slice np2A np2.length np2C], .slice linkpA linkp.length linkpC, .int .i64 xp, .int .i64 yp]) Try.func86 rfl rfl ?_
  rw [Try.ntmps86]; intro a hE
  have hE := hE.sub (L' := [(0, .agg #[.int .i64 mp0, .slice mp1A mp1.length mp1C, .slice mp2A mp2.length mp2C]), (1, .agg #[.int .i64 np0, .slice np1A np1.length np1C, .slice np2A np2.length np2C]), (2, .slice linkpA linkp.length linkpC), (3, .int .i64 xp), (4, .int .i64 yp)]) ⟨rfl, rfl, rfl, rfl, rfl, trivial⟩
  refine c_seq ?_
  refine c_reg ?_
  refine l_step hE rfl (l_box (v := .agg #[.int .i64 mp0, .slice mp1A mp1.length mp1C, .slice mp2A mp2.length mp2C]) (cs := #[.int .i64 mp0, .slice mp1A mp1.length mp1C, .slice mp2A mp2.length mp2C]) hS5 hE rfl rfl rfl ?_)
  intro b6 w7 hS10 he11 a8 hE9; clear hS5 hE
  refine l_step hE9 rfl (l_box (v := .agg #[.int .i64 np0, .slice np1A np1.length np1C, .slice np2A np2.length np2C]) (cs := #[.int .i64 np0, .slice np1A np1.length np1C, .slice np2A np2.length np2C]) hS10 hE9 rfl rfl rfl ?_)
  intro b12 w13 hS16 he17 a14 hE15; clear hS10 hE9
  refine q_step (v := .bool false) hE15 (y_assign rfl) rfl rfl rfl ?_; intro a18 hE19; clear hE15
  refine c_nil ?_
  have hE20 := hE19.sub (L' := [(2, .slice linkpA linkp.length linkpC), (3, .int .i64 xp), (4, .int .i64 yp), (5, .pointer (some ⟨b6, 0, none⟩)), (6, .pointer (some ⟨b12, 0, none⟩))]) ⟨rfl, rfl, rfl, rfl, rfl, trivial⟩; clear hE19
  refine p_tn ?_
  refine c_seq ?_
  refine c_seq ?_
  refine c_reg ?_
  refine q_step (v := .pointer (some ⟨b6, 0, none⟩)) hE20 (y_field rfl (fun _ => by kernel_rfl)) rfl rfl rfl ?_; intro a21 hE22; clear hE20
  refine q_step (v := .pointer (some ⟨b6, 1, none⟩)) hE22 (y_field rfl (fun _ => by kernel_rfl)) rfl rfl rfl ?_; intro a23 hE24; clear hE22
  refine q_step (v := .slice mp1A mp1.length mp1C) hE24 (y_load (fun _ => by kernel_rfl) rfl (St.cell (i := 1) hS16 rfl rfl)) rfl rfl rfl ?_; intro a25 hE26; clear hE24
  refine q_step (v := .int .i64 xp) hE26 (y_move rfl) rfl rfl rfl ?_; intro a27 hE28; clear hE26
  refine q_step (v := .pointer (some (adr mp1A (Int.toNat xp)))) hE28 (y_idx (by kernel_rfl) (fun _ => by kernel_rfl) rfl rfl (RdS.isS (m := xp) (St.rdR (i := 6) hS16 rfl) (by omega) (by omega)) (by omega) (by omega) (Nat.mul_one _).symm) rfl rfl rfl ?_; intro a29 hE30; clear hE28
  refine q_step (v := .int .i64 (gI mp1 xp)) hE30 (y_load (fun _ => by kernel_rfl) rfl (RdS.elt (St.rdR (i := 6) hS16 rfl) (by omega) (by omega))) rfl rfl rfl ?_; intro a31 hE32; clear hE30
  refine l_step hE32 rfl (l_call (f := 151) (argv := [.int .i64 (gI mp1 xp)]) hE32 (fun _ => cf_membersOf _ _) rfl rfl (c_membersOf (gI mp1 xp) w13 (by omega) (by omega)) ?_)
  rintro _ w34 ⟨b39, c40, rfl, ho41, he38⟩ a35 hE36; clear hE32
  have hS37 := St.own hS16 he38 ho41; clear hS16
  refine q_step (v := .int .i64 ((F_membersOf (gI mp1 xp)).length : Int)) hE36 (y_len (e := 2) (by kernel_rfl) rfl) rfl rfl rfl ?_; intro a42 hE43; clear hE36
  refine q_step (v := .int .i64 0) hE43 (y_move rfl) rfl rfl rfl ?_; intro a44 hE45; clear hE43
  refine c_nil ?_
  have hE46 := hE45.sub (L' := [(2, .slice linkpA linkp.length linkpC), (4, .int .i64 yp), (6, .pointer (some ⟨b12, 0, none⟩)), (19, .slice b39 ((F_membersOf (gI mp1 xp)).length) c40), (20, .int .i64 ((F_membersOf (gI mp1 xp)).length : Int)), (21, .int .i64 0)]) ⟨rfl, rfl, rfl, rfl, rfl, rfl, trivial⟩; clear hE45
  refine p_tn ?_
  refine c_cut1 (fun a' w' => isOk (F_forth_L1 mp1 np1 linkp xp yp (Int.toNat (((F_membersOf (gI mp1 xp)).length : Int) - 0) + 1) 0) = true ∧ (0 ≤ (okD (F_forth_L1 mp1 np1 linkp xp yp (Int.toNat (((F_membersOf (gI mp1 xp)).length : Int) - 0) + 1) 0))) ∧ ((okD (F_forth_L1 mp1 np1 linkp xp yp (Int.toNat (((F_membersOf (gI mp1 xp)).length : Int) - 0) + 1) 0)) ≤ ((F_membersOf (gI mp1 xp)).length : Int)) ∧ E a' 38 [(2, .slice linkpA linkp.length linkpC), (4, .int .i64 yp), (6, .pointer (some ⟨b12, 0, none⟩)), (19, .slice b39 ((F_membersOf (gI mp1 xp)).length) c40), (20, .int .i64 ((F_membersOf (gI mp1 xp)).length : Int)), (21, .int .i64 (okD (F_forth_L1 mp1 np1 linkp xp yp (Int.toNat (((F_membersOf (gI mp1 xp)).length : Int) - 0) + 1) 0)))] ∧ St w w' [.own 2 1 b39 ((F_membersOf (gI mp1 xp)).length) c40 (F_membersOf (gI mp1 xp)), .blk b12 #[.int .i64 np0, .slice np1A np1.length np1C, .slice np2A np2.length np2C] 39, .blk b6 #[.int .i64 mp0, .slice mp1A mp1.length mp1C, .slice mp2A mp2.length mp2C] 39, .rd 1 linkpA linkp.length linkpC linkp, .rd 1 np2A np2.length np2C np2, .rd 1 np1A np1.length np1C np1, .rd 1 mp2A mp2.length mp2C mp2, .rd 1 mp1A mp1.length mp1C mp1]) ?_ ?_
  ·
    refine wp_block ?_
    refine c_loop (fun r a' w' => ∃ t21 : Int, F_forth_L1 mp1 np1 linkp xp yp r t21 = F_forth_L1 mp1 np1 linkp xp yp (Int.toNat (((F_membersOf (gI mp1 xp)).length : Int) - 0) + 1) 0 ∧ Int.toNat (((F_membersOf (gI mp1 xp)).length : Int) - t21) < r ∧ (0 ≤ t21) ∧ (t21 ≤ ((F_membersOf (gI mp1 xp)).length : Int)) ∧ E a' 38 [(2, .slice linkpA linkp.length linkpC), (4, .int .i64 yp), (6, .pointer (some ⟨b12, 0, none⟩)), (19, .slice b39 ((F_membersOf (gI mp1 xp)).length) c40), (20, .int .i64 ((F_membersOf (gI mp1 xp)).length : Int)), (21, .int .i64 t21)] ∧ St w w' [.own 2 1 b39 ((F_membersOf (gI mp1 xp)).length) c40 (F_membersOf (gI mp1 xp)), .blk b12 #[.int .i64 np0, .slice np1A np1.length np1C, .slice np2A np2.length np2C] 39, .blk b6 #[.int .i64 mp0, .slice mp1A mp1.length mp1C, .slice mp2A mp2.length mp2C] 39, .rd 1 linkpA linkp.length linkpC linkp, .rd 1 np2A np2.length np2C np2, .rd 1 np1A np1.length np1C np1, .rd 1 mp2A mp2.length mp2C mp2, .rd 1 mp1A mp1.length mp1C mp1]) (r := (Int.toNat (((F_membersOf (gI mp1 xp)).length : Int) - 0) + 1)) ?_ ?_
    · exact ⟨0, rfl, Nat.lt_succ_self _, (by first | omega | (simp only [List.length_append, List.length_cons, List.length_nil, sI_len, cond_true, cond_false]; omega) | (simp only [List.length_append, List.length_cons, List.length_nil, sI_len, cond_eq_ite, apply_ite List.length]; split <;> simp only [List.length_append, List.length_cons, List.length_nil, sI_len] <;> omega) | grind), (by first | omega | (simp only [List.length_append, List.length_cons, List.length_nil, sI_len, cond_true, cond_false]; omega) | (simp only [List.length_append, List.length_cons, List.length_nil, sI_len, cond_eq_ite, apply_ite List.length]; split <;> simp only [List.length_append, List.length_cons, List.length_nil, sI_len] <;> omega) | grind), (hE46.sub (L' := [(2, .slice linkpA linkp.length linkpC), (4, .int .i64 yp), (6, .pointer (some ⟨b12, 0, none⟩)), (19, .slice b39 ((F_membersOf (gI mp1 xp)).length) c40), (20, .int .i64 ((F_membersOf (gI mp1 xp)).length : Int)), (21, .int .i64 0)]) ⟨rfl, rfl, rfl, rfl, rfl, rfl, trivial⟩), (St.pick (Γ' := [.own 2 1 b39 ((F_membersOf (gI mp1 xp)).length) c40 (F_membersOf (gI mp1 xp)), .blk b12 #[.int .i64 np0, .slice np1A np1.length np1C, .slice np2A np2.length np2C] 39, .blk b6 #[.int .i64 mp0, .slice mp1A mp1.length mp1C, .slice mp2A mp2.length mp2C] 39, .rd 1 linkpA linkp.length linkpC linkp, .rd 1 np2A np2.length np2C np2, .rd 1 np1A np1.length np1C np1, .rd 1 mp2A mp2.length mp2C mp2, .rd 1 mp1A mp1.length mp1C mp1]) hS37 [0, 1, 2, 3, 4, 5, 6, 7] (by decide) rfl)⟩
    ·
      clear hE46 hS37
      rintro r56 a48 w49 ⟨t21, hT52, hr53, hi54, hi55, hE50, hS51⟩
      obtain ⟨r56, rfl⟩ : ∃ r', r56 = r' + 1 := ⟨r56 - 1, by omega⟩
      refine c_seq ?_
      refine c_reg ?_
      refine q_step (v := .bool (decide (t21 < ((F_membersOf (gI mp1 xp)).length : Int)))) hE50 (y_lss rfl rfl) rfl rfl rfl ?_; intro a57 hE58; clear hE50
      refine c_nil ?_
      have hE59 := hE58.sub (L' := [(2, .slice linkpA linkp.length linkpC), (4, .int .i64 yp), (6, .pointer (some ⟨b12, 0, none⟩)), (19, .slice b39 ((F_membersOf (gI mp1 xp)).length) c40), (20, .int .i64 ((F_membersOf (gI mp1 xp)).length : Int)), (21, .int .i64 t21), (22, .bool (decide (t21 < ((F_membersOf (gI mp1 xp)).length : Int))))]) ⟨rfl, rfl, rfl, rfl, rfl, rfl, rfl, trivial⟩; clear hE58
      refine p_tn ?_
      refine c_seq ?_
      refine c_cond hE59 rfl (fun ht60 => ?_) (fun ht60 => ?_)
      ·
        have hp61 := of_decide_eq_true ht60
        have hE62 := hE59; rw [ht60] at hE62; clear hE59
        have hm2 := members_lt (mask := gI mp1 xp) (n := linkp.length) (by omega) hm1.1 (by rw [hll]; omega) t21 (by omega) (by omega)
        refine wp_skip ?_
        refine p_tn ?_
        refine c_seq ?_
        refine wp_block ?_
        refine c_seq ?_
        refine c_reg ?_
        refine q_step (v := .pointer (some (adr b39 (Int.toNat t21)))) hE62 (y_idx (by kernel_rfl) (fun _ => by kernel_rfl) rfl rfl (RdS.isS (m := t21) (St.rdO (i := 0) hS51 rfl) (by omega) (by omega)) (by omega) (by omega) (Nat.mul_one _).symm) rfl rfl rfl ?_; intro a63 hE64; clear hE62
        refine q_step (v := .int .i64 (gI (F_membersOf (gI mp1 xp)) t21)) hE64 (y_load (fun _ => by kernel_rfl) rfl (RdS.elt (St.rdO (i := 0) hS51 rfl) (by omega) (by omega))) rfl rfl rfl ?_; intro a65 hE66; clear hE64
        refine q_step (v := .int .i64 (gI (F_membersOf (gI mp1 xp)) t21)) hE66 (y_assign rfl) rfl rfl rfl ?_; intro a67 hE68; clear hE66
        refine c_nil ?_
        have hE69 := hE68.sub (L' := [(2, .slice linkpA linkp.length linkpC), (4, .int .i64 yp), (6, .pointer (some ⟨b12, 0, none⟩)), (12, .int .i64 (gI (F_membersOf (gI mp1 xp)) t21)), (19, .slice b39 ((F_membersOf (gI mp1 xp)).length) c40), (20, .int .i64 ((F_membersOf (gI mp1 xp)).length : Int)), (21, .int .i64 t21)]) ⟨rfl, rfl, rfl, rfl, rfl, rfl, rfl, trivial⟩; clear hE68
        refine p_tn ?_
        refine c_seq ?_
        refine d_start (fun w' => w'.cell? (adr linkpA (Int.toNat (gI (F_membersOf (gI mp1 xp)) t21))) = some (.int .i64 (gI linkp (gI (F_membersOf (gI mp1 xp)) t21))) ∧ w'.cell? ⟨b12, 1, none⟩ = some (.slice np1A np1.length np1C) ∧ w'.cell? (adr np1A (Int.toNat yp)) = some (.int .i64 (gI np1 yp)) ∧ True) [3, 6, 9] 12 (by kernel_rfl) rfl ?_
        intro w70 he71; have hS72 := St.go hS51 he71; clear hS51
        refine d_pure (v := .slice linkpA linkp.length linkpC) 0 rfl hE69 (y_move rfl) rfl (by kernel_rfl) (by kernel_rfl) (by kernel_rfl) rfl rfl (fun _ _ _ h => h) ?_; intro a73 hE74; clear hE69
        refine d_pure (v := .int .i64 (gI (F_membersOf (gI mp1 xp)) t21)) 1 rfl hE74 (y_move rfl) rfl (by kernel_rfl) (by kernel_rfl) (by kernel_rfl) rfl rfl (fun _ _ _ h => h) ?_; intro a75 hE76; clear hE74
        refine d_pure (v := .pointer (some (adr linkpA (Int.toNat (gI (F_membersOf (gI mp1 xp)) t21))))) 2 rfl hE76 (y_idx (by kernel_rfl) (fun _ => by kernel_rfl) rfl rfl (RdS.isS (m := gI (F_membersOf (gI mp1 xp)) t21) (St.rdR (i := 3) hS72 rfl) (by omega) (by omega)) (by omega) (by omega) (Nat.mul_one _).symm) rfl (by kernel_rfl) (by kernel_rfl) (by kernel_rfl) rfl rfl (fun _ _ _ h => h) ?_; intro a77 hE78; clear hE76
        refine d_take (v := .int .i64 (gI linkp (gI (F_membersOf (gI mp1 xp)) t21))) 3 rfl hE78 ⟨(RdS.elt (St.rdR (i := 3) hS72 rfl) (by omega) (by omega) _ (Ext.refl _)), (St.cell (i := 1) hS72 rfl rfl _ (Ext.refl _)), (RdS.elt (St.rdR (i := 5) hS72 rfl) (by omega) (by omega) _ (Ext.refl _)), trivial⟩ (y_load (fun _ => by kernel_rfl) rfl (fun _ h => h.1)) rfl rfl (by kernel_rfl) (by kernel_rfl) (by kernel_rfl) rfl rfl (fun _ _ _ h => h) ?_; intro a79 hE80; clear hE78
        refine d_pure (v := .pointer (some ⟨b12, 0, none⟩)) 4 rfl hE80 (y_field rfl (fun _ => by kernel_rfl)) rfl (by kernel_rfl) (by kernel_rfl) (by kernel_rfl) rfl rfl (fun _ _ _ h => h) ?_; intro a81 hE82; clear hE80
        refine d_pure (v := .pointer (some ⟨b12, 1, none⟩)) 5 rfl hE82 (y_field rfl (fun _ => by kernel_rfl)) rfl (by kernel_rfl) (by kernel_rfl) (by kernel_rfl) rfl rfl (fun _ _ _ h => h) ?_; intro a83 hE84; clear hE82
        refine d_take (v := .slice np1A np1.length np1C) 6 rfl hE84 ⟨(RdS.elt (St.rdR (i := 3) hS72 rfl) (by omega) (by omega) _ (Ext.refl _)), (St.cell (i := 1) hS72 rfl rfl _ (Ext.refl _)), (RdS.elt (St.rdR (i := 5) hS72 rfl) (by omega) (by omega) _ (Ext.refl _)), trivial⟩ (y_load (fun _ => by kernel_rfl) rfl (fun _ h => h.2.1)) rfl rfl (by kernel_rfl) (by kernel_rfl) (by kernel_rfl) rfl rfl (fun _ _ _ h => h) ?_; intro a85 hE86; clear hE84
        refine d_pure (v := .int .i64 yp) 7 rfl hE86 (y_move rfl) rfl (by kernel_rfl) (by kernel_rfl) (by kernel_rfl) rfl rfl (fun _ _ _ h => h) ?_; intro a87 hE88; clear hE86
        refine d_pure (v := .pointer (some (adr np1A (Int.toNat yp)))) 8 rfl hE88 (y_idx (by kernel_rfl) (fun _ => by kernel_rfl) rfl rfl (RdS.isS (m := yp) (St.rdR (i := 5) hS72 rfl) (by omega) (by omega)) (by omega) (by omega) (Nat.mul_one _).symm) rfl (by kernel_rfl) (by kernel_rfl) (by kernel_rfl) rfl rfl (fun _ _ _ h => h) ?_; intro a89 hE90; clear hE88
        refine d_take (v := .int .i64 (gI np1 yp)) 9 rfl hE90 ⟨(RdS.elt (St.rdR (i := 3) hS72 rfl) (by omega) (by omega) _ (Ext.refl _)), (St.cell (i := 1) hS72 rfl rfl _ (Ext.refl _)), (RdS.elt (St.rdR (i := 5) hS72 rfl) (by omega) (by omega) _ (Ext.refl _)), trivial⟩ (y_load (fun _ => by kernel_rfl) rfl (fun _ h => h.2.2.1)) rfl rfl (by kernel_rfl) (by kernel_rfl) (by kernel_rfl) rfl rfl (fun _ _ _ h => h) ?_; intro a91 hE92; clear hE90
        refine d_pure (v := .int .i64 (andI (gI linkp (gI (F_membersOf (gI mp1 xp)) t21)) (gI np1 yp))) 10 rfl hE92 (y_and rfl rfl) rfl (by kernel_rfl) (by kernel_rfl) (by kernel_rfl) rfl rfl (fun _ _ _ h => h) ?_; intro a93 hE94; clear hE92
        refine d_pure (v := .bool (decide ((andI (gI linkp (gI (F_membersOf (gI mp1 xp)) t21)) (gI np1 yp)) = 0))) 11 rfl hE94 (y_eql rfl rfl) rfl (by kernel_rfl) (by kernel_rfl) (by kernel_rfl) rfl rfl (fun _ _ _ h => h) ?_; intro a95 hE96; clear hE94
        refine d_done (by kernel_rfl) ?_
        have hE97 := hE96.sub (L' := [(2, .slice linkpA linkp.length linkpC), (4, .int .i64 yp), (6, .pointer (some ⟨b12, 0, none⟩)), (19, .slice b39 ((F_membersOf (gI mp1 xp)).length) c40), (20, .int .i64 ((F_membersOf (gI mp1 xp)).length : Int)), (21, .int .i64 t21), (36, .bool (decide ((andI (gI linkp (gI (F_membersOf (gI mp1 xp)) t21)) (gI np1 yp)) = 0)))]) ⟨rfl, rfl, rfl, rfl, rfl, rfl, rfl, trivial⟩; clear hE96
        refine p_tn ?_
        refine c_cond hE97 rfl (fun ht98 => ?_) (fun ht98 => ?_)
        ·
          have hp99 := of_decide_eq_true ht98
          have hE100 := hE97; rw [ht98] at hE100; clear hE97
          refine c_seq ?_
          refine c_reg ?_
          refine q_step (v := .bool false) hE100 (y_assign rfl) rfl rfl rfl ?_; intro a101 hE102; clear hE100
          refine c_nil ?_
          have hE103 := hE102.sub (L' := [(10, .bool false)]) ⟨rfl, trivial⟩; clear hE102
          refine p_tn ?_
          refine wp_ret ?_
          refine p_br ?_
          refine p_tr ?_
          have hX104 : F_forth_L1 mp1 np1 linkp xp yp (Int.toNat (((F_membersOf (gI mp1 xp)).length : Int) - 0) + 1) 0 = .error false := hT52.symm.trans (show F_forth_L1b mp1 np1 linkp xp yp (F_forth_L1 mp1 np1 linkp xp yp r56) t21 = .error false by unfold F_forth_L1b; rw [ht98, ht60]; first | done | rfl)
          refine p_tr (p_br (p_tr ?_))
          refine p_tr ?_
          have hF : F_forth mp0 mp1 mp2 np0 np1 np2 linkp xp yp = false := by unfold F_forth; rw [hX104]; first | done | rfl
          refine c_ret1 hE103 rfl rfl ?_
          exact ⟨(by rw [hF]; first | done | rfl), hS72.ext⟩
        ·
          have hp105 := of_decide_eq_false ht98
          have hE106 := hE97; rw [ht98] at hE106; clear hE97
          refine wp_skip ?_
          refine p_bn ?_
          refine p_tn ?_
          refine c_reg ?_
          refine q_step (v := .int .i64 (t21 + 1)) hE106 (y_add rfl rfl ⟨(by omega), (by omega)⟩) rfl rfl rfl ?_; intro a107 hE108; clear hE106
          refine q_step (v := .int .i64 (t21 + 1)) hE108 (y_move rfl) rfl rfl rfl ?_; intro a109 hE110; clear hE108
          refine c_nil ?_
          have hE111 := hE110.sub (L' := [(2, .slice linkpA linkp.length linkpC), (4, .int .i64 yp), (6, .pointer (some ⟨b12, 0, none⟩)), (19, .slice b39 ((F_membersOf (gI mp1 xp)).length) c40), (20, .int .i64 ((F_membersOf (gI mp1 xp)).length : Int)), (21, .int .i64 (t21 + 1))]) ⟨rfl, rfl, rfl, rfl, rfl, rfl, trivial⟩; clear hE110
          refine p_tn ⟨r56, Nat.lt_succ_self _, t21 + 1, (hT52.symm.trans (show F_forth_L1b mp1 np1 linkp xp yp (F_forth_L1 mp1 np1 linkp xp yp r56) t21 = F_forth_L1 mp1 np1 linkp xp yp r56 (t21 + 1) by unfold F_forth_L1b; rw [ht98, ht60]; first | done | rfl)).symm, (by omega), (by first | omega | (simp only [List.length_append, List.length_cons, List.length_nil, sI_len, cond_true, cond_false]; omega) | (simp only [List.length_append, List.length_cons, List.length_nil, sI_len, cond_eq_ite, apply_ite List.length]; split <;> simp only [List.length_append, List.length_cons, List.length_nil, sI_len] <;> omega) | grind), (by first | omega | (simp only [List.length_append, List.length_cons, List.length_nil, sI_len, cond_true, cond_false]; omega) | (simp only [List.length_append, List.length_cons, List.length_nil, sI_len, cond_eq_ite, apply_ite List.length]; split <;> simp only [List.length_append, List.length_cons, List.length_nil, sI_len] <;> omega) | grind), (hE111.sub (L' := [(2, .slice linkpA linkp.length linkpC), (4, .int .i64 yp), (6, .pointer (some ⟨b12, 0, none⟩)), (19, .slice b39 ((F_membersOf (gI mp1 xp)).length) c40), (20, .int .i64 ((F_membersOf (gI mp1 xp)).length : Int)), (21, .int .i64 (t21 + 1))]) ⟨rfl, rfl, rfl, rfl, rfl, rfl, trivial⟩), (St.pick (Γ' := [.own 2 1 b39 ((F_membersOf (gI mp1 xp)).length) c40 (F_membersOf (gI mp1 xp)), .blk b12 #[.int .i64 np0, .slice np1A np1.length np1C, .slice np2A np2.length np2C] 39, .blk b6 #[.int .i64 mp0, .slice mp1A mp1.length mp1C, .slice mp2A mp2.length mp2C] 39, .rd 1 linkpA linkp.length linkpC linkp, .rd 1 np2A np2.length np2C np2, .rd 1 np1A np1.length np1C np1, .rd 1 mp2A mp2.length mp2C mp2, .rd 1 mp1A mp1.length mp1C mp1]) hS72 [0, 1, 2, 3, 4, 5, 6, 7] (by decide) rfl)⟩
      ·
        have hp112 := of_decide_eq_false ht60
        have hE113 := hE59; rw [ht60] at hE113; clear hE59
        refine wp_exit ?_
        refine p_te ?_
        have hX114 : F_forth_L1 mp1 np1 linkp xp yp (Int.toNat (((F_membersOf (gI mp1 xp)).length : Int) - 0) + 1) 0 = .ok t21 := hT52.symm.trans (show F_forth_L1b mp1 np1 linkp xp yp (F_forth_L1 mp1 np1 linkp xp yp r56) t21 = .ok t21 by unfold F_forth_L1b; rw [ht60]; first | done | rfl)
        refine p_te (p_be (p_tn ?_))
        exact ⟨(by rw [hX114]; rfl), (by rw [hX114]; exact (show 0 ≤ t21 from (by first | omega | (simp only [List.length_append, List.length_cons, List.length_nil, sI_len, cond_true, cond_false]; omega) | (simp only [List.length_append, List.length_cons, List.length_nil, sI_len, cond_eq_ite, apply_ite List.length]; split <;> simp only [List.length_append, List.length_cons, List.length_nil, sI_len] <;> omega) | grind))), (by rw [hX114]; exact (show t21 ≤ ((F_membersOf (gI mp1 xp)).length : Int) from (by first | omega | (simp only [List.length_append, List.length_cons, List.length_nil, sI_len, cond_true, cond_false]; omega) | (simp only [List.length_append, List.length_cons, List.length_nil, sI_len, cond_eq_ite, apply_ite List.length]; split <;> simp only [List.length_append, List.length_cons, List.length_nil, sI_len] <;> omega) | grind))), (by rw [hX114]; exact (hE113.sub (L' := [(2, .slice linkpA linkp.length linkpC), (4, .int .i64 yp), (6, .pointer (some ⟨b12, 0, none⟩)), (19, .slice b39 ((F_membersOf (gI mp1 xp)).length) c40), (20, .int .i64 ((F_membersOf (gI mp1 xp)).length : Int)), (21, .int .i64 t21)]) ⟨rfl, rfl, rfl, rfl, rfl, rfl, trivial⟩)), (St.pick (Γ' := [.own 2 1 b39 ((F_membersOf (gI mp1 xp)).length) c40 (F_membersOf (gI mp1 xp)), .blk b12 #[.int .i64 np0, .slice np1A np1.length np1C, .slice np2A np2.length np2C] 39, .blk b6 #[.int .i64 mp0, .slice mp1A mp1.length mp1C, .slice mp2A mp2.length mp2C] 39, .rd 1 linkpA linkp.length linkpC linkp, .rd 1 np2A np2.length np2C np2, .rd 1 np1A np1.length np1C np1, .rd 1 mp2A mp2.length mp2C mp2, .rd 1 mp1A mp1.length mp1C mp1]) hS51 [0, 1, 2, 3, 4, 5, 6, 7] (by decide) rfl)⟩
  ·
    rintro a115 w116 ⟨hO119, hi120, hi121, hE117, hS118⟩; clear hE46 hS37
    refine p_tn ?_
    refine c_seq ?_
    refine c_reg ?_
    refine q_step (v := .bool true) hE117 (y_assign rfl) rfl rfl rfl ?_; intro a122 hE123; clear hE117
    refine c_nil ?_
    have hE124 := hE123.sub (L' := [(10, .bool true)]) ⟨rfl, trivial⟩; clear hE123
    refine p_tn ?_
    refine wp_ret ?_
    have hF : F_forth mp0 mp1 mp2 np0 np1 np2 linkp xp yp = true := by unfold F_forth; rw [hO119]; first | done | rfl
    refine c_ret1 hE124 rfl rfl ?_
    exact ⟨(by rw [hF]; first | done | rfl), hS118.ext⟩

def F_everyLinked_L2b (linkp : List Int) (holds : Int → Int → Bool) (t11 : Int) (rec : Int → Except (Bool) (Int)) (t19L2 : Int) : Except (Bool) (Int) :=
  bif (decide (t19L2 < ((F_membersOf (gI linkp t11)).length : Int))) then (bif (!(holds t11 (gI (F_membersOf (gI linkp t11)) t19L2))) then (.error false) else (rec (t19L2 + 1))) else (.ok t19L2)
def F_everyLinked_L2 (linkp : List Int) (holds : Int → Int → Bool) (t11 : Int) : Nat → Int → Except (Bool) (Int)
  | 0, t19L2 => .ok t19L2
  | r + 1, t19L2 => F_everyLinked_L2b linkp holds t11 (F_everyLinked_L2 linkp holds t11 r) t19L2
def F_everyLinked_L1b (linkp : List Int) (holds : Int → Int → Bool) (rec : Int → Except (Bool) (Int)) (t11 : Int) : Except (Bool) (Int) :=
  bif (decide (t11 < (linkp.length : Int))) then (bif (isOk (F_everyLinked_L2 linkp holds t11 (Int.toNat (((F_membersOf (gI linkp t11)).length : Int) - 0) + 1) 0)) then (rec (t11 + 1)) else (.error (errD (F_everyLinked_L2 linkp holds t11 (Int.toNat (((F_membersOf (gI linkp t11)).length : Int) - 0) + 1) 0)))) else (.ok t11)
def F_everyLinked_L1 (linkp : List Int) (holds : Int → Int → Bool) : Nat → Int → Except (Bool) (Int)
  | 0, t11 => .ok t11
  | r + 1, t11 => F_everyLinked_L1b linkp holds (F_everyLinked_L1 linkp holds r) t11
def F_everyLinked (linkp : List Int) (holds : Int → Int → Bool) : Bool :=
  bif (isOk (F_everyLinked_L1 linkp holds (Int.toNat ((linkp.length : Int) - 0) + 1) 0)) then true else (errD (F_everyLinked_L1 linkp holds (Int.toNat ((linkp.length : Int) - 0) + 1) 0))
theorem cf_everyLinked (args : Array Value) (w : World) : (callFunc 83 args).run Try.prog w = .ok (.enter 83 args) w := by kernel_rfl
set_option maxRecDepth 100000 in
theorem c_everyLinked (linkpA : Option Addr) (linkpN linkpC : Nat) (linkp : List Int) (holdsF : FuncId) (holdsC : List Value) (holds : Int → Int → Bool) (holdsD : Int → Int → Prop) (w : World) (linkpR : RdS w 1 linkpA linkpN linkpC linkp) (holdsE : ∀ args w, (callFunc holdsF args).run Try.prog w = .ok (.enter holdsF args) w) (holdsH : ∀ (x0 x1 : Int) (w' : World), holdsD x0 x1 → Ext w w' → Calls Try.prog holdsF (([.int .i64 x0, .int .i64 x1] ++ holdsC : List Value).toArray) w' (Ret fun v w'' => v = .bool (holds x0 x1) ∧ Ext w' w'')) (hl : linkp.length ≤ 62) (hlm : ∀ m : Int, 0 ≤ m → m < (linkp.length : Int) → 0 ≤ gI linkp m ∧ gI linkp m < 4611686018427387904) (holdsDom : ∀ x y : Int, 0 ≤ x → x < (linkp.length : Int) → y ∈ F_membersOf (gI linkp x) → holdsD x y) :
    Calls Try.prog 83 #[.slice linkpA linkpN linkpC, .func (.func holdsF) #[] holdsC.toArray] w (Ret fun v w' => v = .bool (F_everyLinked linkp holds) ∧ Ext w w') := by
  obtain rfl : linkpN = linkp.length := linkpR.len1.symm
  have linkpLe := linkpR.le
  have hS := St.nil w
  have hS1 := St.rd0 hS rfl linkpR; clear hS
  refine enter (args := [.slice linkpA linkp.length linkpC, .func (.func holdsF) #[] holdsC.toArray]) Try.func83 rfl rfl ?_
  rw [Try.ntmps83]; intro a hE
  have hE := hE.sub (L' := [(0, .slice linkpA linkp.length linkpC), (1, .func (.func holdsF) #[] holdsC.toArray)]) ⟨rfl, rfl, trivial⟩
  refine c_seq ?_
  refine c_reg ?_
  refine q_step (v := .bool false) hE (y_assign rfl) rfl rfl rfl ?_; intro a2 hE3; clear hE
  refine c_nil ?_
  have hE4 := hE3.sub (L' := [(0, .slice linkpA linkp.length linkpC), (1, .func (.func holdsF) #[] holdsC.toArray)]) ⟨rfl, rfl, trivial⟩; clear hE3
  refine p_tn ?_
  refine c_seq ?_
  refine c_seq ?_
  refine c_reg ?_
  refine q_step (v := .slice linkpA linkp.length linkpC) hE4 (y_move rfl) rfl rfl rfl ?_; intro a5 hE6; clear hE4
  refine q_step (v := .int .i64 (linkp.length : Int)) hE6 (y_len (e := 2) (by kernel_rfl) rfl) rfl rfl rfl ?_; intro a7 hE8; clear hE6
  refine q_step (v := .int .i64 0) hE8 (y_move rfl) rfl rfl rfl ?_; intro a9 hE10; clear hE8
  refine c_nil ?_
  have hE11 := hE10.sub (L' := [(1, .func (.func holdsF) #[] holdsC.toArray), (9, .slice linkpA linkp.length linkpC), (10, .int .i64 (linkp.length : Int)), (11, .int .i64 0)]) ⟨rfl, rfl, rfl, rfl, trivial⟩; clear hE10
  refine p_tn ?_
  refine c_cut1 (fun a' w' => isOk (F_everyLinked_L1 linkp holds (Int.toNat ((linkp.length : Int) - 0) + 1) 0) = true ∧ (0 ≤ (okD (F_everyLinked_L1 linkp holds (Int.toNat ((linkp.length : Int) - 0) + 1) 0))) ∧ ((okD (F_everyLinked_L1 linkp holds (Int.toNat ((linkp.length : Int) - 0) + 1) 0)) ≤ (linkp.length : Int)) ∧ E a' 30 [(1, .func (.func holdsF) #[] holdsC.toArray), (9, .slice linkpA linkp.length linkpC), (10, .int .i64 (linkp.length : Int)), (11, .int .i64 (okD (F_everyLinked_L1 linkp holds (Int.toNat ((linkp.length : Int) - 0) + 1) 0)))] ∧ St w w' [.rd 1 linkpA linkp.length linkpC linkp]) ?_ ?_
  ·
    refine wp_block ?_
    refine c_loop (fun r a' w' => ∃ t11 : Int, F_everyLinked_L1 linkp holds r t11 = F_everyLinked_L1 linkp holds (Int.toNat ((linkp.length : Int) - 0) + 1) 0 ∧ Int.toNat ((linkp.length : Int) - t11) < r ∧ (0 ≤ t11) ∧ (t11 ≤ (linkp.length : Int)) ∧ E a' 30 [(1, .func (.func holdsF) #[] holdsC.toArray), (9, .slice linkpA linkp.length linkpC), (10, .int .i64 (linkp.length : Int)), (11, .int .i64 t11)] ∧ St w w' [.rd 1 linkpA linkp.length linkpC linkp]) (r := (Int.toNat ((linkp.length : Int) - 0) + 1)) ?_ ?_
    · exact ⟨0, rfl, Nat.lt_succ_self _, (by first | omega | (simp only [List.length_append, List.length_cons, List.length_nil, sI_len, cond_true, cond_false]; omega) | (simp only [List.length_append, List.length_cons, List.length_nil, sI_len, cond_eq_ite, apply_ite List.length]; split <;> simp only [List.length_append, List.length_cons, List.length_nil, sI_len] <;> omega) | grind), (by first | omega | (simp only [List.length_append, List.length_cons, List.length_nil, sI_len, cond_true, cond_false]; omega) | (simp only [List.length_append, List.length_cons, List.length_nil, sI_len, cond_eq_ite, apply_ite List.length]; split <;> simp only [List.length_append, List.length_cons, List.length_nil, sI_len] <;> omega) | grind), (hE11.sub (L' := [(1, .func (.func holdsF) #[] holdsC.toArray), (9, .slice linkpA linkp.length linkpC), (10, .int .i64 (linkp.length : Int)), (11, .int .i64 0)]) ⟨rfl, rfl, rfl, rfl, trivial⟩), (St.pick (Γ' := [.rd 1 linkpA linkp.length linkpC linkp]) hS1 [0] (by decide) rfl)⟩
    ·
      clear hE11 hS1
      rintro r21 a13 w14 ⟨t11, hT17, hr18, hi19, hi20, hE15, hS16⟩
      obtain ⟨r21, rfl⟩ : ∃ r', r21 = r' + 1 := ⟨r21 - 1, by omega⟩
      refine c_seq ?_
      refine c_reg ?_
      refine q_step (v := .bool (decide (t11 < (linkp.length : Int)))) hE15 (y_lss rfl rfl) rfl rfl rfl ?_; intro a22 hE23; clear hE15
      refine c_nil ?_
      have hE24 := hE23.sub (L' := [(1, .func (.func holdsF) #[] holdsC.toArray), (9, .slice linkpA linkp.length linkpC), (10, .int .i64 (linkp.length : Int)), (11, .int .i64 t11), (12, .bool (decide (t11 < (linkp.length : Int))))]) ⟨rfl, rfl, rfl, rfl, rfl, trivial⟩; clear hE23
      refine p_tn ?_
      refine c_seq ?_
      refine c_cond hE24 rfl (fun ht25 => ?_) (fun ht25 => ?_)
      ·
        have hp26 := of_decide_eq_true ht25
        have hE27 := hE24; rw [ht25] at hE27; clear hE24
        have hx1 := hlm t11 (by omega) (by omega)
        have hml := members_len62 (mask := gI linkp t11) hx1.1 hx1.2
        refine wp_skip ?_
        refine p_tn ?_
        refine c_seq ?_
        refine wp_block ?_
        refine c_seq ?_
        refine c_reg ?_
        refine q_step (v := .int .i64 t11) hE27 (y_move rfl) rfl rfl rfl ?_; intro a28 hE29; clear hE27
        refine q_step (v := .pointer (some (adr linkpA (Int.toNat t11)))) hE29 (y_idx (by kernel_rfl) (fun _ => by kernel_rfl) rfl rfl (RdS.isS (m := t11) (St.rdR (i := 0) hS16 rfl) (by omega) (by omega)) (by omega) (by omega) (Nat.mul_one _).symm) rfl rfl rfl ?_; intro a30 hE31; clear hE29
        refine q_step (v := .int .i64 (gI linkp t11)) hE31 (y_load (fun _ => by kernel_rfl) rfl (RdS.elt (St.rdR (i := 0) hS16 rfl) (by omega) (by omega))) rfl rfl rfl ?_; intro a32 hE33; clear hE31
        refine q_step (v := .int .i64 t11) hE33 (y_assign rfl) rfl rfl rfl ?_; intro a34 hE35; clear hE33
        refine q_step (v := .int .i64 (gI linkp t11)) hE35 (y_assign rfl) rfl rfl rfl ?_; intro a36 hE37; clear hE35
        refine c_nil ?_
        have hE38 := hE37.sub (L' := [(1, .func (.func holdsF) #[] holdsC.toArray), (5, .int .i64 t11), (6, .int .i64 (gI linkp t11)), (9, .slice linkpA linkp.length linkpC), (10, .int .i64 (linkp.length : Int)), (11, .int .i64 t11)]) ⟨rfl, rfl, rfl, rfl, rfl, rfl, trivial⟩; clear hE37
        refine p_tn ?_
        refine c_seq ?_
        refine c_reg ?_
        refine q_step (v := .int .i64 (gI linkp t11)) hE38 (y_move rfl) rfl rfl rfl ?_; intro a39 hE40; clear hE38
        refine l_step hE40 rfl (l_call (f := 151) (argv := [.int .i64 (gI linkp t11)]) hE40 (fun _ => cf_membersOf _ _) rfl rfl (c_membersOf (gI linkp t11) w14 (by omega) (by omega)) ?_)
        rintro _ w42 ⟨b47, c48, rfl, ho49, he46⟩ a43 hE44; clear hE40
        have hS45 := St.own hS16 he46 ho49; clear hS16
        refine q_step (v := .int .i64 ((F_membersOf (gI linkp t11)).length : Int)) hE44 (y_len (e := 2) (by kernel_rfl) rfl) rfl rfl rfl ?_; intro a50 hE51; clear hE44
        refine q_step (v := .int .i64 0) hE51 (y_move rfl) rfl rfl rfl ?_; intro a52 hE53; clear hE51
        refine c_nil ?_
        have hE54 := hE53.sub (L' := [(1, .func (.func holdsF) #[] holdsC.toArray), (5, .int .i64 t11), (9, .slice linkpA linkp.length linkpC), (10, .int .i64 (linkp.length : Int)), (11, .int .i64 t11), (17, .slice b47 ((F_membersOf (gI linkp t11)).length) c48), (18, .int .i64 ((F_membersOf (gI linkp t11)).length : Int)), (19, .int .i64 0)]) ⟨rfl, rfl, rfl, rfl, rfl, rfl, rfl, rfl, trivial⟩; clear hE53
        refine p_tn ?_
        refine c_cut1 (fun a' w' => isOk (F_everyLinked_L2 linkp holds t11 (Int.toNat (((F_membersOf (gI linkp t11)).length : Int) - 0) + 1) 0) = true ∧ (0 ≤ (okD (F_everyLinked_L2 linkp holds t11 (Int.toNat (((F_membersOf (gI linkp t11)).length : Int) - 0) + 1) 0))) ∧ ((okD (F_everyLinked_L2 linkp holds t11 (Int.toNat (((F_membersOf (gI linkp t11)).length : Int) - 0) + 1) 0)) ≤ ((F_membersOf (gI linkp t11)).length : Int)) ∧ E a' 30 [(1, .func (.func holdsF) #[] holdsC.toArray), (5, .int .i64 t11), (9, .slice linkpA linkp.length linkpC), (10, .int .i64 (linkp.length : Int)), (11, .int .i64 t11), (17, .slice b47 ((F_membersOf (gI linkp t11)).length) c48), (18, .int .i64 ((F_membersOf (gI linkp t11)).length : Int)), (19, .int .i64 (okD (F_everyLinked_L2 linkp holds t11 (Int.toNat (((F_membersOf (gI linkp t11)).length : Int) - 0) + 1) 0)))] ∧ St w w' [.own 2 1 b47 ((F_membersOf (gI linkp t11)).length) c48 (F_membersOf (gI linkp t11)), .rd 1 linkpA linkp.length linkpC linkp]) ?_ ?_
        ·
          refine wp_block ?_
          refine c_loop (fun r a' w' => ∃ t19L2 : Int, F_everyLinked_L2 linkp holds t11 r t19L2 = F_everyLinked_L2 linkp holds t11 (Int.toNat (((F_membersOf (gI linkp t11)).length : Int) - 0) + 1) 0 ∧ Int.toNat (((F_membersOf (gI linkp t11)).length : Int) - t19L2) < r ∧ (0 ≤ t19L2) ∧ (t19L2 ≤ ((F_membersOf (gI linkp t11)).length : Int)) ∧ E a' 30 [(1, .func (.func holdsF) #[] holdsC.toArray), (5, .int .i64 t11), (9, .slice linkpA linkp.length linkpC), (10, .int .i64 (linkp.length : Int)), (11, .int .i64 t11), (17, .slice b47 ((F_membersOf (gI linkp t11)).length) c48), (18, .int .i64 ((F_membersOf (gI linkp t11)).length : Int)), (19, .int .i64 t19L2)] ∧ St w w' [.own 2 1 b47 ((F_membersOf (gI linkp t11)).length) c48 (F_membersOf (gI linkp t11)), .rd 1 linkpA linkp.length linkpC linkp]) (r := (Int.toNat (((F_membersOf (gI linkp t11)).length : Int) - 0) + 1)) ?_ ?_
          · exact ⟨0, rfl, Nat.lt_succ_self _, (by first | omega | (simp only [List.length_append, List.length_cons, List.length_nil, sI_len, cond_true, cond_false]; omega) | (simp only [List.length_append, List.length_cons, List.length_nil, sI_len, cond_eq_ite, apply_ite List.length]; split <;> simp only [List.length_append, List.length_cons, List.length_nil, sI_len] <;> omega) | grind), (by first | omega | (simp only [List.length_append, List.length_cons, List.length_nil, sI_len, cond_true, cond_false]; omega) | (simp only [List.length_append, List.length_cons, List.length_nil, sI_len, cond_eq_ite, apply_ite List.length]; split <;> simp only [List.length_append, List.length_cons, List.length_nil, sI_len] <;> omega) | grind), (hE54.sub (L' := [(1, .func (.func holdsF) #[] holdsC.toArray), (5, .int .i64 t11), (9, .slice linkpA linkp.length linkpC), (10, .int .i64 (linkp.length : Int)), (11, .int .i64 t11), (17, .slice b47 ((F_membersOf (gI linkp t11)).length) c48), (18, .int .i64 ((F_membersOf (gI linkp t11)).length : Int)), (19, .int .i64 0)]) ⟨rfl, rfl, rfl, rfl, rfl, rfl, rfl, rfl, trivial⟩), (St.pick (Γ' := [.own 2 1 b47 ((F_membersOf (gI linkp t11)).length) c48 (F_membersOf (gI linkp t11)), .rd 1 linkpA linkp.length linkpC linkp]) hS45 [0, 1] (by decide) rfl)⟩
          ·
            clear hE54 hS45
            rintro r64 a56 w57 ⟨t19L2, hT60, hr61, hi62, hi63, hE58, hS59⟩
            obtain ⟨r64, rfl⟩ : ∃ r', r64 = r' + 1 := ⟨r64 - 1, by omega⟩
            refine c_seq ?_
            refine c_reg ?_
            refine q_step (v := .bool (decide (t19L2 < ((F_membersOf (gI linkp t11)).length : Int)))) hE58 (y_lss rfl rfl) rfl rfl rfl ?_; intro a65 hE66; clear hE58
            refine c_nil ?_
            have hE67 := hE66.sub (L' := [(1, .func (.func holdsF) #[] holdsC.toArray), (5, .int .i64 t11), (9, .slice linkpA linkp.length linkpC), (10, .int .i64 (linkp.length : Int)), (11, .int .i64 t11), (17, .slice b47 ((F_membersOf (gI linkp t11)).length) c48), (18, .int .i64 ((F_membersOf (gI linkp t11)).length : Int)), (19, .int .i64 t19L2), (20, .bool (decide (t19L2 < ((F_membersOf (gI linkp t11)).length : Int))))]) ⟨rfl, rfl, rfl, rfl, rfl, rfl, rfl, rfl, rfl, trivial⟩; clear hE66
            refine p_tn ?_
            refine c_seq ?_
            refine c_cond hE67 rfl (fun ht68 => ?_) (fun ht68 => ?_)
            ·
              have hp69 := of_decide_eq_true ht68
              have hE70 := hE67; rw [ht68] at hE70; clear hE67
              refine wp_skip ?_
              refine p_tn ?_
              refine c_seq ?_
              refine wp_block ?_
              refine c_seq ?_
              refine c_reg ?_
              refine q_step (v := .pointer (some (adr b47 (Int.toNat t19L2)))) hE70 (y_idx (by kernel_rfl) (fun _ => by kernel_rfl) rfl rfl (RdS.isS (m := t19L2) (St.rdO (i := 0) hS59 rfl) (by omega) (by omega)) (by omega) (by omega) (Nat.mul_one _).symm) rfl rfl rfl ?_; intro a71 hE72; clear hE70
              refine q_step (v := .int .i64 (gI (F_membersOf (gI linkp t11)) t19L2)) hE72 (y_load (fun _ => by kernel_rfl) rfl (RdS.elt (St.rdO (i := 0) hS59 rfl) (by omega) (by omega))) rfl rfl rfl ?_; intro a73 hE74; clear hE72
              refine q_step (v := .int .i64 (gI (F_membersOf (gI linkp t11)) t19L2)) hE74 (y_assign rfl) rfl rfl rfl ?_; intro a75 hE76; clear hE74
              refine c_nil ?_
              have hE77 := hE76.sub (L' := [(1, .func (.func holdsF) #[] holdsC.toArray), (5, .int .i64 t11), (8, .int .i64 (gI (F_membersOf (gI linkp t11)) t19L2)), (9, .slice linkpA linkp.length linkpC), (10, .int .i64 (linkp.length : Int)), (11, .int .i64 t11), (17, .slice b47 ((F_membersOf (gI linkp t11)).length) c48), (18, .int .i64 ((F_membersOf (gI linkp t11)).length : Int)), (19, .int .i64 t19L2)]) ⟨rfl, rfl, rfl, rfl, rfl, rfl, rfl, rfl, rfl, trivial⟩; clear hE76
              refine p_tn ?_
              refine c_seq ?_
              refine c_reg ?_
              refine q_step (v := .func (.func holdsF) #[] holdsC.toArray) hE77 (y_move rfl) rfl rfl rfl ?_; intro a78 hE79; clear hE77
              refine q_step (v := .int .i64 t11) hE79 (y_move rfl) rfl rfl rfl ?_; intro a80 hE81; clear hE79
              refine q_step (v := .int .i64 (gI (F_membersOf (gI linkp t11)) t19L2)) hE81 (y_move rfl) rfl rfl rfl ?_; intro a82 hE83; clear hE81
              refine l_step hE83 rfl (l_callv (f := holdsF) (caps := holdsC) (argv := [.int .i64 t11, .int .i64 (gI (F_membersOf (gI linkp t11)) t19L2)]) hE83 rfl (fun _ => holdsE _ _) rfl rfl (holdsH t11 (gI (F_membersOf (gI linkp t11)) t19L2) w57 (holdsDom t11 (gI (F_membersOf (gI linkp t11)) t19L2) (by omega) (by omega) (gI_mem (by omega) (by omega))) hS59.ext) ?_)
              rintro _ w85 ⟨rfl, he89⟩ a86 hE87; clear hE83
              have hS88 := St.go hS59 he89; clear hS59
              refine q_step (v := .bool (!(holds t11 (gI (F_membersOf (gI linkp t11)) t19L2)))) hE87 (y_not rfl) rfl rfl rfl ?_; intro a90 hE91; clear hE87
              refine c_nil ?_
              have hE92 := hE91.sub (L' := [(1, .func (.func holdsF) #[] holdsC.toArray), (5, .int .i64 t11), (9, .slice linkpA linkp.length linkpC), (10, .int .i64 (linkp.length : Int)), (11, .int .i64 t11), (17, .slice b47 ((F_membersOf (gI linkp t11)).length) c48), (18, .int .i64 ((F_membersOf (gI linkp t11)).length : Int)), (19, .int .i64 t19L2), (27, .bool (!(holds t11 (gI (F_membersOf (gI linkp t11)) t19L2))))]) ⟨rfl, rfl, rfl, rfl, rfl, rfl, rfl, rfl, rfl, trivial⟩; clear hE91
              refine p_tn ?_
              refine c_cond hE92 rfl (fun ht93 => ?_) (fun ht93 => ?_)
              ·
                have ht94 := bn_t ht93
                have hE95 := hE92; rw [ht93] at hE95; clear hE92
                refine c_seq ?_
                refine c_reg ?_
                refine q_step (v := .bool false) hE95 (y_assign rfl) rfl rfl rfl ?_; intro a96 hE97; clear hE95
                refine c_nil ?_
                have hE98 := hE97.sub (L' := [(4, .bool false)]) ⟨rfl, trivial⟩; clear hE97
                refine p_tn ?_
                refine wp_ret ?_
                refine p_br ?_
                refine p_tr ?_
                have hX99 : F_everyLinked_L2 linkp holds t11 (Int.toNat (((F_membersOf (gI linkp t11)).length : Int) - 0) + 1) 0 = .error false := hT60.symm.trans (show F_everyLinked_L2b linkp holds t11 (F_everyLinked_L2 linkp holds t11 r64) t19L2 = .error false by unfold F_everyLinked_L2b; rw [ht93, ht68]; first | done | rfl)
                refine p_tr (p_br (p_tr ?_))
                refine p_br ?_
                refine p_tr ?_
                have hX100 : F_everyLinked_L1 linkp holds (Int.toNat ((linkp.length : Int) - 0) + 1) 0 = .error false := hT17.symm.trans (show F_everyLinked_L1b linkp holds (F_everyLinked_L1 linkp holds r21) t11 = .error false by unfold F_everyLinked_L1b; rw [hX99, ht25]; first | done | rfl)
                refine p_tr (p_br (p_tr ?_))
                refine p_tr ?_
                have hF : F_everyLinked linkp holds = false := by unfold F_everyLinked; rw [hX100]; first | done | rfl
                refine c_ret1 hE98 rfl rfl ?_
                exact ⟨(by rw [hF]; first | done | rfl), hS88.ext⟩
              ·
                have ht101 := bn_f ht93
                have hE102 := hE92; rw [ht93] at hE102; clear hE92
                refine wp_skip ?_
                refine p_bn ?_
                refine p_tn ?_
                refine c_reg ?_
                refine q_step (v := .int .i64 (t19L2 + 1)) hE102 (y_add rfl rfl ⟨(by omega), (by omega)⟩) rfl rfl rfl ?_; intro a103 hE104; clear hE102
                refine q_step (v := .int .i64 (t19L2 + 1)) hE104 (y_move rfl) rfl rfl rfl ?_; intro a105 hE106; clear hE104
                refine c_nil ?_
                have hE107 := hE106.sub (L' := [(1, .func (.func holdsF) #[] holdsC.toArray), (5, .int .i64 t11), (9, .slice linkpA linkp.length linkpC), (10, .int .i64 (linkp.length : Int)), (11, .int .i64 t11), (17, .slice b47 ((F_membersOf (gI linkp t11)).length) c48), (18, .int .i64 ((F_membersOf (gI linkp t11)).length : Int)), (19, .int .i64 (t19L2 + 1))]) ⟨rfl, rfl, rfl, rfl, rfl, rfl, rfl, rfl, trivial⟩; clear hE106
                refine p_tn ⟨r64, Nat.lt_succ_self _, t19L2 + 1, (hT60.symm.trans (show F_everyLinked_L2b linkp holds t11 (F_everyLinked_L2 linkp holds t11 r64) t19L2 = F_everyLinked_L2 linkp holds t11 r64 (t19L2 + 1) by unfold F_everyLinked_L2b; rw [ht93, ht68]; first | done | rfl)).symm, (by omega), (by first | omega | (simp only [List.length_append, List.length_cons, List.length_nil, sI_len, cond_true, cond_false]; omega) | (simp only [List.length_append, List.length_cons, List.length_nil, sI_len, cond_eq_ite, apply_ite List.length]; split <;> simp only [List.length_append, List.length_cons, List.length_nil, sI_len] <;> omega) | grind), (by first | omega | (simp only [List.length_append, List.length_cons, List.length_nil, sI_len, cond_true, cond_false]; omega) | (simp only [List.length_append, List.length_cons, List.length_nil, sI_len, cond_eq_ite, apply_ite List.length]; split <;> simp only [List.length_append, List.length_cons, List.length_nil, sI_len] <;> omega) | grind), (hE107.sub (L' := [(1, .func (.func holdsF) #[] holdsC.toArray), (5, .int .i64 t11), (9, .slice linkpA linkp.length linkpC), (10, .int .i64 (linkp.length : Int)), (11, .int .i64 t11), (17, .slice b47 ((F_membersOf (gI linkp t11)).length) c48), (18, .int .i64 ((F_membersOf (gI linkp t11)).length : Int)), (19, .int .i64 (t19L2 + 1))]) ⟨rfl, rfl, rfl, rfl, rfl, rfl, rfl, rfl, trivial⟩), (St.pick (Γ' := [.own 2 1 b47 ((F_membersOf (gI linkp t11)).length) c48 (F_membersOf (gI linkp t11)), .rd 1 linkpA linkp.length linkpC linkp]) hS88 [0, 1] (by decide) rfl)⟩
            ·
              have hp108 := of_decide_eq_false ht68
              have hE109 := hE67; rw [ht68] at hE109; clear hE67
              refine wp_exit ?_
              refine p_te ?_
              have hX110 : F_everyLinked_L2 linkp holds t11 (Int.toNat (((F_membersOf (gI linkp t11)).length : Int) - 0) + 1) 0 = .ok t19L2 := hT60.symm.trans (show F_everyLinked_L2b linkp holds t11 (F_everyLinked_L2 linkp holds t11 r64) t19L2 = .ok t19L2 by unfold F_everyLinked_L2b; rw [ht68]; first | done | rfl)
              refine p_te (p_be (p_tn ?_))
              exact ⟨(by rw [hX110]; rfl), (by rw [hX110]; exact (show 0 ≤ t19L2 from (by first | omega | (simp only [List.length_append, List.length_cons, List.length_nil, sI_len, cond_true, cond_false]; omega) | (simp only [List.length_append, List.length_cons, List.length_nil, sI_len, cond_eq_ite, apply_ite List.length]; split <;> simp only [List.length_append, List.length_cons, List.length_nil, sI_len] <;> omega) | grind))), (by rw [hX110]; exact (show t19L2 ≤ ((F_membersOf (gI linkp t11)).length : Int) from (by first | omega | (simp only [List.length_append, List.length_cons, List.length_nil, sI_len, cond_true, cond_false]; omega) | (simp only [List.length_append, List.length_cons, List.length_nil, sI_len, cond_eq_ite, apply_ite List.length]; split <;> simp only [List.length_append, List.length_cons, List.length_nil, sI_len] <;> omega) | grind))), (by rw [hX110]; exact (hE109.sub (L' := [(1, .func (.func holdsF) #[] holdsC.toArray), (5, .int .i64 t11), (9, .slice linkpA linkp.length linkpC), (10, .int .i64 (linkp.length : Int)), (11, .int .i64 t11), (17, .slice b47 ((F_membersOf (gI linkp t11)).length) c48), (18, .int .i64 ((F_membersOf (gI linkp t11)).length : Int)), (19, .int .i64 t19L2)]) ⟨rfl, rfl, rfl, rfl, rfl, rfl, rfl, rfl, trivial⟩)), (St.pick (Γ' := [.own 2 1 b47 ((F_membersOf (gI linkp t11)).length) c48 (F_membersOf (gI linkp t11)), .rd 1 linkpA linkp.length linkpC linkp]) hS59 [0, 1] (by decide) rfl)⟩
        ·
          rintro a111 w112 ⟨hO115, hi116, hi117, hE113, hS114⟩; clear hE54 hS45
          refine p_bn ?_
          refine p_tn ?_
          refine c_reg ?_
          refine q_step (v := .int .i64 (t11 + 1)) hE113 (y_add rfl rfl ⟨(by omega), (by omega)⟩) rfl rfl rfl ?_; intro a118 hE119; clear hE113
          refine q_step (v := .int .i64 (t11 + 1)) hE119 (y_move rfl) rfl rfl rfl ?_; intro a120 hE121; clear hE119
          refine c_nil ?_
          have hE122 := hE121.sub (L' := [(1, .func (.func holdsF) #[] holdsC.toArray), (9, .slice linkpA linkp.length linkpC), (10, .int .i64 (linkp.length : Int)), (11, .int .i64 (t11 + 1))]) ⟨rfl, rfl, rfl, rfl, trivial⟩; clear hE121
          refine p_tn ⟨r21, Nat.lt_succ_self _, t11 + 1, (hT17.symm.trans (show F_everyLinked_L1b linkp holds (F_everyLinked_L1 linkp holds r21) t11 = F_everyLinked_L1 linkp holds r21 (t11 + 1) by unfold F_everyLinked_L1b; rw [hO115, ht25]; first | done | rfl)).symm, (by omega), (by first | omega | (simp only [List.length_append, List.length_cons, List.length_nil, sI_len, cond_true, cond_false]; omega) | (simp only [List.length_append, List.length_cons, List.length_nil, sI_len, cond_eq_ite, apply_ite List.length]; split <;> simp only [List.length_append, List.length_cons, List.length_nil, sI_len] <;> omega) | grind), (by first | omega | (simp only [List.length_append, List.length_cons, List.length_nil, sI_len, cond_true, cond_false]; omega) | (simp only [List.length_append, List.length_cons, List.length_nil, sI_len, cond_eq_ite, apply_ite List.length]; split <;> simp only [List.length_append, List.length_cons, List.length_nil, sI_len] <;> omega) | grind), (hE122.sub (L' := [(1, .func (.func holdsF) #[] holdsC.toArray), (9, .slice linkpA linkp.length linkpC), (10, .int .i64 (linkp.length : Int)), (11, .int .i64 (t11 + 1))]) ⟨rfl, rfl, rfl, rfl, trivial⟩), (St.pick (Γ' := [.rd 1 linkpA linkp.length linkpC linkp]) hS114 [1] (by decide) rfl)⟩
      ·
        have hp123 := of_decide_eq_false ht25
        have hE124 := hE24; rw [ht25] at hE124; clear hE24
        refine wp_exit ?_
        refine p_te ?_
        have hX125 : F_everyLinked_L1 linkp holds (Int.toNat ((linkp.length : Int) - 0) + 1) 0 = .ok t11 := hT17.symm.trans (show F_everyLinked_L1b linkp holds (F_everyLinked_L1 linkp holds r21) t11 = .ok t11 by unfold F_everyLinked_L1b; rw [ht25]; first | done | rfl)
        refine p_te (p_be (p_tn ?_))
        exact ⟨(by rw [hX125]; rfl), (by rw [hX125]; exact (show 0 ≤ t11 from (by first | omega | (simp only [List.length_append, List.length_cons, List.length_nil, sI_len, cond_true, cond_false]; omega) | (simp only [List.length_append, List.length_cons, List.length_nil, sI_len, cond_eq_ite, apply_ite List.length]; split <;> simp only [List.length_append, List.length_cons, List.length_nil, sI_len] <;> omega) | grind))), (by rw [hX125]; exact (show t11 ≤ (linkp.length : Int) from (by first | omega | (simp only [List.length_append, List.length_cons, List.length_nil, sI_len, cond_true, cond_false]; omega) | (simp only [List.length_append, List.length_cons, List.length_nil, sI_len, cond_eq_ite, apply_ite List.length]; split <;> simp only [List.length_append, List.length_cons, List.length_nil, sI_len] <;> omega) | grind))), (by rw [hX125]; exact (hE124.sub (L' := [(1, .func (.func holdsF) #[] holdsC.toArray), (9, .slice linkpA linkp.length linkpC), (10, .int .i64 (linkp.length : Int)), (11, .int .i64 t11)]) ⟨rfl, rfl, rfl, rfl, trivial⟩)), (St.pick (Γ' := [.rd 1 linkpA linkp.length linkpC linkp]) hS16 [0] (by decide) rfl)⟩
  ·
    rintro a126 w127 ⟨hO130, hi131, hi132, hE128, hS129⟩; clear hE11 hS1
    refine p_tn ?_
    refine c_seq ?_
    refine c_reg ?_
    refine q_step (v := .bool true) hE128 (y_assign rfl) rfl rfl rfl ?_; intro a133 hE134; clear hE128
    refine c_nil ?_
    have hE135 := hE134.sub (L' := [(4, .bool true)]) ⟨rfl, trivial⟩; clear hE134
    refine p_tn ?_
    refine wp_ret ?_
    have hF : F_everyLinked linkp holds = true := by unfold F_everyLinked; rw [hO130]; first | done | rfl
    refine c_ret1 hE135 rfl rfl ?_
    exact ⟨(by rw [hF]; first | done | rfl), hS129.ext⟩

theorem forth_eq (mp0 : Int) (mp1 mp2 : List Int) (np0 : Int) (np1 np2 : List Int) (linkp : List Int) (xp yp : Int) (hl : linkp.length ≤ 62) (h0 : 0 ≤ gI mp1 xp) (h1 : gI mp1 xp ≤ fullI (linkp.length : Int)) : F_forth mp0 mp1 mp2 np0 np1 np2 linkp xp yp = F_l07Forth linkp (gI mp1 xp) (gI np1 yp) := by
  rw [l07Forth_eq]
  unfold F_forth
  rw [allE (F_forth_L1 mp1 np1 linkp xp yp) false ((F_membersOf (gI mp1 xp)).length : Int) (fun i => decide (andI (gI linkp (gI (F_membersOf (gI mp1 xp)) i)) (gI np1 yp) = 0)) (by omega) (fun _ _ _ _ => rfl), isOk_bif, errD_bif, bif_tf, Int.toNat_natCast,
    all_gI (F_membersOf (gI mp1 xp)) (fun s => !decide (andI (gI linkp s) (gI np1 yp) = 0)), members_all hl h0 h1]
  congr 1; funext j; rw [Bool.not_and]
theorem everyLinked_eq (linkp : List Int) (holds : Int → Int → Bool) : F_everyLinked linkp holds = (List.range linkp.length).all (fun (x : Nat) => (F_membersOf (gI linkp (x : Int))).all (fun y => holds (x : Int) y)) := by
  unfold F_everyLinked
  rw [allE (F_everyLinked_L1 linkp holds) false (linkp.length : Int) (fun i => !(F_membersOf (gI linkp i)).all (fun y => holds i y)) (by omega) (fun r i _ _ => ?_), isOk_bif, errD_bif, bif_tf, Int.toNat_natCast]
  · simp only [Bool.not_not]
  · show F_everyLinked_L1b linkp holds _ i = _
    unfold F_everyLinked_L1b
    rw [allE (F_everyLinked_L2 linkp holds i) false ((F_membersOf (gI linkp i)).length : Int) (fun t => !(holds i (gI (F_membersOf (gI linkp i)) t))) (by omega) (fun _ _ _ _ => rfl), isOk_bif, Int.toNat_natCast]
    simp only [Bool.not_not]
    rw [all_gI (F_membersOf (gI linkp i)) (fun y => holds i y)]
    cases (F_membersOf (gI linkp i)).all (fun y => holds i y) <;> rfl
theorem link_key {np0 : Int} {linkp : List Int} (h0 : 0 ≤ np0) (h8 : np0 ≤ 8) (hm : ∀ m : Int, 0 ≤ m → m < (linkp.length : Int) → 0 ≤ gI linkp m ∧ gI linkp m ≤ fullI np0) (holds : Int → Int → Bool) (good : Nat → Nat → Bool) (hg : ∀ x y : Nat, x < linkp.length → (y : Int) < np0 → holds (x : Int) (y : Int) = good x y) (rows : List Int)
    (hr : ∀ x : Nat, x < linkp.length → gI rows (x : Int) = (List.range np0.toNat).foldl (fun o y => bif good x y then orI o (powI (y : Int)) else o) 0) :
    F_everyLinked linkp holds = F_l07Inside linkp rows := by
  rw [everyLinked_eq, l07Inside_eq]
  apply all_congr_range
  intro x hx
  have hmx := hm (x : Int) (by omega) (by omega)
  have hk : Mk np0.toNat (gI linkp (x : Int)) := ⟨hmx.1, by rw [Int.toNat_of_nonneg h0]; exact hmx.2⟩
  obtain ⟨p1, p2⟩ := pow_fold (n := np0.toNat) (by omega) (good x)
  rw [hr x hx, members_all (n := np0.toNat) (by omega) hk.1 hk.2, Bool.eq_iff_iff, List.all_eq_true, decide_eq_true_iff, Mk.anz (by omega) hk p1]
  constructor
  · intro h j hj
    have hjn := tb_lt hk hj
    have := h j (List.mem_range.2 hjn)
    rw [tb_has (by omega) hk (by omega), hj, Bool.not_true, Bool.false_or, hg x j hx (by omega)] at this
    rw [p2 j, decide_eq_true hjn, this]; rfl
  · intro h j hj
    have hjn := List.mem_range.1 hj
    rw [tb_has (by omega) hk (by omega), hg x j hx (by omega)]
    cases e : tb (gI linkp (x : Int)) j
    · rfl
    · have := h j e
      rw [p2 j, decide_eq_true hjn, Bool.true_and] at this
      rw [this]; rfl

end Go.Proofs.Ytlmmmblnaiddhaa
