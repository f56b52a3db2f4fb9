/- GTF: models and contracts, printed by wip/gen/gen.py -/
import Derived.Test.YtkilkfhjfobcdaaKFTGTE
import Derived.Test.YtkilkfhjfobcdaaKFTGQ
import Derived.Test.YtkilkfhjfobcdaaKFTPart
set_option linter.unusedVariables false
set_option linter.unusedSimpArgs false
namespace Go.Proofs.Ytkilkfhjfobcdaa
open Go.RowKit
theorem isPtI_t {ap : List Int} (he : ap.length = ap.length / 3 * 3) (h : F_isPointFormula ap = true) : IsPm 6 ap := IsPm.ofs he (by rw [← isPt_eq he]; exact h)
theorem fr_zero {ap ws : List Int} {n : Int} (h : F_l10Free ap = 0) : ∀ x : Nat, tb (F_l10Free ap) x = true → 0 ≤ gI ws (x : Int) ∧ gI ws (x : Int) < n := fun x hx => by
  rw [h, tb_zero] at hx; cases hx
def F_l10Values_L1b (ap : List Int) (rec : Int → Except (Bool) (Int)) (i3 : Int) : Except (Bool) (Int) :=
  bif (decide (i3 < (((ap).length / 3 : Nat) : Int))) then (bif (decide ((gS 3 0 ap i3) = 2)) then (.error true) else (rec (i3 + 1))) else (.ok i3)
def F_l10Values_L1 (ap : List Int) : Nat → Int → Except (Bool) (Int)
  | 0, i3 => .ok i3
  | r + 1, i3 => F_l10Values_L1b ap (F_l10Values_L1 ap r) i3
def F_l10Values (ap : List Int) : Bool :=
  bif (isOk (F_l10Values_L1 ap (Int.toNat ((((ap).length / 3 : Nat) : Int) - 0) + 1) 0)) then false else (errD (F_l10Values_L1 ap (Int.toNat ((((ap).length / 3 : Nat) : Int) - 0) + 1) 0))
theorem cf_l10Values (args : Array Value) (w : World) : (callFunc 100 args).run Try.prog w = .ok (.enter 100 args) w := by kernel_rfl
set_option maxRecDepth 100000 in
theorem c_l10Values (apA : Option Addr) (apN apC : Nat) (ap : List Int) (w : World) (apR : RdS w 3 apA apN apC ap) (hl : ap.length ≤ 4194304) :
    Calls Try.prog 100 #[.slice apA apN apC] w (Ret fun v w' => v = .bool (F_l10Values ap) ∧ Ext w w') := by
  obtain rfl : apN = ap.length / 3 := (apR.lenD (by decide)).symm
  have apEv := apR.ev (by decide)
  have apLe := apR.le
  have hS := St.nil w
  have hS1 := St.rd0 hS rfl apR; clear hS
  refine enter (args := [.slice apA ((ap).length / 3 : Nat) apC]) Try.func100 rfl rfl ?_
  rw [Try.ntmps100]; intro a hE
  have hE := hE.sub (L' := [(0, .slice apA ((ap).length / 3 : Nat) apC)]) ⟨rfl, trivial⟩
  refine c_seq ?_
  refine c_reg ?_
  refine q_step (v := .bool false) hE (y_assign rfl) rfl rfl rfl ?_; intro a2 hE3; clear hE
  refine c_nil ?_
  have hE4 := hE3.sub (L' := [(0, .slice apA ((ap).length / 3 : Nat) apC)]) ⟨rfl, trivial⟩; clear hE3
  refine p_tn ?_
  refine c_seq ?_
  refine c_seq ?_
  refine c_reg ?_
  refine q_step (v := .int .i64 0) hE4 (y_assign rfl) rfl rfl rfl ?_; intro a5 hE6; clear hE4
  refine c_nil ?_
  have hE7 := hE6.sub (L' := [(0, .slice apA ((ap).length / 3 : Nat) apC), (3, .int .i64 0)]) ⟨rfl, rfl, trivial⟩; clear hE6
  refine p_tn ?_
  refine c_cut1 (fun a' w' => isOk (F_l10Values_L1 ap (Int.toNat ((((ap).length / 3 : Nat) : Int) - 0) + 1) 0) = true ∧ (0 ≤ (okD (F_l10Values_L1 ap (Int.toNat ((((ap).length / 3 : Nat) : Int) - 0) + 1) 0))) ∧ ((okD (F_l10Values_L1 ap (Int.toNat ((((ap).length / 3 : Nat) : Int) - 0) + 1) 0)) ≤ (((ap).length / 3 : Nat) : Int)) ∧ E a' 16 [(0, .slice apA ((ap).length / 3 : Nat) apC), (3, .int .i64 (okD (F_l10Values_L1 ap (Int.toNat ((((ap).length / 3 : Nat) : Int) - 0) + 1) 0)))] ∧ St w w' [.rd 3 apA ((ap).length / 3 : Nat) apC ap]) ?_ ?_
  ·
   refine wp_block ?_
   refine c_loop (fun r a' w' => ∃ i3 : Int, F_l10Values_L1 ap r i3 = F_l10Values_L1 ap (Int.toNat ((((ap).length / 3 : Nat) : Int) - 0) + 1) 0 ∧ Int.toNat ((((ap).length / 3 : Nat) : Int) - i3) < r ∧ (0 ≤ i3) ∧ (i3 ≤ (((ap).length / 3 : Nat) : Int)) ∧ E a' 16 [(0, .slice apA ((ap).length / 3 : Nat) apC), (3, .int .i64 i3)] ∧ St w w' [.rd 3 apA ((ap).length / 3 : Nat) apC ap]) (r := (Int.toNat ((((ap).length / 3 : Nat) : Int) - 0) + 1)) ?_ ?_
   · exact ⟨0, rfl, Nat.lt_succ_self _, (by first | omega | (simp only [sS_len, sL_len]; omega) | (simp only [List.length_replicate, sI_len]; omega) | (simp only [List.length_append, List.length_cons, List.length_nil, sI_len, cond_true, cond_false]; omega) | (simp only [List.length_append, List.length_cons, List.length_nil, sI_len, cond_eq_ite, apply_ite List.length]; split <;> simp only [List.length_append, List.length_cons, List.length_nil, sI_len] <;> omega) | grind), (by first | omega | (simp only [sS_len, sL_len]; omega) | (simp only [List.length_replicate, sI_len]; omega) | (simp only [List.length_append, List.length_cons, List.length_nil, sI_len, cond_true, cond_false]; omega) | (simp only [List.length_append, List.length_cons, List.length_nil, sI_len, cond_eq_ite, apply_ite List.length]; split <;> simp only [List.length_append, List.length_cons, List.length_nil, sI_len] <;> omega) | grind), (hE7.sub (L' := [(0, .slice apA ((ap).length / 3 : Nat) apC), (3, .int .i64 0)]) ⟨rfl, rfl, trivial⟩), (St.pick (Γ' := [.rd 3 apA ((ap).length / 3 : Nat) apC ap]) hS1 [0] (by decide) rfl)⟩
   ·
    clear hE7 hS1
    rintro r17 a9 w10 ⟨i3, hT13, hr14, hi15, hi16, hE11, hS12⟩
    obtain ⟨r17, rfl⟩ : ∃ r', r17 = r' + 1 := ⟨r17 - 1, by omega⟩
    refine c_seq ?_
    refine c_seq ?_
    refine c_reg ?_
    refine q_step (v := .int .i64 i3) hE11 (y_move rfl) rfl rfl rfl ?_; intro a18 hE19; clear hE11
    refine q_step (v := .slice apA ((ap).length / 3 : Nat) apC) hE19 (y_move rfl) rfl rfl rfl ?_; intro a20 hE21; clear hE19
    refine q_step (v := .int .i64 (((ap).length / 3 : Nat) : Int)) hE21 (y_len (e := 115) (by kernel_rfl) rfl) rfl rfl rfl ?_; intro a22 hE23; clear hE21
    refine q_step (v := .bool (decide (i3 < (((ap).length / 3 : Nat) : Int)))) hE23 (y_lss rfl rfl) rfl rfl rfl ?_; intro a24 hE25; clear hE23
    refine c_nil ?_
    have hE26 := hE25.sub (L' := [(0, .slice apA ((ap).length / 3 : Nat) apC), (3, .int .i64 i3), (7, .bool (decide (i3 < (((ap).length / 3 : Nat) : Int))))]) ⟨rfl, rfl, rfl, trivial⟩; clear hE25
    refine p_tn ?_
    refine c_cond hE26 rfl (fun ht27 => ?_) (fun ht27 => ?_)
    ·
     have hp28 := of_decide_eq_true ht27
     have hE29 := hE26; rw [ht27] at hE29; clear hE26
     refine wp_skip ?_
     refine p_tn ?_
     refine c_seq ?_
     refine wp_block ?_
     refine c_seq ?_
     refine c_reg ?_
     refine q_step (v := .slice apA ((ap).length / 3 : Nat) apC) hE29 (y_move rfl) rfl rfl rfl ?_; intro a30 hE31; clear hE29
     refine q_step (v := .int .i64 i3) hE31 (y_move rfl) rfl rfl rfl ?_; intro a32 hE33; clear hE31
     refine q_step (v := .pointer (some (adr apA (Int.toNat i3 * 3)))) hE33 (y_idx (by kernel_rfl) (fun _ => by kernel_rfl) rfl rfl (RdS.isS (m := i3) (St.rdR (i := 0) hS12 rfl) (by omega) (by omega)) (by omega) (by omega) rfl) rfl rfl rfl ?_; intro a34 hE35; clear hE33
     refine q_step (v := .pointer (some (adr apA ((Int.toNat i3 * 3) + 0)))) hE35 (y_fieldE (o := 0) (fun _ _ => by kernel_rfl) rfl) rfl rfl rfl ?_; intro a36 hE37; clear hE35
     refine q_step (v := .int .i64 (gS 3 0 ap i3)) hE37 (y_load (fun _ => by kernel_rfl) rfl (RdS.eltS (j := 0) (St.rdR (i := 0) hS12 rfl) (by omega) (by omega) (by decide))) rfl rfl rfl ?_; intro a38 hE39; clear hE37
     refine q_step (v := .bool (decide ((gS 3 0 ap i3) = 2))) hE39 (y_eql rfl rfl) rfl rfl rfl ?_; intro a40 hE41; clear hE39
     refine c_nil ?_
     have hE42 := hE41.sub (L' := [(0, .slice apA ((ap).length / 3 : Nat) apC), (3, .int .i64 i3), (15, .bool (decide ((gS 3 0 ap i3) = 2)))]) ⟨rfl, rfl, rfl, trivial⟩; clear hE41
     refine p_tn ?_
     refine c_cond hE42 rfl (fun ht43 => ?_) (fun ht43 => ?_)
     ·
      have hp44 := of_decide_eq_true ht43
      have hE45 := hE42; rw [ht43] at hE45; clear hE42
      refine c_seq ?_
      refine c_reg ?_
      refine q_step (v := .bool true) hE45 (y_assign rfl) rfl rfl rfl ?_; intro a46 hE47; clear hE45
      refine c_nil ?_
      have hE48 := hE47.sub (L' := [(2, .bool true)]) ⟨rfl, trivial⟩; clear hE47
      refine p_tn ?_
      refine wp_ret ?_
      refine p_br ?_
      refine p_tr ?_
      have hX49 : F_l10Values_L1 ap (Int.toNat ((((ap).length / 3 : Nat) : Int) - 0) + 1) 0 = .error true := hT13.symm.trans (show F_l10Values_L1b ap (F_l10Values_L1 ap r17) i3 = .error true by unfold F_l10Values_L1b; rw [ht43, ht27]; first | done | rfl)
      refine p_tr (p_br (p_tr ?_))
      refine p_tr ?_
      have hF : F_l10Values ap = true := by unfold F_l10Values; rw [hX49]; first | done | rfl
      refine c_ret1 hE48 rfl rfl ?_
      exact ⟨(by rw [hF]; first | done | (dsimp only; done) | rfl), hS12.ext⟩
     ·
      have hp50 := of_decide_eq_false ht43
      have hE51 := hE42; rw [ht43] at hE51; clear hE42
      refine wp_skip ?_
      refine p_bn ?_
      refine p_tn ?_
      refine c_reg ?_
      refine q_step (v := .int .i64 i3) hE51 (y_move rfl) rfl rfl rfl ?_; intro a52 hE53; clear hE51
      refine q_step (v := .int .i64 (i3 + 1)) hE53 (y_add rfl rfl ⟨(by omega), (by omega)⟩) rfl rfl rfl ?_; intro a54 hE55; clear hE53
      refine q_step (v := .int .i64 (i3 + 1)) hE55 (y_assign rfl) rfl rfl rfl ?_; intro a56 hE57; clear hE55
      refine c_nil ?_
      have hE58 := hE57.sub (L' := [(0, .slice apA ((ap).length / 3 : Nat) apC), (3, .int .i64 (i3 + 1))]) ⟨rfl, rfl, trivial⟩; clear hE57
      refine p_tn ⟨r17, Nat.lt_succ_self _, i3 + 1, (hT13.symm.trans (show F_l10Values_L1b ap (F_l10Values_L1 ap r17) i3 = F_l10Values_L1 ap r17 (i3 + 1) by unfold F_l10Values_L1b; rw [ht43, ht27]; first | done | rfl)).symm, (by omega), (by first | omega | (simp only [sS_len, sL_len]; omega) | (simp only [List.length_replicate, sI_len]; omega) | (simp only [List.length_append, List.length_cons, List.length_nil, sI_len, cond_true, cond_false]; omega) | (simp only [List.length_append, List.length_cons, List.length_nil, sI_len, cond_eq_ite, apply_ite List.length]; split <;> simp only [List.length_append, List.length_cons, List.length_nil, sI_len] <;> omega) | grind), (by first | omega | (simp only [sS_len, sL_len]; omega) | (simp only [List.length_replicate, sI_len]; omega) | (simp only [List.length_append, List.length_cons, List.length_nil, sI_len, cond_true, cond_false]; omega) | (simp only [List.length_append, List.length_cons, List.length_nil, sI_len, cond_eq_ite, apply_ite List.length]; split <;> simp only [List.length_append, List.length_cons, List.length_nil, sI_len] <;> omega) | grind), (hE58.sub (L' := [(0, .slice apA ((ap).length / 3 : Nat) apC), (3, .int .i64 (i3 + 1))]) ⟨rfl, rfl, trivial⟩), (St.pick (Γ' := [.rd 3 apA ((ap).length / 3 : Nat) apC ap]) hS12 [0] (by decide) rfl)⟩
    ·
     have hp59 := of_decide_eq_false ht27
     have hE60 := hE26; rw [ht27] at hE60; clear hE26
     refine wp_exit ?_
     refine p_te ?_
     have hX61 : F_l10Values_L1 ap (Int.toNat ((((ap).length / 3 : Nat) : Int) - 0) + 1) 0 = .ok i3 := hT13.symm.trans (show F_l10Values_L1b ap (F_l10Values_L1 ap r17) i3 = .ok i3 by unfold F_l10Values_L1b; rw [ht27]; first | done | rfl)
     refine p_te (p_be (p_tn ?_))
     exact ⟨(by rw [hX61]; rfl), (by rw [hX61]; exact (show 0 ≤ i3 from (by first | omega | (simp only [sS_len, sL_len]; omega) | (simp only [List.length_replicate, sI_len]; omega) | (simp only [List.length_append, List.length_cons, List.length_nil, sI_len, cond_true, cond_false]; omega) | (simp only [List.length_append, List.length_cons, List.length_nil, sI_len, cond_eq_ite, apply_ite List.length]; split <;> simp only [List.length_append, List.length_cons, List.length_nil, sI_len] <;> omega) | grind))), (by rw [hX61]; exact (show i3 ≤ (((ap).length / 3 : Nat) : Int) from (by first | omega | (simp only [sS_len, sL_len]; omega) | (simp only [List.length_replicate, sI_len]; omega) | (simp only [List.length_append, List.length_cons, List.length_nil, sI_len, cond_true, cond_false]; omega) | (simp only [List.length_append, List.length_cons, List.length_nil, sI_len, cond_eq_ite, apply_ite List.length]; split <;> simp only [List.length_append, List.length_cons, List.length_nil, sI_len] <;> omega) | grind))), (by rw [hX61]; exact (hE60.sub (L' := [(0, .slice apA ((ap).length / 3 : Nat) apC), (3, .int .i64 i3)]) ⟨rfl, rfl, trivial⟩)), (St.pick (Γ' := [.rd 3 apA ((ap).length / 3 : Nat) apC ap]) hS12 [0] (by decide) rfl)⟩
  ·
   rintro a62 w63 ⟨hO66, hi67, hi68, hE64, hS65⟩; clear hE7 hS1
   refine p_tn ?_
   refine c_seq ?_
   refine c_reg ?_
   refine q_step (v := .bool false) hE64 (y_assign rfl) rfl rfl rfl ?_; intro a69 hE70; clear hE64
   refine c_nil ?_
   have hE71 := hE70.sub (L' := [(2, .bool false)]) ⟨rfl, trivial⟩; clear hE70
   refine p_tn ?_
   refine wp_ret ?_
   have hF : F_l10Values ap = false := by unfold F_l10Values; rw [hO66]; first | done | rfl
   refine c_ret1 hE71 rfl rfl ?_
   exact ⟨(by rw [hF]; first | done | (dsimp only; done) | rfl), hS65.ext⟩
def F_l10Frame (f0 : Int) (f1 : List Int) (ap : List Int) : Bool :=
  F_l10Holds f0 f1 (List.replicate (Int.toNat 6) 0) ap (List.replicate (Int.toNat 10) 0)
theorem cf_l10Frame (args : Array Value) (w : World) : (callFunc 102 args).run Try.prog w = .ok (.enter 102 args) w := by kernel_rfl
set_option maxRecDepth 100000 in
theorem c_l10Frame (f0 : Int) (f1A : Option Addr) (f1N f1C : Nat) (f1 : List Int) (apA : Option Addr) (apN apC : Nat) (ap : List Int) (w : World) (f1R : RdS w 1 f1A f1N f1C f1) (apR : RdS w 3 apA apN apC ap) (hm0 : 0 ≤ f0 ∧ f0 ≤ 8) (hml : (f1.length : Int) = f0) (hl : ap.length ≤ 4194304) (hf : IsPm 6 ap) (hz : F_l10Free ap = 0) :
    Calls Try.prog 102 #[.agg #[.int .i64 f0, .slice f1A f1N f1C], .slice apA apN apC] w (Ret fun v w' => v = .bool (F_l10Frame f0 f1 ap) ∧ Ext w w') := by
  obtain rfl : f1N = f1.length := f1R.len1.symm
  have f1Le := f1R.le
  obtain rfl : apN = ap.length / 3 := (apR.lenD (by decide)).symm
  have apEv := apR.ev (by decide)
  have apLe := apR.le
  have hS := St.nil w
  have hS1 := St.rd0 hS rfl f1R; clear hS
  have hS2 := St.rd0 hS1 rfl apR; clear hS1
  refine enter (args := [.agg #[.int .i64 f0, .slice f1A f1.length f1C], .slice apA ((ap).length / 3 : Nat) apC]) Try.func102 rfl rfl ?_
  rw [Try.ntmps102]; intro a hE
  have hE := hE.sub (L' := [(0, .agg #[.int .i64 f0, .slice f1A f1.length f1C]), (1, .slice apA ((ap).length / 3 : Nat) apC)]) ⟨rfl, rfl, trivial⟩
  refine c_seq ?_
  refine c_reg ?_
  refine l_step hE rfl (l_box (v := .agg #[.int .i64 f0, .slice f1A f1.length f1C]) (cs := #[.int .i64 f0, .slice f1A f1.length f1C]) hS2 hE rfl rfl rfl ?_)
  intro b3 w4 hS7 he8 a5 hE6; clear hS2 hE
  refine q_step (v := .bool false) hE6 (y_assign rfl) rfl rfl rfl ?_; intro a9 hE10; clear hE6
  refine c_nil ?_
  have hE11 := hE10.sub (L' := [(1, .slice apA ((ap).length / 3 : Nat) apC), (2, .pointer (some ⟨b3, 0, none⟩))]) ⟨rfl, rfl, trivial⟩; clear hE10
  refine p_tn ?_
  refine c_cut (fun a' w' => E a' 11 [(4, .bool (F_l10Holds f0 f1 (List.replicate (Int.toNat 6) 0) ap (List.replicate (Int.toNat 10) 0)))] ∧ St w w' [.rd 1 f1A f1.length f1C f1, .blk b3 #[.int .i64 f0, .slice f1A f1.length f1C] 57, .rd 3 apA ((ap).length / 3 : Nat) apC ap]) ?_ ?_
  ·
   refine d_start (fun w w' => (fun w' => w'.heap[b3]? = some (.cells #[.int .i64 f0, .slice f1A f1.length f1C] 57 (0, 0)) ∧ True) w → (fun w' => w'.heap[b3]? = some (.cells #[.int .i64 f0, .slice f1A f1.length f1C] 57 (0, 0)) ∧ True) w') [0] 7 (by kernel_rfl) rfl ?_
   intro w12 he13; have hS14 := St.go hS7 he13; clear hS7
   refine d_take (fun _ h => h) (fun _ _ h k => h k) (v := .agg #[.int .i64 f0, .slice f1A f1.length f1C]) 0 rfl hE11 (S := fun w' => w'.heap[b3]? = some (.cells #[.int .i64 f0, .slice f1A f1.length f1C] 57 (0, 0)) ∧ True) ⟨(St.row (i := 0) hS14 rfl _ (Ext.refl _)), trivial⟩ (y_loadS Try.underlying57 rfl (by kernel_rfl) rfl (fun _ h => h.1)) rfl rfl (by kernel_rfl) (by kernel_rfl) (by kernel_rfl) (by kernel_rfl) rfl rfl (fun _ _ _ h => h) ?_; intro a15 hE16; clear hE11
   refine d_pure (fun _ h => h) (v := .slice apA ((ap).length / 3 : Nat) apC) 3 rfl hE16 (y_move rfl) rfl (by kernel_rfl) (by kernel_rfl) (by kernel_rfl) rfl rfl (fun _ _ _ h => h) ?_; intro a17 hE18; clear hE16
   refine d_two 1 4 (by kernel_rfl) rfl rfl hE18 rfl rfl ?_ ?_
   ·
    refine l_make (e := 2) (m := 6) hS14 hE18 (by kernel_rfl) (by kernel_rfl) rfl rfl (by omega) (by omega) rfl ?_
    intro b19 w20 hS23 he24 a21 hE22; clear hS14 hE18
    refine ⟨fun _ _ => ⟨(St.row (i := 1) hS23 rfl _ (Ext.refl _)), trivial⟩, ?_⟩
    refine d_pure (fun _ h => h) (v := .agg #[.int .i64 f0, .slice f1A f1.length f1C, .slice b19 (Int.toNat 6) (Int.toNat 6)]) 2 rfl hE22 (y_build (vs := #[(0, .agg #[.int .i64 f0, .slice f1A f1.length f1C]), (1, .slice b19 (Int.toNat 6) (Int.toNat 6))]) (fun a n hE => by simp only [hE.eval (x := .tmp 5) (v := .agg #[.int .i64 f0, .slice f1A f1.length f1C]) rfl, hE.eval (x := .tmp 6) (v := .slice b19 (Int.toNat 6) (Int.toNat 6)) rfl, List.map_toArray, List.map_cons, List.map_nil]) (fun _ => by kernel_rfl)) rfl (by kernel_rfl) (by kernel_rfl) (by kernel_rfl) rfl rfl (fun _ _ _ h => h) ?_; intro a25 hE26; clear hE22
    refine d_only 4 (by kernel_rfl) rfl hE26 rfl (l_make (e := 2) (m := 10) hS23 hE26 (by kernel_rfl) (by kernel_rfl) rfl rfl (by omega) (by omega) rfl ?_)
    intro b27 w28 hS31 he32 a29 hE30; clear hS23 hE26
    refine ⟨fun _ _ => ⟨(St.row (i := 2) hS31 rfl _ (Ext.refl _)), trivial⟩, ?_⟩
    refine d_only 5 (by kernel_rfl) rfl hE30 rfl (l_call (f := 114) (argv := [.agg #[.int .i64 f0, .slice f1A f1.length f1C, .slice b19 (Int.toNat 6) (Int.toNat 6)], .slice apA ((ap).length / 3 : Nat) apC, .slice b27 (Int.toNat 10) (Int.toNat 10)]) hE30 (fun _ => cf_l10Holds _ _) rfl rfl (c_l10Holds f0 f1A f1.length f1C f1 b19 (Int.toNat 6) (Int.toNat 6) (List.replicate (Int.toNat 6) 0) apA ((ap).length / 3 : Nat) apC ap b27 (Int.toNat 10) (Int.toNat 10) (List.replicate (Int.toNat 10) 0) w28 (St.rdR (i := 4) hS31 rfl) (St.rdO (i := 1) hS31 rfl) (St.rdR (i := 3) hS31 rfl) (St.rdO (i := 0) hS31 rfl) (by omega) (by omega) (by simp) (by omega) (by first | exact hf | simpa using hf) (by simp) (fr_zero hz)) ?_)
    rintro _ w34 ⟨rfl, he38⟩ a35 hE36; clear hE30
    have hS37 := St.go hS31 he38; clear hS31
    refine ⟨fun h => Bool.noConfusion (h.symm.trans (show exm _ _ _ = true by kernel_rfl)), ?_⟩
    refine d_pure (fun _ h => h) (v := .bool (F_l10Holds f0 f1 (List.replicate (Int.toNat 6) 0) ap (List.replicate (Int.toNat 10) 0))) 6 rfl hE36 (y_assign rfl) rfl (by kernel_rfl) (by kernel_rfl) (by kernel_rfl) rfl rfl (fun _ _ _ h => h) ?_; intro a39 hE40; clear hE36
    refine d_done (by kernel_rfl) ?_
    have hE41 := hE40.sub (L' := [(4, .bool (F_l10Holds f0 f1 (List.replicate (Int.toNat 6) 0) ap (List.replicate (Int.toNat 10) 0)))]) ⟨rfl, trivial⟩; clear hE40
    refine p_tn ?_
    have hE42 := hE41.sub (L' := [(4, .bool (F_l10Holds f0 f1 (List.replicate (Int.toNat 6) 0) ap (List.replicate (Int.toNat 10) 0)))]) ⟨rfl, trivial⟩
    have hS43 := (St.pick (Γ' := [.rd 1 f1A f1.length f1C f1, .blk b3 #[.int .i64 f0, .slice f1A f1.length f1C] 57, .rd 3 apA ((ap).length / 3 : Nat) apC ap]) hS37 [4, 2, 3] (by decide) rfl)
    exact ⟨hE42, hS43⟩
   ·
    refine l_make (e := 2) (m := 10) hS14 hE18 (by kernel_rfl) (by kernel_rfl) rfl rfl (by omega) (by omega) rfl ?_
    intro b44 w45 hS48 he49 a46 hE47; clear hS14 hE18
    refine ⟨fun _ _ => ⟨(St.row (i := 1) hS48 rfl _ (Ext.refl _)), trivial⟩, ?_⟩
    refine d_only 1 (by kernel_rfl) rfl hE47 rfl (l_make (e := 2) (m := 6) hS48 hE47 (by kernel_rfl) (by kernel_rfl) rfl rfl (by omega) (by omega) rfl ?_)
    intro b50 w51 hS54 he55 a52 hE53; clear hS48 hE47
    refine ⟨fun _ _ => ⟨(St.row (i := 2) hS54 rfl _ (Ext.refl _)), trivial⟩, ?_⟩
    refine d_pure (fun _ h => h) (v := .agg #[.int .i64 f0, .slice f1A f1.length f1C, .slice b50 (Int.toNat 6) (Int.toNat 6)]) 2 rfl hE53 (y_build (vs := #[(0, .agg #[.int .i64 f0, .slice f1A f1.length f1C]), (1, .slice b50 (Int.toNat 6) (Int.toNat 6))]) (fun a n hE => by simp only [hE.eval (x := .tmp 5) (v := .agg #[.int .i64 f0, .slice f1A f1.length f1C]) rfl, hE.eval (x := .tmp 6) (v := .slice b50 (Int.toNat 6) (Int.toNat 6)) rfl, List.map_toArray, List.map_cons, List.map_nil]) (fun _ => by kernel_rfl)) rfl (by kernel_rfl) (by kernel_rfl) (by kernel_rfl) rfl rfl (fun _ _ _ h => h) ?_; intro a56 hE57; clear hE53
    refine d_only 5 (by kernel_rfl) rfl hE57 rfl (l_call (f := 114) (argv := [.agg #[.int .i64 f0, .slice f1A f1.length f1C, .slice b50 (Int.toNat 6) (Int.toNat 6)], .slice apA ((ap).length / 3 : Nat) apC, .slice b44 (Int.toNat 10) (Int.toNat 10)]) hE57 (fun _ => cf_l10Holds _ _) rfl rfl (c_l10Holds f0 f1A f1.length f1C f1 b50 (Int.toNat 6) (Int.toNat 6) (List.replicate (Int.toNat 6) 0) apA ((ap).length / 3 : Nat) apC ap b44 (Int.toNat 10) (Int.toNat 10) (List.replicate (Int.toNat 10) 0) w51 (St.rdR (i := 4) hS54 rfl) (St.rdO (i := 0) hS54 rfl) (St.rdR (i := 3) hS54 rfl) (St.rdO (i := 1) hS54 rfl) (by omega) (by omega) (by simp) (by omega) (by first | exact hf | simpa using hf) (by simp) (fr_zero hz)) ?_)
    rintro _ w59 ⟨rfl, he63⟩ a60 hE61; clear hE57
    have hS62 := St.go hS54 he63; clear hS54
    refine ⟨fun h => Bool.noConfusion (h.symm.trans (show exm _ _ _ = true by kernel_rfl)), ?_⟩
    refine d_pure (fun _ h => h) (v := .bool (F_l10Holds f0 f1 (List.replicate (Int.toNat 6) 0) ap (List.replicate (Int.toNat 10) 0))) 6 rfl hE61 (y_assign rfl) rfl (by kernel_rfl) (by kernel_rfl) (by kernel_rfl) rfl rfl (fun _ _ _ h => h) ?_; intro a64 hE65; clear hE61
    refine d_done (by kernel_rfl) ?_
    have hE66 := hE65.sub (L' := [(4, .bool (F_l10Holds f0 f1 (List.replicate (Int.toNat 6) 0) ap (List.replicate (Int.toNat 10) 0)))]) ⟨rfl, trivial⟩; clear hE65
    refine p_tn ?_
    have hE67 := hE66.sub (L' := [(4, .bool (F_l10Holds f0 f1 (List.replicate (Int.toNat 6) 0) ap (List.replicate (Int.toNat 10) 0)))]) ⟨rfl, trivial⟩
    have hS68 := (St.pick (Γ' := [.rd 1 f1A f1.length f1C f1, .blk b3 #[.int .i64 f0, .slice f1A f1.length f1C] 57, .rd 3 apA ((ap).length / 3 : Nat) apC ap]) hS62 [4, 2, 3] (by decide) rfl)
    exact ⟨hE67, hS68⟩
  ·
   rintro a69 w70 ⟨hE71, hS72⟩; clear hE11 hS7
   refine wp_ret ?_
   have hF : F_l10Frame f0 f1 ap = F_l10Holds f0 f1 (List.replicate (Int.toNat 6) 0) ap (List.replicate (Int.toNat 10) 0) := by unfold F_l10Frame; rfl
   refine c_ret1 hE71 rfl rfl ?_
   exact ⟨(by rw [hF]; first | done | (dsimp only; done) | rfl), hS72.ext⟩
def F_s_FrameHolds (f0 : Int) (f1 : List Int) (ap : List Int) : (Bool) × (Int) :=
  bif (!(F_l05Is f0 f1)) then (false, 1) else (bif (!(F_s_IsPointFormula ap)) then (false, 1) else (bif (!decide ((F_l10Free ap) = 0)) then (false, 5) else (bif (F_l10Values ap) then (false, 5) else (bif (!(F_l10Fits ap f0)) then (false, 3) else (F_l10Frame f0 f1 ap, 0)))))
theorem cf_s_FrameHolds (args : Array Value) (w : World) : (callFunc 43 args).run Try.prog w = .ok (.enter 43 args) w := by kernel_rfl
set_option maxRecDepth 100000 in
theorem c_s_FrameHolds (f0 : Int) (f1A : Option Addr) (f1N f1C : Nat) (f1 : List Int) (apA : Option Addr) (apN apC : Nat) (ap : List Int) (w : World) (f1R : RdS w 1 f1A f1N f1C f1) (apR : RdS w 3 apA apN apC ap) (hl : ap.length ≤ 4194304) :
    Calls Try.prog 43 #[.agg #[.int .i64 f0, .slice f1A f1N f1C], .slice apA apN apC] w (Ret fun v w' => v = .tuple #[.bool ((F_s_FrameHolds f0 f1 ap).1), .int .i64 ((F_s_FrameHolds f0 f1 ap).2)] ∧ Ext w w') := by
  obtain rfl : f1N = f1.length := f1R.len1.symm
  have f1Le := f1R.le
  obtain rfl : apN = ap.length / 3 := (apR.lenD (by decide)).symm
  have apEv := apR.ev (by decide)
  have apLe := apR.le
  have hS := St.nil w
  have hS1 := St.rd0 hS rfl f1R; clear hS
  have hS2 := St.rd0 hS1 rfl apR; clear hS1
  refine enter (args := [.agg #[.int .i64 f0, .slice f1A f1.length f1C], .slice apA ((ap).length / 3 : Nat) apC]) Try.func43 rfl rfl ?_
  rw [Try.ntmps43]; intro a hE
  have hE := hE.sub (L' := [(0, .agg #[.int .i64 f0, .slice f1A f1.length f1C]), (1, .slice apA ((ap).length / 3 : Nat) apC)]) ⟨rfl, rfl, trivial⟩
  refine c_seq ?_
  refine c_reg ?_
  refine l_step hE rfl (l_box (v := .agg #[.int .i64 f0, .slice f1A f1.length f1C]) (cs := #[.int .i64 f0, .slice f1A f1.length f1C]) hS2 hE rfl rfl rfl ?_)
  intro b3 w4 hS7 he8 a5 hE6; clear hS2 hE
  refine q_step (v := .bool false) hE6 (y_assign rfl) rfl rfl rfl ?_; intro a9 hE10; clear hE6
  refine q_step (v := .int .i64 0) hE10 (y_assign rfl) rfl rfl rfl ?_; intro a11 hE12; clear hE10
  refine c_nil ?_
  have hE13 := hE12.sub (L' := [(1, .slice apA ((ap).length / 3 : Nat) apC), (2, .pointer (some ⟨b3, 0, none⟩))]) ⟨rfl, rfl, trivial⟩; clear hE12
  refine p_tn ?_
  refine c_seq ?_
  refine c_seq ?_
  refine c_reg ?_
  refine q_step (v := .agg #[.int .i64 f0, .slice f1A f1.length f1C]) hE13 (y_loadS Try.underlying57 rfl (by kernel_rfl) rfl (St.row (i := 0) hS7 rfl)) rfl rfl rfl ?_; intro a14 hE15; clear hE13
  refine l_step hE15 rfl (l_call (f := 97) (argv := [.agg #[.int .i64 f0, .slice f1A f1.length f1C]]) hE15 (fun _ => cf_l05Is _ _) rfl rfl (c_l05Is f0 f1A f1.length f1C f1 w4 (St.rdR (i := 2) hS7 rfl)) ?_)
  rintro _ w17 ⟨rfl, he21⟩ a18 hE19; clear hE15
  have hS20 := St.go hS7 he21; clear hS7
  refine q_step (v := .bool (!(F_l05Is f0 f1))) hE19 (y_not rfl) rfl rfl rfl ?_; intro a22 hE23; clear hE19
  refine q_step (v := .bool (!(F_l05Is f0 f1))) hE23 (y_move rfl) rfl rfl rfl ?_; intro a24 hE25; clear hE23
  rcases Bool.eq_false_or_eq_true (!(F_l05Is f0 f1)) with hb26 | hb26
  ·
   have hE27 := hE25; (try rw [hb26] at hE27); clear hE25
   have ht28 := bn_t hb26
   refine q_skip hE27 rfl rfl rfl ?_; intro a29 hE30; clear hE27
   refine q_skip hE30 rfl rfl rfl ?_; intro a31 hE32; clear hE30
   refine q_skip hE32 rfl rfl rfl ?_; intro a33 hE34; clear hE32
   refine q_step (v := .bool true) hE34 (y_pick (b := true) rfl rfl) rfl rfl rfl ?_; intro a35 hE36; clear hE34
   refine c_nil ?_
   have hE37 := hE36.sub (L' := [(1, .slice apA ((ap).length / 3 : Nat) apC), (2, .pointer (some ⟨b3, 0, none⟩)), (13, .bool true)]) ⟨rfl, rfl, rfl, trivial⟩; clear hE36
   refine p_tn ?_
   refine c_true hE37 rfl ?_
   refine c_seq ?_
   refine c_reg ?_
   refine q_step (v := .bool false) hE37 (y_assign rfl) rfl rfl rfl ?_; intro a38 hE39; clear hE37
   refine q_step (v := .int .i64 1) hE39 (y_assign rfl) rfl rfl rfl ?_; intro a40 hE41; clear hE39
   refine c_nil ?_
   have hE42 := hE41.sub (L' := [(4, .bool false), (5, .int .i64 1)]) ⟨rfl, rfl, trivial⟩; clear hE41
   refine p_tn ?_
   refine wp_ret ?_
   refine p_tr ?_
   have hF : F_s_FrameHolds f0 f1 ap = (false, 1) := by unfold F_s_FrameHolds; rw [hb26]; first | done | rfl
   refine c_ret2 hE42 rfl rfl rfl ?_
   exact ⟨(by rw [hF]; first | done | (dsimp only; done) | rfl), hS20.ext⟩
  ·
   have hE43 := hE25; (try rw [hb26] at hE43); clear hE25
   have ht44 := bn_f hb26
   have hp45 := l05Is_t ht44
   refine q_step (v := .slice apA ((ap).length / 3 : Nat) apC) hE43 (y_move rfl) rfl rfl rfl ?_; intro a46 hE47; clear hE43
   refine l_step hE47 rfl (l_call (f := 98) (argv := [.slice apA ((ap).length / 3 : Nat) apC]) hE47 (fun _ => cf_s_IsPointFormula _ _) rfl rfl (c_s_IsPointFormula apA ((ap).length / 3 : Nat) apC ap w17 (St.rdR (i := 1) hS20 rfl) (by omega)) ?_)
   rintro _ w49 ⟨rfl, he53⟩ a50 hE51; clear hE47
   have hS52 := St.go hS20 he53; clear hS20
   refine q_step (v := .bool (!(F_s_IsPointFormula ap))) hE51 (y_not rfl) rfl rfl rfl ?_; intro a54 hE55; clear hE51
   refine q_step (v := .bool (!(F_s_IsPointFormula ap))) hE55 (y_pick (b := false) rfl rfl) rfl rfl rfl ?_; intro a56 hE57; clear hE55
   refine c_nil ?_
   have hE58 := hE57.sub (L' := [(1, .slice apA ((ap).length / 3 : Nat) apC), (2, .pointer (some ⟨b3, 0, none⟩)), (13, .bool (!(F_s_IsPointFormula ap)))]) ⟨rfl, rfl, rfl, trivial⟩; clear hE57
   refine p_tn ?_
   refine c_cond hE58 rfl (fun ht59 => ?_) (fun ht59 => ?_)
   ·
    have ht60 := bn_t ht59
    have hE61 := hE58; rw [ht59] at hE61; clear hE58
    refine c_seq ?_
    refine c_reg ?_
    refine q_step (v := .bool false) hE61 (y_assign rfl) rfl rfl rfl ?_; intro a62 hE63; clear hE61
    refine q_step (v := .int .i64 1) hE63 (y_assign rfl) rfl rfl rfl ?_; intro a64 hE65; clear hE63
    refine c_nil ?_
    have hE66 := hE65.sub (L' := [(4, .bool false), (5, .int .i64 1)]) ⟨rfl, rfl, trivial⟩; clear hE65
    refine p_tn ?_
    refine wp_ret ?_
    refine p_tr ?_
    have hF : F_s_FrameHolds f0 f1 ap = (false, 1) := by unfold F_s_FrameHolds; rw [ht59, hb26]; first | done | rfl
    refine c_ret2 hE66 rfl rfl rfl ?_
    exact ⟨(by rw [hF]; first | done | (dsimp only; done) | rfl), hS52.ext⟩
   ·
    have ht67 := bn_f ht59
    have hp68 := (IsPm.ofs apEv) ht67
    have hE69 := hE58; rw [ht59] at hE69; clear hE58
    refine wp_skip ?_
    refine p_tn ?_
    refine c_seq ?_
    refine c_seq ?_
    refine c_reg ?_
    refine q_step (v := .slice apA ((ap).length / 3 : Nat) apC) hE69 (y_move rfl) rfl rfl rfl ?_; intro a70 hE71; clear hE69
    refine l_step hE71 rfl (l_call (f := 99) (argv := [.slice apA ((ap).length / 3 : Nat) apC]) hE71 (fun _ => cf_l10Free _ _) rfl rfl (c_l10Free apA ((ap).length / 3 : Nat) apC ap w49 (St.rdR (i := 1) hS52 rfl) (by omega) (by omega)) ?_)
    rintro _ w73 ⟨rfl, he77⟩ a74 hE75; clear hE71
    have hS76 := St.go hS52 he77; clear hS52
    refine q_step (v := .bool (!decide ((F_l10Free ap) = 0))) hE75 (y_neq rfl rfl) rfl rfl rfl ?_; intro a78 hE79; clear hE75
    refine q_step (v := .bool (!decide ((F_l10Free ap) = 0))) hE79 (y_move rfl) rfl rfl rfl ?_; intro a80 hE81; clear hE79
    rcases Bool.eq_false_or_eq_true (!decide ((F_l10Free ap) = 0)) with hb82 | hb82
    ·
     have hE83 := hE81; (try rw [hb82] at hE83); clear hE81
     have ht84 := bn_t hb82
     have hp85 := of_decide_eq_false ht84
     refine q_skip hE83 rfl rfl rfl ?_; intro a86 hE87; clear hE83
     refine q_skip hE87 rfl rfl rfl ?_; intro a88 hE89; clear hE87
     refine q_step (v := .bool true) hE89 (y_pick (b := true) rfl rfl) rfl rfl rfl ?_; intro a90 hE91; clear hE89
     refine c_nil ?_
     have hE92 := hE91.sub (L' := [(1, .slice apA ((ap).length / 3 : Nat) apC), (2, .pointer (some ⟨b3, 0, none⟩)), (20, .bool true)]) ⟨rfl, rfl, rfl, trivial⟩; clear hE91
     refine p_tn ?_
     refine c_true hE92 rfl ?_
     refine c_seq ?_
     refine c_reg ?_
     refine q_step (v := .bool false) hE92 (y_assign rfl) rfl rfl rfl ?_; intro a93 hE94; clear hE92
     refine q_step (v := .int .i64 5) hE94 (y_assign rfl) rfl rfl rfl ?_; intro a95 hE96; clear hE94
     refine c_nil ?_
     have hE97 := hE96.sub (L' := [(4, .bool false), (5, .int .i64 5)]) ⟨rfl, rfl, trivial⟩; clear hE96
     refine p_tn ?_
     refine wp_ret ?_
     refine p_tr ?_
     have hF : F_s_FrameHolds f0 f1 ap = (false, 5) := by unfold F_s_FrameHolds; rw [hb82, ht59, hb26]; first | done | rfl
     refine c_ret2 hE97 rfl rfl rfl ?_
     exact ⟨(by rw [hF]; first | done | (dsimp only; done) | rfl), hS76.ext⟩
    ·
     have hE98 := hE81; (try rw [hb82] at hE98); clear hE81
     have ht99 := bn_f hb82
     have hp100 := of_decide_eq_true ht99
     refine q_step (v := .slice apA ((ap).length / 3 : Nat) apC) hE98 (y_move rfl) rfl rfl rfl ?_; intro a101 hE102; clear hE98
     refine l_step hE102 rfl (l_call (f := 100) (argv := [.slice apA ((ap).length / 3 : Nat) apC]) hE102 (fun _ => cf_l10Values _ _) rfl rfl (c_l10Values apA ((ap).length / 3 : Nat) apC ap w73 (St.rdR (i := 1) hS76 rfl) (by omega)) ?_)
     rintro _ w104 ⟨rfl, he108⟩ a105 hE106; clear hE102
     have hS107 := St.go hS76 he108; clear hS76
     refine q_step (v := .bool (F_l10Values ap)) hE106 (y_pick (b := false) rfl rfl) rfl rfl rfl ?_; intro a109 hE110; clear hE106
     refine c_nil ?_
     have hE111 := hE110.sub (L' := [(1, .slice apA ((ap).length / 3 : Nat) apC), (2, .pointer (some ⟨b3, 0, none⟩)), (20, .bool (F_l10Values ap))]) ⟨rfl, rfl, rfl, trivial⟩; clear hE110
     refine p_tn ?_
     refine c_cond hE111 rfl (fun ht112 => ?_) (fun ht112 => ?_)
     ·
      have hE113 := hE111; rw [ht112] at hE113; clear hE111
      refine c_seq ?_
      refine c_reg ?_
      refine q_step (v := .bool false) hE113 (y_assign rfl) rfl rfl rfl ?_; intro a114 hE115; clear hE113
      refine q_step (v := .int .i64 5) hE115 (y_assign rfl) rfl rfl rfl ?_; intro a116 hE117; clear hE115
      refine c_nil ?_
      have hE118 := hE117.sub (L' := [(4, .bool false), (5, .int .i64 5)]) ⟨rfl, rfl, trivial⟩; clear hE117
      refine p_tn ?_
      refine wp_ret ?_
      refine p_tr ?_
      have hF : F_s_FrameHolds f0 f1 ap = (false, 5) := by unfold F_s_FrameHolds; rw [ht112, hb82, ht59, hb26]; first | done | rfl
      refine c_ret2 hE118 rfl rfl rfl ?_
      exact ⟨(by rw [hF]; first | done | (dsimp only; done) | rfl), hS107.ext⟩
     ·
      have hE119 := hE111; rw [ht112] at hE119; clear hE111
      refine wp_skip ?_
      refine p_tn ?_
      refine c_seq ?_
      refine c_seq ?_
      refine c_reg ?_
      refine q_step (v := .slice apA ((ap).length / 3 : Nat) apC) hE119 (y_move rfl) rfl rfl rfl ?_; intro a120 hE121; clear hE119
      refine q_step (v := .pointer (some ⟨b3, 0, none⟩)) hE121 (y_field rfl (fun _ => by kernel_rfl)) rfl rfl rfl ?_; intro a122 hE123; clear hE121
      refine q_step (v := .int .i64 f0) hE123 (y_load (fun _ => by kernel_rfl) rfl (St.cell (i := 0) hS107 rfl rfl)) rfl rfl rfl ?_; intro a124 hE125; clear hE123
      refine l_step hE125 rfl (l_call (f := 101) (argv := [.slice apA ((ap).length / 3 : Nat) apC, .int .i64 f0]) hE125 (fun _ => cf_l10Fits _ _) rfl rfl (c_l10Fits apA ((ap).length / 3 : Nat) apC ap f0 w104 (St.rdR (i := 1) hS107 rfl) (by omega) (by omega)) ?_)
      rintro _ w127 ⟨rfl, he131⟩ a128 hE129; clear hE125
      have hS130 := St.go hS107 he131; clear hS107
      refine q_step (v := .bool (!(F_l10Fits ap f0))) hE129 (y_not rfl) rfl rfl rfl ?_; intro a132 hE133; clear hE129
      refine c_nil ?_
      have hE134 := hE133.sub (L' := [(1, .slice apA ((ap).length / 3 : Nat) apC), (2, .pointer (some ⟨b3, 0, none⟩)), (25, .bool (!(F_l10Fits ap f0)))]) ⟨rfl, rfl, rfl, trivial⟩; clear hE133
      refine p_tn ?_
      refine c_cond hE134 rfl (fun ht135 => ?_) (fun ht135 => ?_)
      ·
       have ht136 := bn_t ht135
       have hE137 := hE134; rw [ht135] at hE137; clear hE134
       refine c_seq ?_
       refine c_reg ?_
       refine q_step (v := .bool false) hE137 (y_assign rfl) rfl rfl rfl ?_; intro a138 hE139; clear hE137
       refine q_step (v := .int .i64 3) hE139 (y_assign rfl) rfl rfl rfl ?_; intro a140 hE141; clear hE139
       refine c_nil ?_
       have hE142 := hE141.sub (L' := [(4, .bool false), (5, .int .i64 3)]) ⟨rfl, rfl, trivial⟩; clear hE141
       refine p_tn ?_
       refine wp_ret ?_
       refine p_tr ?_
       have hF : F_s_FrameHolds f0 f1 ap = (false, 3) := by unfold F_s_FrameHolds; rw [ht135, ht112, hb82, ht59, hb26]; first | done | rfl
       refine c_ret2 hE142 rfl rfl rfl ?_
       exact ⟨(by rw [hF]; first | done | (dsimp only; done) | rfl), hS130.ext⟩
      ·
       have ht143 := bn_f ht135
       have hE144 := hE134; rw [ht135] at hE144; clear hE134
       refine wp_skip ?_
       refine p_tn ?_
       refine c_seq ?_
       refine c_reg ?_
       refine q_step (v := .agg #[.int .i64 f0, .slice f1A f1.length f1C]) hE144 (y_loadS Try.underlying57 rfl (by kernel_rfl) rfl (St.row (i := 0) hS130 rfl)) rfl rfl rfl ?_; intro a145 hE146; clear hE144
       refine q_step (v := .slice apA ((ap).length / 3 : Nat) apC) hE146 (y_move rfl) rfl rfl rfl ?_; intro a147 hE148; clear hE146
       refine l_step hE148 rfl (l_call (f := 102) (argv := [.agg #[.int .i64 f0, .slice f1A f1.length f1C], .slice apA ((ap).length / 3 : Nat) apC]) hE148 (fun _ => cf_l10Frame _ _) rfl rfl (c_l10Frame f0 f1A f1.length f1C f1 apA ((ap).length / 3 : Nat) apC ap w127 (St.rdR (i := 2) hS130 rfl) (St.rdR (i := 1) hS130 rfl) (by omega) (by omega) (by omega) (by omega) (by omega)) ?_)
       rintro _ w150 ⟨rfl, he154⟩ a151 hE152; clear hE148
       have hS153 := St.go hS130 he154; clear hS130
       refine q_step (v := .bool (F_l10Frame f0 f1 ap)) hE152 (y_assign rfl) rfl rfl rfl ?_; intro a155 hE156; clear hE152
       refine q_step (v := .int .i64 0) hE156 (y_assign rfl) rfl rfl rfl ?_; intro a157 hE158; clear hE156
       refine c_nil ?_
       have hE159 := hE158.sub (L' := [(4, .bool (F_l10Frame f0 f1 ap)), (5, .int .i64 0)]) ⟨rfl, rfl, trivial⟩; clear hE158
       refine p_tn ?_
       refine wp_ret ?_
       have hF : F_s_FrameHolds f0 f1 ap = (F_l10Frame f0 f1 ap, 0) := by unfold F_s_FrameHolds; rw [ht135, ht112, hb82, ht59, hb26]; first | done | rfl
       refine c_ret2 hE159 rfl rfl rfl ?_
       exact ⟨(by rw [hF]; first | done | (dsimp only; done) | rfl), hS153.ext⟩
def F_FrameHolds_k1 (np0 : Int) (np1 : Int) (np2 : Int) : Bool :=
  decide (np0 = 2)
theorem cf_FrameHolds_k1 (args : Array Value) (w : World) : (callFunc 108 args).run Try.prog w = .ok (.enter 108 args) w := by kernel_rfl
set_option maxRecDepth 100000 in
theorem c_FrameHolds_k1 (np0 : Int) (np1 : Int) (np2 : Int) (w : World) :
    Calls Try.prog 108 #[.agg #[.int .i64 np0, .int .i64 np1, .int .i64 np2]] w (Ret fun v w' => v = .bool (F_FrameHolds_k1 np0 np1 np2) ∧ Ext w w') := by
  have hS := St.nil w
  refine enter (args := [.agg #[.int .i64 np0, .int .i64 np1, .int .i64 np2]]) Try.func108 rfl rfl ?_
  rw [Try.ntmps108]; intro a hE
  have hE := hE.sub (L' := [(0, .agg #[.int .i64 np0, .int .i64 np1, .int .i64 np2])]) ⟨rfl, trivial⟩
  refine c_seq ?_
  refine c_reg ?_
  refine l_step hE rfl (l_box (v := .agg #[.int .i64 np0, .int .i64 np1, .int .i64 np2]) (cs := #[.int .i64 np0, .int .i64 np1, .int .i64 np2]) hS hE rfl rfl rfl ?_)
  intro b1 w2 hS5 he6 a3 hE4; clear hS hE
  refine q_step (v := .bool false) hE4 (y_assign rfl) rfl rfl rfl ?_; intro a7 hE8; clear hE4
  refine c_nil ?_
  have hE9 := hE8.sub (L' := [(1, .pointer (some ⟨b1, 0, none⟩))]) ⟨rfl, trivial⟩; clear hE8
  refine p_tn ?_
  refine c_seq ?_
  refine c_reg ?_
  refine q_step (v := .pointer (some ⟨b1, 0, none⟩)) hE9 (y_field rfl (fun _ => by kernel_rfl)) rfl rfl rfl ?_; intro a10 hE11; clear hE9
  refine q_step (v := .int .i64 np0) hE11 (y_load (fun _ => by kernel_rfl) rfl (St.cell (i := 0) hS5 rfl rfl)) rfl rfl rfl ?_; intro a12 hE13; clear hE11
  refine q_step (v := .bool (decide (np0 = 2))) hE13 (y_eql rfl rfl) rfl rfl rfl ?_; intro a14 hE15; clear hE13
  refine q_step (v := .bool (decide (np0 = 2))) hE15 (y_assign rfl) rfl rfl rfl ?_; intro a16 hE17; clear hE15
  refine c_nil ?_
  have hE18 := hE17.sub (L' := [(2, .bool (decide (np0 = 2)))]) ⟨rfl, trivial⟩; clear hE17
  refine p_tn ?_
  refine wp_ret ?_
  have hF : F_FrameHolds_k1 np0 np1 np2 = decide (np0 = 2) := by unfold F_FrameHolds_k1; rfl
  refine c_ret1 hE18 rfl rfl ?_
  exact ⟨(by rw [hF]; first | done | (dsimp only; done) | rfl), hS5.ext⟩
def F_FrameHolds (f0 : Int) (f1 : List Int) (ap : List Int) : (Bool) × (Int) :=
  bif (!(F_isFrame f0 f1)) then (false, 1) else (bif (!(F_isPointFormula ap)) then (false, 1) else (bif (!decide ((F_freePoints ap) = 0)) then (false, 5) else (bif (F_z_ContainsFuncPointNode ap (fun x0 x1 x2 => F_FrameHolds_k1 x0 x1 x2)) then (false, 5) else (bif (!(F_hasValues ap f0)) then (false, 3) else (F_Model_holds f0 f1 [] ap (List.replicate (Int.toNat 10) 0), 0)))))
theorem cf_FrameHolds (args : Array Value) (w : World) : (callFunc 46 args).run Try.prog w = .ok (.enter 46 args) w := by kernel_rfl
theorem noVal {ap : List Int} (h : F_z_ContainsFuncPointNode ap (fun x0 x1 x2 => F_FrameHolds_k1 x0 x1 x2) = false) : ∀ i : Int, 0 ≤ i → i < ((ap.length / 3 : Nat) : Int) → ¬ gS 3 0 ap i = 2 := fun i h0 h1 h2 => by
  rw [containsPt_eq, Bool.not_eq_false'] at h
  have := List.all_eq_true.1 h i.toNat (List.mem_range.2 (by omega))
  rw [Int.toNat_of_nonneg h0, Bool.not_eq_true'] at this
  exact absurd h2 (of_decide_eq_false this)
theorem isPm0 {ap : List Int} (he : ap.length = ap.length / 3 * 3) (hp : F_isPointFormula ap = true) (h : F_z_ContainsFuncPointNode ap (fun x0 x1 x2 => F_FrameHolds_k1 x0 x1 x2) = false) : IsPm (([] : List Int).length : Int) ap :=
  IsPm.of he hp fun i h0 h1 h2 => absurd h2 (noVal h i h0 h1)
set_option maxRecDepth 100000 in
theorem c_FrameHolds (f0 : Int) (f1A : Option Addr) (f1N f1C : Nat) (f1 : List Int) (apA : Option Addr) (apN apC : Nat) (ap : List Int) (w : World) (f1R : RdS w 1 f1A f1N f1C f1) (apR : RdS w 3 apA apN apC ap) (hl : ap.length ≤ 4194304) :
    Calls Try.prog 46 #[.agg #[.int .i64 f0, .slice f1A f1N f1C], .slice apA apN apC] w (Ret fun v w' => v = .tuple #[.bool ((F_FrameHolds f0 f1 ap).1), .int .i64 ((F_FrameHolds f0 f1 ap).2)] ∧ Ext w w') := by
  obtain rfl : f1N = f1.length := f1R.len1.symm
  have f1Le := f1R.le
  obtain rfl : apN = ap.length / 3 := (apR.lenD (by decide)).symm
  have apEv := apR.ev (by decide)
  have apLe := apR.le
  have hS := St.nil w
  have hS1 := St.rd0 hS rfl f1R; clear hS
  have hS2 := St.rd0 hS1 rfl apR; clear hS1
  refine enter (args := [.agg #[.int .i64 f0, .slice f1A f1.length f1C], .slice apA ((ap).length / 3 : Nat) apC]) Try.func46 rfl rfl ?_
  rw [Try.ntmps46]; intro a hE
  have hE := hE.sub (L' := [(0, .agg #[.int .i64 f0, .slice f1A f1.length f1C]), (1, .slice apA ((ap).length / 3 : Nat) apC)]) ⟨rfl, rfl, trivial⟩
  refine c_seq ?_
  refine c_reg ?_
  refine l_step hE rfl (l_box (v := .agg #[.int .i64 f0, .slice f1A f1.length f1C]) (cs := #[.int .i64 f0, .slice f1A f1.length f1C]) hS2 hE rfl rfl rfl ?_)
  intro b3 w4 hS7 he8 a5 hE6; clear hS2 hE
  refine q_step (v := .bool false) hE6 (y_assign rfl) rfl rfl rfl ?_; intro a9 hE10; clear hE6
  refine q_step (v := .int .i64 0) hE10 (y_assign rfl) rfl rfl rfl ?_; intro a11 hE12; clear hE10
  refine c_nil ?_
  have hE13 := hE12.sub (L' := [(1, .slice apA ((ap).length / 3 : Nat) apC), (2, .pointer (some ⟨b3, 0, none⟩))]) ⟨rfl, rfl, trivial⟩; clear hE12
  refine p_tn ?_
  refine c_seq ?_
  refine wp_block ?_
  refine c_seq ?_
  refine c_reg ?_
  refine q_step (v := .agg #[.int .i64 f0, .slice f1A f1.length f1C]) hE13 (y_loadS Try.underlying57 rfl (by kernel_rfl) rfl (St.row (i := 0) hS7 rfl)) rfl rfl rfl ?_; intro a14 hE15; clear hE13
  refine l_step hE15 rfl (l_call (f := 104) (argv := [.agg #[.int .i64 f0, .slice f1A f1.length f1C]]) hE15 (fun _ => cf_isFrame _ _) rfl rfl (c_isFrame f0 f1A f1.length f1C f1 w4 (St.rdR (i := 2) hS7 rfl)) ?_)
  rintro _ w17 ⟨rfl, he21⟩ a18 hE19; clear hE15
  have hS20 := St.go hS7 he21; clear hS7
  refine q_step (v := .bool (!(F_isFrame f0 f1))) hE19 (y_not rfl) rfl rfl rfl ?_; intro a22 hE23; clear hE19
  refine q_step (v := .bool (!(F_isFrame f0 f1))) hE23 (y_move rfl) rfl rfl rfl ?_; intro a24 hE25; clear hE23
  rcases Bool.eq_false_or_eq_true (!(F_isFrame f0 f1)) with hb26 | hb26
  ·
   have hE27 := hE25; (try rw [hb26] at hE27); clear hE25
   have ht28 := bn_t hb26
   refine q_skip hE27 rfl rfl rfl ?_; intro a29 hE30; clear hE27
   refine q_skip hE30 rfl rfl rfl ?_; intro a31 hE32; clear hE30
   refine q_skip hE32 rfl rfl rfl ?_; intro a33 hE34; clear hE32
   refine q_step (v := .bool true) hE34 (y_pick (b := true) rfl rfl) rfl rfl rfl ?_; intro a35 hE36; clear hE34
   refine q_step (v := .bool true) hE36 (y_assign rfl) rfl rfl rfl ?_; intro a37 hE38; clear hE36
   refine c_nil ?_
   have hE39 := hE38.sub (L' := [(1, .slice apA ((ap).length / 3 : Nat) apC), (2, .pointer (some ⟨b3, 0, none⟩)), (6, .bool true)]) ⟨rfl, rfl, rfl, trivial⟩; clear hE38
   refine p_tn ?_
   refine c_true hE39 rfl ?_
   refine c_seq ?_
   refine c_reg ?_
   refine q_step (v := .bool false) hE39 (y_assign rfl) rfl rfl rfl ?_; intro a40 hE41; clear hE39
   refine q_step (v := .int .i64 1) hE41 (y_assign rfl) rfl rfl rfl ?_; intro a42 hE43; clear hE41
   refine c_nil ?_
   have hE44 := hE43.sub (L' := [(4, .bool false), (5, .int .i64 1)]) ⟨rfl, rfl, trivial⟩; clear hE43
   refine p_tn ?_
   refine wp_ret ?_
   refine p_br ?_
   refine p_tr ?_
   have hF : F_FrameHolds f0 f1 ap = (false, 1) := by unfold F_FrameHolds; rw [hb26]; first | done | rfl
   refine c_ret2 hE44 rfl rfl rfl ?_
   exact ⟨(by rw [hF]; first | done | (dsimp only; done) | rfl), hS20.ext⟩
  ·
   have hE45 := hE25; (try rw [hb26] at hE45); clear hE25
   have ht46 := bn_f hb26
   have hp47 := isFrame_t ht46
   refine q_step (v := .slice apA ((ap).length / 3 : Nat) apC) hE45 (y_move rfl) rfl rfl rfl ?_; intro a48 hE49; clear hE45
   refine l_step hE49 rfl (l_call (f := 105) (argv := [.slice apA ((ap).length / 3 : Nat) apC]) hE49 (fun _ => cf_isPointFormula _ _) rfl rfl (c_isPointFormula apA ((ap).length / 3 : Nat) apC ap w17 (St.rdR (i := 1) hS20 rfl) (by omega)) ?_)
   rintro _ w51 ⟨rfl, he55⟩ a52 hE53; clear hE49
   have hS54 := St.go hS20 he55; clear hS20
   refine q_step (v := .bool (!(F_isPointFormula ap))) hE53 (y_not rfl) rfl rfl rfl ?_; intro a56 hE57; clear hE53
   refine q_step (v := .bool (!(F_isPointFormula ap))) hE57 (y_pick (b := false) rfl rfl) rfl rfl rfl ?_; intro a58 hE59; clear hE57
   refine q_step (v := .bool (!(F_isPointFormula ap))) hE59 (y_assign rfl) rfl rfl rfl ?_; intro a60 hE61; clear hE59
   refine c_nil ?_
   have hE62 := hE61.sub (L' := [(1, .slice apA ((ap).length / 3 : Nat) apC), (2, .pointer (some ⟨b3, 0, none⟩)), (6, .bool (!(F_isPointFormula ap)))]) ⟨rfl, rfl, rfl, trivial⟩; clear hE61
   refine p_tn ?_
   refine c_cond hE62 rfl (fun ht63 => ?_) (fun ht63 => ?_)
   ·
    have ht64 := bn_t ht63
    have hE65 := hE62; rw [ht63] at hE65; clear hE62
    refine c_seq ?_
    refine c_reg ?_
    refine q_step (v := .bool false) hE65 (y_assign rfl) rfl rfl rfl ?_; intro a66 hE67; clear hE65
    refine q_step (v := .int .i64 1) hE67 (y_assign rfl) rfl rfl rfl ?_; intro a68 hE69; clear hE67
    refine c_nil ?_
    have hE70 := hE69.sub (L' := [(4, .bool false), (5, .int .i64 1)]) ⟨rfl, rfl, trivial⟩; clear hE69
    refine p_tn ?_
    refine wp_ret ?_
    refine p_br ?_
    refine p_tr ?_
    have hF : F_FrameHolds f0 f1 ap = (false, 1) := by unfold F_FrameHolds; rw [ht63, hb26]; first | done | rfl
    refine c_ret2 hE70 rfl rfl rfl ?_
    exact ⟨(by rw [hF]; first | done | (dsimp only; done) | rfl), hS54.ext⟩
   ·
    have ht71 := bn_f ht63
    have hp72 := (isPtI_t apEv) ht71
    have hE73 := hE62; rw [ht63] at hE73; clear hE62
    refine c_seq ?_
    refine c_reg ?_
    refine q_step (v := .slice apA ((ap).length / 3 : Nat) apC) hE73 (y_move rfl) rfl rfl rfl ?_; intro a74 hE75; clear hE73
    refine l_step hE75 rfl (l_call (f := 106) (argv := [.slice apA ((ap).length / 3 : Nat) apC]) hE75 (fun _ => cf_freePoints _ _) rfl rfl (c_freePoints apA ((ap).length / 3 : Nat) apC ap w51 (St.rdR (i := 1) hS54 rfl) (by omega) (by omega)) ?_)
    rintro _ w77 ⟨rfl, he81⟩ a78 hE79; clear hE75
    have hS80 := St.go hS54 he81; clear hS54
    refine q_step (v := .bool (!decide ((F_freePoints ap) = 0))) hE79 (y_neq rfl rfl) rfl rfl rfl ?_; intro a82 hE83; clear hE79
    refine q_step (v := .bool (!decide ((F_freePoints ap) = 0))) hE83 (y_move rfl) rfl rfl rfl ?_; intro a84 hE85; clear hE83
    rcases Bool.eq_false_or_eq_true (!decide ((F_freePoints ap) = 0)) with hb86 | hb86
    ·
     have hE87 := hE85; (try rw [hb86] at hE87); clear hE85
     have ht88 := bn_t hb86
     have hp89 := of_decide_eq_false ht88
     refine q_skip hE87 rfl rfl rfl ?_; intro a90 hE91; clear hE87
     refine q_skip hE91 rfl rfl rfl ?_; intro a92 hE93; clear hE91
     refine q_step (v := .bool true) hE93 (y_pick (b := true) rfl rfl) rfl rfl rfl ?_; intro a94 hE95; clear hE93
     refine q_step (v := .bool true) hE95 (y_assign rfl) rfl rfl rfl ?_; intro a96 hE97; clear hE95
     refine c_nil ?_
     have hE98 := hE97.sub (L' := [(1, .slice apA ((ap).length / 3 : Nat) apC), (2, .pointer (some ⟨b3, 0, none⟩)), (15, .bool true)]) ⟨rfl, rfl, rfl, trivial⟩; clear hE97
     refine p_tn ?_
     refine c_true hE98 rfl ?_
     refine c_seq ?_
     refine c_reg ?_
     refine q_step (v := .bool false) hE98 (y_assign rfl) rfl rfl rfl ?_; intro a99 hE100; clear hE98
     refine q_step (v := .int .i64 5) hE100 (y_assign rfl) rfl rfl rfl ?_; intro a101 hE102; clear hE100
     refine c_nil ?_
     have hE103 := hE102.sub (L' := [(4, .bool false), (5, .int .i64 5)]) ⟨rfl, rfl, trivial⟩; clear hE102
     refine p_tn ?_
     refine wp_ret ?_
     refine p_br ?_
     refine p_tr ?_
     have hF : F_FrameHolds f0 f1 ap = (false, 5) := by unfold F_FrameHolds; rw [hb86, ht63, hb26]; first | done | rfl
     refine c_ret2 hE103 rfl rfl rfl ?_
     exact ⟨(by rw [hF]; first | done | (dsimp only; done) | rfl), hS80.ext⟩
    ·
     have hE104 := hE85; (try rw [hb86] at hE104); clear hE85
     have ht105 := bn_f hb86
     have hp106 := of_decide_eq_true ht105
     refine q_step (v := .slice apA ((ap).length / 3 : Nat) apC) hE104 (y_move rfl) rfl rfl rfl ?_; intro a107 hE108; clear hE104
     refine l_step hE108 rfl (l_call (f := 107) (argv := [.slice apA ((ap).length / 3 : Nat) apC, .func (.func 108) #[] #[]]) hE108 (fun _ => cf_z_ContainsFuncPointNode _ _) rfl rfl (c_z_ContainsFuncPointNode apA ((ap).length / 3 : Nat) apC ap 108 [] (fun x0 x1 x2 => F_FrameHolds_k1 x0 x1 x2) (fun _ _ _ => True) w77 (St.rdR (i := 1) hS80 rfl) (fun _ _ => cf_FrameHolds_k1 _ _) (fun x0 x1 x2 w' hx he => c_FrameHolds_k1 x0 x1 x2 w') (fun _ _ _ => trivial)) ?_)
     rintro _ w110 ⟨rfl, he114⟩ a111 hE112; clear hE108
     have hS113 := St.go hS80 he114; clear hS80
     refine q_step (v := .bool (F_z_ContainsFuncPointNode ap (fun x0 x1 x2 => F_FrameHolds_k1 x0 x1 x2))) hE112 (y_pick (b := false) rfl rfl) rfl rfl rfl ?_; intro a115 hE116; clear hE112
     refine q_step (v := .bool (F_z_ContainsFuncPointNode ap (fun x0 x1 x2 => F_FrameHolds_k1 x0 x1 x2))) hE116 (y_assign rfl) rfl rfl rfl ?_; intro a117 hE118; clear hE116
     refine c_nil ?_
     have hE119 := hE118.sub (L' := [(1, .slice apA ((ap).length / 3 : Nat) apC), (2, .pointer (some ⟨b3, 0, none⟩)), (15, .bool (F_z_ContainsFuncPointNode ap (fun x0 x1 x2 => F_FrameHolds_k1 x0 x1 x2)))]) ⟨rfl, rfl, rfl, trivial⟩; clear hE118
     refine p_tn ?_
     refine c_cond hE119 rfl (fun ht120 => ?_) (fun ht120 => ?_)
     ·
      have hE121 := hE119; rw [ht120] at hE121; clear hE119
      refine c_seq ?_
      refine c_reg ?_
      refine q_step (v := .bool false) hE121 (y_assign rfl) rfl rfl rfl ?_; intro a122 hE123; clear hE121
      refine q_step (v := .int .i64 5) hE123 (y_assign rfl) rfl rfl rfl ?_; intro a124 hE125; clear hE123
      refine c_nil ?_
      have hE126 := hE125.sub (L' := [(4, .bool false), (5, .int .i64 5)]) ⟨rfl, rfl, trivial⟩; clear hE125
      refine p_tn ?_
      refine wp_ret ?_
      refine p_br ?_
      refine p_tr ?_
      have hF : F_FrameHolds f0 f1 ap = (false, 5) := by unfold F_FrameHolds; rw [ht120, hb86, ht63, hb26]; first | done | rfl
      refine c_ret2 hE126 rfl rfl rfl ?_
      exact ⟨(by rw [hF]; first | done | (dsimp only; done) | rfl), hS113.ext⟩
     ·
      have hE127 := hE119; rw [ht120] at hE127; clear hE119
      refine c_seq ?_
      refine c_reg ?_
      refine q_step (v := .slice apA ((ap).length / 3 : Nat) apC) hE127 (y_move rfl) rfl rfl rfl ?_; intro a128 hE129; clear hE127
      refine q_step (v := .pointer (some ⟨b3, 0, none⟩)) hE129 (y_field rfl (fun _ => by kernel_rfl)) rfl rfl rfl ?_; intro a130 hE131; clear hE129
      refine q_step (v := .int .i64 f0) hE131 (y_load (fun _ => by kernel_rfl) rfl (St.cell (i := 0) hS113 rfl rfl)) rfl rfl rfl ?_; intro a132 hE133; clear hE131
      refine l_step hE133 rfl (l_call (f := 109) (argv := [.slice apA ((ap).length / 3 : Nat) apC, .int .i64 f0]) hE133 (fun _ => cf_hasValues _ _) rfl rfl (c_hasValues apA ((ap).length / 3 : Nat) apC ap f0 w110 (St.rdR (i := 1) hS113 rfl) (by omega) (by omega)) ?_)
      rintro _ w135 ⟨rfl, he139⟩ a136 hE137; clear hE133
      have hS138 := St.go hS113 he139; clear hS113
      refine q_step (v := .bool (!(F_hasValues ap f0))) hE137 (y_not rfl) rfl rfl rfl ?_; intro a140 hE141; clear hE137
      refine q_step (v := .bool (!(F_hasValues ap f0))) hE141 (y_assign rfl) rfl rfl rfl ?_; intro a142 hE143; clear hE141
      refine c_nil ?_
      have hE144 := hE143.sub (L' := [(1, .slice apA ((ap).length / 3 : Nat) apC), (2, .pointer (some ⟨b3, 0, none⟩)), (23, .bool (!(F_hasValues ap f0)))]) ⟨rfl, rfl, rfl, trivial⟩; clear hE143
      refine p_tn ?_
      refine c_cond hE144 rfl (fun ht145 => ?_) (fun ht145 => ?_)
      ·
       have ht146 := bn_t ht145
       have hE147 := hE144; rw [ht145] at hE147; clear hE144
       refine c_seq ?_
       refine c_reg ?_
       refine q_step (v := .bool false) hE147 (y_assign rfl) rfl rfl rfl ?_; intro a148 hE149; clear hE147
       refine q_step (v := .int .i64 3) hE149 (y_assign rfl) rfl rfl rfl ?_; intro a150 hE151; clear hE149
       refine c_nil ?_
       have hE152 := hE151.sub (L' := [(4, .bool false), (5, .int .i64 3)]) ⟨rfl, rfl, trivial⟩; clear hE151
       refine p_tn ?_
       refine wp_ret ?_
       refine p_br ?_
       refine p_tr ?_
       have hF : F_FrameHolds f0 f1 ap = (false, 3) := by unfold F_FrameHolds; rw [ht145, ht120, hb86, ht63, hb26]; first | done | rfl
       refine c_ret2 hE152 rfl rfl rfl ?_
       exact ⟨(by rw [hF]; first | done | (dsimp only; done) | rfl), hS138.ext⟩
      ·
       have ht153 := bn_f ht145
       have hE154 := hE144; rw [ht145] at hE154; clear hE144
       refine wp_skip ?_
       refine p_bn ?_
       refine p_tn ?_
       refine c_seq ?_
       refine d_start (fun w w' => (fun w' => w'.heap[b3]? = some (.cells #[.int .i64 f0, .slice f1A f1.length f1C] 57 (0, 0)) ∧ True) w → (fun w' => w'.heap[b3]? = some (.cells #[.int .i64 f0, .slice f1A f1.length f1C] 57 (0, 0)) ∧ True) w') [0] 7 (by kernel_rfl) rfl ?_
       intro w155 he156; have hS157 := St.go hS138 he156; clear hS138
       refine d_take (fun _ h => h) (fun _ _ h k => h k) (v := .agg #[.int .i64 f0, .slice f1A f1.length f1C]) 0 rfl hE154 (S := fun w' => w'.heap[b3]? = some (.cells #[.int .i64 f0, .slice f1A f1.length f1C] 57 (0, 0)) ∧ True) ⟨(St.row (i := 0) hS157 rfl _ (Ext.refl _)), trivial⟩ (y_loadS Try.underlying57 rfl (by kernel_rfl) rfl (fun _ h => h.1)) rfl rfl (by kernel_rfl) (by kernel_rfl) (by kernel_rfl) (by kernel_rfl) rfl rfl (fun _ _ _ h => h) ?_; intro a158 hE159; clear hE154
       refine d_pure (fun _ h => h) (v := .agg #[.int .i64 f0, .slice f1A f1.length f1C, .slice none 0 0]) 1 rfl hE159 (y_build (vs := #[(0, .agg #[.int .i64 f0, .slice f1A f1.length f1C])]) (fun a n hE => by simp only [hE.eval (x := .tmp 29) (v := .agg #[.int .i64 f0, .slice f1A f1.length f1C]) rfl, List.map_toArray, List.map_cons, List.map_nil]) (fun _ => by kernel_rfl)) rfl (by kernel_rfl) (by kernel_rfl) (by kernel_rfl) rfl rfl (fun _ _ _ h => h) ?_; intro a160 hE161; clear hE159
       refine d_pure (fun _ h => h) (v := .slice apA ((ap).length / 3 : Nat) apC) 2 rfl hE161 (y_move rfl) rfl (by kernel_rfl) (by kernel_rfl) (by kernel_rfl) rfl rfl (fun _ _ _ h => h) ?_; intro a162 hE163; clear hE161
       refine d_only 3 (by kernel_rfl) rfl hE163 rfl (l_make (e := 2) (m := 10) hS157 hE163 (by kernel_rfl) (by kernel_rfl) rfl rfl (by omega) (by omega) rfl ?_)
       intro b164 w165 hS168 he169 a166 hE167; clear hS157 hE163
       refine ⟨fun _ _ => ⟨(St.row (i := 1) hS168 rfl _ (Ext.refl _)), trivial⟩, ?_⟩
       refine d_only 4 (by kernel_rfl) rfl hE167 rfl (l_call (f := 110) (argv := [.agg #[.int .i64 f0, .slice f1A f1.length f1C, .slice none 0 0], .slice apA ((ap).length / 3 : Nat) apC, .slice b164 (Int.toNat 10) (Int.toNat 10)]) hE167 (fun _ => cf_Model_holds _ _) rfl rfl (c_Model_holds f0 f1A f1.length f1C f1 none 0 0 [] apA ((ap).length / 3 : Nat) apC ap b164 (Int.toNat 10) (Int.toNat 10) (List.replicate (Int.toNat 10) 0) w165 (St.rdR (i := 3) hS168 rfl) (RdS.nilS _ _) (St.rdR (i := 2) hS168 rfl) (St.rdO (i := 0) hS168 rfl) (by omega) (by omega) (by simp) (by omega) (isPm0 apEv (by assumption) (by assumption)) (by simp) (fr_zero ((freePoints_eq (bd := 6) (by assumption)).symm.trans (by omega)))) ?_)
       rintro _ w171 ⟨rfl, he175⟩ a172 hE173; clear hE167
       have hS174 := St.go hS168 he175; clear hS168
       refine ⟨fun h => Bool.noConfusion (h.symm.trans (show exm _ _ _ = true by kernel_rfl)), ?_⟩
       refine d_pure (fun _ h => h) (v := .bool (F_Model_holds f0 f1 [] ap (List.replicate (Int.toNat 10) 0))) 5 rfl hE173 (y_assign rfl) rfl (by kernel_rfl) (by kernel_rfl) (by kernel_rfl) rfl rfl (fun _ _ _ h => h) ?_; intro a176 hE177; clear hE173
       refine d_pure (fun _ h => h) (v := .int .i64 0) 6 rfl hE177 (y_assign rfl) rfl (by kernel_rfl) (by kernel_rfl) (by kernel_rfl) rfl rfl (fun _ _ _ h => h) ?_; intro a178 hE179; clear hE177
       refine d_done (by kernel_rfl) ?_
       have hE180 := hE179.sub (L' := [(4, .bool (F_Model_holds f0 f1 [] ap (List.replicate (Int.toNat 10) 0))), (5, .int .i64 0)]) ⟨rfl, rfl, trivial⟩; clear hE179
       refine p_tn ?_
       refine wp_ret ?_
       have hF : F_FrameHolds f0 f1 ap = (F_Model_holds f0 f1 [] ap (List.replicate (Int.toNat 10) 0), 0) := by unfold F_FrameHolds; rw [ht145, ht120, hb86, ht63, hb26]; first | done | rfl
       refine c_ret2 hE180 rfl rfl rfl ?_
       exact ⟨(by rw [hF]; first | done | (dsimp only; done) | rfl), hS174.ext⟩
theorem Pm.val_ext (m1 m2 m3 : List Int) (n : Nat) (h : ∀ u : Int, gI m2 u = gI m3 u) : ∀ (t : Pm) (ws : List Int), t.val m1 m2 n ws = t.val m1 m3 n ws := by
  intro t
  induction t with
  | leaf k u v => intro ws; unfold Pm.val; rw [h]
  | un k u v a ih => intro ws; unfold Pm.val; simp only [ih]
  | bin k u v a b iha ihb => intro ws; unfold Pm.val; rw [iha, ihb]
theorem gI_nil (u : Int) : gI [] u = gI (List.replicate (Int.toNat 6) 0) u := by
  unfold gI gi
  rw [List.getD_eq_getElem?_getD, List.getD_eq_getElem?_getD, List.getElem?_replicate]
  split <;> rfl
theorem holds_nil {bd m0 : Int} {m1 ap : List Int} (h0 : 0 ≤ m0) (hf : IsPm bd ap) (ws : List Int) : F_Model_holds m0 m1 [] ap ws = F_l10Holds m0 m1 (List.replicate (Int.toNat 6) 0) ap ws := by
  rw [holds_eq h0 hf]
  obtain ⟨t, ht, rfl⟩ := hf
  rw [show F_l10Holds m0 m1 [] t.code ws = t.val m1 [] m0.toNat ws from holds_tree bd m0 m1 [] h0 t _ ws ht (Nat.lt_succ_self _), show F_l10Holds m0 m1 (List.replicate (Int.toNat 6) 0) t.code ws = t.val m1 (List.replicate (Int.toNat 6) 0) m0.toNat ws from holds_tree bd m0 m1 _ h0 t _ ws ht (Nat.lt_succ_self _)]
  exact Pm.val_ext m1 _ _ _ gI_nil t ws
theorem l10Values_eq (ap : List Int) : F_z_ContainsFuncPointNode ap (fun x0 x1 x2 => F_FrameHolds_k1 x0 x1 x2) = F_l10Values ap := by
  have e := allE (F_l10Values_L1 ap) true ((ap.length / 3 : Nat) : Int) (fun i => decide (gS 3 0 ap i = 2)) (by omega) (fun r i _ _ => by
    show F_l10Values_L1b ap _ i = _
    unfold F_l10Values_L1b; rfl)
  unfold F_l10Values
  rw [e, isOk_bif, errD_bif, containsPt_eq]
  show (!((List.range (ap.length / 3)).all fun (j : Nat) => !(decide (gS 3 0 ap (j : Int) = 2)))) = bif (List.range (ap.length / 3)).all (fun (j : Nat) => !(decide (gS 3 0 ap (j : Int) = 2))) then false else true
  cases (List.range (ap.length / 3)).all (fun (j : Nat) => !(decide (gS 3 0 ap (j : Int) = 2))) <;> rfl
theorem FrameHolds_eq (f0 : Int) (f1 ap : List Int) (he : ap.length = ap.length / 3 * 3) : F_FrameHolds f0 f1 ap = F_s_FrameHolds f0 f1 ap := by
  unfold F_FrameHolds F_s_FrameHolds
  rw [isFrame_eq, isPt_eq he, l10Values_eq]
  cases hA : F_l05Is f0 f1
  · rfl
  · cases hB : F_s_IsPointFormula ap
    · rfl
    · have hf := IsPm.ofs he hB
      have hm := (l05Is_t hA).1
      rw [hasValues_eq hf hm.1 hm.2, freePoints_eq hf, holds_nil hm.1 hf]
      rfl
end Go.Proofs.Ytkilkfhjfobcdaa
