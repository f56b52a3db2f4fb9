/- GA: models and contracts, printed by wip/gen/gen.py -/
import Derived.Test.YtkilkfhjfobcdaaKCHLoud
set_option linter.unusedVariables false
set_option linter.unusedSimpArgs false
namespace Go.Proofs.Ytkilkfhjfobcdaa
open Go.RowKit
def F_l_eqInt64S_L1b (ap : List Int) (bp : List Int) (rec : Int → Except (Bool) (Int)) (i5 : Int) : Except (Bool) (Int) :=
  bif (decide (i5 < (ap.length : Int))) then (bif (!decide ((gI ap i5) = (gI bp i5))) then (.error false) else (rec (i5 + 1))) else (.ok i5)
def F_l_eqInt64S_L1 (ap : List Int) (bp : List Int) : Nat → Int → Except (Bool) (Int)
  | 0, i5 => .ok i5
  | r + 1, i5 => F_l_eqInt64S_L1b ap bp (F_l_eqInt64S_L1 ap bp r) i5
def F_l_eqInt64S (ap : List Int) (bp : List Int) : Bool :=
  bif (!decide ((ap.length : Int) = (bp.length : Int))) then false else (bif (isOk (F_l_eqInt64S_L1 ap bp (Int.toNat ((ap.length : Int) - 0) + 1) 0)) then true else (errD (F_l_eqInt64S_L1 ap bp (Int.toNat ((ap.length : Int) - 0) + 1) 0)))
theorem cf_l_eqInt64S (args : Array Value) (w : World) : (callFunc 17 args).run Try.prog w = .ok (.enter 17 args) w := by kernel_rfl
set_option maxRecDepth 100000 in
theorem c_l_eqInt64S (apA : Option Addr) (apN apC : Nat) (ap : List Int) (bpA : Option Addr) (bpN bpC : Nat) (bp : List Int) (w : World) (apR : RdS w 1 apA apN apC ap) (bpR : RdS w 1 bpA bpN bpC bp) :
    Calls Try.prog 17 #[.slice apA apN apC, .slice bpA bpN bpC] w (Ret fun v w' => v = .bool (F_l_eqInt64S ap bp) ∧ Ext w w') := by
  obtain rfl : apN = ap.length := apR.len1.symm
  have apLe := apR.le
  obtain rfl : bpN = bp.length := bpR.len1.symm
  have bpLe := bpR.le
  have hS := St.nil w
  have hS1 := St.rd0 hS rfl apR; clear hS
  have hS2 := St.rd0 hS1 rfl bpR; clear hS1
  refine enter (args := [.slice apA ap.length apC, .slice bpA bp.length bpC]) Try.func17 rfl rfl ?_
  rw [Try.ntmps17]; intro a hE
  have hE := hE.sub (L' := [(0, .slice apA ap.length apC), (1, .slice bpA bp.length bpC)]) ⟨rfl, rfl, trivial⟩
  refine c_seq ?_
  refine c_reg ?_
  refine q_step (v := .bool false) hE (y_assign rfl) rfl rfl rfl ?_; intro a3 hE4; clear hE
  refine c_nil ?_
  have hE5 := hE4.sub (L' := [(0, .slice apA ap.length apC), (1, .slice bpA bp.length bpC)]) ⟨rfl, rfl, trivial⟩; clear hE4
  refine p_tn ?_
  refine c_seq ?_
  refine c_seq ?_
  refine c_reg ?_
  refine q_step (v := .slice apA ap.length apC) hE5 (y_move rfl) rfl rfl rfl ?_; intro a6 hE7; clear hE5
  refine q_step (v := .int .i64 (ap.length : Int)) hE7 (y_len (e := 2) (by kernel_rfl) rfl) rfl rfl rfl ?_; intro a8 hE9; clear hE7
  refine q_step (v := .slice bpA bp.length bpC) hE9 (y_move rfl) rfl rfl rfl ?_; intro a10 hE11; clear hE9
  refine q_step (v := .int .i64 (bp.length : Int)) hE11 (y_len (e := 2) (by kernel_rfl) rfl) rfl rfl rfl ?_; intro a12 hE13; clear hE11
  refine q_step (v := .bool (!decide ((ap.length : Int) = (bp.length : Int)))) hE13 (y_neq rfl rfl) rfl rfl rfl ?_; intro a14 hE15; clear hE13
  refine c_nil ?_
  have hE16 := hE15.sub (L' := [(0, .slice apA ap.length apC), (1, .slice bpA bp.length bpC), (10, .bool (!decide ((ap.length : Int) = (bp.length : Int))))]) ⟨rfl, rfl, rfl, trivial⟩; clear hE15
  refine p_tn ?_
  refine c_cond hE16 rfl (fun ht17 => ?_) (fun ht17 => ?_)
  ·
   have ht18 := bn_t ht17
   have hp19 := of_decide_eq_false ht18
   have hE20 := hE16; rw [ht17] at hE20; clear hE16
   refine c_seq ?_
   refine c_reg ?_
   refine q_step (v := .bool false) hE20 (y_assign rfl) rfl rfl rfl ?_; intro a21 hE22; clear hE20
   refine c_nil ?_
   have hE23 := hE22.sub (L' := [(4, .bool false)]) ⟨rfl, trivial⟩; clear hE22
   refine p_tn ?_
   refine wp_ret ?_
   refine p_tr ?_
   have hF : F_l_eqInt64S ap bp = false := by unfold F_l_eqInt64S; rw [ht17]; first | done | rfl
   refine c_ret1 hE23 rfl rfl ?_
   exact ⟨(by rw [hF]; first | done | (dsimp only; done) | rfl), hS2.ext⟩
  ·
   have ht24 := bn_f ht17
   have hp25 := of_decide_eq_true ht24
   have hE26 := hE16; rw [ht17] at hE26; clear hE16
   refine wp_skip ?_
   refine p_tn ?_
   refine c_seq ?_
   refine c_seq ?_
   refine c_reg ?_
   refine q_step (v := .int .i64 0) hE26 (y_assign rfl) rfl rfl rfl ?_; intro a27 hE28; clear hE26
   refine c_nil ?_
   have hE29 := hE28.sub (L' := [(0, .slice apA ap.length apC), (1, .slice bpA bp.length bpC), (5, .int .i64 0)]) ⟨rfl, rfl, rfl, trivial⟩; clear hE28
   refine p_tn ?_
   refine c_cut1 (fun a' w' => isOk (F_l_eqInt64S_L1 ap bp (Int.toNat ((ap.length : Int) - 0) + 1) 0) = true ∧ (0 ≤ (okD (F_l_eqInt64S_L1 ap bp (Int.toNat ((ap.length : Int) - 0) + 1) 0))) ∧ ((okD (F_l_eqInt64S_L1 ap bp (Int.toNat ((ap.length : Int) - 0) + 1) 0)) ≤ (ap.length : Int)) ∧ E a' 26 [(0, .slice apA ap.length apC), (1, .slice bpA bp.length bpC), (5, .int .i64 (okD (F_l_eqInt64S_L1 ap bp (Int.toNat ((ap.length : Int) - 0) + 1) 0)))] ∧ St w w' [.rd 1 bpA bp.length bpC bp, .rd 1 apA ap.length apC ap]) ?_ ?_
   ·
    refine wp_block ?_
    refine c_loop (fun r a' w' => ∃ i5 : Int, F_l_eqInt64S_L1 ap bp r i5 = F_l_eqInt64S_L1 ap bp (Int.toNat ((ap.length : Int) - 0) + 1) 0 ∧ Int.toNat ((ap.length : Int) - i5) < r ∧ (0 ≤ i5) ∧ (i5 ≤ (ap.length : Int)) ∧ E a' 26 [(0, .slice apA ap.length apC), (1, .slice bpA bp.length bpC), (5, .int .i64 i5)] ∧ St w w' [.rd 1 bpA bp.length bpC bp, .rd 1 apA ap.length apC ap]) (r := (Int.toNat ((ap.length : Int) - 0) + 1)) ?_ ?_
    · exact ⟨0, rfl, Nat.lt_succ_self _, (by first | omega | (simp only [sS_len, sL_len]; omega) | (simp only [List.length_replicate, sI_len]; omega) | (simp only [List.length_append, List.length_cons, List.length_nil, sI_len, cond_true, cond_false]; omega) | (simp only [List.length_append, List.length_cons, List.length_nil, sI_len, cond_eq_ite, apply_ite List.length]; split <;> simp only [List.length_append, List.length_cons, List.length_nil, sI_len] <;> omega) | grind), (by first | omega | (simp only [sS_len, sL_len]; omega) | (simp only [List.length_replicate, sI_len]; omega) | (simp only [List.length_append, List.length_cons, List.length_nil, sI_len, cond_true, cond_false]; omega) | (simp only [List.length_append, List.length_cons, List.length_nil, sI_len, cond_eq_ite, apply_ite List.length]; split <;> simp only [List.length_append, List.length_cons, List.length_nil, sI_len] <;> omega) | grind), (hE29.sub (L' := [(0, .slice apA ap.length apC), (1, .slice bpA bp.length bpC), (5, .int .i64 0)]) ⟨rfl, rfl, rfl, trivial⟩), (St.pick (Γ' := [.rd 1 bpA bp.length bpC bp, .rd 1 apA ap.length apC ap]) hS2 [0, 1] (by decide) rfl)⟩
    ·
     clear hE29 hS2
     rintro r39 a31 w32 ⟨i5, hT35, hr36, hi37, hi38, hE33, hS34⟩
     obtain ⟨r39, rfl⟩ : ∃ r', r39 = r' + 1 := ⟨r39 - 1, by omega⟩
     refine c_seq ?_
     refine c_seq ?_
     refine c_reg ?_
     refine q_step (v := .int .i64 i5) hE33 (y_move rfl) rfl rfl rfl ?_; intro a40 hE41; clear hE33
     refine q_step (v := .slice apA ap.length apC) hE41 (y_move rfl) rfl rfl rfl ?_; intro a42 hE43; clear hE41
     refine q_step (v := .int .i64 (ap.length : Int)) hE43 (y_len (e := 2) (by kernel_rfl) rfl) rfl rfl rfl ?_; intro a44 hE45; clear hE43
     refine q_step (v := .bool (decide (i5 < (ap.length : Int)))) hE45 (y_lss rfl rfl) rfl rfl rfl ?_; intro a46 hE47; clear hE45
     refine c_nil ?_
     have hE48 := hE47.sub (L' := [(0, .slice apA ap.length apC), (1, .slice bpA bp.length bpC), (5, .int .i64 i5), (14, .bool (decide (i5 < (ap.length : Int))))]) ⟨rfl, rfl, rfl, rfl, trivial⟩; clear hE47
     refine p_tn ?_
     refine c_cond hE48 rfl (fun ht49 => ?_) (fun ht49 => ?_)
     ·
      have hp50 := of_decide_eq_true ht49
      have hE51 := hE48; rw [ht49] at hE51; clear hE48
      refine wp_skip ?_
      refine p_tn ?_
      refine c_seq ?_
      refine wp_block ?_
      refine c_seq ?_
      refine d_start (fun w w' => (fun w' => w'.cell? (adr apA (Int.toNat i5)) = some (.int .i64 (gI ap i5)) ∧ w'.cell? (adr bpA (Int.toNat i5)) = some (.int .i64 (gI bp i5)) ∧ True) w → (fun w' => w'.cell? (adr apA (Int.toNat i5)) = some (.int .i64 (gI ap i5)) ∧ w'.cell? (adr bpA (Int.toNat i5)) = some (.int .i64 (gI bp i5)) ∧ True) w') [3, 7] 9 (by kernel_rfl) rfl ?_
      intro w52 he53; have hS54 := St.go hS34 he53; clear hS34
      refine d_pure (fun _ h => h) (v := .slice apA ap.length apC) 0 rfl hE51 (y_move rfl) rfl (by kernel_rfl) (by kernel_rfl) (by kernel_rfl) rfl rfl (fun _ _ _ h => h) ?_; intro a55 hE56; clear hE51
      refine d_pure (fun _ h => h) (v := .int .i64 i5) 1 rfl hE56 (y_move rfl) rfl (by kernel_rfl) (by kernel_rfl) (by kernel_rfl) rfl rfl (fun _ _ _ h => h) ?_; intro a57 hE58; clear hE56
      refine d_pure (fun _ h => h) (v := .pointer (some (adr apA (Int.toNat i5)))) 2 rfl hE58 (y_idx (by kernel_rfl) (fun _ => by kernel_rfl) rfl rfl (RdS.isS (m := i5) (St.rdR (i := 1) hS54 rfl) (by omega) (by omega)) (by omega) (by omega) (Nat.mul_one _).symm) rfl (by kernel_rfl) (by kernel_rfl) (by kernel_rfl) rfl rfl (fun _ _ _ h => h) ?_; intro a59 hE60; clear hE58
      refine d_take (fun _ h => h) (fun _ _ h k => h k) (v := .int .i64 (gI ap i5)) 3 rfl hE60 (S := fun w' => w'.cell? (adr apA (Int.toNat i5)) = some (.int .i64 (gI ap i5)) ∧ w'.cell? (adr bpA (Int.toNat i5)) = some (.int .i64 (gI bp i5)) ∧ True) ⟨(RdS.elt (St.rdR (i := 1) hS54 rfl) (by omega) (by omega) _ (Ext.refl _)), (RdS.elt (St.rdR (i := 0) hS54 rfl) (by omega) (by omega) _ (Ext.refl _)), trivial⟩ (y_load (fun _ => by kernel_rfl) rfl (fun _ h => h.1)) rfl rfl (by kernel_rfl) (by kernel_rfl) (by kernel_rfl) (by kernel_rfl) rfl rfl (fun _ _ _ h => h) ?_; intro a61 hE62; clear hE60
      refine d_pure (fun _ h => h) (v := .slice bpA bp.length bpC) 4 rfl hE62 (y_move rfl) rfl (by kernel_rfl) (by kernel_rfl) (by kernel_rfl) rfl rfl (fun _ _ _ h => h) ?_; intro a63 hE64; clear hE62
      refine d_pure (fun _ h => h) (v := .int .i64 i5) 5 rfl hE64 (y_move rfl) rfl (by kernel_rfl) (by kernel_rfl) (by kernel_rfl) rfl rfl (fun _ _ _ h => h) ?_; intro a65 hE66; clear hE64
      refine d_pure (fun _ h => h) (v := .pointer (some (adr bpA (Int.toNat i5)))) 6 rfl hE66 (y_idx (by kernel_rfl) (fun _ => by kernel_rfl) rfl rfl (RdS.isS (m := i5) (St.rdR (i := 0) hS54 rfl) (by omega) (by omega)) (by omega) (by omega) (Nat.mul_one _).symm) rfl (by kernel_rfl) (by kernel_rfl) (by kernel_rfl) rfl rfl (fun _ _ _ h => h) ?_; intro a67 hE68; clear hE66
      refine d_take (fun _ h => h) (fun _ _ h k => h k) (v := .int .i64 (gI bp i5)) 7 rfl hE68 (S := fun w' => w'.cell? (adr apA (Int.toNat i5)) = some (.int .i64 (gI ap i5)) ∧ w'.cell? (adr bpA (Int.toNat i5)) = some (.int .i64 (gI bp i5)) ∧ True) ⟨(RdS.elt (St.rdR (i := 1) hS54 rfl) (by omega) (by omega) _ (Ext.refl _)), (RdS.elt (St.rdR (i := 0) hS54 rfl) (by omega) (by omega) _ (Ext.refl _)), trivial⟩ (y_load (fun _ => by kernel_rfl) rfl (fun _ h => h.2.1)) rfl rfl (by kernel_rfl) (by kernel_rfl) (by kernel_rfl) (by kernel_rfl) rfl rfl (fun _ _ _ h => h) ?_; intro a69 hE70; clear hE68
      refine d_pure (fun _ h => h) (v := .bool (!decide ((gI ap i5) = (gI bp i5)))) 8 rfl hE70 (y_neq rfl rfl) rfl (by kernel_rfl) (by kernel_rfl) (by kernel_rfl) rfl rfl (fun _ _ _ h => h) ?_; intro a71 hE72; clear hE70
      refine d_done (by kernel_rfl) ?_
      have hE73 := hE72.sub (L' := [(0, .slice apA ap.length apC), (1, .slice bpA bp.length bpC), (5, .int .i64 i5), (25, .bool (!decide ((gI ap i5) = (gI bp i5))))]) ⟨rfl, rfl, rfl, rfl, trivial⟩; clear hE72
      refine p_tn ?_
      refine c_cond hE73 rfl (fun ht74 => ?_) (fun ht74 => ?_)
      ·
       have ht75 := bn_t ht74
       have hp76 := of_decide_eq_false ht75
       have hE77 := hE73; rw [ht74] at hE77; clear hE73
       refine c_seq ?_
       refine c_reg ?_
       refine q_step (v := .bool false) hE77 (y_assign rfl) rfl rfl rfl ?_; intro a78 hE79; clear hE77
       refine c_nil ?_
       have hE80 := hE79.sub (L' := [(4, .bool false)]) ⟨rfl, trivial⟩; clear hE79
       refine p_tn ?_
       refine wp_ret ?_
       refine p_br ?_
       refine p_tr ?_
       have hX81 : F_l_eqInt64S_L1 ap bp (Int.toNat ((ap.length : Int) - 0) + 1) 0 = .error false := hT35.symm.trans (show F_l_eqInt64S_L1b ap bp (F_l_eqInt64S_L1 ap bp r39) i5 = .error false by unfold F_l_eqInt64S_L1b; rw [ht74, ht49]; first | done | rfl)
       refine p_tr (p_br (p_tr ?_))
       refine p_tr ?_
       have hF : F_l_eqInt64S ap bp = false := by unfold F_l_eqInt64S; rw [hX81, ht17]; first | done | rfl
       refine c_ret1 hE80 rfl rfl ?_
       exact ⟨(by rw [hF]; first | done | (dsimp only; done) | rfl), hS54.ext⟩
      ·
       have ht82 := bn_f ht74
       have hp83 := of_decide_eq_true ht82
       have hE84 := hE73; rw [ht74] at hE84; clear hE73
       refine wp_skip ?_
       refine p_bn ?_
       refine p_tn ?_
       refine c_reg ?_
       refine q_step (v := .int .i64 i5) hE84 (y_move rfl) rfl rfl rfl ?_; intro a85 hE86; clear hE84
       refine q_step (v := .int .i64 (i5 + 1)) hE86 (y_add rfl rfl ⟨(by omega), (by omega)⟩) rfl rfl rfl ?_; intro a87 hE88; clear hE86
       refine q_step (v := .int .i64 (i5 + 1)) hE88 (y_assign rfl) rfl rfl rfl ?_; intro a89 hE90; clear hE88
       refine c_nil ?_
       have hE91 := hE90.sub (L' := [(0, .slice apA ap.length apC), (1, .slice bpA bp.length bpC), (5, .int .i64 (i5 + 1))]) ⟨rfl, rfl, rfl, trivial⟩; clear hE90
       refine p_tn ⟨r39, Nat.lt_succ_self _, i5 + 1, (hT35.symm.trans (show F_l_eqInt64S_L1b ap bp (F_l_eqInt64S_L1 ap bp r39) i5 = F_l_eqInt64S_L1 ap bp r39 (i5 + 1) by unfold F_l_eqInt64S_L1b; rw [ht74, ht49]; first | done | rfl)).symm, (by omega), (by first | omega | (simp only [sS_len, sL_len]; omega) | (simp only [List.length_replicate, sI_len]; omega) | (simp only [List.length_append, List.length_cons, List.length_nil, sI_len, cond_true, cond_false]; omega) | (simp only [List.length_append, List.length_cons, List.length_nil, sI_len, cond_eq_ite, apply_ite List.length]; split <;> simp only [List.length_append, List.length_cons, List.length_nil, sI_len] <;> omega) | grind), (by first | omega | (simp only [sS_len, sL_len]; omega) | (simp only [List.length_replicate, sI_len]; omega) | (simp only [List.length_append, List.length_cons, List.length_nil, sI_len, cond_true, cond_false]; omega) | (simp only [List.length_append, List.length_cons, List.length_nil, sI_len, cond_eq_ite, apply_ite List.length]; split <;> simp only [List.length_append, List.length_cons, List.length_nil, sI_len] <;> omega) | grind), (hE91.sub (L' := [(0, .slice apA ap.length apC), (1, .slice bpA bp.length bpC), (5, .int .i64 (i5 + 1))]) ⟨rfl, rfl, rfl, trivial⟩), (St.pick (Γ' := [.rd 1 bpA bp.length bpC bp, .rd 1 apA ap.length apC ap]) hS54 [0, 1] (by decide) rfl)⟩
     ·
      have hp92 := of_decide_eq_false ht49
      have hE93 := hE48; rw [ht49] at hE93; clear hE48
      refine wp_exit ?_
      refine p_te ?_
      have hX94 : F_l_eqInt64S_L1 ap bp (Int.toNat ((ap.length : Int) - 0) + 1) 0 = .ok i5 := hT35.symm.trans (show F_l_eqInt64S_L1b ap bp (F_l_eqInt64S_L1 ap bp r39) i5 = .ok i5 by unfold F_l_eqInt64S_L1b; rw [ht49]; first | done | rfl)
      refine p_te (p_be (p_tn ?_))
      exact ⟨(by rw [hX94]; rfl), (by rw [hX94]; exact (show 0 ≤ i5 from (by first | omega | (simp only [sS_len, sL_len]; omega) | (simp only [List.length_replicate, sI_len]; omega) | (simp only [List.length_append, List.length_cons, List.length_nil, sI_len, cond_true, cond_false]; omega) | (simp only [List.length_append, List.length_cons, List.length_nil, sI_len, cond_eq_ite, apply_ite List.length]; split <;> simp only [List.length_append, List.length_cons, List.length_nil, sI_len] <;> omega) | grind))), (by rw [hX94]; exact (show i5 ≤ (ap.length : Int) from (by first | omega | (simp only [sS_len, sL_len]; omega) | (simp only [List.length_replicate, sI_len]; omega) | (simp only [List.length_append, List.length_cons, List.length_nil, sI_len, cond_true, cond_false]; omega) | (simp only [List.length_append, List.length_cons, List.length_nil, sI_len, cond_eq_ite, apply_ite List.length]; split <;> simp only [List.length_append, List.length_cons, List.length_nil, sI_len] <;> omega) | grind))), (by rw [hX94]; exact (hE93.sub (L' := [(0, .slice apA ap.length apC), (1, .slice bpA bp.length bpC), (5, .int .i64 i5)]) ⟨rfl, rfl, rfl, trivial⟩)), (St.pick (Γ' := [.rd 1 bpA bp.length bpC bp, .rd 1 apA ap.length apC ap]) hS34 [0, 1] (by decide) rfl)⟩
   ·
    rintro a95 w96 ⟨hO99, hi100, hi101, hE97, hS98⟩; clear hE29 hS2
    refine p_tn ?_
    refine c_seq ?_
    refine c_reg ?_
    refine q_step (v := .bool true) hE97 (y_assign rfl) rfl rfl rfl ?_; intro a102 hE103; clear hE97
    refine c_nil ?_
    have hE104 := hE103.sub (L' := [(4, .bool true)]) ⟨rfl, trivial⟩; clear hE103
    refine p_tn ?_
    refine wp_ret ?_
    have hF : F_l_eqInt64S ap bp = true := by unfold F_l_eqInt64S; rw [hO99, ht17]; first | done | rfl
    refine c_ret1 hE104 rfl rfl ?_
    exact ⟨(by rw [hF]; first | done | (dsimp only; done) | rfl), hS98.ext⟩
theorem eqI_key (ap bp : List Int) (hl : ap.length = bp.length) : ∀ (k : Nat) (i : Int), 0 ≤ i → (ap.length : Int) - i = k → (∀ j : Nat, (j : Int) < i → gi ap j = gi bp j) →
    (bif isOk (F_l_eqInt64S_L1 ap bp (k + 1) i) then true else errD (F_l_eqInt64S_L1 ap bp (k + 1) i)) = decide (ap = bp) := by
  intro k
  induction k with
  | zero =>
    intro i h0 hk hp
    have e : F_l_eqInt64S_L1 ap bp (0 + 1) i = .ok i := by
      show F_l_eqInt64S_L1b ap bp _ i = _
      unfold F_l_eqInt64S_L1b
      rw [decide_eq_false (by omega)]; rfl
    rw [e]
    have : ap = bp := ext_gi hl fun j hj => hp j (by omega)
    rw [decide_eq_true this]; rfl
  | succ k ih =>
    intro i h0 hk hp
    have e : F_l_eqInt64S_L1 ap bp (k + 1 + 1) i = bif !decide (gI ap i = gI bp i) then .error false else F_l_eqInt64S_L1 ap bp (k + 1) (i + 1) := by
      show F_l_eqInt64S_L1b ap bp _ i = _
      unfold F_l_eqInt64S_L1b
      rw [decide_eq_true (by omega)]; rfl
    rw [e]
    by_cases h : gI ap i = gI bp i
    · rw [decide_eq_true h]
      refine ih (i + 1) (by omega) (by omega) fun j hj => ?_
      by_cases e : (j : Int) = i
      · have : i.toNat = j := by omega
        unfold gI at h; rw [this] at h; exact h
      · exact hp j (by omega)
    · rw [decide_eq_false h]
      have : ¬ ap = bp := fun h' => h (by rw [h'])
      rw [decide_eq_false this]; rfl
theorem eqI_eq (ap bp : List Int) : F_l_eqInt64S ap bp = decide (ap = bp) := by
  unfold F_l_eqInt64S
  by_cases hl : ap.length = bp.length
  · rw [decide_eq_true (by omega)]
    have e : Int.toNat ((ap.length : Int) - 0) = ap.length := by omega
    rw [e]
    exact eqI_key ap bp hl ap.length 0 (by omega) (by omega) fun j hj => by omega
  · rw [decide_eq_false (by omega)]
    have : ¬ ap = bp := fun h' => hl (by rw [h'])
    rw [decide_eq_false this]; rfl
theorem d_l_eqInt64S (apA : Option Addr) (apN apC : Nat) (ap : List Int) (bpA : Option Addr) (bpN bpC : Nat) (bp : List Int) (w : World) (apR : RdS w 1 apA apN apC ap) (bpR : RdS w 1 bpA bpN bpC bp) :
    Calls Try.prog 17 #[.slice apA apN apC, .slice bpA bpN bpC] w (Ret fun v w' => v = .bool (decide (ap = bp)) ∧ Ext w w') := by
  have := c_l_eqInt64S apA apN apC ap bpA bpN bpC bp w apR bpR
  rwa [eqI_eq] at this
def F_l_markInt64S_L1b (ap : List Int) (rec : Int → Int → (List Int) → Int × Int × (List Int)) (k1 : Int) (i5 : Int) (a0 : List Int) : Int × Int × (List Int) :=
  bif (decide (i5 < (ap.length : Int))) then (rec (k1 + 1) (i5 + 1) (sI a0 i5 k1)) else (k1, i5, a0)
def F_l_markInt64S_L1 (ap : List Int) : Nat → Int → Int → (List Int) → Int × Int × (List Int)
  | 0, k1, i5, a0 => (k1, i5, a0)
  | r + 1, k1, i5, a0 => F_l_markInt64S_L1b ap (F_l_markInt64S_L1 ap r) k1 i5 a0
def F_l_markInt64S (ap : List Int) (kp : Int) : Int × List Int :=
  ((F_l_markInt64S_L1 ap (Int.toNat ((ap.length : Int) - 0) + 1) kp 0 ap).1, (F_l_markInt64S_L1 ap (Int.toNat ((ap.length : Int) - 0) + 1) kp 0 ap).2.2)
theorem cf_l_markInt64S (args : Array Value) (w : World) : (callFunc 18 args).run Try.prog w = .ok (.enter 18 args) w := by kernel_rfl
set_option maxRecDepth 100000 in
theorem c_l_markInt64S (apA : Option Addr) (apN apC : Nat) (ap : List Int) (kp : Int) (w : World) (w0v : World) (Γ0 : List Ent) (hS0 : St w0v w (.own 2 1 apA apN apC ap :: Γ0)) (h0 : 0 ≤ kp) (h1 : kp ≤ 1000000000) (hl : ap.length ≤ 4194304) :
    Calls Try.prog 18 #[.slice apA apN apC, .int .i64 kp] w (Ret fun v w' => v = .int .i64 ((F_l_markInt64S ap kp).1) ∧ St w0v w' (.own 2 1 apA apN apC ((F_l_markInt64S ap kp).2) :: Γ0)) := by
  obtain rfl : apN = ap.length := (St.rdO (i := 0) hS0 rfl).len1.symm
  have apLe := (St.rdO (i := 0) hS0 rfl).le
  refine enter (args := [.slice apA ap.length apC, .int .i64 kp]) Try.func18 rfl rfl ?_
  rw [Try.ntmps18]; intro a hE
  have hE := hE.sub (L' := [(0, .slice apA ap.length apC), (1, .int .i64 kp)]) ⟨rfl, rfl, trivial⟩
  refine c_seq ?_
  refine c_reg ?_
  refine q_step (v := .int .i64 0) hE (y_assign rfl) rfl rfl rfl ?_; intro a1 hE2; clear hE
  refine c_nil ?_
  have hE3 := hE2.sub (L' := [(0, .slice apA ap.length apC), (1, .int .i64 kp)]) ⟨rfl, rfl, trivial⟩; clear hE2
  refine p_tn ?_
  refine c_seq ?_
  refine c_seq ?_
  refine c_reg ?_
  refine q_step (v := .int .i64 0) hE3 (y_assign rfl) rfl rfl rfl ?_; intro a4 hE5; clear hE3
  refine c_nil ?_
  have hE6 := hE5.sub (L' := [(0, .slice apA ap.length apC), (1, .int .i64 kp), (5, .int .i64 0)]) ⟨rfl, rfl, rfl, trivial⟩; clear hE5
  refine p_tn ?_
  refine c_cut1 (fun a' w' => (0 ≤ ((F_l_markInt64S_L1 ap (Int.toNat ((ap.length : Int) - 0) + 1) kp 0 ap).2.1)) ∧ (((F_l_markInt64S_L1 ap (Int.toNat ((ap.length : Int) - 0) + 1) kp 0 ap).1) = kp + ((F_l_markInt64S_L1 ap (Int.toNat ((ap.length : Int) - 0) + 1) kp 0 ap).2.1)) ∧ (((F_l_markInt64S_L1 ap (Int.toNat ((ap.length : Int) - 0) + 1) kp 0 ap).2.1) ≤ (ap.length : Int)) ∧ E a' 19 [(0, .slice apA ap.length apC), (1, .int .i64 ((F_l_markInt64S_L1 ap (Int.toNat ((ap.length : Int) - 0) + 1) kp 0 ap).1)), (5, .int .i64 ((F_l_markInt64S_L1 ap (Int.toNat ((ap.length : Int) - 0) + 1) kp 0 ap).2.1))] ∧ St w0v w' (.own 2 1 apA ap.length apC ((F_l_markInt64S_L1 ap (Int.toNat ((ap.length : Int) - 0) + 1) kp 0 ap).2.2) :: Γ0)) ?_ ?_
  ·
   refine wp_block ?_
   refine c_loop (fun r a' w' => ∃ k1 : Int, ∃ i5 : Int, ∃ a0 : List Int, F_l_markInt64S_L1 ap r k1 i5 a0 = F_l_markInt64S_L1 ap (Int.toNat ((ap.length : Int) - 0) + 1) kp 0 ap ∧ Int.toNat ((ap.length : Int) - i5) < r ∧ (0 ≤ i5) ∧ (k1 = kp + i5) ∧ (i5 ≤ (ap.length : Int)) ∧ E a' 19 [(0, .slice apA ap.length apC), (1, .int .i64 k1), (5, .int .i64 i5)] ∧ St w0v w' (.own 2 1 apA ap.length apC a0 :: Γ0)) (r := (Int.toNat ((ap.length : Int) - 0) + 1)) ?_ ?_
   · exact ⟨kp, 0, ap, rfl, Nat.lt_succ_self _, (by first | omega | (simp only [sS_len, sL_len]; omega) | (simp only [List.length_replicate, sI_len]; omega) | (simp only [List.length_append, List.length_cons, List.length_nil, sI_len, cond_true, cond_false]; omega) | (simp only [List.length_append, List.length_cons, List.length_nil, sI_len, cond_eq_ite, apply_ite List.length]; split <;> simp only [List.length_append, List.length_cons, List.length_nil, sI_len] <;> omega) | grind), (by first | omega | (simp only [sS_len, sL_len]; omega) | (simp only [List.length_replicate, sI_len]; omega) | (simp only [List.length_append, List.length_cons, List.length_nil, sI_len, cond_true, cond_false]; omega) | (simp only [List.length_append, List.length_cons, List.length_nil, sI_len, cond_eq_ite, apply_ite List.length]; split <;> simp only [List.length_append, List.length_cons, List.length_nil, sI_len] <;> omega) | grind), (by first | omega | (simp only [sS_len, sL_len]; omega) | (simp only [List.length_replicate, sI_len]; omega) | (simp only [List.length_append, List.length_cons, List.length_nil, sI_len, cond_true, cond_false]; omega) | (simp only [List.length_append, List.length_cons, List.length_nil, sI_len, cond_eq_ite, apply_ite List.length]; split <;> simp only [List.length_append, List.length_cons, List.length_nil, sI_len] <;> omega) | grind), (hE6.sub (L' := [(0, .slice apA ap.length apC), (1, .int .i64 kp), (5, .int .i64 0)]) ⟨rfl, rfl, rfl, trivial⟩), (St.pickT (Γ := [.own 2 1 apA ap.length apC ap]) (Γ' := [.own 2 1 apA ap.length apC ap]) (Γ0 := Γ0) hS0 [0] (by decide) rfl rfl)⟩
   ·
    clear hE6 hS0
    rintro r17 a8 w9 ⟨k1, i5, a0, hT12, hr13, hi14, hi15, hi16, hE10, hS11⟩
    obtain ⟨r17, rfl⟩ : ∃ r', r17 = r' + 1 := ⟨r17 - 1, by omega⟩
    refine c_seq ?_
    refine c_seq ?_
    refine c_reg ?_
    refine q_step (v := .int .i64 i5) hE10 (y_move rfl) rfl rfl rfl ?_; intro a18 hE19; clear hE10
    refine q_step (v := .slice apA ap.length apC) hE19 (y_move rfl) rfl rfl rfl ?_; intro a20 hE21; clear hE19
    refine q_step (v := .int .i64 (ap.length : Int)) hE21 (y_len (e := 2) (by kernel_rfl) rfl) rfl rfl rfl ?_; intro a22 hE23; clear hE21
    refine q_step (v := .bool (decide (i5 < (ap.length : Int)))) hE23 (y_lss rfl rfl) rfl rfl rfl ?_; intro a24 hE25; clear hE23
    refine c_nil ?_
    have hE26 := hE25.sub (L' := [(0, .slice apA ap.length apC), (1, .int .i64 k1), (5, .int .i64 i5), (9, .bool (decide (i5 < (ap.length : Int))))]) ⟨rfl, rfl, rfl, rfl, trivial⟩; clear hE25
    refine p_tn ?_
    refine c_cond hE26 rfl (fun ht27 => ?_) (fun ht27 => ?_)
    ·
     have hp28 := of_decide_eq_true ht27
     have hE29 := hE26; rw [ht27] at hE29; clear hE26
     refine wp_skip ?_
     refine p_tn ?_
     refine c_seq ?_
     refine wp_block ?_
     refine c_seq ?_
     refine c_reg ?_
     refine q_step (v := .slice apA ap.length apC) hE29 (y_move rfl) rfl rfl rfl ?_; intro a30 hE31; clear hE29
     refine q_step (v := .int .i64 i5) hE31 (y_move rfl) rfl rfl rfl ?_; intro a32 hE33; clear hE31
     refine q_step (v := .int .i64 k1) hE33 (y_move rfl) rfl rfl rfl ?_; intro a34 hE35; clear hE33
     refine q_step (v := .pointer (some (adr apA (Int.toNat i5)))) hE35 (y_idx (by kernel_rfl) (fun _ => by kernel_rfl) rfl rfl (RdS.isS (m := i5) (St.rdO (i := 0) hS11 rfl) (by omega) (by omega)) (by omega) (by omega) (Nat.mul_one _).symm) rfl rfl rfl ?_; intro a36 hE37; clear hE35
     refine l_step hE37 rfl (l_store (k := 0) hS11 hE37 (fun _ => by kernel_rfl) rfl rfl rfl (by omega) (by omega) ?_)
     intro w39 hS42 a40 hE41; clear hS11 hE37
     refine c_nil ?_
     have hE44 := hE41.sub (L' := [(0, .slice apA ap.length apC), (1, .int .i64 k1), (5, .int .i64 i5)]) ⟨rfl, rfl, rfl, trivial⟩; clear hE41
     refine p_tn ?_
     refine c_reg ?_
     refine q_step (v := .int .i64 k1) hE44 (y_move rfl) rfl rfl rfl ?_; intro a45 hE46; clear hE44
     refine q_step (v := .int .i64 (k1 + 1)) hE46 (y_add rfl rfl ⟨(by omega), (by omega)⟩) rfl rfl rfl ?_; intro a47 hE48; clear hE46
     refine q_step (v := .int .i64 (k1 + 1)) hE48 (y_assign rfl) rfl rfl rfl ?_; intro a49 hE50; clear hE48
     refine c_nil ?_
     have hE51 := hE50.sub (L' := [(0, .slice apA ap.length apC), (1, .int .i64 (k1 + 1)), (5, .int .i64 i5)]) ⟨rfl, rfl, rfl, trivial⟩; clear hE50
     refine p_bn ?_
     refine p_tn ?_
     refine c_reg ?_
     refine q_step (v := .int .i64 i5) hE51 (y_move rfl) rfl rfl rfl ?_; intro a52 hE53; clear hE51
     refine q_step (v := .int .i64 (i5 + 1)) hE53 (y_add rfl rfl ⟨(by omega), (by omega)⟩) rfl rfl rfl ?_; intro a54 hE55; clear hE53
     refine q_step (v := .int .i64 (i5 + 1)) hE55 (y_assign rfl) rfl rfl rfl ?_; intro a56 hE57; clear hE55
     refine c_nil ?_
     have hE58 := hE57.sub (L' := [(0, .slice apA ap.length apC), (1, .int .i64 (k1 + 1)), (5, .int .i64 (i5 + 1))]) ⟨rfl, rfl, rfl, trivial⟩; clear hE57
     refine p_tn ⟨r17, Nat.lt_succ_self _, k1 + 1, i5 + 1, sI a0 i5 k1, (hT12.symm.trans (show F_l_markInt64S_L1b ap (F_l_markInt64S_L1 ap r17) k1 i5 a0 = F_l_markInt64S_L1 ap r17 (k1 + 1) (i5 + 1) (sI a0 i5 k1) by unfold F_l_markInt64S_L1b; rw [ht27]; first | done | rfl)).symm, (by omega), (by first | omega | (simp only [sS_len, sL_len]; omega) | (simp only [List.length_replicate, sI_len]; omega) | (simp only [List.length_append, List.length_cons, List.length_nil, sI_len, cond_true, cond_false]; omega) | (simp only [List.length_append, List.length_cons, List.length_nil, sI_len, cond_eq_ite, apply_ite List.length]; split <;> simp only [List.length_append, List.length_cons, List.length_nil, sI_len] <;> omega) | grind), (by first | omega | (simp only [sS_len, sL_len]; omega) | (simp only [List.length_replicate, sI_len]; omega) | (simp only [List.length_append, List.length_cons, List.length_nil, sI_len, cond_true, cond_false]; omega) | (simp only [List.length_append, List.length_cons, List.length_nil, sI_len, cond_eq_ite, apply_ite List.length]; split <;> simp only [List.length_append, List.length_cons, List.length_nil, sI_len] <;> omega) | grind), (by first | omega | (simp only [sS_len, sL_len]; omega) | (simp only [List.length_replicate, sI_len]; omega) | (simp only [List.length_append, List.length_cons, List.length_nil, sI_len, cond_true, cond_false]; omega) | (simp only [List.length_append, List.length_cons, List.length_nil, sI_len, cond_eq_ite, apply_ite List.length]; split <;> simp only [List.length_append, List.length_cons, List.length_nil, sI_len] <;> omega) | grind), (hE58.sub (L' := [(0, .slice apA ap.length apC), (1, .int .i64 (k1 + 1)), (5, .int .i64 (i5 + 1))]) ⟨rfl, rfl, rfl, trivial⟩), (St.pickT (Γ := [.own 2 1 apA ap.length apC (sI a0 i5 k1)]) (Γ' := [.own 2 1 apA ap.length apC (sI a0 i5 k1)]) (Γ0 := Γ0) hS42 [0] (by decide) rfl rfl)⟩
    ·
     have hp59 := of_decide_eq_false ht27
     have hE60 := hE26; rw [ht27] at hE60; clear hE26
     refine wp_exit ?_
     refine p_te ?_
     have hX61 : F_l_markInt64S_L1 ap (Int.toNat ((ap.length : Int) - 0) + 1) kp 0 ap = (k1, i5, a0) := hT12.symm.trans (show F_l_markInt64S_L1b ap (F_l_markInt64S_L1 ap r17) k1 i5 a0 = (k1, i5, a0) by unfold F_l_markInt64S_L1b; rw [ht27]; first | done | rfl)
     refine p_te (p_be (p_tn ?_))
     exact ⟨(by rw [hX61]; exact (show 0 ≤ i5 from (by first | omega | (simp only [sS_len, sL_len]; omega) | (simp only [List.length_replicate, sI_len]; omega) | (simp only [List.length_append, List.length_cons, List.length_nil, sI_len, cond_true, cond_false]; omega) | (simp only [List.length_append, List.length_cons, List.length_nil, sI_len, cond_eq_ite, apply_ite List.length]; split <;> simp only [List.length_append, List.length_cons, List.length_nil, sI_len] <;> omega) | grind))), (by rw [hX61]; exact (show k1 = kp + i5 from (by first | omega | (simp only [sS_len, sL_len]; omega) | (simp only [List.length_replicate, sI_len]; omega) | (simp only [List.length_append, List.length_cons, List.length_nil, sI_len, cond_true, cond_false]; omega) | (simp only [List.length_append, List.length_cons, List.length_nil, sI_len, cond_eq_ite, apply_ite List.length]; split <;> simp only [List.length_append, List.length_cons, List.length_nil, sI_len] <;> omega) | grind))), (by rw [hX61]; exact (show i5 ≤ (ap.length : Int) from (by first | omega | (simp only [sS_len, sL_len]; omega) | (simp only [List.length_replicate, sI_len]; omega) | (simp only [List.length_append, List.length_cons, List.length_nil, sI_len, cond_true, cond_false]; omega) | (simp only [List.length_append, List.length_cons, List.length_nil, sI_len, cond_eq_ite, apply_ite List.length]; split <;> simp only [List.length_append, List.length_cons, List.length_nil, sI_len] <;> omega) | grind))), (by rw [hX61]; exact (hE60.sub (L' := [(0, .slice apA ap.length apC), (1, .int .i64 k1), (5, .int .i64 i5)]) ⟨rfl, rfl, rfl, trivial⟩)), (by rw [hX61]; exact (St.pickT (Γ := [.own 2 1 apA ap.length apC a0]) (Γ' := [.own 2 1 apA ap.length apC a0]) (Γ0 := Γ0) hS11 [0] (by decide) rfl rfl))⟩
  ·
   rintro a62 w63 ⟨hi67, hi68, hi69, hE64, hS65⟩; clear hE6 hS0
   refine p_tn ?_
   refine c_seq ?_
   refine c_reg ?_
   refine q_step (v := .int .i64 ((F_l_markInt64S_L1 ap (Int.toNat ((ap.length : Int) - 0) + 1) kp 0 ap).1)) hE64 (y_move rfl) rfl rfl rfl ?_; intro a70 hE71; clear hE64
   refine q_step (v := .int .i64 ((F_l_markInt64S_L1 ap (Int.toNat ((ap.length : Int) - 0) + 1) kp 0 ap).1)) hE71 (y_assign rfl) rfl rfl rfl ?_; intro a72 hE73; clear hE71
   refine c_nil ?_
   have hE74 := hE73.sub (L' := [(4, .int .i64 ((F_l_markInt64S_L1 ap (Int.toNat ((ap.length : Int) - 0) + 1) kp 0 ap).1))]) ⟨rfl, trivial⟩; clear hE73
   refine p_tn ?_
   refine wp_ret ?_
   have hF : F_l_markInt64S ap kp = ((F_l_markInt64S_L1 ap (Int.toNat ((ap.length : Int) - 0) + 1) kp 0 ap).1, (F_l_markInt64S_L1 ap (Int.toNat ((ap.length : Int) - 0) + 1) kp 0 ap).2.2) := by unfold F_l_markInt64S; rfl
   refine c_ret1 hE74 rfl rfl ?_
   have hS9 := (St.pickT (Γ := [.own 2 1 apA ap.length apC ((F_l_markInt64S_L1 ap (Int.toNat ((ap.length : Int) - 0) + 1) kp 0 ap).2.2)]) (Γ' := [.own 2 1 apA ap.length apC ((F_l_markInt64S_L1 ap (Int.toNat ((ap.length : Int) - 0) + 1) kp 0 ap).2.2)]) (Γ0 := Γ0) hS65 [0] (by decide) rfl rfl)
   exact ⟨(by rw [hF]), (by rw [hF]; (try dsimp only); exact hS9)⟩
def F_l_heldInt64S_L1b (ap : List Int) (rec : Int → Int → Except (Int) (Int × Int)) (k1 : Int) (i5 : Int) : Except (Int) (Int × Int) :=
  bif (decide (i5 < (ap.length : Int))) then (bif (!decide ((gI ap i5) = k1)) then (.error (-1)) else (rec (k1 + 1) (i5 + 1))) else (.ok (k1, i5))
def F_l_heldInt64S_L1 (ap : List Int) : Nat → Int → Int → Except (Int) (Int × Int)
  | 0, k1, i5 => .ok (k1, i5)
  | r + 1, k1, i5 => F_l_heldInt64S_L1b ap (F_l_heldInt64S_L1 ap r) k1 i5
def F_l_heldInt64S (ap : List Int) (kp : Int) : Int :=
  bif (isOk (F_l_heldInt64S_L1 ap (Int.toNat ((ap.length : Int) - 0) + 1) kp 0)) then ((okD (F_l_heldInt64S_L1 ap (Int.toNat ((ap.length : Int) - 0) + 1) kp 0)).1) else (errD (F_l_heldInt64S_L1 ap (Int.toNat ((ap.length : Int) - 0) + 1) kp 0))
theorem cf_l_heldInt64S (args : Array Value) (w : World) : (callFunc 19 args).run Try.prog w = .ok (.enter 19 args) w := by kernel_rfl
set_option maxRecDepth 100000 in
theorem c_l_heldInt64S (apA : Option Addr) (apN apC : Nat) (ap : List Int) (kp : Int) (w : World) (apR : RdS w 1 apA apN apC ap) (h0 : 0 ≤ kp) (h1 : kp ≤ 1000000000) (hl : ap.length ≤ 4194304) :
    Calls Try.prog 19 #[.slice apA apN apC, .int .i64 kp] w (Ret fun v w' => v = .int .i64 (F_l_heldInt64S ap kp) ∧ Ext w w') := by
  obtain rfl : apN = ap.length := apR.len1.symm
  have apLe := apR.le
  have hS := St.nil w
  have hS1 := St.rd0 hS rfl apR; clear hS
  refine enter (args := [.slice apA ap.length apC, .int .i64 kp]) Try.func19 rfl rfl ?_
  rw [Try.ntmps19]; intro a hE
  have hE := hE.sub (L' := [(0, .slice apA ap.length apC), (1, .int .i64 kp)]) ⟨rfl, rfl, trivial⟩
  refine c_seq ?_
  refine c_reg ?_
  refine q_step (v := .int .i64 0) hE (y_assign rfl) rfl rfl rfl ?_; intro a2 hE3; clear hE
  refine c_nil ?_
  have hE4 := hE3.sub (L' := [(0, .slice apA ap.length apC), (1, .int .i64 kp)]) ⟨rfl, rfl, trivial⟩; clear hE3
  refine p_tn ?_
  refine c_seq ?_
  refine c_seq ?_
  refine c_reg ?_
  refine q_step (v := .int .i64 0) hE4 (y_assign rfl) rfl rfl rfl ?_; intro a5 hE6; clear hE4
  refine c_nil ?_
  have hE7 := hE6.sub (L' := [(0, .slice apA ap.length apC), (1, .int .i64 kp), (5, .int .i64 0)]) ⟨rfl, rfl, rfl, trivial⟩; clear hE6
  refine p_tn ?_
  refine c_cut1 (fun a' w' => isOk (F_l_heldInt64S_L1 ap (Int.toNat ((ap.length : Int) - 0) + 1) kp 0) = true ∧ (0 ≤ ((okD (F_l_heldInt64S_L1 ap (Int.toNat ((ap.length : Int) - 0) + 1) kp 0)).2)) ∧ (((okD (F_l_heldInt64S_L1 ap (Int.toNat ((ap.length : Int) - 0) + 1) kp 0)).1) = kp + ((okD (F_l_heldInt64S_L1 ap (Int.toNat ((ap.length : Int) - 0) + 1) kp 0)).2)) ∧ (((okD (F_l_heldInt64S_L1 ap (Int.toNat ((ap.length : Int) - 0) + 1) kp 0)).2) ≤ (ap.length : Int)) ∧ E a' 21 [(0, .slice apA ap.length apC), (1, .int .i64 ((okD (F_l_heldInt64S_L1 ap (Int.toNat ((ap.length : Int) - 0) + 1) kp 0)).1)), (5, .int .i64 ((okD (F_l_heldInt64S_L1 ap (Int.toNat ((ap.length : Int) - 0) + 1) kp 0)).2))] ∧ St w w' [.rd 1 apA ap.length apC ap]) ?_ ?_
  ·
   refine wp_block ?_
   refine c_loop (fun r a' w' => ∃ k1 : Int, ∃ i5 : Int, F_l_heldInt64S_L1 ap r k1 i5 = F_l_heldInt64S_L1 ap (Int.toNat ((ap.length : Int) - 0) + 1) kp 0 ∧ Int.toNat ((ap.length : Int) - i5) < r ∧ (0 ≤ i5) ∧ (k1 = kp + i5) ∧ (i5 ≤ (ap.length : Int)) ∧ E a' 21 [(0, .slice apA ap.length apC), (1, .int .i64 k1), (5, .int .i64 i5)] ∧ St w w' [.rd 1 apA ap.length apC ap]) (r := (Int.toNat ((ap.length : Int) - 0) + 1)) ?_ ?_
   · exact ⟨kp, 0, rfl, Nat.lt_succ_self _, (by first | omega | (simp only [sS_len, sL_len]; omega) | (simp only [List.length_replicate, sI_len]; omega) | (simp only [List.length_append, List.length_cons, List.length_nil, sI_len, cond_true, cond_false]; omega) | (simp only [List.length_append, List.length_cons, List.length_nil, sI_len, cond_eq_ite, apply_ite List.length]; split <;> simp only [List.length_append, List.length_cons, List.length_nil, sI_len] <;> omega) | grind), (by first | omega | (simp only [sS_len, sL_len]; omega) | (simp only [List.length_replicate, sI_len]; omega) | (simp only [List.length_append, List.length_cons, List.length_nil, sI_len, cond_true, cond_false]; omega) | (simp only [List.length_append, List.length_cons, List.length_nil, sI_len, cond_eq_ite, apply_ite List.length]; split <;> simp only [List.length_append, List.length_cons, List.length_nil, sI_len] <;> omega) | grind), (by first | omega | (simp only [sS_len, sL_len]; omega) | (simp only [List.length_replicate, sI_len]; omega) | (simp only [List.length_append, List.length_cons, List.length_nil, sI_len, cond_true, cond_false]; omega) | (simp only [List.length_append, List.length_cons, List.length_nil, sI_len, cond_eq_ite, apply_ite List.length]; split <;> simp only [List.length_append, List.length_cons, List.length_nil, sI_len] <;> omega) | grind), (hE7.sub (L' := [(0, .slice apA ap.length apC), (1, .int .i64 kp), (5, .int .i64 0)]) ⟨rfl, rfl, rfl, trivial⟩), (St.pick (Γ' := [.rd 1 apA ap.length apC ap]) hS1 [0] (by decide) rfl)⟩
   ·
    clear hE7 hS1
    rintro r18 a9 w10 ⟨k1, i5, hT13, hr14, hi15, hi16, hi17, hE11, hS12⟩
    obtain ⟨r18, rfl⟩ : ∃ r', r18 = r' + 1 := ⟨r18 - 1, by omega⟩
    refine c_seq ?_
    refine c_seq ?_
    refine c_reg ?_
    refine q_step (v := .int .i64 i5) hE11 (y_move rfl) rfl rfl rfl ?_; intro a19 hE20; clear hE11
    refine q_step (v := .slice apA ap.length apC) hE20 (y_move rfl) rfl rfl rfl ?_; intro a21 hE22; clear hE20
    refine q_step (v := .int .i64 (ap.length : Int)) hE22 (y_len (e := 2) (by kernel_rfl) rfl) rfl rfl rfl ?_; intro a23 hE24; clear hE22
    refine q_step (v := .bool (decide (i5 < (ap.length : Int)))) hE24 (y_lss rfl rfl) rfl rfl rfl ?_; intro a25 hE26; clear hE24
    refine c_nil ?_
    have hE27 := hE26.sub (L' := [(0, .slice apA ap.length apC), (1, .int .i64 k1), (5, .int .i64 i5), (9, .bool (decide (i5 < (ap.length : Int))))]) ⟨rfl, rfl, rfl, rfl, trivial⟩; clear hE26
    refine p_tn ?_
    refine c_cond hE27 rfl (fun ht28 => ?_) (fun ht28 => ?_)
    ·
     have hp29 := of_decide_eq_true ht28
     have hE30 := hE27; rw [ht28] at hE30; clear hE27
     refine wp_skip ?_
     refine p_tn ?_
     refine c_seq ?_
     refine wp_block ?_
     refine c_seq ?_
     refine c_seq ?_
     refine c_reg ?_
     refine q_step (v := .slice apA ap.length apC) hE30 (y_move rfl) rfl rfl rfl ?_; intro a31 hE32; clear hE30
     refine q_step (v := .int .i64 i5) hE32 (y_move rfl) rfl rfl rfl ?_; intro a33 hE34; clear hE32
     refine q_step (v := .pointer (some (adr apA (Int.toNat i5)))) hE34 (y_idx (by kernel_rfl) (fun _ => by kernel_rfl) rfl rfl (RdS.isS (m := i5) (St.rdR (i := 0) hS12 rfl) (by omega) (by omega)) (by omega) (by omega) (Nat.mul_one _).symm) rfl rfl rfl ?_; intro a35 hE36; clear hE34
     refine q_step (v := .int .i64 (gI ap i5)) hE36 (y_load (fun _ => by kernel_rfl) rfl (RdS.elt (St.rdR (i := 0) hS12 rfl) (by omega) (by omega))) rfl rfl rfl ?_; intro a37 hE38; clear hE36
     refine q_step (v := .int .i64 k1) hE38 (y_move rfl) rfl rfl rfl ?_; intro a39 hE40; clear hE38
     refine q_step (v := .bool (!decide ((gI ap i5) = k1))) hE40 (y_neq rfl rfl) rfl rfl rfl ?_; intro a41 hE42; clear hE40
     refine c_nil ?_
     have hE43 := hE42.sub (L' := [(0, .slice apA ap.length apC), (1, .int .i64 k1), (5, .int .i64 i5), (17, .bool (!decide ((gI ap i5) = k1)))]) ⟨rfl, rfl, rfl, rfl, trivial⟩; clear hE42
     refine p_tn ?_
     refine c_cond hE43 rfl (fun ht44 => ?_) (fun ht44 => ?_)
     ·
      have ht45 := bn_t ht44
      have hp46 := of_decide_eq_false ht45
      have hE47 := hE43; rw [ht44] at hE47; clear hE43
      refine c_seq ?_
      refine c_reg ?_
      refine q_step (v := .int .i64 (-1)) hE47 (y_assign rfl) rfl rfl rfl ?_; intro a48 hE49; clear hE47
      refine c_nil ?_
      have hE50 := hE49.sub (L' := [(4, .int .i64 (-1))]) ⟨rfl, trivial⟩; clear hE49
      refine p_tn ?_
      refine wp_ret ?_
      refine p_tr ?_
      refine p_br ?_
      refine p_tr ?_
      have hX51 : F_l_heldInt64S_L1 ap (Int.toNat ((ap.length : Int) - 0) + 1) kp 0 = .error (-1) := hT13.symm.trans (show F_l_heldInt64S_L1b ap (F_l_heldInt64S_L1 ap r18) k1 i5 = .error (-1) by unfold F_l_heldInt64S_L1b; rw [ht44, ht28]; first | done | rfl)
      refine p_tr (p_br (p_tr ?_))
      refine p_tr ?_
      have hF : F_l_heldInt64S ap kp = -1 := by unfold F_l_heldInt64S; rw [hX51]; first | done | rfl
      refine c_ret1 hE50 rfl rfl ?_
      exact ⟨(by rw [hF]; first | done | (dsimp only; done) | rfl), hS12.ext⟩
     ·
      have ht52 := bn_f ht44
      have hp53 := of_decide_eq_true ht52
      have hE54 := hE43; rw [ht44] at hE54; clear hE43
      refine wp_skip ?_
      refine p_tn ?_
      refine c_reg ?_
      refine q_step (v := .int .i64 k1) hE54 (y_move rfl) rfl rfl rfl ?_; intro a55 hE56; clear hE54
      refine q_step (v := .int .i64 (k1 + 1)) hE56 (y_add rfl rfl ⟨(by omega), (by omega)⟩) rfl rfl rfl ?_; intro a57 hE58; clear hE56
      refine q_step (v := .int .i64 (k1 + 1)) hE58 (y_assign rfl) rfl rfl rfl ?_; intro a59 hE60; clear hE58
      refine c_nil ?_
      have hE61 := hE60.sub (L' := [(0, .slice apA ap.length apC), (1, .int .i64 (k1 + 1)), (5, .int .i64 i5)]) ⟨rfl, rfl, rfl, trivial⟩; clear hE60
      refine p_bn ?_
      refine p_tn ?_
      refine c_reg ?_
      refine q_step (v := .int .i64 i5) hE61 (y_move rfl) rfl rfl rfl ?_; intro a62 hE63; clear hE61
      refine q_step (v := .int .i64 (i5 + 1)) hE63 (y_add rfl rfl ⟨(by omega), (by omega)⟩) rfl rfl rfl ?_; intro a64 hE65; clear hE63
      refine q_step (v := .int .i64 (i5 + 1)) hE65 (y_assign rfl) rfl rfl rfl ?_; intro a66 hE67; clear hE65
      refine c_nil ?_
      have hE68 := hE67.sub (L' := [(0, .slice apA ap.length apC), (1, .int .i64 (k1 + 1)), (5, .int .i64 (i5 + 1))]) ⟨rfl, rfl, rfl, trivial⟩; clear hE67
      refine p_tn ⟨r18, Nat.lt_succ_self _, k1 + 1, i5 + 1, (hT13.symm.trans (show F_l_heldInt64S_L1b ap (F_l_heldInt64S_L1 ap r18) k1 i5 = F_l_heldInt64S_L1 ap r18 (k1 + 1) (i5 + 1) by unfold F_l_heldInt64S_L1b; rw [ht44, ht28]; first | done | rfl)).symm, (by omega), (by first | omega | (simp only [sS_len, sL_len]; omega) | (simp only [List.length_replicate, sI_len]; omega) | (simp only [List.length_append, List.length_cons, List.length_nil, sI_len, cond_true, cond_false]; omega) | (simp only [List.length_append, List.length_cons, List.length_nil, sI_len, cond_eq_ite, apply_ite List.length]; split <;> simp only [List.length_append, List.length_cons, List.length_nil, sI_len] <;> omega) | grind), (by first | omega | (simp only [sS_len, sL_len]; omega) | (simp only [List.length_replicate, sI_len]; omega) | (simp only [List.length_append, List.length_cons, List.length_nil, sI_len, cond_true, cond_false]; omega) | (simp only [List.length_append, List.length_cons, List.length_nil, sI_len, cond_eq_ite, apply_ite List.length]; split <;> simp only [List.length_append, List.length_cons, List.length_nil, sI_len] <;> omega) | grind), (by first | omega | (simp only [sS_len, sL_len]; omega) | (simp only [List.length_replicate, sI_len]; omega) | (simp only [List.length_append, List.length_cons, List.length_nil, sI_len, cond_true, cond_false]; omega) | (simp only [List.length_append, List.length_cons, List.length_nil, sI_len, cond_eq_ite, apply_ite List.length]; split <;> simp only [List.length_append, List.length_cons, List.length_nil, sI_len] <;> omega) | grind), (hE68.sub (L' := [(0, .slice apA ap.length apC), (1, .int .i64 (k1 + 1)), (5, .int .i64 (i5 + 1))]) ⟨rfl, rfl, rfl, trivial⟩), (St.pick (Γ' := [.rd 1 apA ap.length apC ap]) hS12 [0] (by decide) rfl)⟩
    ·
     have hp69 := of_decide_eq_false ht28
     have hE70 := hE27; rw [ht28] at hE70; clear hE27
     refine wp_exit ?_
     refine p_te ?_
     have hX71 : F_l_heldInt64S_L1 ap (Int.toNat ((ap.length : Int) - 0) + 1) kp 0 = .ok (k1, i5) := hT13.symm.trans (show F_l_heldInt64S_L1b ap (F_l_heldInt64S_L1 ap r18) k1 i5 = .ok (k1, i5) by unfold F_l_heldInt64S_L1b; rw [ht28]; first | done | rfl)
     refine p_te (p_be (p_tn ?_))
     exact ⟨(by rw [hX71]; rfl), (by rw [hX71]; exact (show 0 ≤ i5 from (by first | omega | (simp only [sS_len, sL_len]; omega) | (simp only [List.length_replicate, sI_len]; omega) | (simp only [List.length_append, List.length_cons, List.length_nil, sI_len, cond_true, cond_false]; omega) | (simp only [List.length_append, List.length_cons, List.length_nil, sI_len, cond_eq_ite, apply_ite List.length]; split <;> simp only [List.length_append, List.length_cons, List.length_nil, sI_len] <;> omega) | grind))), (by rw [hX71]; exact (show k1 = kp + i5 from (by first | omega | (simp only [sS_len, sL_len]; omega) | (simp only [List.length_replicate, sI_len]; omega) | (simp only [List.length_append, List.length_cons, List.length_nil, sI_len, cond_true, cond_false]; omega) | (simp only [List.length_append, List.length_cons, List.length_nil, sI_len, cond_eq_ite, apply_ite List.length]; split <;> simp only [List.length_append, List.length_cons, List.length_nil, sI_len] <;> omega) | grind))), (by rw [hX71]; exact (show i5 ≤ (ap.length : Int) from (by first | omega | (simp only [sS_len, sL_len]; omega) | (simp only [List.length_replicate, sI_len]; omega) | (simp only [List.length_append, List.length_cons, List.length_nil, sI_len, cond_true, cond_false]; omega) | (simp only [List.length_append, List.length_cons, List.length_nil, sI_len, cond_eq_ite, apply_ite List.length]; split <;> simp only [List.length_append, List.length_cons, List.length_nil, sI_len] <;> omega) | grind))), (by rw [hX71]; exact (hE70.sub (L' := [(0, .slice apA ap.length apC), (1, .int .i64 k1), (5, .int .i64 i5)]) ⟨rfl, rfl, rfl, trivial⟩)), (St.pick (Γ' := [.rd 1 apA ap.length apC ap]) hS12 [0] (by decide) rfl)⟩
  ·
   rintro a72 w73 ⟨hO76, hi77, hi78, hi79, hE74, hS75⟩; clear hE7 hS1
   refine p_tn ?_
   refine c_seq ?_
   refine c_reg ?_
   refine q_step (v := .int .i64 ((okD (F_l_heldInt64S_L1 ap (Int.toNat ((ap.length : Int) - 0) + 1) kp 0)).1)) hE74 (y_move rfl) rfl rfl rfl ?_; intro a80 hE81; clear hE74
   refine q_step (v := .int .i64 ((okD (F_l_heldInt64S_L1 ap (Int.toNat ((ap.length : Int) - 0) + 1) kp 0)).1)) hE81 (y_assign rfl) rfl rfl rfl ?_; intro a82 hE83; clear hE81
   refine c_nil ?_
   have hE84 := hE83.sub (L' := [(4, .int .i64 ((okD (F_l_heldInt64S_L1 ap (Int.toNat ((ap.length : Int) - 0) + 1) kp 0)).1))]) ⟨rfl, trivial⟩; clear hE83
   refine p_tn ?_
   refine wp_ret ?_
   have hF : F_l_heldInt64S ap kp = (okD (F_l_heldInt64S_L1 ap (Int.toNat ((ap.length : Int) - 0) + 1) kp 0)).1 := by unfold F_l_heldInt64S; rw [hO76]; first | done | rfl
   refine c_ret1 hE84 rfl rfl ?_
   exact ⟨(by rw [hF]; first | done | (dsimp only; done) | rfl), hS75.ext⟩
/-- The numbers from s on. -/
def marked (n : Nat) (s : Int) : List Int := (List.range n).map fun (j : Nat) => s + (j : Int)
theorem marked_len (n : Nat) (s : Int) : (marked n s).length = n := by simp [marked]
theorem gi_marked {n : Nat} {s : Int} {k : Nat} (h : k < n) : gi (marked n s) k = s + k := by
  rw [gi_get (by simpa [marked] using h)]; simp [marked]
theorem markI_key (ap : List Int) (kp : Int) : ∀ (k : Nat) (k1 i : Int) (xs : List Int), 0 ≤ i → (ap.length : Int) - i = k → xs.length = ap.length → k1 = kp + i → (∀ j : Nat, (j : Int) < i → gi xs j = kp + j) →
    ∃ i', F_l_markInt64S_L1 ap (k + 1) k1 i xs = (kp + ap.length, i', marked ap.length kp) := by
  intro k
  induction k with
  | zero =>
    intro k1 i xs h0 hk hl h1 hp
    refine ⟨i, ?_⟩
    show F_l_markInt64S_L1b ap _ k1 i xs = _
    unfold F_l_markInt64S_L1b
    rw [decide_eq_false (by omega)]
    have : xs = marked ap.length kp := ext_gi (by rw [marked_len, hl]) fun j hj => by rw [gi_marked (by omega)]; exact hp j (by omega)
    rw [← this, show k1 = kp + ap.length by omega]; rfl
  | succ k ih =>
    intro k1 i xs h0 hk hl h1 hp
    obtain ⟨i', h'⟩ := ih (k1 + 1) (i + 1) (sI xs i k1) (by omega) (by omega) (by rw [sI_len]; exact hl) (by omega) fun j hj => by
      unfold sI
      rw [gi_set (by omega)]
      by_cases e : i.toNat = j
      · rw [if_pos e]; omega
      · rw [if_neg e]; exact hp j (by omega)
    refine ⟨i', ?_⟩
    show F_l_markInt64S_L1b ap _ k1 i xs = _
    unfold F_l_markInt64S_L1b
    rw [decide_eq_true (by omega)]
    exact h'
theorem markI_eq (ap : List Int) (kp : Int) : F_l_markInt64S ap kp = (kp + ap.length, marked ap.length kp) := by
  unfold F_l_markInt64S
  have e : Int.toNat ((ap.length : Int) - 0) = ap.length := by omega
  rw [e]
  obtain ⟨i', h⟩ := markI_key ap kp ap.length kp 0 ap (by omega) (by omega) rfl (by omega) fun j hj => by omega
  rw [h]
theorem d_l_markInt64S (apA : Option Addr) (apN apC : Nat) (ap : List Int) (kp : Int) (w : World) (w0v : World) (Γ0 : List Ent) (hS0 : St w0v w (.own 2 1 apA apN apC ap :: Γ0)) (h0 : 0 ≤ kp) (h1 : kp ≤ 1000000000) (hl : ap.length ≤ 4194304) :
    Calls Try.prog 18 #[.slice apA apN apC, .int .i64 kp] w (Ret fun v w' => v = .int .i64 (kp + ap.length) ∧ St w0v w' (.own 2 1 apA apN apC (marked ap.length kp) :: Γ0)) := by
  have := c_l_markInt64S apA apN apC ap kp w w0v Γ0 hS0 h0 h1 hl
  rwa [markI_eq] at this
theorem heldI_key (n : Nat) (kp : Int) : ∀ (k : Nat) (k1 i : Int), 0 ≤ i → (n : Int) - i = k → k1 = kp + i →
    ∃ i', F_l_heldInt64S_L1 (marked n kp) (k + 1) k1 i = .ok (kp + n, i') := by
  intro k
  induction k with
  | zero =>
    intro k1 i h0 hk h1
    refine ⟨i, ?_⟩
    show F_l_heldInt64S_L1b _ _ k1 i = _
    unfold F_l_heldInt64S_L1b
    rw [marked_len, decide_eq_false (by omega), show k1 = kp + n by omega]; rfl
  | succ k ih =>
    intro k1 i h0 hk h1
    obtain ⟨i', h'⟩ := ih (k1 + 1) (i + 1) (by omega) (by omega) (by omega)
    refine ⟨i', ?_⟩
    show F_l_heldInt64S_L1b _ _ k1 i = _
    unfold F_l_heldInt64S_L1b
    have hg : gI (marked n kp) i = k1 := by unfold gI; rw [gi_marked (by omega)]; omega
    rw [marked_len, decide_eq_true (by omega), decide_eq_true hg]
    exact h'
theorem heldI_eq (n : Nat) (kp : Int) : F_l_heldInt64S (marked n kp) kp = kp + n := by
  unfold F_l_heldInt64S
  have e : Int.toNat (((marked n kp).length : Int) - 0) = n := by rw [marked_len]; omega
  rw [e]
  obtain ⟨i', h⟩ := heldI_key n kp n kp 0 (by omega) (by omega) (by omega)
  rw [h]; rfl
theorem held_key (ap : List Int) (kp : Int) (hk : 0 ≤ kp) : ∀ (r : Nat) (k1 i : Int), 0 ≤ i → i ≤ (ap.length : Int) → k1 = kp + i →
    (bif isOk (F_l_heldInt64S_L1 ap r k1 i) then (okD (F_l_heldInt64S_L1 ap r k1 i)).1 else errD (F_l_heldInt64S_L1 ap r k1 i)) ≤ kp + ap.length := by
  intro r
  induction r with
  | zero => intro k1 i h0 h1 h2; show k1 ≤ _; omega
  | succ r ih =>
    intro k1 i h0 h1 h2
    have e : F_l_heldInt64S_L1 ap (r + 1) k1 i = bif (decide (i < (ap.length : Int))) then (bif (!decide ((gI ap i) = k1)) then (.error (-1)) else (F_l_heldInt64S_L1 ap r (k1 + 1) (i + 1))) else (.ok (k1, i)) := rfl
    rw [e]
    by_cases h : i < (ap.length : Int)
    · rw [decide_eq_true h, cond_true]
      cases (!decide ((gI ap i) = k1))
      · rw [cond_false]; exact ih (k1 + 1) (i + 1) (by omega) (by omega) (by omega)
      · show (-1 : Int) ≤ _; omega
    · rw [decide_eq_false h]; show k1 ≤ _; omega
end Go.Proofs.Ytkilkfhjfobcdaa
