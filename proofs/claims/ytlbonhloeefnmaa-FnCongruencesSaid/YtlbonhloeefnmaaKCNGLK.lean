/- GLK: models and contracts, printed by wip/gen/gen.py -/
import Derived.Test.YtlbonhloeefnmaaKCNGDR
set_option linter.unusedVariables false
set_option linter.unusedSimpArgs false
namespace Go.Proofs.Ytlbonhloeefnmaa
open Go.RowKit
def F_l_likeInts_L1b (ap : List Int) (bp : List Int) (rec : Int → Except (Bool) (Int)) (i5 : Int) : Except (Bool) (Int) :=
  bif (decide (i5 < (ap.length : Int))) then (bif (!decide ((gI ap i5) = (gI bp i5))) then (.error false) else (rec (i5 + 1))) else (.ok i5)
def F_l_likeInts_L1 (ap : List Int) (bp : List Int) : Nat → Int → Except (Bool) (Int)
  | 0, i5 => .ok i5
  | r + 1, i5 => F_l_likeInts_L1b ap bp (F_l_likeInts_L1 ap bp r) i5
def F_l_likeInts (ap : List Int) (bp : List Int) : Bool :=
  bif (!decide ((ap.length : Int) = (bp.length : Int))) then false else (bif (isOk (F_l_likeInts_L1 ap bp (Int.toNat ((ap.length : Int) - 0) + 1) 0)) then true else (errD (F_l_likeInts_L1 ap bp (Int.toNat ((ap.length : Int) - 0) + 1) 0)))
theorem cf_l_likeInts (args : Array Value) (w : World) : (callFunc 58 args).run Try.prog w = .ok (.enter 58 args) w := by kernel_rfl
set_option maxRecDepth 100000 in
theorem c_l_likeInts (apA : Option Addr) (apN apC : Nat) (ap : List Int) (bpA : Option Addr) (bpN bpC : Nat) (bp : List Int) (w : World) (apR : RdS w 1 apA apN apC ap) (bpR : RdS w 1 bpA bpN bpC bp) :
    Calls Try.prog 58 #[.slice apA apN apC, .slice bpA bpN bpC] w (Ret fun v w' => v = .bool (F_l_likeInts ap bp) ∧ Ext w w') := by
  obtain rfl : apN = ap.length := apR.len1.symm
  have apLe := apR.le
  obtain rfl : bpN = bp.length := bpR.len1.symm
  have bpLe := bpR.le
  have hS := St.nil w
  have hS1 := St.rd0 hS rfl apR; clear hS
  have hS2 := St.rd0 hS1 rfl bpR; clear hS1
  refine enter (args := [.slice apA ap.length apC, .slice bpA bp.length bpC]) Try.func58 rfl rfl ?_
  rw [Try.ntmps58]; intro a hE
  have hE := hE.sub (L' := [(0, .slice apA ap.length apC), (1, .slice bpA bp.length bpC)]) ⟨rfl, rfl, trivial⟩
  refine c_seq ?_
  refine c_reg ?_
  refine q_step (v := .bool false) hE (y_assign rfl) rfl rfl rfl ?_; intro a3 hE4; clear hE
  refine c_nil ?_
  have hE5 := hE4.sub (L' := [(0, .slice apA ap.length apC), (1, .slice bpA bp.length bpC)]) ⟨rfl, rfl, trivial⟩; clear hE4
  refine p_tn ?_
  refine c_seq ?_
  refine c_seq ?_
  refine c_reg ?_
  refine q_step (v := .slice apA ap.length apC) hE5 (y_move rfl) rfl rfl rfl ?_; intro a6 hE7; clear hE5
  refine q_step (v := .int .i64 (ap.length : Int)) hE7 (y_len (e := 2) (by kernel_rfl) rfl) rfl rfl rfl ?_; intro a8 hE9; clear hE7
  refine q_step (v := .slice bpA bp.length bpC) hE9 (y_move rfl) rfl rfl rfl ?_; intro a10 hE11; clear hE9
  refine q_step (v := .int .i64 (bp.length : Int)) hE11 (y_len (e := 2) (by kernel_rfl) rfl) rfl rfl rfl ?_; intro a12 hE13; clear hE11
  refine q_step (v := .bool (!decide ((ap.length : Int) = (bp.length : Int)))) hE13 (y_neq rfl rfl) rfl rfl rfl ?_; intro a14 hE15; clear hE13
  refine c_nil ?_
  have hE16 := hE15.sub (L' := [(0, .slice apA ap.length apC), (1, .slice bpA bp.length bpC), (10, .bool (!decide ((ap.length : Int) = (bp.length : Int))))]) ⟨rfl, rfl, rfl, trivial⟩; clear hE15
  refine p_tn ?_
  refine c_cond hE16 rfl (fun ht17 => ?_) (fun ht17 => ?_)
  ·
   have ht18 := bn_t ht17
   have hp19 := of_decide_eq_false ht18
   have hE20 := hE16; rw [ht17] at hE20; clear hE16
   refine c_seq ?_
   refine c_reg ?_
   refine q_step (v := .bool false) hE20 (y_assign rfl) rfl rfl rfl ?_; intro a21 hE22; clear hE20
   refine c_nil ?_
   have hE23 := hE22.sub (L' := [(4, .bool false)]) ⟨rfl, trivial⟩; clear hE22
   refine p_tn ?_
   refine wp_ret ?_
   refine p_tr ?_
   have hF : F_l_likeInts ap bp = false := by unfold F_l_likeInts; rw [ht17]; first | done | rfl
   refine c_ret1 hE23 rfl rfl ?_
   exact ⟨(by rw [hF]; first | done | (dsimp only; done) | rfl), hS2.ext⟩
  ·
   have ht24 := bn_f ht17
   have hp25 := of_decide_eq_true ht24
   have hE26 := hE16; rw [ht17] at hE26; clear hE16
   refine wp_skip ?_
   refine p_tn ?_
   refine c_seq ?_
   refine c_seq ?_
   refine c_reg ?_
   refine q_step (v := .int .i64 0) hE26 (y_assign rfl) rfl rfl rfl ?_; intro a27 hE28; clear hE26
   refine c_nil ?_
   have hE29 := hE28.sub (L' := [(0, .slice apA ap.length apC), (1, .slice bpA bp.length bpC), (5, .int .i64 0)]) ⟨rfl, rfl, rfl, trivial⟩; clear hE28
   refine p_tn ?_
   refine c_cut1 (fun a' w' => isOk (F_l_likeInts_L1 ap bp (Int.toNat ((ap.length : Int) - 0) + 1) 0) = true ∧ (0 ≤ (okD (F_l_likeInts_L1 ap bp (Int.toNat ((ap.length : Int) - 0) + 1) 0))) ∧ ((okD (F_l_likeInts_L1 ap bp (Int.toNat ((ap.length : Int) - 0) + 1) 0)) ≤ (ap.length : Int)) ∧ E a' 26 [(0, .slice apA ap.length apC), (1, .slice bpA bp.length bpC), (5, .int .i64 (okD (F_l_likeInts_L1 ap bp (Int.toNat ((ap.length : Int) - 0) + 1) 0)))] ∧ St w w' [.rd 1 bpA bp.length bpC bp, .rd 1 apA ap.length apC ap]) ?_ ?_
   ·
    refine wp_block ?_
    refine c_loop (fun r a' w' => ∃ i5 : Int, F_l_likeInts_L1 ap bp r i5 = F_l_likeInts_L1 ap bp (Int.toNat ((ap.length : Int) - 0) + 1) 0 ∧ Int.toNat ((ap.length : Int) - i5) < r ∧ (0 ≤ i5) ∧ (i5 ≤ (ap.length : Int)) ∧ E a' 26 [(0, .slice apA ap.length apC), (1, .slice bpA bp.length bpC), (5, .int .i64 i5)] ∧ St w w' [.rd 1 bpA bp.length bpC bp, .rd 1 apA ap.length apC ap]) (r := (Int.toNat ((ap.length : Int) - 0) + 1)) ?_ ?_
    · exact ⟨0, rfl, Nat.lt_succ_self _, (by first | omega | (simp only [sS_len, sL_len]; omega) | (simp only [List.length_replicate, sI_len]; omega) | (simp only [List.length_append, List.length_cons, List.length_nil, sI_len, cond_true, cond_false]; omega) | (simp only [List.length_append, List.length_cons, List.length_nil, sI_len, cond_eq_ite, apply_ite List.length]; split <;> simp only [List.length_append, List.length_cons, List.length_nil, sI_len] <;> omega) | grind), (by first | omega | (simp only [sS_len, sL_len]; omega) | (simp only [List.length_replicate, sI_len]; omega) | (simp only [List.length_append, List.length_cons, List.length_nil, sI_len, cond_true, cond_false]; omega) | (simp only [List.length_append, List.length_cons, List.length_nil, sI_len, cond_eq_ite, apply_ite List.length]; split <;> simp only [List.length_append, List.length_cons, List.length_nil, sI_len] <;> omega) | grind), (hE29.sub (L' := [(0, .slice apA ap.length apC), (1, .slice bpA bp.length bpC), (5, .int .i64 0)]) ⟨rfl, rfl, rfl, trivial⟩), (St.pick (Γ' := [.rd 1 bpA bp.length bpC bp, .rd 1 apA ap.length apC ap]) hS2 [0, 1] (by decide) rfl)⟩
    ·
     clear hE29 hS2
     rintro r39 a31 w32 ⟨i5, hT35, hr36, hi37, hi38, hE33, hS34⟩
     obtain ⟨r39, rfl⟩ : ∃ r', r39 = r' + 1 := ⟨r39 - 1, by omega⟩
     refine c_seq ?_
     refine c_seq ?_
     refine c_reg ?_
     refine q_step (v := .int .i64 i5) hE33 (y_move rfl) rfl rfl rfl ?_; intro a40 hE41; clear hE33
     refine q_step (v := .slice apA ap.length apC) hE41 (y_move rfl) rfl rfl rfl ?_; intro a42 hE43; clear hE41
     refine q_step (v := .int .i64 (ap.length : Int)) hE43 (y_len (e := 2) (by kernel_rfl) rfl) rfl rfl rfl ?_; intro a44 hE45; clear hE43
     refine q_step (v := .bool (decide (i5 < (ap.length : Int)))) hE45 (y_lss rfl rfl) rfl rfl rfl ?_; intro a46 hE47; clear hE45
     refine c_nil ?_
     have hE48 := hE47.sub (L' := [(0, .slice apA ap.length apC), (1, .slice bpA bp.length bpC), (5, .int .i64 i5), (14, .bool (decide (i5 < (ap.length : Int))))]) ⟨rfl, rfl, rfl, rfl, trivial⟩; clear hE47
     refine p_tn ?_
     refine c_cond hE48 rfl (fun ht49 => ?_) (fun ht49 => ?_)
     ·
      have hp50 := of_decide_eq_true ht49
      have hE51 := hE48; rw [ht49] at hE51; clear hE48
      refine wp_skip ?_
      refine p_tn ?_
      refine c_seq ?_
      refine wp_block ?_
      refine c_seq ?_
      refine d_start (fun w w' => (fun w' => w'.cell? (adr apA (Int.toNat i5)) = some (.int .i64 (gI ap i5)) ∧ w'.cell? (adr bpA (Int.toNat i5)) = some (.int .i64 (gI bp i5)) ∧ True) w → (fun w' => w'.cell? (adr apA (Int.toNat i5)) = some (.int .i64 (gI ap i5)) ∧ w'.cell? (adr bpA (Int.toNat i5)) = some (.int .i64 (gI bp i5)) ∧ True) w') [3, 7] 9 (by kernel_rfl) rfl ?_
      intro w52 he53; have hS54 := St.go hS34 he53; clear hS34
      refine d_pure (fun _ h => h) (v := .slice apA ap.length apC) 0 rfl hE51 (y_move rfl) rfl (by kernel_rfl) (by kernel_rfl) (by kernel_rfl) rfl rfl (fun _ _ _ h => h) ?_; intro a55 hE56; clear hE51
      refine d_pure (fun _ h => h) (v := .int .i64 i5) 1 rfl hE56 (y_move rfl) rfl (by kernel_rfl) (by kernel_rfl) (by kernel_rfl) rfl rfl (fun _ _ _ h => h) ?_; intro a57 hE58; clear hE56
      refine d_pure (fun _ h => h) (v := .pointer (some (adr apA (Int.toNat i5)))) 2 rfl hE58 (y_idx (by kernel_rfl) (fun _ => by kernel_rfl) rfl rfl (RdS.isS (m := i5) (St.rdR (i := 1) hS54 rfl) (by omega) (by omega)) (by omega) (by omega) (Nat.mul_one _).symm) rfl (by kernel_rfl) (by kernel_rfl) (by kernel_rfl) rfl rfl (fun _ _ _ h => h) ?_; intro a59 hE60; clear hE58
      refine d_take (fun _ h => h) (fun _ _ h k => h k) (v := .int .i64 (gI ap i5)) 3 rfl hE60 (S := fun w' => w'.cell? (adr apA (Int.toNat i5)) = some (.int .i64 (gI ap i5)) ∧ w'.cell? (adr bpA (Int.toNat i5)) = some (.int .i64 (gI bp i5)) ∧ True) ⟨(RdS.elt (St.rdR (i := 1) hS54 rfl) (by omega) (by omega) _ (Ext.refl _)), (RdS.elt (St.rdR (i := 0) hS54 rfl) (by omega) (by omega) _ (Ext.refl _)), trivial⟩ (y_load (fun _ => by kernel_rfl) rfl (fun _ h => h.1)) rfl rfl (by kernel_rfl) (by kernel_rfl) (by kernel_rfl) (by kernel_rfl) rfl rfl (fun _ _ _ h => h) ?_; intro a61 hE62; clear hE60
      refine d_pure (fun _ h => h) (v := .slice bpA bp.length bpC) 4 rfl hE62 (y_move rfl) rfl (by kernel_rfl) (by kernel_rfl) (by kernel_rfl) rfl rfl (fun _ _ _ h => h) ?_; intro a63 hE64; clear hE62
      refine d_pure (fun _ h => h) (v := .int .i64 i5) 5 rfl hE64 (y_move rfl) rfl (by kernel_rfl) (by kernel_rfl) (by kernel_rfl) rfl rfl (fun _ _ _ h => h) ?_; intro a65 hE66; clear hE64
      refine d_pure (fun _ h => h) (v := .pointer (some (adr bpA (Int.toNat i5)))) 6 rfl hE66 (y_idx (by kernel_rfl) (fun _ => by kernel_rfl) rfl rfl (RdS.isS (m := i5) (St.rdR (i := 0) hS54 rfl) (by omega) (by omega)) (by omega) (by omega) (Nat.mul_one _).symm) rfl (by kernel_rfl) (by kernel_rfl) (by kernel_rfl) rfl rfl (fun _ _ _ h => h) ?_; intro a67 hE68; clear hE66
      refine d_take (fun _ h => h) (fun _ _ h k => h k) (v := .int .i64 (gI bp i5)) 7 rfl hE68 (S := fun w' => w'.cell? (adr apA (Int.toNat i5)) = some (.int .i64 (gI ap i5)) ∧ w'.cell? (adr bpA (Int.toNat i5)) = some (.int .i64 (gI bp i5)) ∧ True) ⟨(RdS.elt (St.rdR (i := 1) hS54 rfl) (by omega) (by omega) _ (Ext.refl _)), (RdS.elt (St.rdR (i := 0) hS54 rfl) (by omega) (by omega) _ (Ext.refl _)), trivial⟩ (y_load (fun _ => by kernel_rfl) rfl (fun _ h => h.2.1)) rfl rfl (by kernel_rfl) (by kernel_rfl) (by kernel_rfl) (by kernel_rfl) rfl rfl (fun _ _ _ h => h) ?_; intro a69 hE70; clear hE68
      refine d_pure (fun _ h => h) (v := .bool (!decide ((gI ap i5) = (gI bp i5)))) 8 rfl hE70 (y_neq rfl rfl) rfl (by kernel_rfl) (by kernel_rfl) (by kernel_rfl) rfl rfl (fun _ _ _ h => h) ?_; intro a71 hE72; clear hE70
      refine d_done (by kernel_rfl) ?_
      have hE73 := hE72.sub (L' := [(0, .slice apA ap.length apC), (1, .slice bpA bp.length bpC), (5, .int .i64 i5), (25, .bool (!decide ((gI ap i5) = (gI bp i5))))]) ⟨rfl, rfl, rfl, rfl, trivial⟩; clear hE72
      refine p_tn ?_
      refine c_cond hE73 rfl (fun ht74 => ?_) (fun ht74 => ?_)
      ·
       have ht75 := bn_t ht74
       have hp76 := of_decide_eq_false ht75
       have hE77 := hE73; rw [ht74] at hE77; clear hE73
       refine c_seq ?_
       refine c_reg ?_
       refine q_step (v := .bool false) hE77 (y_assign rfl) rfl rfl rfl ?_; intro a78 hE79; clear hE77
       refine c_nil ?_
       have hE80 := hE79.sub (L' := [(4, .bool false)]) ⟨rfl, trivial⟩; clear hE79
       refine p_tn ?_
       refine wp_ret ?_
       refine p_br ?_
       refine p_tr ?_
       have hX81 : F_l_likeInts_L1 ap bp (Int.toNat ((ap.length : Int) - 0) + 1) 0 = .error false := hT35.symm.trans (show F_l_likeInts_L1b ap bp (F_l_likeInts_L1 ap bp r39) i5 = .error false by unfold F_l_likeInts_L1b; rw [ht74, ht49]; first | done | rfl)
       refine p_tr (p_br (p_tr ?_))
       refine p_tr ?_
       have hF : F_l_likeInts ap bp = false := by unfold F_l_likeInts; rw [hX81, ht17]; first | done | rfl
       refine c_ret1 hE80 rfl rfl ?_
       exact ⟨(by rw [hF]; first | done | (dsimp only; done) | rfl), hS54.ext⟩
      ·
       have ht82 := bn_f ht74
       have hp83 := of_decide_eq_true ht82
       have hE84 := hE73; rw [ht74] at hE84; clear hE73
       refine wp_skip ?_
       refine p_bn ?_
       refine p_tn ?_
       refine c_reg ?_
       refine q_step (v := .int .i64 i5) hE84 (y_move rfl) rfl rfl rfl ?_; intro a85 hE86; clear hE84
       refine q_step (v := .int .i64 (i5 + 1)) hE86 (y_add rfl rfl ⟨(by omega), (by omega)⟩) rfl rfl rfl ?_; intro a87 hE88; clear hE86
       refine q_step (v := .int .i64 (i5 + 1)) hE88 (y_assign rfl) rfl rfl rfl ?_; intro a89 hE90; clear hE88
       refine c_nil ?_
       have hE91 := hE90.sub (L' := [(0, .slice apA ap.length apC), (1, .slice bpA bp.length bpC), (5, .int .i64 (i5 + 1))]) ⟨rfl, rfl, rfl, trivial⟩; clear hE90
       refine p_tn ⟨r39, Nat.lt_succ_self _, i5 + 1, (hT35.symm.trans (show F_l_likeInts_L1b ap bp (F_l_likeInts_L1 ap bp r39) i5 = F_l_likeInts_L1 ap bp r39 (i5 + 1) by unfold F_l_likeInts_L1b; rw [ht74, ht49]; first | done | rfl)).symm, (by omega), (by first | omega | (simp only [sS_len, sL_len]; omega) | (simp only [List.length_replicate, sI_len]; omega) | (simp only [List.length_append, List.length_cons, List.length_nil, sI_len, cond_true, cond_false]; omega) | (simp only [List.length_append, List.length_cons, List.length_nil, sI_len, cond_eq_ite, apply_ite List.length]; split <;> simp only [List.length_append, List.length_cons, List.length_nil, sI_len] <;> omega) | grind), (by first | omega | (simp only [sS_len, sL_len]; omega) | (simp only [List.length_replicate, sI_len]; omega) | (simp only [List.length_append, List.length_cons, List.length_nil, sI_len, cond_true, cond_false]; omega) | (simp only [List.length_append, List.length_cons, List.length_nil, sI_len, cond_eq_ite, apply_ite List.length]; split <;> simp only [List.length_append, List.length_cons, List.length_nil, sI_len] <;> omega) | grind), (hE91.sub (L' := [(0, .slice apA ap.length apC), (1, .slice bpA bp.length bpC), (5, .int .i64 (i5 + 1))]) ⟨rfl, rfl, rfl, trivial⟩), (St.pick (Γ' := [.rd 1 bpA bp.length bpC bp, .rd 1 apA ap.length apC ap]) hS54 [0, 1] (by decide) rfl)⟩
     ·
      have hp92 := of_decide_eq_false ht49
      have hE93 := hE48; rw [ht49] at hE93; clear hE48
      refine wp_exit ?_
      refine p_te ?_
      have hX94 : F_l_likeInts_L1 ap bp (Int.toNat ((ap.length : Int) - 0) + 1) 0 = .ok i5 := hT35.symm.trans (show F_l_likeInts_L1b ap bp (F_l_likeInts_L1 ap bp r39) i5 = .ok i5 by unfold F_l_likeInts_L1b; rw [ht49]; first | done | rfl)
      refine p_te (p_be (p_tn ?_))
      exact ⟨(by rw [hX94]; rfl), (by rw [hX94]; exact (show 0 ≤ i5 from (by first | omega | (simp only [sS_len, sL_len]; omega) | (simp only [List.length_replicate, sI_len]; omega) | (simp only [List.length_append, List.length_cons, List.length_nil, sI_len, cond_true, cond_false]; omega) | (simp only [List.length_append, List.length_cons, List.length_nil, sI_len, cond_eq_ite, apply_ite List.length]; split <;> simp only [List.length_append, List.length_cons, List.length_nil, sI_len] <;> omega) | grind))), (by rw [hX94]; exact (show i5 ≤ (ap.length : Int) from (by first | omega | (simp only [sS_len, sL_len]; omega) | (simp only [List.length_replicate, sI_len]; omega) | (simp only [List.length_append, List.length_cons, List.length_nil, sI_len, cond_true, cond_false]; omega) | (simp only [List.length_append, List.length_cons, List.length_nil, sI_len, cond_eq_ite, apply_ite List.length]; split <;> simp only [List.length_append, List.length_cons, List.length_nil, sI_len] <;> omega) | grind))), (by rw [hX94]; exact (hE93.sub (L' := [(0, .slice apA ap.length apC), (1, .slice bpA bp.length bpC), (5, .int .i64 i5)]) ⟨rfl, rfl, rfl, trivial⟩)), (St.pick (Γ' := [.rd 1 bpA bp.length bpC bp, .rd 1 apA ap.length apC ap]) hS34 [0, 1] (by decide) rfl)⟩
   ·
    rintro a95 w96 ⟨hO99, hi100, hi101, hE97, hS98⟩; clear hE29 hS2
    refine p_tn ?_
    refine c_seq ?_
    refine c_reg ?_
    refine q_step (v := .bool true) hE97 (y_assign rfl) rfl rfl rfl ?_; intro a102 hE103; clear hE97
    refine c_nil ?_
    have hE104 := hE103.sub (L' := [(4, .bool true)]) ⟨rfl, trivial⟩; clear hE103
    refine p_tn ?_
    refine wp_ret ?_
    have hF : F_l_likeInts ap bp = true := by unfold F_l_likeInts; rw [hO99, ht17]; first | done | rfl
    refine c_ret1 hE104 rfl rfl ?_
    exact ⟨(by rw [hF]; first | done | (dsimp only; done) | rfl), hS98.ext⟩
theorem likeI_key (ap bp : List Int) (hl : ap.length = bp.length) : ∀ (k : Nat) (i : Int), 0 ≤ i → (ap.length : Int) - i = k → (∀ j : Nat, (j : Int) < i → gi ap j = gi bp j) →
    (bif isOk (F_l_likeInts_L1 ap bp (k + 1) i) then true else errD (F_l_likeInts_L1 ap bp (k + 1) i)) = decide (ap = bp) := by
  intro k
  induction k with
  | zero =>
    intro i h0 hk hp
    have e : F_l_likeInts_L1 ap bp (0 + 1) i = .ok i := by
      show F_l_likeInts_L1b ap bp _ i = _
      unfold F_l_likeInts_L1b
      rw [decide_eq_false (by omega)]; rfl
    rw [e]
    have : ap = bp := ext_gi hl fun j hj => hp j (by omega)
    rw [decide_eq_true this]; rfl
  | succ k ih =>
    intro i h0 hk hp
    have e : F_l_likeInts_L1 ap bp (k + 1 + 1) i = bif !decide (gI ap i = gI bp i) then .error false else F_l_likeInts_L1 ap bp (k + 1) (i + 1) := by
      show F_l_likeInts_L1b ap bp _ i = _
      unfold F_l_likeInts_L1b
      rw [decide_eq_true (by omega)]; rfl
    rw [e]
    by_cases h : gI ap i = gI bp i
    · rw [decide_eq_true h]
      refine ih (i + 1) (by omega) (by omega) fun j hj => ?_
      by_cases e : (j : Int) = i
      · have : i.toNat = j := by omega
        unfold gI at h; rw [this] at h; exact h
      · exact hp j (by omega)
    · rw [decide_eq_false h]
      have : ¬ ap = bp := fun h' => h (by rw [h'])
      rw [decide_eq_false this]; rfl
theorem likeI_eq (ap bp : List Int) : F_l_likeInts ap bp = decide (ap = bp) := by
  unfold F_l_likeInts
  by_cases hl : ap.length = bp.length
  · rw [decide_eq_true (by omega)]
    have e : Int.toNat ((ap.length : Int) - 0) = ap.length := by omega
    rw [e]
    exact likeI_key ap bp hl ap.length 0 (by omega) (by omega) fun j hj => by omega
  · rw [decide_eq_false (by omega)]
    have : ¬ ap = bp := fun h' => hl (by rw [h'])
    rw [decide_eq_false this]; rfl
theorem d_l_likeInts (apA : Option Addr) (apN apC : Nat) (ap : List Int) (bpA : Option Addr) (bpN bpC : Nat) (bp : List Int) (w : World) (apR : RdS w 1 apA apN apC ap) (bpR : RdS w 1 bpA bpN bpC bp) :
    Calls Try.prog 58 #[.slice apA apN apC, .slice bpA bpN bpC] w (Ret fun v w' => v = .bool (decide (ap = bp)) ∧ Ext w w') := by
  have := c_l_likeInts apA apN apC ap bpA bpN bpC bp w apR bpR
  rwa [likeI_eq] at this
def F_l_likeFrame5 (f0 : Int) (f1 : List Int) (g0 : Int) (g1 : List Int) : Bool :=
  ((decide (f0 = g0)) && (decide (f1 = g1)))
theorem cf_l_likeFrame5 (args : Array Value) (w : World) : (callFunc 55 args).run Try.prog w = .ok (.enter 55 args) w := by kernel_rfl
set_option maxRecDepth 100000 in
theorem c_l_likeFrame5 (f0 : Int) (f1A : Option Addr) (f1N f1C : Nat) (f1 : List Int) (g0 : Int) (g1A : Option Addr) (g1N g1C : Nat) (g1 : List Int) (w : World) (f1R : RdS w 1 f1A f1N f1C f1) (g1R : RdS w 1 g1A g1N g1C g1) :
    Calls Try.prog 55 #[.agg #[.int .i64 f0, .slice f1A f1N f1C], .agg #[.int .i64 g0, .slice g1A g1N g1C]] w (Ret fun v w' => v = .bool (F_l_likeFrame5 f0 f1 g0 g1) ∧ Ext w w') := by
  obtain rfl : f1N = f1.length := f1R.len1.symm
  have f1Le := f1R.le
  obtain rfl : g1N = g1.length := g1R.len1.symm
  have g1Le := g1R.le
  have hS := St.nil w
  have hS1 := St.rd0 hS rfl f1R; clear hS
  have hS2 := St.rd0 hS1 rfl g1R; clear hS1
  refine enter (args := [.agg #[.int .i64 f0, .slice f1A f1.length f1C], .agg #[.int .i64 g0, .slice g1A g1.length g1C]]) Try.func55 rfl rfl ?_
  rw [Try.ntmps55]; intro a hE
  have hE := hE.sub (L' := [(0, .agg #[.int .i64 f0, .slice f1A f1.length f1C]), (1, .agg #[.int .i64 g0, .slice g1A g1.length g1C])]) ⟨rfl, rfl, trivial⟩
  refine c_seq ?_
  refine c_reg ?_
  refine l_step hE rfl (l_box (v := .agg #[.int .i64 f0, .slice f1A f1.length f1C]) (cs := #[.int .i64 f0, .slice f1A f1.length f1C]) hS2 hE rfl rfl rfl ?_)
  intro b3 w4 hS7 he8 a5 hE6; clear hS2 hE
  refine l_step hE6 rfl (l_box (v := .agg #[.int .i64 g0, .slice g1A g1.length g1C]) (cs := #[.int .i64 g0, .slice g1A g1.length g1C]) hS7 hE6 rfl rfl rfl ?_)
  intro b9 w10 hS13 he14 a11 hE12; clear hS7 hE6
  refine q_step (v := .bool false) hE12 (y_assign rfl) rfl rfl rfl ?_; intro a15 hE16; clear hE12
  refine c_nil ?_
  have hE17 := hE16.sub (L' := [(2, .pointer (some ⟨b3, 0, none⟩)), (3, .pointer (some ⟨b9, 0, none⟩))]) ⟨rfl, rfl, trivial⟩; clear hE16
  refine p_tn ?_
  refine c_cut (fun a' w' => E a' 17 [(4, .bool ((decide (f0 = g0)) && (decide (f1 = g1))))] ∧ St w w' [.rd 1 g1A g1.length g1C g1, .blk b9 #[.int .i64 g0, .slice g1A g1.length g1C] 30, .rd 1 f1A f1.length f1C f1, .blk b3 #[.int .i64 f0, .slice f1A f1.length f1C] 30]) ?_ ?_
  ·
   refine c_reg ?_
   refine q_step (v := .pointer (some ⟨b3, 0, none⟩)) hE17 (y_field rfl (fun _ => by kernel_rfl)) rfl rfl rfl ?_; intro a18 hE19; clear hE17
   refine q_step (v := .int .i64 f0) hE19 (y_load (fun _ => by kernel_rfl) rfl (St.cell (i := 1) hS13 rfl rfl)) rfl rfl rfl ?_; intro a20 hE21; clear hE19
   refine q_step (v := .pointer (some ⟨b9, 0, none⟩)) hE21 (y_field rfl (fun _ => by kernel_rfl)) rfl rfl rfl ?_; intro a22 hE23; clear hE21
   refine q_step (v := .int .i64 g0) hE23 (y_load (fun _ => by kernel_rfl) rfl (St.cell (i := 0) hS13 rfl rfl)) rfl rfl rfl ?_; intro a24 hE25; clear hE23
   refine q_step (v := .bool (decide (f0 = g0))) hE25 (y_eql rfl rfl) rfl rfl rfl ?_; intro a26 hE27; clear hE25
   refine q_step (v := .bool (decide (f0 = g0))) hE27 (y_move rfl) rfl rfl rfl ?_; intro a28 hE29; clear hE27
   rcases Bool.eq_false_or_eq_true (decide (f0 = g0)) with hb30 | hb30
   ·
    have hE31 := hE29; (try rw [hb30] at hE31); clear hE29
    have hp32 := of_decide_eq_true hb30
    refine q_step (v := .pointer (some ⟨b3, 1, none⟩)) hE31 (y_field rfl (fun _ => by kernel_rfl)) rfl rfl rfl ?_; intro a33 hE34; clear hE31
    refine q_step (v := .slice f1A f1.length f1C) hE34 (y_load (fun _ => by kernel_rfl) rfl (St.cell (i := 1) hS13 rfl rfl)) rfl rfl rfl ?_; intro a35 hE36; clear hE34
    refine q_step (v := .pointer (some ⟨b9, 1, none⟩)) hE36 (y_field rfl (fun _ => by kernel_rfl)) rfl rfl rfl ?_; intro a37 hE38; clear hE36
    refine q_step (v := .slice g1A g1.length g1C) hE38 (y_load (fun _ => by kernel_rfl) rfl (St.cell (i := 0) hS13 rfl rfl)) rfl rfl rfl ?_; intro a39 hE40; clear hE38
    refine l_step hE40 rfl (l_call (f := 58) (argv := [.slice f1A f1.length f1C, .slice g1A g1.length g1C]) hE40 (fun _ => cf_l_likeInts _ _) rfl rfl (d_l_likeInts f1A f1.length f1C f1 g1A g1.length g1C g1 w10 (St.rdR (i := 3) hS13 rfl) (St.rdR (i := 2) hS13 rfl)) ?_)
    rintro _ w42 ⟨rfl, he46⟩ a43 hE44; clear hE40
    have hS45 := St.go hS13 he46; clear hS13
    refine q_step (v := .bool (decide (f1 = g1))) hE44 (y_pick (b := true) rfl rfl) rfl rfl rfl ?_; intro a47 hE48; clear hE44
    refine q_step (v := .bool (decide (f1 = g1))) hE48 (y_assign rfl) rfl rfl rfl ?_; intro a49 hE50; clear hE48
    refine c_nil ?_
    have hE51 := hE50.sub (L' := [(4, .bool (decide (f1 = g1)))]) ⟨rfl, trivial⟩; clear hE50
    refine p_tn ?_
    have hE52 := hE51.sub (L' := [(4, .bool (decide (f1 = g1)))]) ⟨rfl, trivial⟩
    have hS53 := (St.pick (Γ' := [.rd 1 g1A g1.length g1C g1, .blk b9 #[.int .i64 g0, .slice g1A g1.length g1C] 30, .rd 1 f1A f1.length f1C f1, .blk b3 #[.int .i64 f0, .slice f1A f1.length f1C] 30]) hS45 [2, 0, 3, 1] (by decide) rfl)
    exact ⟨(by rw [hb30]; exact hE52), hS53⟩
   ·
    have hE54 := hE29; (try rw [hb30] at hE54); clear hE29
    have hp55 := of_decide_eq_false hb30
    refine q_skip hE54 rfl rfl rfl ?_; intro a56 hE57; clear hE54
    refine q_skip hE57 rfl rfl rfl ?_; intro a58 hE59; clear hE57
    refine q_skip hE59 rfl rfl rfl ?_; intro a60 hE61; clear hE59
    refine q_skip hE61 rfl rfl rfl ?_; intro a62 hE63; clear hE61
    refine q_skip hE63 rfl rfl rfl ?_; intro a64 hE65; clear hE63
    refine q_step (v := .bool false) hE65 (y_pick (b := false) rfl rfl) rfl rfl rfl ?_; intro a66 hE67; clear hE65
    refine q_step (v := .bool false) hE67 (y_assign rfl) rfl rfl rfl ?_; intro a68 hE69; clear hE67
    refine c_nil ?_
    have hE70 := hE69.sub (L' := [(4, .bool false)]) ⟨rfl, trivial⟩; clear hE69
    refine p_tn ?_
    have hE71 := hE70.sub (L' := [(4, .bool false)]) ⟨rfl, trivial⟩
    have hS72 := (St.pick (Γ' := [.rd 1 g1A g1.length g1C g1, .blk b9 #[.int .i64 g0, .slice g1A g1.length g1C] 30, .rd 1 f1A f1.length f1C f1, .blk b3 #[.int .i64 f0, .slice f1A f1.length f1C] 30]) hS13 [2, 0, 3, 1] (by decide) rfl)
    exact ⟨(by rw [hb30]; exact hE71), hS72⟩
  ·
   rintro a73 w74 ⟨hE75, hS76⟩; clear hE17 hS13
   refine wp_ret ?_
   have hF : F_l_likeFrame5 f0 f1 g0 g1 = ((decide (f0 = g0)) && (decide (f1 = g1))) := by unfold F_l_likeFrame5; rfl
   refine c_ret1 hE75 rfl rfl ?_
   exact ⟨(by rw [hF]; first | done | (dsimp only; done) | rfl), hS76.ext⟩
end Go.Proofs.Ytlbonhloeefnmaa
