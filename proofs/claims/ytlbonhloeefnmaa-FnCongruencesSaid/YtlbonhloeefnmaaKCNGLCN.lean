/- GLCN: models and contracts, printed by wip/gen/gen.py -/
import Derived.Test.YtlbonhloeefnmaaKCNGDC
import Derived.Test.YtlbonhloeefnmaaKCNGLK
set_option linter.unusedVariables false
set_option linter.unusedSimpArgs false
namespace Go.Proofs.Ytlbonhloeefnmaa
open Go.RowKit
def F_l_likeRows5_L1b (ap : List (List Int)) (bp : List (List Int)) (rec : Int → Except (Bool) (Int)) (i5 : Int) : Except (Bool) (Int) :=
  bif (decide (i5 < ((ap).length : Int))) then (bif (!(decide ((gL ap i5) = (gL bp i5)))) then (.error false) else (rec (i5 + 1))) else (.ok i5)
def F_l_likeRows5_L1 (ap : List (List Int)) (bp : List (List Int)) : Nat → Int → Except (Bool) (Int)
  | 0, i5 => .ok i5
  | r + 1, i5 => F_l_likeRows5_L1b ap bp (F_l_likeRows5_L1 ap bp r) i5
def F_l_likeRows5 (ap : List (List Int)) (bp : List (List Int)) : Bool :=
  bif (!decide (((ap).length : Int) = ((bp).length : Int))) then false else (bif (isOk (F_l_likeRows5_L1 ap bp (Int.toNat (((ap).length : Int) - 0) + 1) 0)) then true else (errD (F_l_likeRows5_L1 ap bp (Int.toNat (((ap).length : Int) - 0) + 1) 0)))
theorem cf_l_likeRows5 (args : Array Value) (w : World) : (callFunc 57 args).run Try.prog w = .ok (.enter 57 args) w := by kernel_rfl
set_option maxRecDepth 100000 in
theorem c_l_likeRows5 (apA : Option Addr) (apN apC : Nat) (apQ : List Hd) (ap : List (List Int)) (bpA : Option Addr) (bpN bpC : Nat) (bpQ : List Hd) (bp : List (List Int)) (w : World) (apR : RdN w 1 apA apN apC apQ ap) (bpR : RdN w 1 bpA bpN bpC bpQ bp) :
    Calls Try.prog 57 #[.slice apA apN apC, .slice bpA bpN bpC] w (Ret fun v w' => v = .bool (F_l_likeRows5 ap bp) ∧ Ext w w') := by
  obtain rfl : apN = ap.length := apR.len
  have apLe := apR.le
  obtain rfl : bpN = bp.length := bpR.len
  have bpLe := bpR.le
  have hS := St.nil w
  have hS1 := St.rdn0 hS rfl apR; clear hS
  have hS2 := St.rdn0 hS1 rfl bpR; clear hS1
  refine enter (args := [.slice apA ((ap).length) apC, .slice bpA ((bp).length) bpC]) Try.func57 rfl rfl ?_
  rw [Try.ntmps57]; intro a hE
  have hE := hE.sub (L' := [(0, .slice apA ((ap).length) apC), (1, .slice bpA ((bp).length) bpC)]) ⟨rfl, rfl, trivial⟩
  refine c_seq ?_
  refine c_reg ?_
  refine q_step (v := .bool false) hE (y_assign rfl) rfl rfl rfl ?_; intro a3 hE4; clear hE
  refine c_nil ?_
  have hE5 := hE4.sub (L' := [(0, .slice apA ((ap).length) apC), (1, .slice bpA ((bp).length) bpC)]) ⟨rfl, rfl, trivial⟩; clear hE4
  refine p_tn ?_
  refine c_seq ?_
  refine c_seq ?_
  refine c_reg ?_
  refine q_step (v := .slice apA ((ap).length) apC) hE5 (y_move rfl) rfl rfl rfl ?_; intro a6 hE7; clear hE5
  refine q_step (v := .int .i64 ((ap).length : Int)) hE7 (y_len (e := 22) (by kernel_rfl) rfl) rfl rfl rfl ?_; intro a8 hE9; clear hE7
  refine q_step (v := .slice bpA ((bp).length) bpC) hE9 (y_move rfl) rfl rfl rfl ?_; intro a10 hE11; clear hE9
  refine q_step (v := .int .i64 ((bp).length : Int)) hE11 (y_len (e := 22) (by kernel_rfl) rfl) rfl rfl rfl ?_; intro a12 hE13; clear hE11
  refine q_step (v := .bool (!decide (((ap).length : Int) = ((bp).length : Int)))) hE13 (y_neq rfl rfl) rfl rfl rfl ?_; intro a14 hE15; clear hE13
  refine c_nil ?_
  have hE16 := hE15.sub (L' := [(0, .slice apA ((ap).length) apC), (1, .slice bpA ((bp).length) bpC), (10, .bool (!decide (((ap).length : Int) = ((bp).length : Int))))]) ⟨rfl, rfl, rfl, trivial⟩; clear hE15
  refine p_tn ?_
  refine c_cond hE16 rfl (fun ht17 => ?_) (fun ht17 => ?_)
  ·
   have ht18 := bn_t ht17
   have hp19 := of_decide_eq_false ht18
   have hE20 := hE16; rw [ht17] at hE20; clear hE16
   refine c_seq ?_
   refine c_reg ?_
   refine q_step (v := .bool false) hE20 (y_assign rfl) rfl rfl rfl ?_; intro a21 hE22; clear hE20
   refine c_nil ?_
   have hE23 := hE22.sub (L' := [(4, .bool false)]) ⟨rfl, trivial⟩; clear hE22
   refine p_tn ?_
   refine wp_ret ?_
   refine p_tr ?_
   have hF : F_l_likeRows5 ap bp = false := by unfold F_l_likeRows5; rw [ht17]; first | done | rfl
   refine c_ret1 hE23 rfl rfl ?_
   exact ⟨(by rw [hF]; first | done | (dsimp only; done) | rfl), hS2.ext⟩
  ·
   have ht24 := bn_f ht17
   have hp25 := of_decide_eq_true ht24
   have hE26 := hE16; rw [ht17] at hE26; clear hE16
   refine wp_skip ?_
   refine p_tn ?_
   refine c_seq ?_
   refine c_seq ?_
   refine c_reg ?_
   refine q_step (v := .int .i64 0) hE26 (y_assign rfl) rfl rfl rfl ?_; intro a27 hE28; clear hE26
   refine c_nil ?_
   have hE29 := hE28.sub (L' := [(0, .slice apA ((ap).length) apC), (1, .slice bpA ((bp).length) bpC), (5, .int .i64 0)]) ⟨rfl, rfl, rfl, trivial⟩; clear hE28
   refine p_tn ?_
   refine c_cut1 (fun a' w' => isOk (F_l_likeRows5_L1 ap bp (Int.toNat (((ap).length : Int) - 0) + 1) 0) = true ∧ (0 ≤ (okD (F_l_likeRows5_L1 ap bp (Int.toNat (((ap).length : Int) - 0) + 1) 0))) ∧ ((okD (F_l_likeRows5_L1 ap bp (Int.toNat (((ap).length : Int) - 0) + 1) 0)) ≤ ((ap).length : Int)) ∧ E a' 27 [(0, .slice apA ((ap).length) apC), (1, .slice bpA ((bp).length) bpC), (5, .int .i64 (okD (F_l_likeRows5_L1 ap bp (Int.toNat (((ap).length : Int) - 0) + 1) 0)))] ∧ St w w' [.rdn 1 bpA ((bp).length) bpC bpQ bp, .rdn 1 apA ((ap).length) apC apQ ap]) ?_ ?_
   ·
    refine wp_block ?_
    refine c_loop (fun r a' w' => ∃ i5 : Int, F_l_likeRows5_L1 ap bp r i5 = F_l_likeRows5_L1 ap bp (Int.toNat (((ap).length : Int) - 0) + 1) 0 ∧ Int.toNat (((ap).length : Int) - i5) < r ∧ (0 ≤ i5) ∧ (i5 ≤ ((ap).length : Int)) ∧ E a' 27 [(0, .slice apA ((ap).length) apC), (1, .slice bpA ((bp).length) bpC), (5, .int .i64 i5)] ∧ St w w' [.rdn 1 bpA ((bp).length) bpC bpQ bp, .rdn 1 apA ((ap).length) apC apQ ap]) (r := (Int.toNat (((ap).length : Int) - 0) + 1)) ?_ ?_
    · exact ⟨0, rfl, Nat.lt_succ_self _, (by first | omega | (simp only [sS_len, sL_len]; omega) | (simp only [List.length_replicate, sI_len]; omega) | (simp only [List.length_append, List.length_cons, List.length_nil, sI_len, cond_true, cond_false]; omega) | (simp only [List.length_append, List.length_cons, List.length_nil, sI_len, cond_eq_ite, apply_ite List.length]; split <;> simp only [List.length_append, List.length_cons, List.length_nil, sI_len] <;> omega) | grind), (by first | omega | (simp only [sS_len, sL_len]; omega) | (simp only [List.length_replicate, sI_len]; omega) | (simp only [List.length_append, List.length_cons, List.length_nil, sI_len, cond_true, cond_false]; omega) | (simp only [List.length_append, List.length_cons, List.length_nil, sI_len, cond_eq_ite, apply_ite List.length]; split <;> simp only [List.length_append, List.length_cons, List.length_nil, sI_len] <;> omega) | grind), (hE29.sub (L' := [(0, .slice apA ((ap).length) apC), (1, .slice bpA ((bp).length) bpC), (5, .int .i64 0)]) ⟨rfl, rfl, rfl, trivial⟩), (St.pick (Γ' := [.rdn 1 bpA ((bp).length) bpC bpQ bp, .rdn 1 apA ((ap).length) apC apQ ap]) hS2 [0, 1] (by decide) rfl)⟩
    ·
     clear hE29 hS2
     rintro r39 a31 w32 ⟨i5, hT35, hr36, hi37, hi38, hE33, hS34⟩
     obtain ⟨r39, rfl⟩ : ∃ r', r39 = r' + 1 := ⟨r39 - 1, by omega⟩
     refine c_seq ?_
     refine c_seq ?_
     refine c_reg ?_
     refine q_step (v := .int .i64 i5) hE33 (y_move rfl) rfl rfl rfl ?_; intro a40 hE41; clear hE33
     refine q_step (v := .slice apA ((ap).length) apC) hE41 (y_move rfl) rfl rfl rfl ?_; intro a42 hE43; clear hE41
     refine q_step (v := .int .i64 ((ap).length : Int)) hE43 (y_len (e := 22) (by kernel_rfl) rfl) rfl rfl rfl ?_; intro a44 hE45; clear hE43
     refine q_step (v := .bool (decide (i5 < ((ap).length : Int)))) hE45 (y_lss rfl rfl) rfl rfl rfl ?_; intro a46 hE47; clear hE45
     refine c_nil ?_
     have hE48 := hE47.sub (L' := [(0, .slice apA ((ap).length) apC), (1, .slice bpA ((bp).length) bpC), (5, .int .i64 i5), (14, .bool (decide (i5 < ((ap).length : Int))))]) ⟨rfl, rfl, rfl, rfl, trivial⟩; clear hE47
     refine p_tn ?_
     refine c_cond hE48 rfl (fun ht49 => ?_) (fun ht49 => ?_)
     ·
      have hp50 := of_decide_eq_true ht49
      have hE51 := hE48; rw [ht49] at hE51; clear hE48
      refine wp_skip ?_
      refine p_tn ?_
      refine c_seq ?_
      refine wp_block ?_
      refine c_seq ?_
      refine d_start (fun w w' => (fun w' => w'.cell? (adr apA (Int.toNat i5)) = some (.slice (hdA apQ i5) (gL ap i5).length (hdC apQ i5)) ∧ w'.cell? (adr bpA (Int.toNat i5)) = some (.slice (hdA bpQ i5) (gL bp i5).length (hdC bpQ i5)) ∧ True) w → (fun w' => w'.cell? (adr apA (Int.toNat i5)) = some (.slice (hdA apQ i5) (gL ap i5).length (hdC apQ i5)) ∧ w'.cell? (adr bpA (Int.toNat i5)) = some (.slice (hdA bpQ i5) (gL bp i5).length (hdC bpQ i5)) ∧ True) w') [3, 7] 10 (by kernel_rfl) rfl ?_
      intro w52 he53; have hS54 := St.go hS34 he53; clear hS34
      refine d_pure (fun _ h => h) (v := .slice apA ((ap).length) apC) 0 rfl hE51 (y_move rfl) rfl (by kernel_rfl) (by kernel_rfl) (by kernel_rfl) rfl rfl (fun _ _ _ h => h) ?_; intro a55 hE56; clear hE51
      refine d_pure (fun _ h => h) (v := .int .i64 i5) 1 rfl hE56 (y_move rfl) rfl (by kernel_rfl) (by kernel_rfl) (by kernel_rfl) rfl rfl (fun _ _ _ h => h) ?_; intro a57 hE58; clear hE56
      refine d_pure (fun _ h => h) (v := .pointer (some (adr apA (Int.toNat i5)))) 2 rfl hE58 (y_idx (by kernel_rfl) (fun _ => by kernel_rfl) rfl rfl (RdN.isS (m := i5) (St.rdNr (i := 1) hS54 rfl) (by omega) (by omega)) (by omega) (by omega) (Nat.mul_one _).symm) rfl (by kernel_rfl) (by kernel_rfl) (by kernel_rfl) rfl rfl (fun _ _ _ h => h) ?_; intro a59 hE60; clear hE58
      have hv61 : (0 : Int) ≤ i5 ∧ i5 < (((ap).length) : Int) := ⟨(by omega), (by omega)⟩
      refine d_take (fun _ h => h) (fun _ _ h k => h k) (v := .slice (hdA apQ i5) ((gL ap i5).length) (hdC apQ i5)) 3 rfl hE60 (S := fun w' => w'.cell? (adr apA (Int.toNat i5)) = some (.slice (hdA apQ i5) (gL ap i5).length (hdC apQ i5)) ∧ w'.cell? (adr bpA (Int.toNat i5)) = some (.slice (hdA bpQ i5) (gL bp i5).length (hdC bpQ i5)) ∧ True) ⟨(RdN.elt1 (St.rdNr (i := 1) hS54 rfl) (by omega) (by omega) _ (Ext.refl _)), (RdN.elt1 (St.rdNr (i := 0) hS54 rfl) (by omega) (by omega) _ (Ext.refl _)), trivial⟩ (y_load (fun _ => by kernel_rfl) rfl (fun _ h => h.1)) rfl rfl (by kernel_rfl) (by kernel_rfl) (by kernel_rfl) (by kernel_rfl) rfl rfl (fun _ _ _ h => h) ?_; intro a63 hE64; clear hE60
      refine d_pure (fun _ h => h) (v := .slice bpA ((bp).length) bpC) 4 rfl hE64 (y_move rfl) rfl (by kernel_rfl) (by kernel_rfl) (by kernel_rfl) rfl rfl (fun _ _ _ h => h) ?_; intro a65 hE66; clear hE64
      refine d_pure (fun _ h => h) (v := .int .i64 i5) 5 rfl hE66 (y_move rfl) rfl (by kernel_rfl) (by kernel_rfl) (by kernel_rfl) rfl rfl (fun _ _ _ h => h) ?_; intro a67 hE68; clear hE66
      refine d_pure (fun _ h => h) (v := .pointer (some (adr bpA (Int.toNat i5)))) 6 rfl hE68 (y_idx (by kernel_rfl) (fun _ => by kernel_rfl) rfl rfl (RdN.isS (m := i5) (St.rdNr (i := 0) hS54 rfl) (by omega) (by omega)) (by omega) (by omega) (Nat.mul_one _).symm) rfl (by kernel_rfl) (by kernel_rfl) (by kernel_rfl) rfl rfl (fun _ _ _ h => h) ?_; intro a69 hE70; clear hE68
      have hv71 : (0 : Int) ≤ i5 ∧ i5 < (((bp).length) : Int) := ⟨(by omega), (by omega)⟩
      refine d_take (fun _ h => h) (fun _ _ h k => h k) (v := .slice (hdA bpQ i5) ((gL bp i5).length) (hdC bpQ i5)) 7 rfl hE70 (S := fun w' => w'.cell? (adr apA (Int.toNat i5)) = some (.slice (hdA apQ i5) (gL ap i5).length (hdC apQ i5)) ∧ w'.cell? (adr bpA (Int.toNat i5)) = some (.slice (hdA bpQ i5) (gL bp i5).length (hdC bpQ i5)) ∧ True) ⟨(RdN.elt1 (St.rdNr (i := 1) hS54 rfl) (by omega) (by omega) _ (Ext.refl _)), (RdN.elt1 (St.rdNr (i := 0) hS54 rfl) (by omega) (by omega) _ (Ext.refl _)), trivial⟩ (y_load (fun _ => by kernel_rfl) rfl (fun _ h => h.2.1)) rfl rfl (by kernel_rfl) (by kernel_rfl) (by kernel_rfl) (by kernel_rfl) rfl rfl (fun _ _ _ h => h) ?_; intro a73 hE74; clear hE70
      refine d_only 8 (by kernel_rfl) rfl hE74 rfl (l_call (f := 58) (argv := [.slice (hdA apQ i5) ((gL ap i5).length) (hdC apQ i5), .slice (hdA bpQ i5) ((gL bp i5).length) (hdC bpQ i5)]) hE74 (fun _ => cf_l_likeInts _ _) rfl rfl (d_l_likeInts (hdA apQ i5) ((gL ap i5).length) (hdC apQ i5) (gL ap i5) (hdA bpQ i5) ((gL bp i5).length) (hdC bpQ i5) (gL bp i5) w52 (RdN.row1 (St.rdNr (i := 1) hS54 rfl) hv61.1 hv61.2) (RdN.row1 (St.rdNr (i := 0) hS54 rfl) hv71.1 hv71.2)) ?_)
      rintro _ w76 ⟨rfl, he80⟩ a77 hE78; clear hE74
      have hS79 := St.go hS54 he80; clear hS54
      refine ⟨fun h => Bool.noConfusion (h.symm.trans (show exm _ _ _ = true by kernel_rfl)), ?_⟩
      refine d_pure (fun _ h => h) (v := .bool (!(decide ((gL ap i5) = (gL bp i5))))) 9 rfl hE78 (y_not rfl) rfl (by kernel_rfl) (by kernel_rfl) (by kernel_rfl) rfl rfl (fun _ _ _ h => h) ?_; intro a81 hE82; clear hE78
      refine d_done (by kernel_rfl) ?_
      have hE83 := hE82.sub (L' := [(0, .slice apA ((ap).length) apC), (1, .slice bpA ((bp).length) bpC), (5, .int .i64 i5), (26, .bool (!(decide ((gL ap i5) = (gL bp i5)))))]) ⟨rfl, rfl, rfl, rfl, trivial⟩; clear hE82
      refine p_tn ?_
      refine c_cond hE83 rfl (fun ht84 => ?_) (fun ht84 => ?_)
      ·
       have ht85 := bn_t ht84
       have hp86 := of_decide_eq_false ht85
       have hE87 := hE83; rw [ht84] at hE87; clear hE83
       refine c_seq ?_
       refine c_reg ?_
       refine q_step (v := .bool false) hE87 (y_assign rfl) rfl rfl rfl ?_; intro a88 hE89; clear hE87
       refine c_nil ?_
       have hE90 := hE89.sub (L' := [(4, .bool false)]) ⟨rfl, trivial⟩; clear hE89
       refine p_tn ?_
       refine wp_ret ?_
       refine p_br ?_
       refine p_tr ?_
       have hX91 : F_l_likeRows5_L1 ap bp (Int.toNat (((ap).length : Int) - 0) + 1) 0 = .error false := hT35.symm.trans (show F_l_likeRows5_L1b ap bp (F_l_likeRows5_L1 ap bp r39) i5 = .error false by unfold F_l_likeRows5_L1b; rw [ht84, ht49]; first | done | rfl)
       refine p_tr (p_br (p_tr ?_))
       refine p_tr ?_
       have hF : F_l_likeRows5 ap bp = false := by unfold F_l_likeRows5; rw [hX91, ht17]; first | done | rfl
       refine c_ret1 hE90 rfl rfl ?_
       exact ⟨(by rw [hF]; first | done | (dsimp only; done) | rfl), hS79.ext⟩
      ·
       have ht92 := bn_f ht84
       have hp93 := of_decide_eq_true ht92
       have hE94 := hE83; rw [ht84] at hE94; clear hE83
       refine wp_skip ?_
       refine p_bn ?_
       refine p_tn ?_
       refine c_reg ?_
       refine q_step (v := .int .i64 i5) hE94 (y_move rfl) rfl rfl rfl ?_; intro a95 hE96; clear hE94
       refine q_step (v := .int .i64 (i5 + 1)) hE96 (y_add rfl rfl ⟨(by omega), (by omega)⟩) rfl rfl rfl ?_; intro a97 hE98; clear hE96
       refine q_step (v := .int .i64 (i5 + 1)) hE98 (y_assign rfl) rfl rfl rfl ?_; intro a99 hE100; clear hE98
       refine c_nil ?_
       have hE101 := hE100.sub (L' := [(0, .slice apA ((ap).length) apC), (1, .slice bpA ((bp).length) bpC), (5, .int .i64 (i5 + 1))]) ⟨rfl, rfl, rfl, trivial⟩; clear hE100
       refine p_tn ⟨r39, Nat.lt_succ_self _, i5 + 1, (hT35.symm.trans (show F_l_likeRows5_L1b ap bp (F_l_likeRows5_L1 ap bp r39) i5 = F_l_likeRows5_L1 ap bp r39 (i5 + 1) by unfold F_l_likeRows5_L1b; rw [ht84, ht49]; first | done | rfl)).symm, (by omega), (by first | omega | (simp only [sS_len, sL_len]; omega) | (simp only [List.length_replicate, sI_len]; omega) | (simp only [List.length_append, List.length_cons, List.length_nil, sI_len, cond_true, cond_false]; omega) | (simp only [List.length_append, List.length_cons, List.length_nil, sI_len, cond_eq_ite, apply_ite List.length]; split <;> simp only [List.length_append, List.length_cons, List.length_nil, sI_len] <;> omega) | grind), (by first | omega | (simp only [sS_len, sL_len]; omega) | (simp only [List.length_replicate, sI_len]; omega) | (simp only [List.length_append, List.length_cons, List.length_nil, sI_len, cond_true, cond_false]; omega) | (simp only [List.length_append, List.length_cons, List.length_nil, sI_len, cond_eq_ite, apply_ite List.length]; split <;> simp only [List.length_append, List.length_cons, List.length_nil, sI_len] <;> omega) | grind), (hE101.sub (L' := [(0, .slice apA ((ap).length) apC), (1, .slice bpA ((bp).length) bpC), (5, .int .i64 (i5 + 1))]) ⟨rfl, rfl, rfl, trivial⟩), (St.pick (Γ' := [.rdn 1 bpA ((bp).length) bpC bpQ bp, .rdn 1 apA ((ap).length) apC apQ ap]) hS79 [0, 1] (by decide) rfl)⟩
     ·
      have hp102 := of_decide_eq_false ht49
      have hE103 := hE48; rw [ht49] at hE103; clear hE48
      refine wp_exit ?_
      refine p_te ?_
      have hX104 : F_l_likeRows5_L1 ap bp (Int.toNat (((ap).length : Int) - 0) + 1) 0 = .ok i5 := hT35.symm.trans (show F_l_likeRows5_L1b ap bp (F_l_likeRows5_L1 ap bp r39) i5 = .ok i5 by unfold F_l_likeRows5_L1b; rw [ht49]; first | done | rfl)
      refine p_te (p_be (p_tn ?_))
      exact ⟨(by rw [hX104]; rfl), (by rw [hX104]; exact (show 0 ≤ i5 from (by first | omega | (simp only [sS_len, sL_len]; omega) | (simp only [List.length_replicate, sI_len]; omega) | (simp only [List.length_append, List.length_cons, List.length_nil, sI_len, cond_true, cond_false]; omega) | (simp only [List.length_append, List.length_cons, List.length_nil, sI_len, cond_eq_ite, apply_ite List.length]; split <;> simp only [List.length_append, List.length_cons, List.length_nil, sI_len] <;> omega) | grind))), (by rw [hX104]; exact (show i5 ≤ ((ap).length : Int) from (by first | omega | (simp only [sS_len, sL_len]; omega) | (simp only [List.length_replicate, sI_len]; omega) | (simp only [List.length_append, List.length_cons, List.length_nil, sI_len, cond_true, cond_false]; omega) | (simp only [List.length_append, List.length_cons, List.length_nil, sI_len, cond_eq_ite, apply_ite List.length]; split <;> simp only [List.length_append, List.length_cons, List.length_nil, sI_len] <;> omega) | grind))), (by rw [hX104]; exact (hE103.sub (L' := [(0, .slice apA ((ap).length) apC), (1, .slice bpA ((bp).length) bpC), (5, .int .i64 i5)]) ⟨rfl, rfl, rfl, trivial⟩)), (St.pick (Γ' := [.rdn 1 bpA ((bp).length) bpC bpQ bp, .rdn 1 apA ((ap).length) apC apQ ap]) hS34 [0, 1] (by decide) rfl)⟩
   ·
    rintro a105 w106 ⟨hO109, hi110, hi111, hE107, hS108⟩; clear hE29 hS2
    refine p_tn ?_
    refine c_seq ?_
    refine c_reg ?_
    refine q_step (v := .bool true) hE107 (y_assign rfl) rfl rfl rfl ?_; intro a112 hE113; clear hE107
    refine c_nil ?_
    have hE114 := hE113.sub (L' := [(4, .bool true)]) ⟨rfl, trivial⟩; clear hE113
    refine p_tn ?_
    refine wp_ret ?_
    have hF : F_l_likeRows5 ap bp = true := by unfold F_l_likeRows5; rw [hO109, ht17]; first | done | rfl
    refine c_ret1 hE114 rfl rfl ?_
    exact ⟨(by rw [hF]; first | done | (dsimp only; done) | rfl), hS108.ext⟩
theorem likeSS_eq (ap bp : List (List Int)) : F_l_likeRows5 ap bp = decide (ap = bp) := by
  unfold F_l_likeRows5
  by_cases hl : ap.length = bp.length
  · rw [decide_eq_true (show (ap.length : Int) = (bp.length : Int) by omega), Bool.not_true, cond_false]
    have key : ∀ (k : Nat) (i : Int), 0 ≤ i → (ap.length : Int) - i = k → (∀ j : Nat, (j : Int) < i → gL ap (j : Int) = gL bp (j : Int)) → (bif isOk (F_l_likeRows5_L1 ap bp (k + 1) i) then true else errD (F_l_likeRows5_L1 ap bp (k + 1) i)) = decide (ap = bp) := by
      intro k
      induction k with
      | zero =>
        intro i h0 hk hp
        have e : F_l_likeRows5_L1 ap bp (0 + 1) i = .ok i := by
          show F_l_likeRows5_L1b ap bp _ i = _
          unfold F_l_likeRows5_L1b
          rw [decide_eq_false (by omega)]; rfl
        rw [e]
        have : ap = bp := extL hl fun j hj => hp j (by omega)
        rw [decide_eq_true this]; rfl
      | succ k ih =>
        intro i h0 hk hp
        have e : F_l_likeRows5_L1 ap bp (k + 1 + 1) i = bif !decide (gL ap i = gL bp i) then .error false else F_l_likeRows5_L1 ap bp (k + 1) (i + 1) := by
          show F_l_likeRows5_L1b ap bp _ i = _
          unfold F_l_likeRows5_L1b
          rw [decide_eq_true (by omega)]; rfl
        rw [e]
        by_cases h : gL ap i = gL bp i
        · rw [decide_eq_true h]
          refine ih (i + 1) (by omega) (by omega) fun j hj => ?_
          by_cases e : (j : Int) = i
          · rw [e]; exact h
          · exact hp j (by omega)
        · rw [decide_eq_false h]
          have : ¬ ap = bp := fun h' => h (by rw [h'])
          rw [decide_eq_false this]; rfl
    have e : Int.toNat ((ap.length : Int) - 0) = ap.length := by omega
    rw [e]
    exact key ap.length 0 (by omega) (by omega) fun j hj => by omega
  · rw [decide_eq_false (by omega)]
    have : ¬ ap = bp := fun h' => hl (by rw [h'])
    rw [decide_eq_false this]; rfl
theorem d_l_likeRows5 (apA : Option Addr) (apN apC : Nat) (apQ : List Hd) (ap : List (List Int)) (bpA : Option Addr) (bpN bpC : Nat) (bpQ : List Hd) (bp : List (List Int)) (w : World) (apR : RdN w 1 apA apN apC apQ ap) (bpR : RdN w 1 bpA bpN bpC bpQ bp) :
    Calls Try.prog 57 #[.slice apA apN apC, .slice bpA bpN bpC] w (Ret fun v w' => v = .bool (decide (ap = bp)) ∧ Ext w w') := by
  have := c_l_likeRows5 apA apN apC apQ ap bpA bpN bpC bpQ bp w apR bpR
  rwa [likeSS_eq] at this
def F_l_FnCongruences_L1b (code : List Int) (rec : Bool → Int → Bool × Int) (found19 : Bool) (i20 : Int) : Bool × Int :=
  bif (decide (i20 < (((F_s_AllCongruences (((F_s_DrawQuotientFrame code).1).1) (((F_s_DrawQuotientFrame code).1).2)).1).length : Int))) then (bif found19 then (rec true (i20 + 1)) else (rec (decide ((gL ((F_s_AllCongruences (((F_s_DrawQuotientFrame code).1).1) (((F_s_DrawQuotientFrame code).1).2)).1) i20) = ((F_s_DrawQuotientFrame code).2))) (i20 + 1))) else (found19, i20)
def F_l_FnCongruences_L1 (code : List Int) : Nat → Bool → Int → Bool × Int
  | 0, found19, i20 => (found19, i20)
  | r + 1, found19, i20 => F_l_FnCongruences_L1b code (F_l_FnCongruences_L1 code r) found19 i20
def F_l_FnCongruences (code : List Int) : Bool :=
  bif (F_l_big code) then true else (bif (!decide (((F_QuotientFrame (((F_s_DrawQuotientFrame code).1).1) (((F_s_DrawQuotientFrame code).1).2) ((F_s_DrawQuotientFrame code).2)).2) = ((F_s_QuotientFrame (((F_s_DrawQuotientFrame code).1).1) (((F_s_DrawQuotientFrame code).1).2) ((F_s_DrawQuotientFrame code).2)).2))) then false else (bif (!(F_l_likeFrame5 (((F_QuotientFrame (((F_s_DrawQuotientFrame code).1).1) (((F_s_DrawQuotientFrame code).1).2) ((F_s_DrawQuotientFrame code).2)).1).1) (((F_QuotientFrame (((F_s_DrawQuotientFrame code).1).1) (((F_s_DrawQuotientFrame code).1).2) ((F_s_DrawQuotientFrame code).2)).1).2) (((F_s_QuotientFrame (((F_s_DrawQuotientFrame code).1).1) (((F_s_DrawQuotientFrame code).1).2) ((F_s_DrawQuotientFrame code).2)).1).1) (((F_s_QuotientFrame (((F_s_DrawQuotientFrame code).1).1) (((F_s_DrawQuotientFrame code).1).2) ((F_s_DrawQuotientFrame code).2)).1).2))) then false else (bif (!decide (((F_IsCongruence (((F_s_DrawQuotientFrame code).1).1) (((F_s_DrawQuotientFrame code).1).2) ((F_s_DrawQuotientFrame code).2)).2) = ((F_s_IsCongruence (((F_s_DrawQuotientFrame code).1).1) (((F_s_DrawQuotientFrame code).1).2) ((F_s_DrawQuotientFrame code).2)).2))) then false else (bif (((F_IsCongruence (((F_s_DrawQuotientFrame code).1).1) (((F_s_DrawQuotientFrame code).1).2) ((F_s_DrawQuotientFrame code).2)).1) != ((F_s_IsCongruence (((F_s_DrawQuotientFrame code).1).1) (((F_s_DrawQuotientFrame code).1).2) ((F_s_DrawQuotientFrame code).2)).1)) then false else (bif (!decide (((F_QuotientFrame (((F_s_DrawQuotientFrame code).1).1) (((F_s_DrawQuotientFrame code).1).2) ((F_s_DrawQuotientFrame code).2)).2) = 0)) then (bif (!decide (((F_IsCongruence (((F_s_DrawQuotientFrame code).1).1) (((F_s_DrawQuotientFrame code).1).2) ((F_s_DrawQuotientFrame code).2)).2) = 0)) then true else (!((F_s_IsCongruence (((F_s_DrawQuotientFrame code).1).1) (((F_s_DrawQuotientFrame code).1).2) ((F_s_DrawQuotientFrame code).2)).1))) else (bif (!decide (((F_IsMorphism (((F_s_DrawQuotientFrame code).1).1) (((F_s_DrawQuotientFrame code).1).2) (((F_s_QuotientFrame (((F_s_DrawQuotientFrame code).1).1) (((F_s_DrawQuotientFrame code).1).2) ((F_s_DrawQuotientFrame code).2)).1).1) (((F_s_QuotientFrame (((F_s_DrawQuotientFrame code).1).1) (((F_s_DrawQuotientFrame code).1).2) ((F_s_DrawQuotientFrame code).2)).1).2) ((F_s_DrawQuotientFrame code).2)).2) = 0)) then false else (bif (!((F_IsMorphism (((F_s_DrawQuotientFrame code).1).1) (((F_s_DrawQuotientFrame code).1).2) (((F_s_QuotientFrame (((F_s_DrawQuotientFrame code).1).1) (((F_s_DrawQuotientFrame code).1).2) ((F_s_DrawQuotientFrame code).2)).1).1) (((F_s_QuotientFrame (((F_s_DrawQuotientFrame code).1).1) (((F_s_DrawQuotientFrame code).1).2) ((F_s_DrawQuotientFrame code).2)).1).2) ((F_s_DrawQuotientFrame code).2)).1)) then false else (bif (!decide (((F_AllCongruences (((F_s_DrawQuotientFrame code).1).1) (((F_s_DrawQuotientFrame code).1).2)).2) = ((F_s_AllCongruences (((F_s_DrawQuotientFrame code).1).1) (((F_s_DrawQuotientFrame code).1).2)).2))) then false else (bif (!(decide (((F_AllCongruences (((F_s_DrawQuotientFrame code).1).1) (((F_s_DrawQuotientFrame code).1).2)).1) = ((F_s_AllCongruences (((F_s_DrawQuotientFrame code).1).1) (((F_s_DrawQuotientFrame code).1).2)).1)))) then false else ((F_l_FnCongruences_L1 code (Int.toNat ((((F_s_AllCongruences (((F_s_DrawQuotientFrame code).1).1) (((F_s_DrawQuotientFrame code).1).2)).1).length : Int) - 0) + 1) (!decide (((F_AllCongruences (((F_s_DrawQuotientFrame code).1).1) (((F_s_DrawQuotientFrame code).1).2)).2) = 0)) 0).1))))))))))
set_option maxRecDepth 100000 in
theorem c_l_FnCongruences (codeA : Option Addr) (codeN codeC : Nat) (code : List Int) (w : World) (codeR : RdB w codeA codeN codeC code) :
    Calls Try.prog 11 #[.slice codeA code.length codeC] w (Ret fun v w' => v = .bool (F_l_FnCongruences code) ∧ Ext w w') := by
  obtain rfl : codeN = code.length := codeR.len
  have codeLe := codeR.le
  have hS := St.nil w
  refine enter (args := [.slice codeA code.length codeC]) Try.func11 rfl rfl ?_
  rw [Try.ntmps11]; intro a hE
  have hE := hE.sub (L' := [(0, .slice codeA code.length codeC)]) ⟨rfl, trivial⟩
  refine c_seq ?_
  refine c_reg ?_
  refine q_step (v := .bool false) hE (y_assign rfl) rfl rfl rfl ?_; intro a1 hE2; clear hE
  refine c_nil ?_
  have hE3 := hE2.sub (L' := [(0, .slice codeA code.length codeC)]) ⟨rfl, trivial⟩; clear hE2
  refine p_tn ?_
  refine c_seq ?_
  refine c_seq ?_
  refine c_reg ?_
  refine q_step (v := .slice codeA code.length codeC) hE3 (y_move rfl) rfl rfl rfl ?_; intro a4 hE5; clear hE3
  refine l_step hE5 rfl (l_call (f := 49) (argv := [.slice codeA code.length codeC]) hE5 (fun _ => cf_l_big _ _) rfl rfl (c_l_big codeA code.length codeC code w (codeR.ext hS.ext)) ?_)
  rintro _ _ ⟨rfl, rfl⟩ a8 hE9; clear hE5
  refine c_nil ?_
  have hE12 := hE9.sub (L' := [(0, .slice codeA code.length codeC), (22, .bool (F_l_big code))]) ⟨rfl, rfl, trivial⟩; clear hE9
  refine p_tn ?_
  refine c_cond hE12 rfl (fun ht13 => ?_) (fun ht13 => ?_)
  ·
   have hE14 := hE12; rw [ht13] at hE14; clear hE12
   refine c_seq ?_
   refine c_reg ?_
   refine q_step (v := .bool true) hE14 (y_assign rfl) rfl rfl rfl ?_; intro a15 hE16; clear hE14
   refine c_nil ?_
   have hE17 := hE16.sub (L' := [(2, .bool true)]) ⟨rfl, trivial⟩; clear hE16
   refine p_tn ?_
   refine wp_ret ?_
   refine p_tr ?_
   have hF : F_l_FnCongruences code = true := by unfold F_l_FnCongruences; rw [ht13]; first | done | rfl
   refine c_ret1 hE17 rfl rfl ?_
   exact ⟨(by rw [hF]; first | done | (dsimp only; done) | rfl), hS.ext⟩
  ·
   have hE18 := hE12; rw [ht13] at hE18; clear hE12
   refine wp_skip ?_
   refine p_tn ?_
   refine c_seq ?_
   refine c_reg ?_
   refine q_step (v := .slice codeA code.length codeC) hE18 (y_move rfl) rfl rfl rfl ?_; intro a19 hE20; clear hE18
   refine l_step hE20 rfl (l_call (f := 50) (argv := [.slice codeA code.length codeC]) hE20 (fun _ => cf_s_DrawQuotientFrame _ _) rfl rfl (c_s_DrawQuotientFrame codeA code.length codeC code w (codeR.ext hS.ext)) ?_)
   rintro _ w22 ⟨b27, c28, b29, c30, rfl, ho31, he26⟩ a23 hE24; clear hE20
   have hf33 := DrawQuot_len code
   have hS25 := St.push2 hS he26 ho31; clear hS
   refine q_step (v := .tuple #[.agg #[.int .i64 (((F_s_DrawQuotientFrame code).1).1), .slice b27 ((((F_s_DrawQuotientFrame code).1).2).length) c28], .slice b29 (((F_s_DrawQuotientFrame code).2).length) c30]) hE24 (y_move rfl) rfl rfl rfl ?_; intro a34 hE35; clear hE24
   refine q_step (v := .agg #[.int .i64 (((F_s_DrawQuotientFrame code).1).1), .slice b27 ((((F_s_DrawQuotientFrame code).1).2).length) c28]) hE35 (y_extract rfl rfl) rfl rfl rfl ?_; intro a36 hE37; clear hE35
   refine q_step (v := .slice b29 (((F_s_DrawQuotientFrame code).2).length) c30) hE37 (y_extract rfl rfl) rfl rfl rfl ?_; intro a38 hE39; clear hE37
   refine l_step hE39 rfl (l_alloc (z := .agg #[.int .i64 0, .slice none 0 0]) (cs := #[.int .i64 0, .slice none 0 0]) hS25 hE39 (fun _ => by kernel_rfl) rfl rfl ?_)
   intro b40 w41 hS44 he45 a42 hE43; clear hS25 hE39
   refine l_step hE43 rfl (l_storeS (k := 0) (cs' := #[.int .i64 (((F_s_DrawQuotientFrame code).1).1), .slice b27 ((((F_s_DrawQuotientFrame code).1).2).length) c28]) hS44 hE43 (by kernel_rfl) rfl rfl (by kernel_rfl) rfl rfl ?_)
   intro w47 hS50 a48 hE49; clear hS44 hE43
   refine q_step (v := .slice b29 (((F_s_DrawQuotientFrame code).2).length) c30) hE49 (y_assign rfl) rfl rfl rfl ?_; intro a52 hE53; clear hE49
   refine c_nil ?_
   have hE54 := hE53.sub (L' := [(3, .pointer (some ⟨b40, 0, none⟩)), (4, .slice b29 (((F_s_DrawQuotientFrame code).2).length) c30)]) ⟨rfl, rfl, trivial⟩; clear hE53
   refine p_tn ?_
   refine c_seq ?_
   refine c_reg ?_
   refine q_step (v := .agg #[.int .i64 (((F_s_DrawQuotientFrame code).1).1), .slice b27 ((((F_s_DrawQuotientFrame code).1).2).length) c28]) hE54 (y_loadS Try.underlying30 rfl (by kernel_rfl) rfl (St.row (i := 0) hS50 rfl)) rfl rfl rfl ?_; intro a55 hE56; clear hE54
   refine q_step (v := .slice b29 (((F_s_DrawQuotientFrame code).2).length) c30) hE56 (y_move rfl) rfl rfl rfl ?_; intro a57 hE58; clear hE56
   refine l_step hE58 rfl (l_call (f := 51) (argv := [.agg #[.int .i64 (((F_s_DrawQuotientFrame code).1).1), .slice b27 ((((F_s_DrawQuotientFrame code).1).2).length) c28], .slice b29 (((F_s_DrawQuotientFrame code).2).length) c30]) hE58 (fun _ => cf_QuotientFrame _ _) rfl rfl (c_QuotientFrame (((F_s_DrawQuotientFrame code).1).1) b27 ((((F_s_DrawQuotientFrame code).1).2).length) c28 (((F_s_DrawQuotientFrame code).1).2) b29 (((F_s_DrawQuotientFrame code).2).length) c30 ((F_s_DrawQuotientFrame code).2) w47 (St.rdO (i := 1) hS50 rfl) (St.rdO (i := 2) hS50 rfl) (by omega)) ?_)
   rintro _ w60 ⟨b65, c66, rfl, ho67, he64⟩ a61 hE62; clear hE58
   have hf68 := QuotientFrame_len (((F_s_DrawQuotientFrame code).1).1) (((F_s_DrawQuotientFrame code).1).2) ((F_s_DrawQuotientFrame code).2)
   have hS63 := St.own hS50 he64 ho67; clear hS50
   refine q_step (v := .tuple #[.agg #[.int .i64 (((F_QuotientFrame (((F_s_DrawQuotientFrame code).1).1) (((F_s_DrawQuotientFrame code).1).2) ((F_s_DrawQuotientFrame code).2)).1).1), .slice b65 ((((F_QuotientFrame (((F_s_DrawQuotientFrame code).1).1) (((F_s_DrawQuotientFrame code).1).2) ((F_s_DrawQuotientFrame code).2)).1).2).length) c66], .int .i64 ((F_QuotientFrame (((F_s_DrawQuotientFrame code).1).1) (((F_s_DrawQuotientFrame code).1).2) ((F_s_DrawQuotientFrame code).2)).2)]) hE62 (y_move rfl) rfl rfl rfl ?_; intro a69 hE70; clear hE62
   refine q_step (v := .agg #[.int .i64 (((F_QuotientFrame (((F_s_DrawQuotientFrame code).1).1) (((F_s_DrawQuotientFrame code).1).2) ((F_s_DrawQuotientFrame code).2)).1).1), .slice b65 ((((F_QuotientFrame (((F_s_DrawQuotientFrame code).1).1) (((F_s_DrawQuotientFrame code).1).2) ((F_s_DrawQuotientFrame code).2)).1).2).length) c66]) hE70 (y_extract rfl rfl) rfl rfl rfl ?_; intro a71 hE72; clear hE70
   refine q_step (v := .int .i64 ((F_QuotientFrame (((F_s_DrawQuotientFrame code).1).1) (((F_s_DrawQuotientFrame code).1).2) ((F_s_DrawQuotientFrame code).2)).2)) hE72 (y_extract rfl rfl) rfl rfl rfl ?_; intro a73 hE74; clear hE72
   refine l_step hE74 rfl (l_alloc (z := .agg #[.int .i64 0, .slice none 0 0]) (cs := #[.int .i64 0, .slice none 0 0]) hS63 hE74 (fun _ => by kernel_rfl) rfl rfl ?_)
   intro b75 w76 hS79 he80 a77 hE78; clear hS63 hE74
   refine l_step hE78 rfl (l_storeS (k := 0) (cs' := #[.int .i64 (((F_QuotientFrame (((F_s_DrawQuotientFrame code).1).1) (((F_s_DrawQuotientFrame code).1).2) ((F_s_DrawQuotientFrame code).2)).1).1), .slice b65 ((((F_QuotientFrame (((F_s_DrawQuotientFrame code).1).1) (((F_s_DrawQuotientFrame code).1).2) ((F_s_DrawQuotientFrame code).2)).1).2).length) c66]) hS79 hE78 (by kernel_rfl) rfl rfl (by kernel_rfl) rfl rfl ?_)
   intro w82 hS85 a83 hE84; clear hS79 hE78
   refine q_step (v := .int .i64 ((F_QuotientFrame (((F_s_DrawQuotientFrame code).1).1) (((F_s_DrawQuotientFrame code).1).2) ((F_s_DrawQuotientFrame code).2)).2)) hE84 (y_assign rfl) rfl rfl rfl ?_; intro a87 hE88; clear hE84
   refine c_nil ?_
   have hE89 := hE88.sub (L' := [(3, .pointer (some ⟨b40, 0, none⟩)), (4, .slice b29 (((F_s_DrawQuotientFrame code).2).length) c30), (5, .pointer (some ⟨b75, 0, none⟩)), (6, .int .i64 ((F_QuotientFrame (((F_s_DrawQuotientFrame code).1).1) (((F_s_DrawQuotientFrame code).1).2) ((F_s_DrawQuotientFrame code).2)).2))]) ⟨rfl, rfl, rfl, rfl, trivial⟩; clear hE88
   refine p_tn ?_
   refine c_seq ?_
   refine c_reg ?_
   refine q_step (v := .agg #[.int .i64 (((F_s_DrawQuotientFrame code).1).1), .slice b27 ((((F_s_DrawQuotientFrame code).1).2).length) c28]) hE89 (y_loadS Try.underlying30 rfl (by kernel_rfl) rfl (St.row (i := 2) hS85 rfl)) rfl rfl rfl ?_; intro a90 hE91; clear hE89
   refine q_step (v := .slice b29 (((F_s_DrawQuotientFrame code).2).length) c30) hE91 (y_move rfl) rfl rfl rfl ?_; intro a92 hE93; clear hE91
   refine l_step hE93 rfl (l_call (f := 52) (argv := [.agg #[.int .i64 (((F_s_DrawQuotientFrame code).1).1), .slice b27 ((((F_s_DrawQuotientFrame code).1).2).length) c28], .slice b29 (((F_s_DrawQuotientFrame code).2).length) c30]) hE93 (fun _ => cf_s_QuotientFrame _ _) rfl rfl (c_s_QuotientFrame (((F_s_DrawQuotientFrame code).1).1) b27 ((((F_s_DrawQuotientFrame code).1).2).length) c28 (((F_s_DrawQuotientFrame code).1).2) b29 (((F_s_DrawQuotientFrame code).2).length) c30 ((F_s_DrawQuotientFrame code).2) w82 (St.rdO (i := 3) hS85 rfl) (St.rdO (i := 4) hS85 rfl) (by omega)) ?_)
   rintro _ w95 ⟨b100, c101, rfl, ho102, he99⟩ a96 hE97; clear hE93
   have hS98 := St.own hS85 he99 ho102; clear hS85
   refine q_step (v := .tuple #[.agg #[.int .i64 (((F_s_QuotientFrame (((F_s_DrawQuotientFrame code).1).1) (((F_s_DrawQuotientFrame code).1).2) ((F_s_DrawQuotientFrame code).2)).1).1), .slice b100 ((((F_s_QuotientFrame (((F_s_DrawQuotientFrame code).1).1) (((F_s_DrawQuotientFrame code).1).2) ((F_s_DrawQuotientFrame code).2)).1).2).length) c101], .int .i64 ((F_s_QuotientFrame (((F_s_DrawQuotientFrame code).1).1) (((F_s_DrawQuotientFrame code).1).2) ((F_s_DrawQuotientFrame code).2)).2)]) hE97 (y_move rfl) rfl rfl rfl ?_; intro a103 hE104; clear hE97
   refine q_step (v := .agg #[.int .i64 (((F_s_QuotientFrame (((F_s_DrawQuotientFrame code).1).1) (((F_s_DrawQuotientFrame code).1).2) ((F_s_DrawQuotientFrame code).2)).1).1), .slice b100 ((((F_s_QuotientFrame (((F_s_DrawQuotientFrame code).1).1) (((F_s_DrawQuotientFrame code).1).2) ((F_s_DrawQuotientFrame code).2)).1).2).length) c101]) hE104 (y_extract rfl rfl) rfl rfl rfl ?_; intro a105 hE106; clear hE104
   refine q_step (v := .int .i64 ((F_s_QuotientFrame (((F_s_DrawQuotientFrame code).1).1) (((F_s_DrawQuotientFrame code).1).2) ((F_s_DrawQuotientFrame code).2)).2)) hE106 (y_extract rfl rfl) rfl rfl rfl ?_; intro a107 hE108; clear hE106
   refine l_step hE108 rfl (l_alloc (z := .agg #[.int .i64 0, .slice none 0 0]) (cs := #[.int .i64 0, .slice none 0 0]) hS98 hE108 (fun _ => by kernel_rfl) rfl rfl ?_)
   intro b109 w110 hS113 he114 a111 hE112; clear hS98 hE108
   refine l_step hE112 rfl (l_storeS (k := 0) (cs' := #[.int .i64 (((F_s_QuotientFrame (((F_s_DrawQuotientFrame code).1).1) (((F_s_DrawQuotientFrame code).1).2) ((F_s_DrawQuotientFrame code).2)).1).1), .slice b100 ((((F_s_QuotientFrame (((F_s_DrawQuotientFrame code).1).1) (((F_s_DrawQuotientFrame code).1).2) ((F_s_DrawQuotientFrame code).2)).1).2).length) c101]) hS113 hE112 (by kernel_rfl) rfl rfl (by kernel_rfl) rfl rfl ?_)
   intro w116 hS119 a117 hE118; clear hS113 hE112
   refine q_step (v := .int .i64 ((F_s_QuotientFrame (((F_s_DrawQuotientFrame code).1).1) (((F_s_DrawQuotientFrame code).1).2) ((F_s_DrawQuotientFrame code).2)).2)) hE118 (y_assign rfl) rfl rfl rfl ?_; intro a121 hE122; clear hE118
   refine c_nil ?_
   have hE123 := hE122.sub (L' := [(3, .pointer (some ⟨b40, 0, none⟩)), (4, .slice b29 (((F_s_DrawQuotientFrame code).2).length) c30), (5, .pointer (some ⟨b75, 0, none⟩)), (6, .int .i64 ((F_QuotientFrame (((F_s_DrawQuotientFrame code).1).1) (((F_s_DrawQuotientFrame code).1).2) ((F_s_DrawQuotientFrame code).2)).2)), (7, .pointer (some ⟨b109, 0, none⟩)), (8, .int .i64 ((F_s_QuotientFrame (((F_s_DrawQuotientFrame code).1).1) (((F_s_DrawQuotientFrame code).1).2) ((F_s_DrawQuotientFrame code).2)).2))]) ⟨rfl, rfl, rfl, rfl, rfl, rfl, trivial⟩; clear hE122
   refine p_tn ?_
   refine c_seq ?_
   refine c_reg ?_
   refine q_step (v := .agg #[.int .i64 (((F_s_DrawQuotientFrame code).1).1), .slice b27 ((((F_s_DrawQuotientFrame code).1).2).length) c28]) hE123 (y_loadS Try.underlying30 rfl (by kernel_rfl) rfl (St.row (i := 4) hS119 rfl)) rfl rfl rfl ?_; intro a124 hE125; clear hE123
   refine q_step (v := .slice b29 (((F_s_DrawQuotientFrame code).2).length) c30) hE125 (y_move rfl) rfl rfl rfl ?_; intro a126 hE127; clear hE125
   refine l_step hE127 rfl (l_call (f := 53) (argv := [.agg #[.int .i64 (((F_s_DrawQuotientFrame code).1).1), .slice b27 ((((F_s_DrawQuotientFrame code).1).2).length) c28], .slice b29 (((F_s_DrawQuotientFrame code).2).length) c30]) hE127 (fun _ => cf_IsCongruence _ _) rfl rfl (c_IsCongruence (((F_s_DrawQuotientFrame code).1).1) b27 ((((F_s_DrawQuotientFrame code).1).2).length) c28 (((F_s_DrawQuotientFrame code).1).2) b29 (((F_s_DrawQuotientFrame code).2).length) c30 ((F_s_DrawQuotientFrame code).2) w116 (St.rdO (i := 5) hS119 rfl) (St.rdO (i := 6) hS119 rfl) (by omega)) ?_)
   rintro _ w129 ⟨rfl, he133⟩ a130 hE131; clear hE127
   have hS132 := St.go hS119 he133; clear hS119
   refine q_step (v := .tuple #[.bool ((F_IsCongruence (((F_s_DrawQuotientFrame code).1).1) (((F_s_DrawQuotientFrame code).1).2) ((F_s_DrawQuotientFrame code).2)).1), .int .i64 ((F_IsCongruence (((F_s_DrawQuotientFrame code).1).1) (((F_s_DrawQuotientFrame code).1).2) ((F_s_DrawQuotientFrame code).2)).2)]) hE131 (y_move rfl) rfl rfl rfl ?_; intro a134 hE135; clear hE131
   refine q_step (v := .bool ((F_IsCongruence (((F_s_DrawQuotientFrame code).1).1) (((F_s_DrawQuotientFrame code).1).2) ((F_s_DrawQuotientFrame code).2)).1)) hE135 (y_extract rfl rfl) rfl rfl rfl ?_; intro a136 hE137; clear hE135
   refine q_step (v := .int .i64 ((F_IsCongruence (((F_s_DrawQuotientFrame code).1).1) (((F_s_DrawQuotientFrame code).1).2) ((F_s_DrawQuotientFrame code).2)).2)) hE137 (y_extract rfl rfl) rfl rfl rfl ?_; intro a138 hE139; clear hE137
   refine q_step (v := .bool ((F_IsCongruence (((F_s_DrawQuotientFrame code).1).1) (((F_s_DrawQuotientFrame code).1).2) ((F_s_DrawQuotientFrame code).2)).1)) hE139 (y_assign rfl) rfl rfl rfl ?_; intro a140 hE141; clear hE139
   refine q_step (v := .int .i64 ((F_IsCongruence (((F_s_DrawQuotientFrame code).1).1) (((F_s_DrawQuotientFrame code).1).2) ((F_s_DrawQuotientFrame code).2)).2)) hE141 (y_assign rfl) rfl rfl rfl ?_; intro a142 hE143; clear hE141
   refine c_nil ?_
   have hE144 := hE143.sub (L' := [(3, .pointer (some ⟨b40, 0, none⟩)), (4, .slice b29 (((F_s_DrawQuotientFrame code).2).length) c30), (5, .pointer (some ⟨b75, 0, none⟩)), (6, .int .i64 ((F_QuotientFrame (((F_s_DrawQuotientFrame code).1).1) (((F_s_DrawQuotientFrame code).1).2) ((F_s_DrawQuotientFrame code).2)).2)), (7, .pointer (some ⟨b109, 0, none⟩)), (8, .int .i64 ((F_s_QuotientFrame (((F_s_DrawQuotientFrame code).1).1) (((F_s_DrawQuotientFrame code).1).2) ((F_s_DrawQuotientFrame code).2)).2)), (9, .bool ((F_IsCongruence (((F_s_DrawQuotientFrame code).1).1) (((F_s_DrawQuotientFrame code).1).2) ((F_s_DrawQuotientFrame code).2)).1)), (10, .int .i64 ((F_IsCongruence (((F_s_DrawQuotientFrame code).1).1) (((F_s_DrawQuotientFrame code).1).2) ((F_s_DrawQuotientFrame code).2)).2))]) ⟨rfl, rfl, rfl, rfl, rfl, rfl, rfl, rfl, trivial⟩; clear hE143
   refine p_tn ?_
   refine c_seq ?_
   refine c_reg ?_
   refine q_step (v := .agg #[.int .i64 (((F_s_DrawQuotientFrame code).1).1), .slice b27 ((((F_s_DrawQuotientFrame code).1).2).length) c28]) hE144 (y_loadS Try.underlying30 rfl (by kernel_rfl) rfl (St.row (i := 4) hS132 rfl)) rfl rfl rfl ?_; intro a145 hE146; clear hE144
   refine q_step (v := .slice b29 (((F_s_DrawQuotientFrame code).2).length) c30) hE146 (y_move rfl) rfl rfl rfl ?_; intro a147 hE148; clear hE146
   refine l_step hE148 rfl (l_call (f := 54) (argv := [.agg #[.int .i64 (((F_s_DrawQuotientFrame code).1).1), .slice b27 ((((F_s_DrawQuotientFrame code).1).2).length) c28], .slice b29 (((F_s_DrawQuotientFrame code).2).length) c30]) hE148 (fun _ => cf_s_IsCongruence _ _) rfl rfl (c_s_IsCongruence (((F_s_DrawQuotientFrame code).1).1) b27 ((((F_s_DrawQuotientFrame code).1).2).length) c28 (((F_s_DrawQuotientFrame code).1).2) b29 (((F_s_DrawQuotientFrame code).2).length) c30 ((F_s_DrawQuotientFrame code).2) w129 (St.rdO (i := 5) hS132 rfl) (St.rdO (i := 6) hS132 rfl) (by omega)) ?_)
   rintro _ w150 ⟨rfl, he154⟩ a151 hE152; clear hE148
   have hS153 := St.go hS132 he154; clear hS132
   refine q_step (v := .tuple #[.bool ((F_s_IsCongruence (((F_s_DrawQuotientFrame code).1).1) (((F_s_DrawQuotientFrame code).1).2) ((F_s_DrawQuotientFrame code).2)).1), .int .i64 ((F_s_IsCongruence (((F_s_DrawQuotientFrame code).1).1) (((F_s_DrawQuotientFrame code).1).2) ((F_s_DrawQuotientFrame code).2)).2)]) hE152 (y_move rfl) rfl rfl rfl ?_; intro a155 hE156; clear hE152
   refine q_step (v := .bool ((F_s_IsCongruence (((F_s_DrawQuotientFrame code).1).1) (((F_s_DrawQuotientFrame code).1).2) ((F_s_DrawQuotientFrame code).2)).1)) hE156 (y_extract rfl rfl) rfl rfl rfl ?_; intro a157 hE158; clear hE156
   refine q_step (v := .int .i64 ((F_s_IsCongruence (((F_s_DrawQuotientFrame code).1).1) (((F_s_DrawQuotientFrame code).1).2) ((F_s_DrawQuotientFrame code).2)).2)) hE158 (y_extract rfl rfl) rfl rfl rfl ?_; intro a159 hE160; clear hE158
   refine q_step (v := .bool ((F_s_IsCongruence (((F_s_DrawQuotientFrame code).1).1) (((F_s_DrawQuotientFrame code).1).2) ((F_s_DrawQuotientFrame code).2)).1)) hE160 (y_assign rfl) rfl rfl rfl ?_; intro a161 hE162; clear hE160
   refine q_step (v := .int .i64 ((F_s_IsCongruence (((F_s_DrawQuotientFrame code).1).1) (((F_s_DrawQuotientFrame code).1).2) ((F_s_DrawQuotientFrame code).2)).2)) hE162 (y_assign rfl) rfl rfl rfl ?_; intro a163 hE164; clear hE162
   refine c_nil ?_
   have hE165 := hE164.sub (L' := [(3, .pointer (some ⟨b40, 0, none⟩)), (4, .slice b29 (((F_s_DrawQuotientFrame code).2).length) c30), (5, .pointer (some ⟨b75, 0, none⟩)), (6, .int .i64 ((F_QuotientFrame (((F_s_DrawQuotientFrame code).1).1) (((F_s_DrawQuotientFrame code).1).2) ((F_s_DrawQuotientFrame code).2)).2)), (7, .pointer (some ⟨b109, 0, none⟩)), (8, .int .i64 ((F_s_QuotientFrame (((F_s_DrawQuotientFrame code).1).1) (((F_s_DrawQuotientFrame code).1).2) ((F_s_DrawQuotientFrame code).2)).2)), (9, .bool ((F_IsCongruence (((F_s_DrawQuotientFrame code).1).1) (((F_s_DrawQuotientFrame code).1).2) ((F_s_DrawQuotientFrame code).2)).1)), (10, .int .i64 ((F_IsCongruence (((F_s_DrawQuotientFrame code).1).1) (((F_s_DrawQuotientFrame code).1).2) ((F_s_DrawQuotientFrame code).2)).2)), (11, .bool ((F_s_IsCongruence (((F_s_DrawQuotientFrame code).1).1) (((F_s_DrawQuotientFrame code).1).2) ((F_s_DrawQuotientFrame code).2)).1)), (12, .int .i64 ((F_s_IsCongruence (((F_s_DrawQuotientFrame code).1).1) (((F_s_DrawQuotientFrame code).1).2) ((F_s_DrawQuotientFrame code).2)).2))]) ⟨rfl, rfl, rfl, rfl, rfl, rfl, rfl, rfl, rfl, rfl, trivial⟩; clear hE164
   refine p_tn ?_
   refine c_seq ?_
   refine c_seq ?_
   refine c_reg ?_
   refine q_step (v := .int .i64 ((F_QuotientFrame (((F_s_DrawQuotientFrame code).1).1) (((F_s_DrawQuotientFrame code).1).2) ((F_s_DrawQuotientFrame code).2)).2)) hE165 (y_move rfl) rfl rfl rfl ?_; intro a166 hE167; clear hE165
   refine q_step (v := .int .i64 ((F_s_QuotientFrame (((F_s_DrawQuotientFrame code).1).1) (((F_s_DrawQuotientFrame code).1).2) ((F_s_DrawQuotientFrame code).2)).2)) hE167 (y_move rfl) rfl rfl rfl ?_; intro a168 hE169; clear hE167
   refine q_step (v := .bool (!decide (((F_QuotientFrame (((F_s_DrawQuotientFrame code).1).1) (((F_s_DrawQuotientFrame code).1).2) ((F_s_DrawQuotientFrame code).2)).2) = ((F_s_QuotientFrame (((F_s_DrawQuotientFrame code).1).1) (((F_s_DrawQuotientFrame code).1).2) ((F_s_DrawQuotientFrame code).2)).2)))) hE169 (y_neq rfl rfl) rfl rfl rfl ?_; intro a170 hE171; clear hE169
   refine q_step (v := .bool (!decide (((F_QuotientFrame (((F_s_DrawQuotientFrame code).1).1) (((F_s_DrawQuotientFrame code).1).2) ((F_s_DrawQuotientFrame code).2)).2) = ((F_s_QuotientFrame (((F_s_DrawQuotientFrame code).1).1) (((F_s_DrawQuotientFrame code).1).2) ((F_s_DrawQuotientFrame code).2)).2)))) hE171 (y_move rfl) rfl rfl rfl ?_; intro a172 hE173; clear hE171
   rcases Bool.eq_false_or_eq_true (!decide (((F_QuotientFrame (((F_s_DrawQuotientFrame code).1).1) (((F_s_DrawQuotientFrame code).1).2) ((F_s_DrawQuotientFrame code).2)).2) = ((F_s_QuotientFrame (((F_s_DrawQuotientFrame code).1).1) (((F_s_DrawQuotientFrame code).1).2) ((F_s_DrawQuotientFrame code).2)).2))) with hb174 | hb174
   ·
    have hE175 := hE173; (try rw [hb174] at hE175); clear hE173
    have ht176 := bn_t hb174
    have hp177 := of_decide_eq_false ht176
    refine q_skip hE175 rfl rfl rfl ?_; intro a178 hE179; clear hE175
    refine q_skip hE179 rfl rfl rfl ?_; intro a180 hE181; clear hE179
    refine q_skip hE181 rfl rfl rfl ?_; intro a182 hE183; clear hE181
    refine q_skip hE183 rfl rfl rfl ?_; intro a184 hE185; clear hE183
    refine q_step (v := .bool true) hE185 (y_pick (b := true) rfl rfl) rfl rfl rfl ?_; intro a186 hE187; clear hE185
    refine q_step (v := .bool true) hE187 (y_move rfl) rfl rfl rfl ?_; intro a188 hE189; clear hE187
    refine q_skip hE189 rfl rfl rfl ?_; intro a190 hE191; clear hE189
    refine q_skip hE191 rfl rfl rfl ?_; intro a192 hE193; clear hE191
    refine q_skip hE193 rfl rfl rfl ?_; intro a194 hE195; clear hE193
    refine q_step (v := .bool true) hE195 (y_pick (b := true) rfl rfl) rfl rfl rfl ?_; intro a196 hE197; clear hE195
    refine q_step (v := .bool true) hE197 (y_move rfl) rfl rfl rfl ?_; intro a198 hE199; clear hE197
    refine q_skip hE199 rfl rfl rfl ?_; intro a200 hE201; clear hE199
    refine q_skip hE201 rfl rfl rfl ?_; intro a202 hE203; clear hE201
    refine q_skip hE203 rfl rfl rfl ?_; intro a204 hE205; clear hE203
    refine q_step (v := .bool true) hE205 (y_pick (b := true) rfl rfl) rfl rfl rfl ?_; intro a206 hE207; clear hE205
    refine c_nil ?_
    have hE208 := hE207.sub (L' := [(3, .pointer (some ⟨b40, 0, none⟩)), (4, .slice b29 (((F_s_DrawQuotientFrame code).2).length) c30), (6, .int .i64 ((F_QuotientFrame (((F_s_DrawQuotientFrame code).1).1) (((F_s_DrawQuotientFrame code).1).2) ((F_s_DrawQuotientFrame code).2)).2)), (7, .pointer (some ⟨b109, 0, none⟩)), (10, .int .i64 ((F_IsCongruence (((F_s_DrawQuotientFrame code).1).1) (((F_s_DrawQuotientFrame code).1).2) ((F_s_DrawQuotientFrame code).2)).2)), (11, .bool ((F_s_IsCongruence (((F_s_DrawQuotientFrame code).1).1) (((F_s_DrawQuotientFrame code).1).2) ((F_s_DrawQuotientFrame code).2)).1)), (70, .bool true)]) ⟨rfl, rfl, rfl, rfl, rfl, rfl, rfl, trivial⟩; clear hE207
    refine p_tn ?_
    refine c_true hE208 rfl ?_
    refine c_seq ?_
    refine c_reg ?_
    refine q_step (v := .bool false) hE208 (y_assign rfl) rfl rfl rfl ?_; intro a209 hE210; clear hE208
    refine c_nil ?_
    have hE211 := hE210.sub (L' := [(2, .bool false)]) ⟨rfl, trivial⟩; clear hE210
    refine p_tn ?_
    refine wp_ret ?_
    refine p_tr ?_
    have hF : F_l_FnCongruences code = false := by unfold F_l_FnCongruences; rw [hb174, ht13]; first | done | rfl
    refine c_ret1 hE211 rfl rfl ?_
    exact ⟨(by rw [hF]; first | done | (dsimp only; done) | rfl), hS153.ext⟩
   ·
    have hE212 := hE173; (try rw [hb174] at hE212); clear hE173
    have ht213 := bn_f hb174
    have hp214 := of_decide_eq_true ht213
    refine q_step (v := .agg #[.int .i64 (((F_QuotientFrame (((F_s_DrawQuotientFrame code).1).1) (((F_s_DrawQuotientFrame code).1).2) ((F_s_DrawQuotientFrame code).2)).1).1), .slice b65 ((((F_QuotientFrame (((F_s_DrawQuotientFrame code).1).1) (((F_s_DrawQuotientFrame code).1).2) ((F_s_DrawQuotientFrame code).2)).1).2).length) c66]) hE212 (y_loadS Try.underlying30 rfl (by kernel_rfl) rfl (St.row (i := 2) hS153 rfl)) rfl rfl rfl ?_; intro a215 hE216; clear hE212
    refine q_step (v := .agg #[.int .i64 (((F_s_QuotientFrame (((F_s_DrawQuotientFrame code).1).1) (((F_s_DrawQuotientFrame code).1).2) ((F_s_DrawQuotientFrame code).2)).1).1), .slice b100 ((((F_s_QuotientFrame (((F_s_DrawQuotientFrame code).1).1) (((F_s_DrawQuotientFrame code).1).2) ((F_s_DrawQuotientFrame code).2)).1).2).length) c101]) hE216 (y_loadS Try.underlying30 rfl (by kernel_rfl) rfl (St.row (i := 0) hS153 rfl)) rfl rfl rfl ?_; intro a217 hE218; clear hE216
    refine l_step hE218 rfl (l_call (f := 55) (argv := [.agg #[.int .i64 (((F_QuotientFrame (((F_s_DrawQuotientFrame code).1).1) (((F_s_DrawQuotientFrame code).1).2) ((F_s_DrawQuotientFrame code).2)).1).1), .slice b65 ((((F_QuotientFrame (((F_s_DrawQuotientFrame code).1).1) (((F_s_DrawQuotientFrame code).1).2) ((F_s_DrawQuotientFrame code).2)).1).2).length) c66], .agg #[.int .i64 (((F_s_QuotientFrame (((F_s_DrawQuotientFrame code).1).1) (((F_s_DrawQuotientFrame code).1).2) ((F_s_DrawQuotientFrame code).2)).1).1), .slice b100 ((((F_s_QuotientFrame (((F_s_DrawQuotientFrame code).1).1) (((F_s_DrawQuotientFrame code).1).2) ((F_s_DrawQuotientFrame code).2)).1).2).length) c101]]) hE218 (fun _ => cf_l_likeFrame5 _ _) rfl rfl (c_l_likeFrame5 (((F_QuotientFrame (((F_s_DrawQuotientFrame code).1).1) (((F_s_DrawQuotientFrame code).1).2) ((F_s_DrawQuotientFrame code).2)).1).1) b65 ((((F_QuotientFrame (((F_s_DrawQuotientFrame code).1).1) (((F_s_DrawQuotientFrame code).1).2) ((F_s_DrawQuotientFrame code).2)).1).2).length) c66 (((F_QuotientFrame (((F_s_DrawQuotientFrame code).1).1) (((F_s_DrawQuotientFrame code).1).2) ((F_s_DrawQuotientFrame code).2)).1).2) (((F_s_QuotientFrame (((F_s_DrawQuotientFrame code).1).1) (((F_s_DrawQuotientFrame code).1).2) ((F_s_DrawQuotientFrame code).2)).1).1) b100 ((((F_s_QuotientFrame (((F_s_DrawQuotientFrame code).1).1) (((F_s_DrawQuotientFrame code).1).2) ((F_s_DrawQuotientFrame code).2)).1).2).length) c101 (((F_s_QuotientFrame (((F_s_DrawQuotientFrame code).1).1) (((F_s_DrawQuotientFrame code).1).2) ((F_s_DrawQuotientFrame code).2)).1).2) w150 (St.rdO (i := 3) hS153 rfl) (St.rdO (i := 1) hS153 rfl)) ?_)
    rintro _ w220 ⟨rfl, he224⟩ a221 hE222; clear hE218
    have hS223 := St.go hS153 he224; clear hS153
    refine q_step (v := .bool (!(F_l_likeFrame5 (((F_QuotientFrame (((F_s_DrawQuotientFrame code).1).1) (((F_s_DrawQuotientFrame code).1).2) ((F_s_DrawQuotientFrame code).2)).1).1) (((F_QuotientFrame (((F_s_DrawQuotientFrame code).1).1) (((F_s_DrawQuotientFrame code).1).2) ((F_s_DrawQuotientFrame code).2)).1).2) (((F_s_QuotientFrame (((F_s_DrawQuotientFrame code).1).1) (((F_s_DrawQuotientFrame code).1).2) ((F_s_DrawQuotientFrame code).2)).1).1) (((F_s_QuotientFrame (((F_s_DrawQuotientFrame code).1).1) (((F_s_DrawQuotientFrame code).1).2) ((F_s_DrawQuotientFrame code).2)).1).2)))) hE222 (y_not rfl) rfl rfl rfl ?_; intro a225 hE226; clear hE222
    refine q_step (v := .bool (!(F_l_likeFrame5 (((F_QuotientFrame (((F_s_DrawQuotientFrame code).1).1) (((F_s_DrawQuotientFrame code).1).2) ((F_s_DrawQuotientFrame code).2)).1).1) (((F_QuotientFrame (((F_s_DrawQuotientFrame code).1).1) (((F_s_DrawQuotientFrame code).1).2) ((F_s_DrawQuotientFrame code).2)).1).2) (((F_s_QuotientFrame (((F_s_DrawQuotientFrame code).1).1) (((F_s_DrawQuotientFrame code).1).2) ((F_s_DrawQuotientFrame code).2)).1).1) (((F_s_QuotientFrame (((F_s_DrawQuotientFrame code).1).1) (((F_s_DrawQuotientFrame code).1).2) ((F_s_DrawQuotientFrame code).2)).1).2)))) hE226 (y_pick (b := false) rfl rfl) rfl rfl rfl ?_; intro a227 hE228; clear hE226
    refine q_step (v := .bool (!(F_l_likeFrame5 (((F_QuotientFrame (((F_s_DrawQuotientFrame code).1).1) (((F_s_DrawQuotientFrame code).1).2) ((F_s_DrawQuotientFrame code).2)).1).1) (((F_QuotientFrame (((F_s_DrawQuotientFrame code).1).1) (((F_s_DrawQuotientFrame code).1).2) ((F_s_DrawQuotientFrame code).2)).1).2) (((F_s_QuotientFrame (((F_s_DrawQuotientFrame code).1).1) (((F_s_DrawQuotientFrame code).1).2) ((F_s_DrawQuotientFrame code).2)).1).1) (((F_s_QuotientFrame (((F_s_DrawQuotientFrame code).1).1) (((F_s_DrawQuotientFrame code).1).2) ((F_s_DrawQuotientFrame code).2)).1).2)))) hE228 (y_move rfl) rfl rfl rfl ?_; intro a229 hE230; clear hE228
    rcases Bool.eq_false_or_eq_true (!(F_l_likeFrame5 (((F_QuotientFrame (((F_s_DrawQuotientFrame code).1).1) (((F_s_DrawQuotientFrame code).1).2) ((F_s_DrawQuotientFrame code).2)).1).1) (((F_QuotientFrame (((F_s_DrawQuotientFrame code).1).1) (((F_s_DrawQuotientFrame code).1).2) ((F_s_DrawQuotientFrame code).2)).1).2) (((F_s_QuotientFrame (((F_s_DrawQuotientFrame code).1).1) (((F_s_DrawQuotientFrame code).1).2) ((F_s_DrawQuotientFrame code).2)).1).1) (((F_s_QuotientFrame (((F_s_DrawQuotientFrame code).1).1) (((F_s_DrawQuotientFrame code).1).2) ((F_s_DrawQuotientFrame code).2)).1).2))) with hb231 | hb231
    ·
     have hE232 := hE230; (try rw [hb231] at hE232); clear hE230
     have ht233 := bn_t hb231
     refine q_skip hE232 rfl rfl rfl ?_; intro a234 hE235; clear hE232
     refine q_skip hE235 rfl rfl rfl ?_; intro a236 hE237; clear hE235
     refine q_skip hE237 rfl rfl rfl ?_; intro a238 hE239; clear hE237
     refine q_step (v := .bool true) hE239 (y_pick (b := true) rfl rfl) rfl rfl rfl ?_; intro a240 hE241; clear hE239
     refine q_step (v := .bool true) hE241 (y_move rfl) rfl rfl rfl ?_; intro a242 hE243; clear hE241
     refine q_skip hE243 rfl rfl rfl ?_; intro a244 hE245; clear hE243
     refine q_skip hE245 rfl rfl rfl ?_; intro a246 hE247; clear hE245
     refine q_skip hE247 rfl rfl rfl ?_; intro a248 hE249; clear hE247
     refine q_step (v := .bool true) hE249 (y_pick (b := true) rfl rfl) rfl rfl rfl ?_; intro a250 hE251; clear hE249
     refine c_nil ?_
     have hE252 := hE251.sub (L' := [(3, .pointer (some ⟨b40, 0, none⟩)), (4, .slice b29 (((F_s_DrawQuotientFrame code).2).length) c30), (6, .int .i64 ((F_QuotientFrame (((F_s_DrawQuotientFrame code).1).1) (((F_s_DrawQuotientFrame code).1).2) ((F_s_DrawQuotientFrame code).2)).2)), (7, .pointer (some ⟨b109, 0, none⟩)), (10, .int .i64 ((F_IsCongruence (((F_s_DrawQuotientFrame code).1).1) (((F_s_DrawQuotientFrame code).1).2) ((F_s_DrawQuotientFrame code).2)).2)), (11, .bool ((F_s_IsCongruence (((F_s_DrawQuotientFrame code).1).1) (((F_s_DrawQuotientFrame code).1).2) ((F_s_DrawQuotientFrame code).2)).1)), (70, .bool true)]) ⟨rfl, rfl, rfl, rfl, rfl, rfl, rfl, trivial⟩; clear hE251
     refine p_tn ?_
     refine c_true hE252 rfl ?_
     refine c_seq ?_
     refine c_reg ?_
     refine q_step (v := .bool false) hE252 (y_assign rfl) rfl rfl rfl ?_; intro a253 hE254; clear hE252
     refine c_nil ?_
     have hE255 := hE254.sub (L' := [(2, .bool false)]) ⟨rfl, trivial⟩; clear hE254
     refine p_tn ?_
     refine wp_ret ?_
     refine p_tr ?_
     have hF : F_l_FnCongruences code = false := by unfold F_l_FnCongruences; rw [hb231, hb174, ht13]; first | done | rfl
     refine c_ret1 hE255 rfl rfl ?_
     exact ⟨(by rw [hF]; first | done | (dsimp only; done) | rfl), hS223.ext⟩
    ·
     have hE256 := hE230; (try rw [hb231] at hE256); clear hE230
     have ht257 := bn_f hb231
     refine q_step (v := .int .i64 ((F_IsCongruence (((F_s_DrawQuotientFrame code).1).1) (((F_s_DrawQuotientFrame code).1).2) ((F_s_DrawQuotientFrame code).2)).2)) hE256 (y_move rfl) rfl rfl rfl ?_; intro a258 hE259; clear hE256
     refine q_step (v := .int .i64 ((F_s_IsCongruence (((F_s_DrawQuotientFrame code).1).1) (((F_s_DrawQuotientFrame code).1).2) ((F_s_DrawQuotientFrame code).2)).2)) hE259 (y_move rfl) rfl rfl rfl ?_; intro a260 hE261; clear hE259
     refine q_step (v := .bool (!decide (((F_IsCongruence (((F_s_DrawQuotientFrame code).1).1) (((F_s_DrawQuotientFrame code).1).2) ((F_s_DrawQuotientFrame code).2)).2) = ((F_s_IsCongruence (((F_s_DrawQuotientFrame code).1).1) (((F_s_DrawQuotientFrame code).1).2) ((F_s_DrawQuotientFrame code).2)).2)))) hE261 (y_neq rfl rfl) rfl rfl rfl ?_; intro a262 hE263; clear hE261
     refine q_step (v := .bool (!decide (((F_IsCongruence (((F_s_DrawQuotientFrame code).1).1) (((F_s_DrawQuotientFrame code).1).2) ((F_s_DrawQuotientFrame code).2)).2) = ((F_s_IsCongruence (((F_s_DrawQuotientFrame code).1).1) (((F_s_DrawQuotientFrame code).1).2) ((F_s_DrawQuotientFrame code).2)).2)))) hE263 (y_pick (b := false) rfl rfl) rfl rfl rfl ?_; intro a264 hE265; clear hE263
     refine q_step (v := .bool (!decide (((F_IsCongruence (((F_s_DrawQuotientFrame code).1).1) (((F_s_DrawQuotientFrame code).1).2) ((F_s_DrawQuotientFrame code).2)).2) = ((F_s_IsCongruence (((F_s_DrawQuotientFrame code).1).1) (((F_s_DrawQuotientFrame code).1).2) ((F_s_DrawQuotientFrame code).2)).2)))) hE265 (y_move rfl) rfl rfl rfl ?_; intro a266 hE267; clear hE265
     rcases Bool.eq_false_or_eq_true (!decide (((F_IsCongruence (((F_s_DrawQuotientFrame code).1).1) (((F_s_DrawQuotientFrame code).1).2) ((F_s_DrawQuotientFrame code).2)).2) = ((F_s_IsCongruence (((F_s_DrawQuotientFrame code).1).1) (((F_s_DrawQuotientFrame code).1).2) ((F_s_DrawQuotientFrame code).2)).2))) with hb268 | hb268
     ·
      have hE269 := hE267; (try rw [hb268] at hE269); clear hE267
      have ht270 := bn_t hb268
      have hp271 := of_decide_eq_false ht270
      refine q_skip hE269 rfl rfl rfl ?_; intro a272 hE273; clear hE269
      refine q_skip hE273 rfl rfl rfl ?_; intro a274 hE275; clear hE273
      refine q_skip hE275 rfl rfl rfl ?_; intro a276 hE277; clear hE275
      refine q_step (v := .bool true) hE277 (y_pick (b := true) rfl rfl) rfl rfl rfl ?_; intro a278 hE279; clear hE277
      refine c_nil ?_
      have hE280 := hE279.sub (L' := [(3, .pointer (some ⟨b40, 0, none⟩)), (4, .slice b29 (((F_s_DrawQuotientFrame code).2).length) c30), (6, .int .i64 ((F_QuotientFrame (((F_s_DrawQuotientFrame code).1).1) (((F_s_DrawQuotientFrame code).1).2) ((F_s_DrawQuotientFrame code).2)).2)), (7, .pointer (some ⟨b109, 0, none⟩)), (10, .int .i64 ((F_IsCongruence (((F_s_DrawQuotientFrame code).1).1) (((F_s_DrawQuotientFrame code).1).2) ((F_s_DrawQuotientFrame code).2)).2)), (11, .bool ((F_s_IsCongruence (((F_s_DrawQuotientFrame code).1).1) (((F_s_DrawQuotientFrame code).1).2) ((F_s_DrawQuotientFrame code).2)).1)), (70, .bool true)]) ⟨rfl, rfl, rfl, rfl, rfl, rfl, rfl, trivial⟩; clear hE279
      refine p_tn ?_
      refine c_true hE280 rfl ?_
      refine c_seq ?_
      refine c_reg ?_
      refine q_step (v := .bool false) hE280 (y_assign rfl) rfl rfl rfl ?_; intro a281 hE282; clear hE280
      refine c_nil ?_
      have hE283 := hE282.sub (L' := [(2, .bool false)]) ⟨rfl, trivial⟩; clear hE282
      refine p_tn ?_
      refine wp_ret ?_
      refine p_tr ?_
      have hF : F_l_FnCongruences code = false := by unfold F_l_FnCongruences; rw [hb268, hb231, hb174, ht13]; first | done | rfl
      refine c_ret1 hE283 rfl rfl ?_
      exact ⟨(by rw [hF]; first | done | (dsimp only; done) | rfl), hS223.ext⟩
     ·
      have hE284 := hE267; (try rw [hb268] at hE284); clear hE267
      have ht285 := bn_f hb268
      have hp286 := of_decide_eq_true ht285
      refine q_step (v := .bool ((F_IsCongruence (((F_s_DrawQuotientFrame code).1).1) (((F_s_DrawQuotientFrame code).1).2) ((F_s_DrawQuotientFrame code).2)).1)) hE284 (y_move rfl) rfl rfl rfl ?_; intro a287 hE288; clear hE284
      refine q_step (v := .bool ((F_s_IsCongruence (((F_s_DrawQuotientFrame code).1).1) (((F_s_DrawQuotientFrame code).1).2) ((F_s_DrawQuotientFrame code).2)).1)) hE288 (y_move rfl) rfl rfl rfl ?_; intro a289 hE290; clear hE288
      refine q_step (v := .bool (((F_IsCongruence (((F_s_DrawQuotientFrame code).1).1) (((F_s_DrawQuotientFrame code).1).2) ((F_s_DrawQuotientFrame code).2)).1) != ((F_s_IsCongruence (((F_s_DrawQuotientFrame code).1).1) (((F_s_DrawQuotientFrame code).1).2) ((F_s_DrawQuotientFrame code).2)).1))) hE290 (y_neqb (by kernel_rfl) rfl rfl) rfl rfl rfl ?_; intro a291 hE292; clear hE290
      refine q_step (v := .bool (((F_IsCongruence (((F_s_DrawQuotientFrame code).1).1) (((F_s_DrawQuotientFrame code).1).2) ((F_s_DrawQuotientFrame code).2)).1) != ((F_s_IsCongruence (((F_s_DrawQuotientFrame code).1).1) (((F_s_DrawQuotientFrame code).1).2) ((F_s_DrawQuotientFrame code).2)).1))) hE292 (y_pick (b := false) rfl rfl) rfl rfl rfl ?_; intro a293 hE294; clear hE292
      refine c_nil ?_
      have hE295 := hE294.sub (L' := [(3, .pointer (some ⟨b40, 0, none⟩)), (4, .slice b29 (((F_s_DrawQuotientFrame code).2).length) c30), (6, .int .i64 ((F_QuotientFrame (((F_s_DrawQuotientFrame code).1).1) (((F_s_DrawQuotientFrame code).1).2) ((F_s_DrawQuotientFrame code).2)).2)), (7, .pointer (some ⟨b109, 0, none⟩)), (10, .int .i64 ((F_IsCongruence (((F_s_DrawQuotientFrame code).1).1) (((F_s_DrawQuotientFrame code).1).2) ((F_s_DrawQuotientFrame code).2)).2)), (11, .bool ((F_s_IsCongruence (((F_s_DrawQuotientFrame code).1).1) (((F_s_DrawQuotientFrame code).1).2) ((F_s_DrawQuotientFrame code).2)).1)), (70, .bool (((F_IsCongruence (((F_s_DrawQuotientFrame code).1).1) (((F_s_DrawQuotientFrame code).1).2) ((F_s_DrawQuotientFrame code).2)).1) != ((F_s_IsCongruence (((F_s_DrawQuotientFrame code).1).1) (((F_s_DrawQuotientFrame code).1).2) ((F_s_DrawQuotientFrame code).2)).1)))]) ⟨rfl, rfl, rfl, rfl, rfl, rfl, rfl, trivial⟩; clear hE294
      refine p_tn ?_
      refine c_cond hE295 rfl (fun ht296 => ?_) (fun ht296 => ?_)
      ·
       have hE297 := hE295; rw [ht296] at hE297; clear hE295
       refine c_seq ?_
       refine c_reg ?_
       refine q_step (v := .bool false) hE297 (y_assign rfl) rfl rfl rfl ?_; intro a298 hE299; clear hE297
       refine c_nil ?_
       have hE300 := hE299.sub (L' := [(2, .bool false)]) ⟨rfl, trivial⟩; clear hE299
       refine p_tn ?_
       refine wp_ret ?_
       refine p_tr ?_
       have hF : F_l_FnCongruences code = false := by unfold F_l_FnCongruences; rw [ht296, hb268, hb231, hb174, ht13]; first | done | rfl
       refine c_ret1 hE300 rfl rfl ?_
       exact ⟨(by rw [hF]; first | done | (dsimp only; done) | rfl), hS223.ext⟩
      ·
       have hE301 := hE295; rw [ht296] at hE301; clear hE295
       refine wp_skip ?_
       refine p_tn ?_
       refine c_seq ?_
       refine c_seq ?_
       refine c_reg ?_
       refine q_step (v := .int .i64 ((F_QuotientFrame (((F_s_DrawQuotientFrame code).1).1) (((F_s_DrawQuotientFrame code).1).2) ((F_s_DrawQuotientFrame code).2)).2)) hE301 (y_move rfl) rfl rfl rfl ?_; intro a302 hE303; clear hE301
       refine q_step (v := .bool (!decide (((F_QuotientFrame (((F_s_DrawQuotientFrame code).1).1) (((F_s_DrawQuotientFrame code).1).2) ((F_s_DrawQuotientFrame code).2)).2) = 0))) hE303 (y_neq rfl rfl) rfl rfl rfl ?_; intro a304 hE305; clear hE303
       refine c_nil ?_
       have hE306 := hE305.sub (L' := [(3, .pointer (some ⟨b40, 0, none⟩)), (4, .slice b29 (((F_s_DrawQuotientFrame code).2).length) c30), (7, .pointer (some ⟨b109, 0, none⟩)), (10, .int .i64 ((F_IsCongruence (((F_s_DrawQuotientFrame code).1).1) (((F_s_DrawQuotientFrame code).1).2) ((F_s_DrawQuotientFrame code).2)).2)), (11, .bool ((F_s_IsCongruence (((F_s_DrawQuotientFrame code).1).1) (((F_s_DrawQuotientFrame code).1).2) ((F_s_DrawQuotientFrame code).2)).1)), (72, .bool (!decide (((F_QuotientFrame (((F_s_DrawQuotientFrame code).1).1) (((F_s_DrawQuotientFrame code).1).2) ((F_s_DrawQuotientFrame code).2)).2) = 0)))]) ⟨rfl, rfl, rfl, rfl, rfl, rfl, trivial⟩; clear hE305
       refine p_tn ?_
       refine c_cond hE306 rfl (fun ht307 => ?_) (fun ht307 => ?_)
       ·
        have ht308 := bn_t ht307
        have hp309 := of_decide_eq_false ht308
        have hE310 := hE306; rw [ht307] at hE310; clear hE306
        refine c_seq ?_
        refine c_reg ?_
        refine q_step (v := .int .i64 ((F_IsCongruence (((F_s_DrawQuotientFrame code).1).1) (((F_s_DrawQuotientFrame code).1).2) ((F_s_DrawQuotientFrame code).2)).2)) hE310 (y_move rfl) rfl rfl rfl ?_; intro a311 hE312; clear hE310
        refine q_step (v := .bool (!decide (((F_IsCongruence (((F_s_DrawQuotientFrame code).1).1) (((F_s_DrawQuotientFrame code).1).2) ((F_s_DrawQuotientFrame code).2)).2) = 0))) hE312 (y_neq rfl rfl) rfl rfl rfl ?_; intro a313 hE314; clear hE312
        refine q_step (v := .bool (!decide (((F_IsCongruence (((F_s_DrawQuotientFrame code).1).1) (((F_s_DrawQuotientFrame code).1).2) ((F_s_DrawQuotientFrame code).2)).2) = 0))) hE314 (y_move rfl) rfl rfl rfl ?_; intro a315 hE316; clear hE314
        rcases Bool.eq_false_or_eq_true (!decide (((F_IsCongruence (((F_s_DrawQuotientFrame code).1).1) (((F_s_DrawQuotientFrame code).1).2) ((F_s_DrawQuotientFrame code).2)).2) = 0)) with hb317 | hb317
        ·
         have hE318 := hE316; (try rw [hb317] at hE318); clear hE316
         have ht319 := bn_t hb317
         have hp320 := of_decide_eq_false ht319
         refine q_skip hE318 rfl rfl rfl ?_; intro a321 hE322; clear hE318
         refine q_skip hE322 rfl rfl rfl ?_; intro a323 hE324; clear hE322
         refine q_step (v := .bool true) hE324 (y_pick (b := true) rfl rfl) rfl rfl rfl ?_; intro a325 hE326; clear hE324
         refine q_step (v := .bool true) hE326 (y_assign rfl) rfl rfl rfl ?_; intro a327 hE328; clear hE326
         refine c_nil ?_
         have hE329 := hE328.sub (L' := [(2, .bool true)]) ⟨rfl, trivial⟩; clear hE328
         refine p_tn ?_
         refine wp_ret ?_
         refine p_tr ?_
         have hF : F_l_FnCongruences code = true := by unfold F_l_FnCongruences; rw [hb317, ht307, ht296, hb268, hb231, hb174, ht13]; first | done | rfl
         refine c_ret1 hE329 rfl rfl ?_
         exact ⟨(by rw [hF]; first | done | (dsimp only; done) | rfl), hS223.ext⟩
        ·
         have hE330 := hE316; (try rw [hb317] at hE330); clear hE316
         have ht331 := bn_f hb317
         have hp332 := of_decide_eq_true ht331
         refine q_step (v := .bool ((F_s_IsCongruence (((F_s_DrawQuotientFrame code).1).1) (((F_s_DrawQuotientFrame code).1).2) ((F_s_DrawQuotientFrame code).2)).1)) hE330 (y_move rfl) rfl rfl rfl ?_; intro a333 hE334; clear hE330
         refine q_step (v := .bool (!((F_s_IsCongruence (((F_s_DrawQuotientFrame code).1).1) (((F_s_DrawQuotientFrame code).1).2) ((F_s_DrawQuotientFrame code).2)).1))) hE334 (y_not rfl) rfl rfl rfl ?_; intro a335 hE336; clear hE334
         refine q_step (v := .bool (!((F_s_IsCongruence (((F_s_DrawQuotientFrame code).1).1) (((F_s_DrawQuotientFrame code).1).2) ((F_s_DrawQuotientFrame code).2)).1))) hE336 (y_pick (b := false) rfl rfl) rfl rfl rfl ?_; intro a337 hE338; clear hE336
         refine q_step (v := .bool (!((F_s_IsCongruence (((F_s_DrawQuotientFrame code).1).1) (((F_s_DrawQuotientFrame code).1).2) ((F_s_DrawQuotientFrame code).2)).1))) hE338 (y_assign rfl) rfl rfl rfl ?_; intro a339 hE340; clear hE338
         refine c_nil ?_
         have hE341 := hE340.sub (L' := [(2, .bool (!((F_s_IsCongruence (((F_s_DrawQuotientFrame code).1).1) (((F_s_DrawQuotientFrame code).1).2) ((F_s_DrawQuotientFrame code).2)).1)))]) ⟨rfl, trivial⟩; clear hE340
         refine p_tn ?_
         refine wp_ret ?_
         refine p_tr ?_
         have hF : F_l_FnCongruences code = (!((F_s_IsCongruence (((F_s_DrawQuotientFrame code).1).1) (((F_s_DrawQuotientFrame code).1).2) ((F_s_DrawQuotientFrame code).2)).1)) := by unfold F_l_FnCongruences; rw [hb317, ht307, ht296, hb268, hb231, hb174, ht13]; first | done | rfl
         refine c_ret1 hE341 rfl rfl ?_
         exact ⟨(by rw [hF]; first | done | (dsimp only; done) | rfl), hS223.ext⟩
       ·
        have ht342 := bn_f ht307
        have hp343 := of_decide_eq_true ht342
        have hE344 := hE306; rw [ht307] at hE344; clear hE306
        refine wp_skip ?_
        refine p_tn ?_
        refine c_seq ?_
        refine c_reg ?_
        refine q_step (v := .agg #[.int .i64 (((F_s_DrawQuotientFrame code).1).1), .slice b27 ((((F_s_DrawQuotientFrame code).1).2).length) c28]) hE344 (y_loadS Try.underlying30 rfl (by kernel_rfl) rfl (St.row (i := 4) hS223 rfl)) rfl rfl rfl ?_; intro a345 hE346; clear hE344
        refine q_step (v := .agg #[.int .i64 (((F_s_QuotientFrame (((F_s_DrawQuotientFrame code).1).1) (((F_s_DrawQuotientFrame code).1).2) ((F_s_DrawQuotientFrame code).2)).1).1), .slice b100 ((((F_s_QuotientFrame (((F_s_DrawQuotientFrame code).1).1) (((F_s_DrawQuotientFrame code).1).2) ((F_s_DrawQuotientFrame code).2)).1).2).length) c101]) hE346 (y_loadS Try.underlying30 rfl (by kernel_rfl) rfl (St.row (i := 0) hS223 rfl)) rfl rfl rfl ?_; intro a347 hE348; clear hE346
        refine q_step (v := .slice b29 (((F_s_DrawQuotientFrame code).2).length) c30) hE348 (y_move rfl) rfl rfl rfl ?_; intro a349 hE350; clear hE348
        refine l_step hE350 rfl (l_call (f := 56) (argv := [.agg #[.int .i64 (((F_s_DrawQuotientFrame code).1).1), .slice b27 ((((F_s_DrawQuotientFrame code).1).2).length) c28], .agg #[.int .i64 (((F_s_QuotientFrame (((F_s_DrawQuotientFrame code).1).1) (((F_s_DrawQuotientFrame code).1).2) ((F_s_DrawQuotientFrame code).2)).1).1), .slice b100 ((((F_s_QuotientFrame (((F_s_DrawQuotientFrame code).1).1) (((F_s_DrawQuotientFrame code).1).2) ((F_s_DrawQuotientFrame code).2)).1).2).length) c101], .slice b29 (((F_s_DrawQuotientFrame code).2).length) c30]) hE350 (fun _ => cf_IsMorphism _ _) rfl rfl (c_IsMorphism (((F_s_DrawQuotientFrame code).1).1) b27 ((((F_s_DrawQuotientFrame code).1).2).length) c28 (((F_s_DrawQuotientFrame code).1).2) (((F_s_QuotientFrame (((F_s_DrawQuotientFrame code).1).1) (((F_s_DrawQuotientFrame code).1).2) ((F_s_DrawQuotientFrame code).2)).1).1) b100 ((((F_s_QuotientFrame (((F_s_DrawQuotientFrame code).1).1) (((F_s_DrawQuotientFrame code).1).2) ((F_s_DrawQuotientFrame code).2)).1).2).length) c101 (((F_s_QuotientFrame (((F_s_DrawQuotientFrame code).1).1) (((F_s_DrawQuotientFrame code).1).2) ((F_s_DrawQuotientFrame code).2)).1).2) b29 (((F_s_DrawQuotientFrame code).2).length) c30 ((F_s_DrawQuotientFrame code).2) w220 (St.rdO (i := 5) hS223 rfl) (St.rdO (i := 1) hS223 rfl) (St.rdO (i := 6) hS223 rfl)) ?_)
        rintro _ w352 ⟨rfl, he356⟩ a353 hE354; clear hE350
        have hS355 := St.go hS223 he356; clear hS223
        refine q_step (v := .tuple #[.bool ((F_IsMorphism (((F_s_DrawQuotientFrame code).1).1) (((F_s_DrawQuotientFrame code).1).2) (((F_s_QuotientFrame (((F_s_DrawQuotientFrame code).1).1) (((F_s_DrawQuotientFrame code).1).2) ((F_s_DrawQuotientFrame code).2)).1).1) (((F_s_QuotientFrame (((F_s_DrawQuotientFrame code).1).1) (((F_s_DrawQuotientFrame code).1).2) ((F_s_DrawQuotientFrame code).2)).1).2) ((F_s_DrawQuotientFrame code).2)).1), .int .i64 ((F_IsMorphism (((F_s_DrawQuotientFrame code).1).1) (((F_s_DrawQuotientFrame code).1).2) (((F_s_QuotientFrame (((F_s_DrawQuotientFrame code).1).1) (((F_s_DrawQuotientFrame code).1).2) ((F_s_DrawQuotientFrame code).2)).1).1) (((F_s_QuotientFrame (((F_s_DrawQuotientFrame code).1).1) (((F_s_DrawQuotientFrame code).1).2) ((F_s_DrawQuotientFrame code).2)).1).2) ((F_s_DrawQuotientFrame code).2)).2)]) hE354 (y_move rfl) rfl rfl rfl ?_; intro a357 hE358; clear hE354
        refine q_step (v := .bool ((F_IsMorphism (((F_s_DrawQuotientFrame code).1).1) (((F_s_DrawQuotientFrame code).1).2) (((F_s_QuotientFrame (((F_s_DrawQuotientFrame code).1).1) (((F_s_DrawQuotientFrame code).1).2) ((F_s_DrawQuotientFrame code).2)).1).1) (((F_s_QuotientFrame (((F_s_DrawQuotientFrame code).1).1) (((F_s_DrawQuotientFrame code).1).2) ((F_s_DrawQuotientFrame code).2)).1).2) ((F_s_DrawQuotientFrame code).2)).1)) hE358 (y_extract rfl rfl) rfl rfl rfl ?_; intro a359 hE360; clear hE358
        refine q_step (v := .int .i64 ((F_IsMorphism (((F_s_DrawQuotientFrame code).1).1) (((F_s_DrawQuotientFrame code).1).2) (((F_s_QuotientFrame (((F_s_DrawQuotientFrame code).1).1) (((F_s_DrawQuotientFrame code).1).2) ((F_s_DrawQuotientFrame code).2)).1).1) (((F_s_QuotientFrame (((F_s_DrawQuotientFrame code).1).1) (((F_s_DrawQuotientFrame code).1).2) ((F_s_DrawQuotientFrame code).2)).1).2) ((F_s_DrawQuotientFrame code).2)).2)) hE360 (y_extract rfl rfl) rfl rfl rfl ?_; intro a361 hE362; clear hE360
        refine q_step (v := .bool ((F_IsMorphism (((F_s_DrawQuotientFrame code).1).1) (((F_s_DrawQuotientFrame code).1).2) (((F_s_QuotientFrame (((F_s_DrawQuotientFrame code).1).1) (((F_s_DrawQuotientFrame code).1).2) ((F_s_DrawQuotientFrame code).2)).1).1) (((F_s_QuotientFrame (((F_s_DrawQuotientFrame code).1).1) (((F_s_DrawQuotientFrame code).1).2) ((F_s_DrawQuotientFrame code).2)).1).2) ((F_s_DrawQuotientFrame code).2)).1)) hE362 (y_assign rfl) rfl rfl rfl ?_; intro a363 hE364; clear hE362
        refine q_step (v := .int .i64 ((F_IsMorphism (((F_s_DrawQuotientFrame code).1).1) (((F_s_DrawQuotientFrame code).1).2) (((F_s_QuotientFrame (((F_s_DrawQuotientFrame code).1).1) (((F_s_DrawQuotientFrame code).1).2) ((F_s_DrawQuotientFrame code).2)).1).1) (((F_s_QuotientFrame (((F_s_DrawQuotientFrame code).1).1) (((F_s_DrawQuotientFrame code).1).2) ((F_s_DrawQuotientFrame code).2)).1).2) ((F_s_DrawQuotientFrame code).2)).2)) hE364 (y_assign rfl) rfl rfl rfl ?_; intro a365 hE366; clear hE364
        refine c_nil ?_
        have hE367 := hE366.sub (L' := [(3, .pointer (some ⟨b40, 0, none⟩)), (4, .slice b29 (((F_s_DrawQuotientFrame code).2).length) c30), (13, .bool ((F_IsMorphism (((F_s_DrawQuotientFrame code).1).1) (((F_s_DrawQuotientFrame code).1).2) (((F_s_QuotientFrame (((F_s_DrawQuotientFrame code).1).1) (((F_s_DrawQuotientFrame code).1).2) ((F_s_DrawQuotientFrame code).2)).1).1) (((F_s_QuotientFrame (((F_s_DrawQuotientFrame code).1).1) (((F_s_DrawQuotientFrame code).1).2) ((F_s_DrawQuotientFrame code).2)).1).2) ((F_s_DrawQuotientFrame code).2)).1)), (14, .int .i64 ((F_IsMorphism (((F_s_DrawQuotientFrame code).1).1) (((F_s_DrawQuotientFrame code).1).2) (((F_s_QuotientFrame (((F_s_DrawQuotientFrame code).1).1) (((F_s_DrawQuotientFrame code).1).2) ((F_s_DrawQuotientFrame code).2)).1).1) (((F_s_QuotientFrame (((F_s_DrawQuotientFrame code).1).1) (((F_s_DrawQuotientFrame code).1).2) ((F_s_DrawQuotientFrame code).2)).1).2) ((F_s_DrawQuotientFrame code).2)).2))]) ⟨rfl, rfl, rfl, rfl, trivial⟩; clear hE366
        refine p_tn ?_
        refine c_seq ?_
        refine c_reg ?_
        refine q_step (v := .agg #[.int .i64 (((F_s_DrawQuotientFrame code).1).1), .slice b27 ((((F_s_DrawQuotientFrame code).1).2).length) c28]) hE367 (y_loadS Try.underlying30 rfl (by kernel_rfl) rfl (St.row (i := 4) hS355 rfl)) rfl rfl rfl ?_; intro a368 hE369; clear hE367
        refine l_step hE369 rfl (l_call (f := 45) (argv := [.agg #[.int .i64 (((F_s_DrawQuotientFrame code).1).1), .slice b27 ((((F_s_DrawQuotientFrame code).1).2).length) c28]]) hE369 (fun _ => cf_AllCongruences _ _) rfl rfl (c_AllCongruences (((F_s_DrawQuotientFrame code).1).1) b27 ((((F_s_DrawQuotientFrame code).1).2).length) c28 (((F_s_DrawQuotientFrame code).1).2) w352 (St.rdO (i := 5) hS355 rfl)) ?_)
        rintro _ w371 ⟨b376, c377, h378, rfl, ho379, he375⟩ a372 hE373; clear hE369
        have hf380 := AllCongruences_tot (((F_s_DrawQuotientFrame code).1).1) (((F_s_DrawQuotientFrame code).1).2)
        have hS374 := St.ownN hS355 he375 ho379; clear hS355
        refine q_step (v := .tuple #[.slice b376 (((F_AllCongruences (((F_s_DrawQuotientFrame code).1).1) (((F_s_DrawQuotientFrame code).1).2)).1).length) c377, .int .i64 ((F_AllCongruences (((F_s_DrawQuotientFrame code).1).1) (((F_s_DrawQuotientFrame code).1).2)).2)]) hE373 (y_move rfl) rfl rfl rfl ?_; intro a381 hE382; clear hE373
        refine q_step (v := .slice b376 (((F_AllCongruences (((F_s_DrawQuotientFrame code).1).1) (((F_s_DrawQuotientFrame code).1).2)).1).length) c377) hE382 (y_extract rfl rfl) rfl rfl rfl ?_; intro a383 hE384; clear hE382
        refine q_step (v := .int .i64 ((F_AllCongruences (((F_s_DrawQuotientFrame code).1).1) (((F_s_DrawQuotientFrame code).1).2)).2)) hE384 (y_extract rfl rfl) rfl rfl rfl ?_; intro a385 hE386; clear hE384
        refine q_step (v := .slice b376 (((F_AllCongruences (((F_s_DrawQuotientFrame code).1).1) (((F_s_DrawQuotientFrame code).1).2)).1).length) c377) hE386 (y_assign rfl) rfl rfl rfl ?_; intro a387 hE388; clear hE386
        refine q_step (v := .int .i64 ((F_AllCongruences (((F_s_DrawQuotientFrame code).1).1) (((F_s_DrawQuotientFrame code).1).2)).2)) hE388 (y_assign rfl) rfl rfl rfl ?_; intro a389 hE390; clear hE388
        refine c_nil ?_
        have hE391 := hE390.sub (L' := [(3, .pointer (some ⟨b40, 0, none⟩)), (4, .slice b29 (((F_s_DrawQuotientFrame code).2).length) c30), (13, .bool ((F_IsMorphism (((F_s_DrawQuotientFrame code).1).1) (((F_s_DrawQuotientFrame code).1).2) (((F_s_QuotientFrame (((F_s_DrawQuotientFrame code).1).1) (((F_s_DrawQuotientFrame code).1).2) ((F_s_DrawQuotientFrame code).2)).1).1) (((F_s_QuotientFrame (((F_s_DrawQuotientFrame code).1).1) (((F_s_DrawQuotientFrame code).1).2) ((F_s_DrawQuotientFrame code).2)).1).2) ((F_s_DrawQuotientFrame code).2)).1)), (14, .int .i64 ((F_IsMorphism (((F_s_DrawQuotientFrame code).1).1) (((F_s_DrawQuotientFrame code).1).2) (((F_s_QuotientFrame (((F_s_DrawQuotientFrame code).1).1) (((F_s_DrawQuotientFrame code).1).2) ((F_s_DrawQuotientFrame code).2)).1).1) (((F_s_QuotientFrame (((F_s_DrawQuotientFrame code).1).1) (((F_s_DrawQuotientFrame code).1).2) ((F_s_DrawQuotientFrame code).2)).1).2) ((F_s_DrawQuotientFrame code).2)).2)), (15, .slice b376 (((F_AllCongruences (((F_s_DrawQuotientFrame code).1).1) (((F_s_DrawQuotientFrame code).1).2)).1).length) c377), (16, .int .i64 ((F_AllCongruences (((F_s_DrawQuotientFrame code).1).1) (((F_s_DrawQuotientFrame code).1).2)).2))]) ⟨rfl, rfl, rfl, rfl, rfl, rfl, trivial⟩; clear hE390
        refine p_tn ?_
        refine c_seq ?_
        refine c_reg ?_
        refine q_step (v := .agg #[.int .i64 (((F_s_DrawQuotientFrame code).1).1), .slice b27 ((((F_s_DrawQuotientFrame code).1).2).length) c28]) hE391 (y_loadS Try.underlying30 rfl (by kernel_rfl) rfl (St.row (i := 5) hS374 rfl)) rfl rfl rfl ?_; intro a392 hE393; clear hE391
        refine l_step hE393 rfl (l_call (f := 44) (argv := [.agg #[.int .i64 (((F_s_DrawQuotientFrame code).1).1), .slice b27 ((((F_s_DrawQuotientFrame code).1).2).length) c28]]) hE393 (fun _ => cf_s_AllCongruences _ _) rfl rfl (c_s_AllCongruences (((F_s_DrawQuotientFrame code).1).1) b27 ((((F_s_DrawQuotientFrame code).1).2).length) c28 (((F_s_DrawQuotientFrame code).1).2) w371 (St.rdO (i := 6) hS374 rfl)) ?_)
        rintro _ w395 ⟨b400, c401, h402, rfl, hf404, ho403⟩ a396 hE397; clear hE393
        have he399 := ho403.ext
        have hf405 := s_AllCong_len (((F_s_DrawQuotientFrame code).1).1) (((F_s_DrawQuotientFrame code).1).2)
        have hf406 := FrH.mono hf404 (hS374.ext.size)
        have hS398 := St.compF hS374 ho403 hf404; clear hS374
        refine q_step (v := .tuple #[.slice b400 (((F_s_AllCongruences (((F_s_DrawQuotientFrame code).1).1) (((F_s_DrawQuotientFrame code).1).2)).1).length) c401, .int .i64 ((F_s_AllCongruences (((F_s_DrawQuotientFrame code).1).1) (((F_s_DrawQuotientFrame code).1).2)).2)]) hE397 (y_move rfl) rfl rfl rfl ?_; intro a407 hE408; clear hE397
        refine q_step (v := .slice b400 (((F_s_AllCongruences (((F_s_DrawQuotientFrame code).1).1) (((F_s_DrawQuotientFrame code).1).2)).1).length) c401) hE408 (y_extract rfl rfl) rfl rfl rfl ?_; intro a409 hE410; clear hE408
        refine q_step (v := .int .i64 ((F_s_AllCongruences (((F_s_DrawQuotientFrame code).1).1) (((F_s_DrawQuotientFrame code).1).2)).2)) hE410 (y_extract rfl rfl) rfl rfl rfl ?_; intro a411 hE412; clear hE410
        refine q_step (v := .slice b400 (((F_s_AllCongruences (((F_s_DrawQuotientFrame code).1).1) (((F_s_DrawQuotientFrame code).1).2)).1).length) c401) hE412 (y_assign rfl) rfl rfl rfl ?_; intro a413 hE414; clear hE412
        refine q_step (v := .int .i64 ((F_s_AllCongruences (((F_s_DrawQuotientFrame code).1).1) (((F_s_DrawQuotientFrame code).1).2)).2)) hE414 (y_assign rfl) rfl rfl rfl ?_; intro a415 hE416; clear hE414
        refine c_nil ?_
        have hE417 := hE416.sub (L' := [(4, .slice b29 (((F_s_DrawQuotientFrame code).2).length) c30), (13, .bool ((F_IsMorphism (((F_s_DrawQuotientFrame code).1).1) (((F_s_DrawQuotientFrame code).1).2) (((F_s_QuotientFrame (((F_s_DrawQuotientFrame code).1).1) (((F_s_DrawQuotientFrame code).1).2) ((F_s_DrawQuotientFrame code).2)).1).1) (((F_s_QuotientFrame (((F_s_DrawQuotientFrame code).1).1) (((F_s_DrawQuotientFrame code).1).2) ((F_s_DrawQuotientFrame code).2)).1).2) ((F_s_DrawQuotientFrame code).2)).1)), (14, .int .i64 ((F_IsMorphism (((F_s_DrawQuotientFrame code).1).1) (((F_s_DrawQuotientFrame code).1).2) (((F_s_QuotientFrame (((F_s_DrawQuotientFrame code).1).1) (((F_s_DrawQuotientFrame code).1).2) ((F_s_DrawQuotientFrame code).2)).1).1) (((F_s_QuotientFrame (((F_s_DrawQuotientFrame code).1).1) (((F_s_DrawQuotientFrame code).1).2) ((F_s_DrawQuotientFrame code).2)).1).2) ((F_s_DrawQuotientFrame code).2)).2)), (15, .slice b376 (((F_AllCongruences (((F_s_DrawQuotientFrame code).1).1) (((F_s_DrawQuotientFrame code).1).2)).1).length) c377), (16, .int .i64 ((F_AllCongruences (((F_s_DrawQuotientFrame code).1).1) (((F_s_DrawQuotientFrame code).1).2)).2)), (17, .slice b400 (((F_s_AllCongruences (((F_s_DrawQuotientFrame code).1).1) (((F_s_DrawQuotientFrame code).1).2)).1).length) c401), (18, .int .i64 ((F_s_AllCongruences (((F_s_DrawQuotientFrame code).1).1) (((F_s_DrawQuotientFrame code).1).2)).2))]) ⟨rfl, rfl, rfl, rfl, rfl, rfl, rfl, trivial⟩; clear hE416
        refine p_tn ?_
        refine c_seq ?_
        refine c_seq ?_
        refine c_reg ?_
        refine q_step (v := .int .i64 ((F_IsMorphism (((F_s_DrawQuotientFrame code).1).1) (((F_s_DrawQuotientFrame code).1).2) (((F_s_QuotientFrame (((F_s_DrawQuotientFrame code).1).1) (((F_s_DrawQuotientFrame code).1).2) ((F_s_DrawQuotientFrame code).2)).1).1) (((F_s_QuotientFrame (((F_s_DrawQuotientFrame code).1).1) (((F_s_DrawQuotientFrame code).1).2) ((F_s_DrawQuotientFrame code).2)).1).2) ((F_s_DrawQuotientFrame code).2)).2)) hE417 (y_move rfl) rfl rfl rfl ?_; intro a418 hE419; clear hE417
        refine q_step (v := .bool (!decide (((F_IsMorphism (((F_s_DrawQuotientFrame code).1).1) (((F_s_DrawQuotientFrame code).1).2) (((F_s_QuotientFrame (((F_s_DrawQuotientFrame code).1).1) (((F_s_DrawQuotientFrame code).1).2) ((F_s_DrawQuotientFrame code).2)).1).1) (((F_s_QuotientFrame (((F_s_DrawQuotientFrame code).1).1) (((F_s_DrawQuotientFrame code).1).2) ((F_s_DrawQuotientFrame code).2)).1).2) ((F_s_DrawQuotientFrame code).2)).2) = 0))) hE419 (y_neq rfl rfl) rfl rfl rfl ?_; intro a420 hE421; clear hE419
        refine q_step (v := .bool (!decide (((F_IsMorphism (((F_s_DrawQuotientFrame code).1).1) (((F_s_DrawQuotientFrame code).1).2) (((F_s_QuotientFrame (((F_s_DrawQuotientFrame code).1).1) (((F_s_DrawQuotientFrame code).1).2) ((F_s_DrawQuotientFrame code).2)).1).1) (((F_s_QuotientFrame (((F_s_DrawQuotientFrame code).1).1) (((F_s_DrawQuotientFrame code).1).2) ((F_s_DrawQuotientFrame code).2)).1).2) ((F_s_DrawQuotientFrame code).2)).2) = 0))) hE421 (y_move rfl) rfl rfl rfl ?_; intro a422 hE423; clear hE421
        rcases Bool.eq_false_or_eq_true (!decide (((F_IsMorphism (((F_s_DrawQuotientFrame code).1).1) (((F_s_DrawQuotientFrame code).1).2) (((F_s_QuotientFrame (((F_s_DrawQuotientFrame code).1).1) (((F_s_DrawQuotientFrame code).1).2) ((F_s_DrawQuotientFrame code).2)).1).1) (((F_s_QuotientFrame (((F_s_DrawQuotientFrame code).1).1) (((F_s_DrawQuotientFrame code).1).2) ((F_s_DrawQuotientFrame code).2)).1).2) ((F_s_DrawQuotientFrame code).2)).2) = 0)) with hb424 | hb424
        ·
         have hE425 := hE423; (try rw [hb424] at hE425); clear hE423
         have ht426 := bn_t hb424
         have hp427 := of_decide_eq_false ht426
         refine q_skip hE425 rfl rfl rfl ?_; intro a428 hE429; clear hE425
         refine q_skip hE429 rfl rfl rfl ?_; intro a430 hE431; clear hE429
         refine q_step (v := .bool true) hE431 (y_pick (b := true) rfl rfl) rfl rfl rfl ?_; intro a432 hE433; clear hE431
         refine q_step (v := .bool true) hE433 (y_move rfl) rfl rfl rfl ?_; intro a434 hE435; clear hE433
         refine q_skip hE435 rfl rfl rfl ?_; intro a436 hE437; clear hE435
         refine q_skip hE437 rfl rfl rfl ?_; intro a438 hE439; clear hE437
         refine q_skip hE439 rfl rfl rfl ?_; intro a440 hE441; clear hE439
         refine q_step (v := .bool true) hE441 (y_pick (b := true) rfl rfl) rfl rfl rfl ?_; intro a442 hE443; clear hE441
         refine q_step (v := .bool true) hE443 (y_move rfl) rfl rfl rfl ?_; intro a444 hE445; clear hE443
         refine q_skip hE445 rfl rfl rfl ?_; intro a446 hE447; clear hE445
         refine q_skip hE447 rfl rfl rfl ?_; intro a448 hE449; clear hE447
         refine q_skip hE449 rfl rfl rfl ?_; intro a450 hE451; clear hE449
         refine q_skip hE451 rfl rfl rfl ?_; intro a452 hE453; clear hE451
         refine q_step (v := .bool true) hE453 (y_pick (b := true) rfl rfl) rfl rfl rfl ?_; intro a454 hE455; clear hE453
         refine c_nil ?_
         have hE456 := hE455.sub (L' := [(4, .slice b29 (((F_s_DrawQuotientFrame code).2).length) c30), (16, .int .i64 ((F_AllCongruences (((F_s_DrawQuotientFrame code).1).1) (((F_s_DrawQuotientFrame code).1).2)).2)), (17, .slice b400 (((F_s_AllCongruences (((F_s_DrawQuotientFrame code).1).1) (((F_s_DrawQuotientFrame code).1).2)).1).length) c401), (112, .bool true)]) ⟨rfl, rfl, rfl, rfl, trivial⟩; clear hE455
         refine p_tn ?_
         refine c_true hE456 rfl ?_
         refine c_seq ?_
         refine c_reg ?_
         refine q_step (v := .bool false) hE456 (y_assign rfl) rfl rfl rfl ?_; intro a457 hE458; clear hE456
         refine c_nil ?_
         have hE459 := hE458.sub (L' := [(2, .bool false)]) ⟨rfl, trivial⟩; clear hE458
         refine p_tn ?_
         refine wp_ret ?_
         refine p_tr ?_
         have hF : F_l_FnCongruences code = false := by unfold F_l_FnCongruences; rw [hb424, ht307, ht296, hb268, hb231, hb174, ht13]; first | done | rfl
         refine c_ret1 hE459 rfl rfl ?_
         exact ⟨(by rw [hF]; first | done | (dsimp only; done) | rfl), hS398.ext⟩
        ·
         have hE460 := hE423; (try rw [hb424] at hE460); clear hE423
         have ht461 := bn_f hb424
         have hp462 := of_decide_eq_true ht461
         refine q_step (v := .bool ((F_IsMorphism (((F_s_DrawQuotientFrame code).1).1) (((F_s_DrawQuotientFrame code).1).2) (((F_s_QuotientFrame (((F_s_DrawQuotientFrame code).1).1) (((F_s_DrawQuotientFrame code).1).2) ((F_s_DrawQuotientFrame code).2)).1).1) (((F_s_QuotientFrame (((F_s_DrawQuotientFrame code).1).1) (((F_s_DrawQuotientFrame code).1).2) ((F_s_DrawQuotientFrame code).2)).1).2) ((F_s_DrawQuotientFrame code).2)).1)) hE460 (y_move rfl) rfl rfl rfl ?_; intro a463 hE464; clear hE460
         refine q_step (v := .bool (!((F_IsMorphism (((F_s_DrawQuotientFrame code).1).1) (((F_s_DrawQuotientFrame code).1).2) (((F_s_QuotientFrame (((F_s_DrawQuotientFrame code).1).1) (((F_s_DrawQuotientFrame code).1).2) ((F_s_DrawQuotientFrame code).2)).1).1) (((F_s_QuotientFrame (((F_s_DrawQuotientFrame code).1).1) (((F_s_DrawQuotientFrame code).1).2) ((F_s_DrawQuotientFrame code).2)).1).2) ((F_s_DrawQuotientFrame code).2)).1))) hE464 (y_not rfl) rfl rfl rfl ?_; intro a465 hE466; clear hE464
         refine q_step (v := .bool (!((F_IsMorphism (((F_s_DrawQuotientFrame code).1).1) (((F_s_DrawQuotientFrame code).1).2) (((F_s_QuotientFrame (((F_s_DrawQuotientFrame code).1).1) (((F_s_DrawQuotientFrame code).1).2) ((F_s_DrawQuotientFrame code).2)).1).1) (((F_s_QuotientFrame (((F_s_DrawQuotientFrame code).1).1) (((F_s_DrawQuotientFrame code).1).2) ((F_s_DrawQuotientFrame code).2)).1).2) ((F_s_DrawQuotientFrame code).2)).1))) hE466 (y_pick (b := false) rfl rfl) rfl rfl rfl ?_; intro a467 hE468; clear hE466
         refine q_step (v := .bool (!((F_IsMorphism (((F_s_DrawQuotientFrame code).1).1) (((F_s_DrawQuotientFrame code).1).2) (((F_s_QuotientFrame (((F_s_DrawQuotientFrame code).1).1) (((F_s_DrawQuotientFrame code).1).2) ((F_s_DrawQuotientFrame code).2)).1).1) (((F_s_QuotientFrame (((F_s_DrawQuotientFrame code).1).1) (((F_s_DrawQuotientFrame code).1).2) ((F_s_DrawQuotientFrame code).2)).1).2) ((F_s_DrawQuotientFrame code).2)).1))) hE468 (y_move rfl) rfl rfl rfl ?_; intro a469 hE470; clear hE468
         rcases Bool.eq_false_or_eq_true (!((F_IsMorphism (((F_s_DrawQuotientFrame code).1).1) (((F_s_DrawQuotientFrame code).1).2) (((F_s_QuotientFrame (((F_s_DrawQuotientFrame code).1).1) (((F_s_DrawQuotientFrame code).1).2) ((F_s_DrawQuotientFrame code).2)).1).1) (((F_s_QuotientFrame (((F_s_DrawQuotientFrame code).1).1) (((F_s_DrawQuotientFrame code).1).2) ((F_s_DrawQuotientFrame code).2)).1).2) ((F_s_DrawQuotientFrame code).2)).1)) with hb471 | hb471
         ·
          have hE472 := hE470; (try rw [hb471] at hE472); clear hE470
          have ht473 := bn_t hb471
          refine q_skip hE472 rfl rfl rfl ?_; intro a474 hE475; clear hE472
          refine q_skip hE475 rfl rfl rfl ?_; intro a476 hE477; clear hE475
          refine q_skip hE477 rfl rfl rfl ?_; intro a478 hE479; clear hE477
          refine q_step (v := .bool true) hE479 (y_pick (b := true) rfl rfl) rfl rfl rfl ?_; intro a480 hE481; clear hE479
          refine q_step (v := .bool true) hE481 (y_move rfl) rfl rfl rfl ?_; intro a482 hE483; clear hE481
          refine q_skip hE483 rfl rfl rfl ?_; intro a484 hE485; clear hE483
          refine q_skip hE485 rfl rfl rfl ?_; intro a486 hE487; clear hE485
          refine q_skip hE487 rfl rfl rfl ?_; intro a488 hE489; clear hE487
          refine q_skip hE489 rfl rfl rfl ?_; intro a490 hE491; clear hE489
          refine q_step (v := .bool true) hE491 (y_pick (b := true) rfl rfl) rfl rfl rfl ?_; intro a492 hE493; clear hE491
          refine c_nil ?_
          have hE494 := hE493.sub (L' := [(4, .slice b29 (((F_s_DrawQuotientFrame code).2).length) c30), (16, .int .i64 ((F_AllCongruences (((F_s_DrawQuotientFrame code).1).1) (((F_s_DrawQuotientFrame code).1).2)).2)), (17, .slice b400 (((F_s_AllCongruences (((F_s_DrawQuotientFrame code).1).1) (((F_s_DrawQuotientFrame code).1).2)).1).length) c401), (112, .bool true)]) ⟨rfl, rfl, rfl, rfl, trivial⟩; clear hE493
          refine p_tn ?_
          refine c_true hE494 rfl ?_
          refine c_seq ?_
          refine c_reg ?_
          refine q_step (v := .bool false) hE494 (y_assign rfl) rfl rfl rfl ?_; intro a495 hE496; clear hE494
          refine c_nil ?_
          have hE497 := hE496.sub (L' := [(2, .bool false)]) ⟨rfl, trivial⟩; clear hE496
          refine p_tn ?_
          refine wp_ret ?_
          refine p_tr ?_
          have hF : F_l_FnCongruences code = false := by unfold F_l_FnCongruences; rw [hb471, hb424, ht307, ht296, hb268, hb231, hb174, ht13]; first | done | rfl
          refine c_ret1 hE497 rfl rfl ?_
          exact ⟨(by rw [hF]; first | done | (dsimp only; done) | rfl), hS398.ext⟩
         ·
          have hE498 := hE470; (try rw [hb471] at hE498); clear hE470
          have ht499 := bn_f hb471
          refine q_step (v := .int .i64 ((F_AllCongruences (((F_s_DrawQuotientFrame code).1).1) (((F_s_DrawQuotientFrame code).1).2)).2)) hE498 (y_move rfl) rfl rfl rfl ?_; intro a500 hE501; clear hE498
          refine q_step (v := .int .i64 ((F_s_AllCongruences (((F_s_DrawQuotientFrame code).1).1) (((F_s_DrawQuotientFrame code).1).2)).2)) hE501 (y_move rfl) rfl rfl rfl ?_; intro a502 hE503; clear hE501
          refine q_step (v := .bool (!decide (((F_AllCongruences (((F_s_DrawQuotientFrame code).1).1) (((F_s_DrawQuotientFrame code).1).2)).2) = ((F_s_AllCongruences (((F_s_DrawQuotientFrame code).1).1) (((F_s_DrawQuotientFrame code).1).2)).2)))) hE503 (y_neq rfl rfl) rfl rfl rfl ?_; intro a504 hE505; clear hE503
          refine q_step (v := .bool (!decide (((F_AllCongruences (((F_s_DrawQuotientFrame code).1).1) (((F_s_DrawQuotientFrame code).1).2)).2) = ((F_s_AllCongruences (((F_s_DrawQuotientFrame code).1).1) (((F_s_DrawQuotientFrame code).1).2)).2)))) hE505 (y_pick (b := false) rfl rfl) rfl rfl rfl ?_; intro a506 hE507; clear hE505
          refine q_step (v := .bool (!decide (((F_AllCongruences (((F_s_DrawQuotientFrame code).1).1) (((F_s_DrawQuotientFrame code).1).2)).2) = ((F_s_AllCongruences (((F_s_DrawQuotientFrame code).1).1) (((F_s_DrawQuotientFrame code).1).2)).2)))) hE507 (y_move rfl) rfl rfl rfl ?_; intro a508 hE509; clear hE507
          rcases Bool.eq_false_or_eq_true (!decide (((F_AllCongruences (((F_s_DrawQuotientFrame code).1).1) (((F_s_DrawQuotientFrame code).1).2)).2) = ((F_s_AllCongruences (((F_s_DrawQuotientFrame code).1).1) (((F_s_DrawQuotientFrame code).1).2)).2))) with hb510 | hb510
          ·
           have hE511 := hE509; (try rw [hb510] at hE511); clear hE509
           have ht512 := bn_t hb510
           have hp513 := of_decide_eq_false ht512
           refine q_skip hE511 rfl rfl rfl ?_; intro a514 hE515; clear hE511
           refine q_skip hE515 rfl rfl rfl ?_; intro a516 hE517; clear hE515
           refine q_skip hE517 rfl rfl rfl ?_; intro a518 hE519; clear hE517
           refine q_skip hE519 rfl rfl rfl ?_; intro a520 hE521; clear hE519
           refine q_step (v := .bool true) hE521 (y_pick (b := true) rfl rfl) rfl rfl rfl ?_; intro a522 hE523; clear hE521
           refine c_nil ?_
           have hE524 := hE523.sub (L' := [(4, .slice b29 (((F_s_DrawQuotientFrame code).2).length) c30), (16, .int .i64 ((F_AllCongruences (((F_s_DrawQuotientFrame code).1).1) (((F_s_DrawQuotientFrame code).1).2)).2)), (17, .slice b400 (((F_s_AllCongruences (((F_s_DrawQuotientFrame code).1).1) (((F_s_DrawQuotientFrame code).1).2)).1).length) c401), (112, .bool true)]) ⟨rfl, rfl, rfl, rfl, trivial⟩; clear hE523
           refine p_tn ?_
           refine c_true hE524 rfl ?_
           refine c_seq ?_
           refine c_reg ?_
           refine q_step (v := .bool false) hE524 (y_assign rfl) rfl rfl rfl ?_; intro a525 hE526; clear hE524
           refine c_nil ?_
           have hE527 := hE526.sub (L' := [(2, .bool false)]) ⟨rfl, trivial⟩; clear hE526
           refine p_tn ?_
           refine wp_ret ?_
           refine p_tr ?_
           have hF : F_l_FnCongruences code = false := by unfold F_l_FnCongruences; rw [hb510, hb471, hb424, ht307, ht296, hb268, hb231, hb174, ht13]; first | done | rfl
           refine c_ret1 hE527 rfl rfl ?_
           exact ⟨(by rw [hF]; first | done | (dsimp only; done) | rfl), hS398.ext⟩
          ·
           have hE528 := hE509; (try rw [hb510] at hE528); clear hE509
           have ht529 := bn_f hb510
           have hp530 := of_decide_eq_true ht529
           refine q_step (v := .slice b376 (((F_AllCongruences (((F_s_DrawQuotientFrame code).1).1) (((F_s_DrawQuotientFrame code).1).2)).1).length) c377) hE528 (y_move rfl) rfl rfl rfl ?_; intro a531 hE532; clear hE528
           refine q_step (v := .slice b400 (((F_s_AllCongruences (((F_s_DrawQuotientFrame code).1).1) (((F_s_DrawQuotientFrame code).1).2)).1).length) c401) hE532 (y_move rfl) rfl rfl rfl ?_; intro a533 hE534; clear hE532
           refine l_step hE534 rfl (l_call (f := 57) (argv := [.slice b376 (((F_AllCongruences (((F_s_DrawQuotientFrame code).1).1) (((F_s_DrawQuotientFrame code).1).2)).1).length) c377, .slice b400 (((F_s_AllCongruences (((F_s_DrawQuotientFrame code).1).1) (((F_s_DrawQuotientFrame code).1).2)).1).length) c401]) hE534 (fun _ => cf_l_likeRows5 _ _) rfl rfl (d_l_likeRows5 b376 (((F_AllCongruences (((F_s_DrawQuotientFrame code).1).1) (((F_s_DrawQuotientFrame code).1).2)).1).length) c377 h378 ((F_AllCongruences (((F_s_DrawQuotientFrame code).1).1) (((F_s_DrawQuotientFrame code).1).2)).1) b400 (((F_s_AllCongruences (((F_s_DrawQuotientFrame code).1).1) (((F_s_DrawQuotientFrame code).1).2)).1).length) c401 h402 ((F_s_AllCongruences (((F_s_DrawQuotientFrame code).1).1) (((F_s_DrawQuotientFrame code).1).2)).1) w395 (St.rdNo (i := 1) hS398 rfl) (St.rdNo (i := 0) hS398 rfl)) ?_)
           rintro _ w536 ⟨rfl, he540⟩ a537 hE538; clear hE534
           have hS539 := St.go hS398 he540; clear hS398
           refine q_step (v := .bool (!(decide (((F_AllCongruences (((F_s_DrawQuotientFrame code).1).1) (((F_s_DrawQuotientFrame code).1).2)).1) = ((F_s_AllCongruences (((F_s_DrawQuotientFrame code).1).1) (((F_s_DrawQuotientFrame code).1).2)).1))))) hE538 (y_not rfl) rfl rfl rfl ?_; intro a541 hE542; clear hE538
           refine q_step (v := .bool (!(decide (((F_AllCongruences (((F_s_DrawQuotientFrame code).1).1) (((F_s_DrawQuotientFrame code).1).2)).1) = ((F_s_AllCongruences (((F_s_DrawQuotientFrame code).1).1) (((F_s_DrawQuotientFrame code).1).2)).1))))) hE542 (y_pick (b := false) rfl rfl) rfl rfl rfl ?_; intro a543 hE544; clear hE542
           refine c_nil ?_
           have hE545 := hE544.sub (L' := [(4, .slice b29 (((F_s_DrawQuotientFrame code).2).length) c30), (16, .int .i64 ((F_AllCongruences (((F_s_DrawQuotientFrame code).1).1) (((F_s_DrawQuotientFrame code).1).2)).2)), (17, .slice b400 (((F_s_AllCongruences (((F_s_DrawQuotientFrame code).1).1) (((F_s_DrawQuotientFrame code).1).2)).1).length) c401), (112, .bool (!(decide (((F_AllCongruences (((F_s_DrawQuotientFrame code).1).1) (((F_s_DrawQuotientFrame code).1).2)).1) = ((F_s_AllCongruences (((F_s_DrawQuotientFrame code).1).1) (((F_s_DrawQuotientFrame code).1).2)).1)))))]) ⟨rfl, rfl, rfl, rfl, trivial⟩; clear hE544
           refine p_tn ?_
           refine c_cond hE545 rfl (fun ht546 => ?_) (fun ht546 => ?_)
           ·
            have ht547 := bn_t ht546
            have hp548 := of_decide_eq_false ht547
            have hE549 := hE545; rw [ht546] at hE549; clear hE545
            refine c_seq ?_
            refine c_reg ?_
            refine q_step (v := .bool false) hE549 (y_assign rfl) rfl rfl rfl ?_; intro a550 hE551; clear hE549
            refine c_nil ?_
            have hE552 := hE551.sub (L' := [(2, .bool false)]) ⟨rfl, trivial⟩; clear hE551
            refine p_tn ?_
            refine wp_ret ?_
            refine p_tr ?_
            have hF : F_l_FnCongruences code = false := by unfold F_l_FnCongruences; rw [ht546, hb510, hb471, hb424, ht307, ht296, hb268, hb231, hb174, ht13]; first | done | rfl
            refine c_ret1 hE552 rfl rfl ?_
            exact ⟨(by rw [hF]; first | done | (dsimp only; done) | rfl), hS539.ext⟩
           ·
            have ht553 := bn_f ht546
            have hp554 := of_decide_eq_true ht553
            have hE555 := hE545; rw [ht546] at hE555; clear hE545
            refine wp_skip ?_
            refine p_tn ?_
            refine c_seq ?_
            refine c_reg ?_
            refine q_step (v := .int .i64 ((F_AllCongruences (((F_s_DrawQuotientFrame code).1).1) (((F_s_DrawQuotientFrame code).1).2)).2)) hE555 (y_move rfl) rfl rfl rfl ?_; intro a556 hE557; clear hE555
            refine q_step (v := .bool (!decide (((F_AllCongruences (((F_s_DrawQuotientFrame code).1).1) (((F_s_DrawQuotientFrame code).1).2)).2) = 0))) hE557 (y_neq rfl rfl) rfl rfl rfl ?_; intro a558 hE559; clear hE557
            refine q_step (v := .bool (!decide (((F_AllCongruences (((F_s_DrawQuotientFrame code).1).1) (((F_s_DrawQuotientFrame code).1).2)).2) = 0))) hE559 (y_assign rfl) rfl rfl rfl ?_; intro a560 hE561; clear hE559
            refine c_nil ?_
            have hE562 := hE561.sub (L' := [(4, .slice b29 (((F_s_DrawQuotientFrame code).2).length) c30), (17, .slice b400 (((F_s_AllCongruences (((F_s_DrawQuotientFrame code).1).1) (((F_s_DrawQuotientFrame code).1).2)).1).length) c401), (19, .bool (!decide (((F_AllCongruences (((F_s_DrawQuotientFrame code).1).1) (((F_s_DrawQuotientFrame code).1).2)).2) = 0)))]) ⟨rfl, rfl, rfl, trivial⟩; clear hE561
            refine p_tn ?_
            refine c_seq ?_
            refine c_seq ?_
            refine c_reg ?_
            refine q_step (v := .int .i64 0) hE562 (y_assign rfl) rfl rfl rfl ?_; intro a563 hE564; clear hE562
            refine c_nil ?_
            have hE565 := hE564.sub (L' := [(4, .slice b29 (((F_s_DrawQuotientFrame code).2).length) c30), (17, .slice b400 (((F_s_AllCongruences (((F_s_DrawQuotientFrame code).1).1) (((F_s_DrawQuotientFrame code).1).2)).1).length) c401), (19, .bool (!decide (((F_AllCongruences (((F_s_DrawQuotientFrame code).1).1) (((F_s_DrawQuotientFrame code).1).2)).2) = 0))), (20, .int .i64 0)]) ⟨rfl, rfl, rfl, rfl, trivial⟩; clear hE564
            refine p_tn ?_
            refine c_cut1 (fun a' w' => (0 ≤ ((F_l_FnCongruences_L1 code (Int.toNat ((((F_s_AllCongruences (((F_s_DrawQuotientFrame code).1).1) (((F_s_DrawQuotientFrame code).1).2)).1).length : Int) - 0) + 1) (!decide (((F_AllCongruences (((F_s_DrawQuotientFrame code).1).1) (((F_s_DrawQuotientFrame code).1).2)).2) = 0)) 0).2)) ∧ (((F_l_FnCongruences_L1 code (Int.toNat ((((F_s_AllCongruences (((F_s_DrawQuotientFrame code).1).1) (((F_s_DrawQuotientFrame code).1).2)).1).length : Int) - 0) + 1) (!decide (((F_AllCongruences (((F_s_DrawQuotientFrame code).1).1) (((F_s_DrawQuotientFrame code).1).2)).2) = 0)) 0).2) ≤ (((F_s_AllCongruences (((F_s_DrawQuotientFrame code).1).1) (((F_s_DrawQuotientFrame code).1).2)).1).length : Int)) ∧ E a' 131 [(4, .slice b29 (((F_s_DrawQuotientFrame code).2).length) c30), (17, .slice b400 (((F_s_AllCongruences (((F_s_DrawQuotientFrame code).1).1) (((F_s_DrawQuotientFrame code).1).2)).1).length) c401), (19, .bool ((F_l_FnCongruences_L1 code (Int.toNat ((((F_s_AllCongruences (((F_s_DrawQuotientFrame code).1).1) (((F_s_DrawQuotientFrame code).1).2)).1).length : Int) - 0) + 1) (!decide (((F_AllCongruences (((F_s_DrawQuotientFrame code).1).1) (((F_s_DrawQuotientFrame code).1).2)).2) = 0)) 0).1)), (20, .int .i64 ((F_l_FnCongruences_L1 code (Int.toNat ((((F_s_AllCongruences (((F_s_DrawQuotientFrame code).1).1) (((F_s_DrawQuotientFrame code).1).2)).1).length : Int) - 0) + 1) (!decide (((F_AllCongruences (((F_s_DrawQuotientFrame code).1).1) (((F_s_DrawQuotientFrame code).1).2)).2) = 0)) 0).2))] ∧ St w w' [.nest 22 1 none b400 c401 h402 ((F_s_AllCongruences (((F_s_DrawQuotientFrame code).1).1) (((F_s_DrawQuotientFrame code).1).2)).1), .nest 22 1 (some 2) b376 c377 h378 ((F_AllCongruences (((F_s_DrawQuotientFrame code).1).1) (((F_s_DrawQuotientFrame code).1).2)).1), .blk b109 #[.int .i64 (((F_s_QuotientFrame (((F_s_DrawQuotientFrame code).1).1) (((F_s_DrawQuotientFrame code).1).2) ((F_s_DrawQuotientFrame code).2)).1).1), .slice b100 ((((F_s_QuotientFrame (((F_s_DrawQuotientFrame code).1).1) (((F_s_DrawQuotientFrame code).1).2) ((F_s_DrawQuotientFrame code).2)).1).2).length) c101] 30, .own 2 1 b100 ((((F_s_QuotientFrame (((F_s_DrawQuotientFrame code).1).1) (((F_s_DrawQuotientFrame code).1).2) ((F_s_DrawQuotientFrame code).2)).1).2).length) c101 (((F_s_QuotientFrame (((F_s_DrawQuotientFrame code).1).1) (((F_s_DrawQuotientFrame code).1).2) ((F_s_DrawQuotientFrame code).2)).1).2), .blk b75 #[.int .i64 (((F_QuotientFrame (((F_s_DrawQuotientFrame code).1).1) (((F_s_DrawQuotientFrame code).1).2) ((F_s_DrawQuotientFrame code).2)).1).1), .slice b65 ((((F_QuotientFrame (((F_s_DrawQuotientFrame code).1).1) (((F_s_DrawQuotientFrame code).1).2) ((F_s_DrawQuotientFrame code).2)).1).2).length) c66] 30, .own 2 1 b65 ((((F_QuotientFrame (((F_s_DrawQuotientFrame code).1).1) (((F_s_DrawQuotientFrame code).1).2) ((F_s_DrawQuotientFrame code).2)).1).2).length) c66 (((F_QuotientFrame (((F_s_DrawQuotientFrame code).1).1) (((F_s_DrawQuotientFrame code).1).2) ((F_s_DrawQuotientFrame code).2)).1).2), .blk b40 #[.int .i64 (((F_s_DrawQuotientFrame code).1).1), .slice b27 ((((F_s_DrawQuotientFrame code).1).2).length) c28] 30, .own 2 1 b27 ((((F_s_DrawQuotientFrame code).1).2).length) c28 (((F_s_DrawQuotientFrame code).1).2), .own 2 1 b29 (((F_s_DrawQuotientFrame code).2).length) c30 ((F_s_DrawQuotientFrame code).2)]) ?_ ?_
            ·
             refine wp_block ?_
             refine c_loop (fun r a' w' => ∃ found19 : Bool, ∃ i20 : Int, F_l_FnCongruences_L1 code r found19 i20 = F_l_FnCongruences_L1 code (Int.toNat ((((F_s_AllCongruences (((F_s_DrawQuotientFrame code).1).1) (((F_s_DrawQuotientFrame code).1).2)).1).length : Int) - 0) + 1) (!decide (((F_AllCongruences (((F_s_DrawQuotientFrame code).1).1) (((F_s_DrawQuotientFrame code).1).2)).2) = 0)) 0 ∧ Int.toNat ((((F_s_AllCongruences (((F_s_DrawQuotientFrame code).1).1) (((F_s_DrawQuotientFrame code).1).2)).1).length : Int) - i20) < r ∧ (0 ≤ i20) ∧ (i20 ≤ (((F_s_AllCongruences (((F_s_DrawQuotientFrame code).1).1) (((F_s_DrawQuotientFrame code).1).2)).1).length : Int)) ∧ E a' 131 [(4, .slice b29 (((F_s_DrawQuotientFrame code).2).length) c30), (17, .slice b400 (((F_s_AllCongruences (((F_s_DrawQuotientFrame code).1).1) (((F_s_DrawQuotientFrame code).1).2)).1).length) c401), (19, .bool found19), (20, .int .i64 i20)] ∧ St w w' [.nest 22 1 none b400 c401 h402 ((F_s_AllCongruences (((F_s_DrawQuotientFrame code).1).1) (((F_s_DrawQuotientFrame code).1).2)).1), .nest 22 1 (some 2) b376 c377 h378 ((F_AllCongruences (((F_s_DrawQuotientFrame code).1).1) (((F_s_DrawQuotientFrame code).1).2)).1), .blk b109 #[.int .i64 (((F_s_QuotientFrame (((F_s_DrawQuotientFrame code).1).1) (((F_s_DrawQuotientFrame code).1).2) ((F_s_DrawQuotientFrame code).2)).1).1), .slice b100 ((((F_s_QuotientFrame (((F_s_DrawQuotientFrame code).1).1) (((F_s_DrawQuotientFrame code).1).2) ((F_s_DrawQuotientFrame code).2)).1).2).length) c101] 30, .own 2 1 b100 ((((F_s_QuotientFrame (((F_s_DrawQuotientFrame code).1).1) (((F_s_DrawQuotientFrame code).1).2) ((F_s_DrawQuotientFrame code).2)).1).2).length) c101 (((F_s_QuotientFrame (((F_s_DrawQuotientFrame code).1).1) (((F_s_DrawQuotientFrame code).1).2) ((F_s_DrawQuotientFrame code).2)).1).2), .blk b75 #[.int .i64 (((F_QuotientFrame (((F_s_DrawQuotientFrame code).1).1) (((F_s_DrawQuotientFrame code).1).2) ((F_s_DrawQuotientFrame code).2)).1).1), .slice b65 ((((F_QuotientFrame (((F_s_DrawQuotientFrame code).1).1) (((F_s_DrawQuotientFrame code).1).2) ((F_s_DrawQuotientFrame code).2)).1).2).length) c66] 30, .own 2 1 b65 ((((F_QuotientFrame (((F_s_DrawQuotientFrame code).1).1) (((F_s_DrawQuotientFrame code).1).2) ((F_s_DrawQuotientFrame code).2)).1).2).length) c66 (((F_QuotientFrame (((F_s_DrawQuotientFrame code).1).1) (((F_s_DrawQuotientFrame code).1).2) ((F_s_DrawQuotientFrame code).2)).1).2), .blk b40 #[.int .i64 (((F_s_DrawQuotientFrame code).1).1), .slice b27 ((((F_s_DrawQuotientFrame code).1).2).length) c28] 30, .own 2 1 b27 ((((F_s_DrawQuotientFrame code).1).2).length) c28 (((F_s_DrawQuotientFrame code).1).2), .own 2 1 b29 (((F_s_DrawQuotientFrame code).2).length) c30 ((F_s_DrawQuotientFrame code).2)]) (r := (Int.toNat ((((F_s_AllCongruences (((F_s_DrawQuotientFrame code).1).1) (((F_s_DrawQuotientFrame code).1).2)).1).length : Int) - 0) + 1)) ?_ ?_
             · exact ⟨(!decide (((F_AllCongruences (((F_s_DrawQuotientFrame code).1).1) (((F_s_DrawQuotientFrame code).1).2)).2) = 0)), 0, rfl, Nat.lt_succ_self _, (by first | omega | (simp only [sS_len, sL_len]; omega) | (simp only [List.length_replicate, sI_len]; omega) | (simp only [List.length_append, List.length_cons, List.length_nil, sI_len, cond_true, cond_false]; omega) | (simp only [List.length_append, List.length_cons, List.length_nil, sI_len, cond_eq_ite, apply_ite List.length]; split <;> simp only [List.length_append, List.length_cons, List.length_nil, sI_len] <;> omega) | grind), (by first | omega | (simp only [sS_len, sL_len]; omega) | (simp only [List.length_replicate, sI_len]; omega) | (simp only [List.length_append, List.length_cons, List.length_nil, sI_len, cond_true, cond_false]; omega) | (simp only [List.length_append, List.length_cons, List.length_nil, sI_len, cond_eq_ite, apply_ite List.length]; split <;> simp only [List.length_append, List.length_cons, List.length_nil, sI_len] <;> omega) | grind), (hE565.sub (L' := [(4, .slice b29 (((F_s_DrawQuotientFrame code).2).length) c30), (17, .slice b400 (((F_s_AllCongruences (((F_s_DrawQuotientFrame code).1).1) (((F_s_DrawQuotientFrame code).1).2)).1).length) c401), (19, .bool (!decide (((F_AllCongruences (((F_s_DrawQuotientFrame code).1).1) (((F_s_DrawQuotientFrame code).1).2)).2) = 0))), (20, .int .i64 0)]) ⟨rfl, rfl, rfl, rfl, trivial⟩), (St.pick (Γ' := [.nest 22 1 none b400 c401 h402 ((F_s_AllCongruences (((F_s_DrawQuotientFrame code).1).1) (((F_s_DrawQuotientFrame code).1).2)).1), .nest 22 1 (some 2) b376 c377 h378 ((F_AllCongruences (((F_s_DrawQuotientFrame code).1).1) (((F_s_DrawQuotientFrame code).1).2)).1), .blk b109 #[.int .i64 (((F_s_QuotientFrame (((F_s_DrawQuotientFrame code).1).1) (((F_s_DrawQuotientFrame code).1).2) ((F_s_DrawQuotientFrame code).2)).1).1), .slice b100 ((((F_s_QuotientFrame (((F_s_DrawQuotientFrame code).1).1) (((F_s_DrawQuotientFrame code).1).2) ((F_s_DrawQuotientFrame code).2)).1).2).length) c101] 30, .own 2 1 b100 ((((F_s_QuotientFrame (((F_s_DrawQuotientFrame code).1).1) (((F_s_DrawQuotientFrame code).1).2) ((F_s_DrawQuotientFrame code).2)).1).2).length) c101 (((F_s_QuotientFrame (((F_s_DrawQuotientFrame code).1).1) (((F_s_DrawQuotientFrame code).1).2) ((F_s_DrawQuotientFrame code).2)).1).2), .blk b75 #[.int .i64 (((F_QuotientFrame (((F_s_DrawQuotientFrame code).1).1) (((F_s_DrawQuotientFrame code).1).2) ((F_s_DrawQuotientFrame code).2)).1).1), .slice b65 ((((F_QuotientFrame (((F_s_DrawQuotientFrame code).1).1) (((F_s_DrawQuotientFrame code).1).2) ((F_s_DrawQuotientFrame code).2)).1).2).length) c66] 30, .own 2 1 b65 ((((F_QuotientFrame (((F_s_DrawQuotientFrame code).1).1) (((F_s_DrawQuotientFrame code).1).2) ((F_s_DrawQuotientFrame code).2)).1).2).length) c66 (((F_QuotientFrame (((F_s_DrawQuotientFrame code).1).1) (((F_s_DrawQuotientFrame code).1).2) ((F_s_DrawQuotientFrame code).2)).1).2), .blk b40 #[.int .i64 (((F_s_DrawQuotientFrame code).1).1), .slice b27 ((((F_s_DrawQuotientFrame code).1).2).length) c28] 30, .own 2 1 b27 ((((F_s_DrawQuotientFrame code).1).2).length) c28 (((F_s_DrawQuotientFrame code).1).2), .own 2 1 b29 (((F_s_DrawQuotientFrame code).2).length) c30 ((F_s_DrawQuotientFrame code).2)]) hS539 [0, 1, 2, 3, 4, 5, 6, 7, 8] (by decide) rfl)⟩
             ·
              clear hE565 hS539
              rintro r575 a567 w568 ⟨found19, i20, hT571, hr572, hi573, hi574, hE569, hS570⟩
              obtain ⟨r575, rfl⟩ : ∃ r', r575 = r' + 1 := ⟨r575 - 1, by omega⟩
              refine c_seq ?_
              refine c_seq ?_
              refine c_reg ?_
              refine q_step (v := .int .i64 i20) hE569 (y_move rfl) rfl rfl rfl ?_; intro a576 hE577; clear hE569
              refine q_step (v := .slice b400 (((F_s_AllCongruences (((F_s_DrawQuotientFrame code).1).1) (((F_s_DrawQuotientFrame code).1).2)).1).length) c401) hE577 (y_move rfl) rfl rfl rfl ?_; intro a578 hE579; clear hE577
              refine q_step (v := .int .i64 (((F_s_AllCongruences (((F_s_DrawQuotientFrame code).1).1) (((F_s_DrawQuotientFrame code).1).2)).1).length : Int)) hE579 (y_len (e := 22) (by kernel_rfl) rfl) rfl rfl rfl ?_; intro a580 hE581; clear hE579
              refine q_step (v := .bool (decide (i20 < (((F_s_AllCongruences (((F_s_DrawQuotientFrame code).1).1) (((F_s_DrawQuotientFrame code).1).2)).1).length : Int)))) hE581 (y_lss rfl rfl) rfl rfl rfl ?_; intro a582 hE583; clear hE581
              refine c_nil ?_
              have hE584 := hE583.sub (L' := [(4, .slice b29 (((F_s_DrawQuotientFrame code).2).length) c30), (17, .slice b400 (((F_s_AllCongruences (((F_s_DrawQuotientFrame code).1).1) (((F_s_DrawQuotientFrame code).1).2)).1).length) c401), (19, .bool found19), (20, .int .i64 i20), (118, .bool (decide (i20 < (((F_s_AllCongruences (((F_s_DrawQuotientFrame code).1).1) (((F_s_DrawQuotientFrame code).1).2)).1).length : Int))))]) ⟨rfl, rfl, rfl, rfl, rfl, trivial⟩; clear hE583
              refine p_tn ?_
              refine c_cond hE584 rfl (fun ht585 => ?_) (fun ht585 => ?_)
              ·
               have hp586 := of_decide_eq_true ht585
               have hE587 := hE584; rw [ht585] at hE587; clear hE584
               refine wp_skip ?_
               refine p_tn ?_
               refine c_seq ?_
               refine wp_block ?_
               refine c_reg ?_
               refine q_step (v := .bool found19) hE587 (y_move rfl) rfl rfl rfl ?_; intro a588 hE589; clear hE587
               refine q_step (v := .bool found19) hE589 (y_move rfl) rfl rfl rfl ?_; intro a590 hE591; clear hE589
               rcases Bool.eq_false_or_eq_true found19 with hb592 | hb592
               ·
                have hE593 := hE591; (try rw [hb592] at hE593); clear hE591
                refine q_skip hE593 rfl rfl rfl ?_; intro a594 hE595; clear hE593
                refine q_skip hE595 rfl rfl rfl ?_; intro a596 hE597; clear hE595
                refine q_skip hE597 rfl rfl rfl ?_; intro a598 hE599; clear hE597
                refine q_skip hE599 rfl rfl rfl ?_; intro a600 hE601; clear hE599
                refine q_skip hE601 rfl rfl rfl ?_; intro a602 hE603; clear hE601
                refine q_skip hE603 rfl rfl rfl ?_; intro a604 hE605; clear hE603
                refine q_step (v := .bool true) hE605 (y_pick (b := true) rfl rfl) rfl rfl rfl ?_; intro a606 hE607; clear hE605
                refine q_step (v := .bool true) hE607 (y_assign rfl) rfl rfl rfl ?_; intro a608 hE609; clear hE607
                refine c_nil ?_
                have hE610 := hE609.sub (L' := [(4, .slice b29 (((F_s_DrawQuotientFrame code).2).length) c30), (17, .slice b400 (((F_s_AllCongruences (((F_s_DrawQuotientFrame code).1).1) (((F_s_DrawQuotientFrame code).1).2)).1).length) c401), (19, .bool true), (20, .int .i64 i20)]) ⟨rfl, rfl, rfl, rfl, trivial⟩; clear hE609
                refine p_bn ?_
                refine p_tn ?_
                refine c_reg ?_
                refine q_step (v := .int .i64 i20) hE610 (y_move rfl) rfl rfl rfl ?_; intro a611 hE612; clear hE610
                refine q_step (v := .int .i64 (i20 + 1)) hE612 (y_add rfl rfl ⟨(by omega), (by omega)⟩) rfl rfl rfl ?_; intro a613 hE614; clear hE612
                refine q_step (v := .int .i64 (i20 + 1)) hE614 (y_assign rfl) rfl rfl rfl ?_; intro a615 hE616; clear hE614
                refine c_nil ?_
                have hE617 := hE616.sub (L' := [(4, .slice b29 (((F_s_DrawQuotientFrame code).2).length) c30), (17, .slice b400 (((F_s_AllCongruences (((F_s_DrawQuotientFrame code).1).1) (((F_s_DrawQuotientFrame code).1).2)).1).length) c401), (19, .bool true), (20, .int .i64 (i20 + 1))]) ⟨rfl, rfl, rfl, rfl, trivial⟩; clear hE616
                refine p_tn ⟨r575, Nat.lt_succ_self _, true, i20 + 1, (hT571.symm.trans (show F_l_FnCongruences_L1b code (F_l_FnCongruences_L1 code r575) found19 i20 = F_l_FnCongruences_L1 code r575 true (i20 + 1) by unfold F_l_FnCongruences_L1b; rw [hb592, ht585]; first | done | rfl)).symm, (by omega), (by first | omega | (simp only [sS_len, sL_len]; omega) | (simp only [List.length_replicate, sI_len]; omega) | (simp only [List.length_append, List.length_cons, List.length_nil, sI_len, cond_true, cond_false]; omega) | (simp only [List.length_append, List.length_cons, List.length_nil, sI_len, cond_eq_ite, apply_ite List.length]; split <;> simp only [List.length_append, List.length_cons, List.length_nil, sI_len] <;> omega) | grind), (by first | omega | (simp only [sS_len, sL_len]; omega) | (simp only [List.length_replicate, sI_len]; omega) | (simp only [List.length_append, List.length_cons, List.length_nil, sI_len, cond_true, cond_false]; omega) | (simp only [List.length_append, List.length_cons, List.length_nil, sI_len, cond_eq_ite, apply_ite List.length]; split <;> simp only [List.length_append, List.length_cons, List.length_nil, sI_len] <;> omega) | grind), (hE617.sub (L' := [(4, .slice b29 (((F_s_DrawQuotientFrame code).2).length) c30), (17, .slice b400 (((F_s_AllCongruences (((F_s_DrawQuotientFrame code).1).1) (((F_s_DrawQuotientFrame code).1).2)).1).length) c401), (19, .bool true), (20, .int .i64 (i20 + 1))]) ⟨rfl, rfl, rfl, rfl, trivial⟩), (St.pick (Γ' := [.nest 22 1 none b400 c401 h402 ((F_s_AllCongruences (((F_s_DrawQuotientFrame code).1).1) (((F_s_DrawQuotientFrame code).1).2)).1), .nest 22 1 (some 2) b376 c377 h378 ((F_AllCongruences (((F_s_DrawQuotientFrame code).1).1) (((F_s_DrawQuotientFrame code).1).2)).1), .blk b109 #[.int .i64 (((F_s_QuotientFrame (((F_s_DrawQuotientFrame code).1).1) (((F_s_DrawQuotientFrame code).1).2) ((F_s_DrawQuotientFrame code).2)).1).1), .slice b100 ((((F_s_QuotientFrame (((F_s_DrawQuotientFrame code).1).1) (((F_s_DrawQuotientFrame code).1).2) ((F_s_DrawQuotientFrame code).2)).1).2).length) c101] 30, .own 2 1 b100 ((((F_s_QuotientFrame (((F_s_DrawQuotientFrame code).1).1) (((F_s_DrawQuotientFrame code).1).2) ((F_s_DrawQuotientFrame code).2)).1).2).length) c101 (((F_s_QuotientFrame (((F_s_DrawQuotientFrame code).1).1) (((F_s_DrawQuotientFrame code).1).2) ((F_s_DrawQuotientFrame code).2)).1).2), .blk b75 #[.int .i64 (((F_QuotientFrame (((F_s_DrawQuotientFrame code).1).1) (((F_s_DrawQuotientFrame code).1).2) ((F_s_DrawQuotientFrame code).2)).1).1), .slice b65 ((((F_QuotientFrame (((F_s_DrawQuotientFrame code).1).1) (((F_s_DrawQuotientFrame code).1).2) ((F_s_DrawQuotientFrame code).2)).1).2).length) c66] 30, .own 2 1 b65 ((((F_QuotientFrame (((F_s_DrawQuotientFrame code).1).1) (((F_s_DrawQuotientFrame code).1).2) ((F_s_DrawQuotientFrame code).2)).1).2).length) c66 (((F_QuotientFrame (((F_s_DrawQuotientFrame code).1).1) (((F_s_DrawQuotientFrame code).1).2) ((F_s_DrawQuotientFrame code).2)).1).2), .blk b40 #[.int .i64 (((F_s_DrawQuotientFrame code).1).1), .slice b27 ((((F_s_DrawQuotientFrame code).1).2).length) c28] 30, .own 2 1 b27 ((((F_s_DrawQuotientFrame code).1).2).length) c28 (((F_s_DrawQuotientFrame code).1).2), .own 2 1 b29 (((F_s_DrawQuotientFrame code).2).length) c30 ((F_s_DrawQuotientFrame code).2)]) hS570 [0, 1, 2, 3, 4, 5, 6, 7, 8] (by decide) rfl)⟩
               ·
                have hE618 := hE591; (try rw [hb592] at hE618); clear hE591
                refine q_step (v := .slice b400 (((F_s_AllCongruences (((F_s_DrawQuotientFrame code).1).1) (((F_s_DrawQuotientFrame code).1).2)).1).length) c401) hE618 (y_move rfl) rfl rfl rfl ?_; intro a619 hE620; clear hE618
                refine q_step (v := .int .i64 i20) hE620 (y_move rfl) rfl rfl rfl ?_; intro a621 hE622; clear hE620
                refine q_step (v := .pointer (some (adr b400 (Int.toNat i20)))) hE622 (y_idx (by kernel_rfl) (fun _ => by kernel_rfl) rfl rfl (RdN.isS (m := i20) (St.rdNo (i := 0) hS570 rfl) (by omega) (by omega)) (by omega) (by omega) (Nat.mul_one _).symm) rfl rfl rfl ?_; intro a623 hE624; clear hE622
                have hv625 : (0 : Int) ≤ i20 ∧ i20 < (((F_s_AllCongruences (((F_s_DrawQuotientFrame code).1).1) (((F_s_DrawQuotientFrame code).1).2)).1).length : Int) := ⟨(by omega), (by omega)⟩
                refine q_step (v := .slice (hdA h402 i20) ((gL ((F_s_AllCongruences (((F_s_DrawQuotientFrame code).1).1) (((F_s_DrawQuotientFrame code).1).2)).1) i20).length) (hdC h402 i20)) hE624 (y_load (fun _ => by kernel_rfl) rfl (RdN.elt1 (St.rdNo (i := 0) hS570 rfl) (by omega) (by omega))) rfl rfl rfl ?_; intro a627 hE628; clear hE624
                refine q_step (v := .slice b29 (((F_s_DrawQuotientFrame code).2).length) c30) hE628 (y_move rfl) rfl rfl rfl ?_; intro a629 hE630; clear hE628
                refine l_step hE630 rfl (l_call (f := 58) (argv := [.slice (hdA h402 i20) ((gL ((F_s_AllCongruences (((F_s_DrawQuotientFrame code).1).1) (((F_s_DrawQuotientFrame code).1).2)).1) i20).length) (hdC h402 i20), .slice b29 (((F_s_DrawQuotientFrame code).2).length) c30]) hE630 (fun _ => cf_l_likeInts _ _) rfl rfl (d_l_likeInts (hdA h402 i20) ((gL ((F_s_AllCongruences (((F_s_DrawQuotientFrame code).1).1) (((F_s_DrawQuotientFrame code).1).2)).1) i20).length) (hdC h402 i20) (gL ((F_s_AllCongruences (((F_s_DrawQuotientFrame code).1).1) (((F_s_DrawQuotientFrame code).1).2)).1) i20) b29 (((F_s_DrawQuotientFrame code).2).length) c30 ((F_s_DrawQuotientFrame code).2) w568 (RdN.row1 (St.rdNo (i := 0) hS570 rfl) hv625.1 hv625.2) (St.rdO (i := 8) hS570 rfl)) ?_)
                rintro _ w632 ⟨rfl, he636⟩ a633 hE634; clear hE630
                have hS635 := St.go hS570 he636; clear hS570
                refine q_step (v := .bool (decide ((gL ((F_s_AllCongruences (((F_s_DrawQuotientFrame code).1).1) (((F_s_DrawQuotientFrame code).1).2)).1) i20) = ((F_s_DrawQuotientFrame code).2)))) hE634 (y_pick (b := false) rfl rfl) rfl rfl rfl ?_; intro a637 hE638; clear hE634
                refine q_step (v := .bool (decide ((gL ((F_s_AllCongruences (((F_s_DrawQuotientFrame code).1).1) (((F_s_DrawQuotientFrame code).1).2)).1) i20) = ((F_s_DrawQuotientFrame code).2)))) hE638 (y_assign rfl) rfl rfl rfl ?_; intro a639 hE640; clear hE638
                refine c_nil ?_
                have hE641 := hE640.sub (L' := [(4, .slice b29 (((F_s_DrawQuotientFrame code).2).length) c30), (17, .slice b400 (((F_s_AllCongruences (((F_s_DrawQuotientFrame code).1).1) (((F_s_DrawQuotientFrame code).1).2)).1).length) c401), (19, .bool (decide ((gL ((F_s_AllCongruences (((F_s_DrawQuotientFrame code).1).1) (((F_s_DrawQuotientFrame code).1).2)).1) i20) = ((F_s_DrawQuotientFrame code).2)))), (20, .int .i64 i20)]) ⟨rfl, rfl, rfl, rfl, trivial⟩; clear hE640
                refine p_bn ?_
                refine p_tn ?_
                refine c_reg ?_
                refine q_step (v := .int .i64 i20) hE641 (y_move rfl) rfl rfl rfl ?_; intro a642 hE643; clear hE641
                refine q_step (v := .int .i64 (i20 + 1)) hE643 (y_add rfl rfl ⟨(by omega), (by omega)⟩) rfl rfl rfl ?_; intro a644 hE645; clear hE643
                refine q_step (v := .int .i64 (i20 + 1)) hE645 (y_assign rfl) rfl rfl rfl ?_; intro a646 hE647; clear hE645
                refine c_nil ?_
                have hE648 := hE647.sub (L' := [(4, .slice b29 (((F_s_DrawQuotientFrame code).2).length) c30), (17, .slice b400 (((F_s_AllCongruences (((F_s_DrawQuotientFrame code).1).1) (((F_s_DrawQuotientFrame code).1).2)).1).length) c401), (19, .bool (decide ((gL ((F_s_AllCongruences (((F_s_DrawQuotientFrame code).1).1) (((F_s_DrawQuotientFrame code).1).2)).1) i20) = ((F_s_DrawQuotientFrame code).2)))), (20, .int .i64 (i20 + 1))]) ⟨rfl, rfl, rfl, rfl, trivial⟩; clear hE647
                refine p_tn ⟨r575, Nat.lt_succ_self _, decide ((gL ((F_s_AllCongruences (((F_s_DrawQuotientFrame code).1).1) (((F_s_DrawQuotientFrame code).1).2)).1) i20) = ((F_s_DrawQuotientFrame code).2)), i20 + 1, (hT571.symm.trans (show F_l_FnCongruences_L1b code (F_l_FnCongruences_L1 code r575) found19 i20 = F_l_FnCongruences_L1 code r575 (decide ((gL ((F_s_AllCongruences (((F_s_DrawQuotientFrame code).1).1) (((F_s_DrawQuotientFrame code).1).2)).1) i20) = ((F_s_DrawQuotientFrame code).2))) (i20 + 1) by unfold F_l_FnCongruences_L1b; rw [hb592, ht585]; first | done | rfl)).symm, (by omega), (by first | omega | (simp only [sS_len, sL_len]; omega) | (simp only [List.length_replicate, sI_len]; omega) | (simp only [List.length_append, List.length_cons, List.length_nil, sI_len, cond_true, cond_false]; omega) | (simp only [List.length_append, List.length_cons, List.length_nil, sI_len, cond_eq_ite, apply_ite List.length]; split <;> simp only [List.length_append, List.length_cons, List.length_nil, sI_len] <;> omega) | grind), (by first | omega | (simp only [sS_len, sL_len]; omega) | (simp only [List.length_replicate, sI_len]; omega) | (simp only [List.length_append, List.length_cons, List.length_nil, sI_len, cond_true, cond_false]; omega) | (simp only [List.length_append, List.length_cons, List.length_nil, sI_len, cond_eq_ite, apply_ite List.length]; split <;> simp only [List.length_append, List.length_cons, List.length_nil, sI_len] <;> omega) | grind), (hE648.sub (L' := [(4, .slice b29 (((F_s_DrawQuotientFrame code).2).length) c30), (17, .slice b400 (((F_s_AllCongruences (((F_s_DrawQuotientFrame code).1).1) (((F_s_DrawQuotientFrame code).1).2)).1).length) c401), (19, .bool (decide ((gL ((F_s_AllCongruences (((F_s_DrawQuotientFrame code).1).1) (((F_s_DrawQuotientFrame code).1).2)).1) i20) = ((F_s_DrawQuotientFrame code).2)))), (20, .int .i64 (i20 + 1))]) ⟨rfl, rfl, rfl, rfl, trivial⟩), (St.pick (Γ' := [.nest 22 1 none b400 c401 h402 ((F_s_AllCongruences (((F_s_DrawQuotientFrame code).1).1) (((F_s_DrawQuotientFrame code).1).2)).1), .nest 22 1 (some 2) b376 c377 h378 ((F_AllCongruences (((F_s_DrawQuotientFrame code).1).1) (((F_s_DrawQuotientFrame code).1).2)).1), .blk b109 #[.int .i64 (((F_s_QuotientFrame (((F_s_DrawQuotientFrame code).1).1) (((F_s_DrawQuotientFrame code).1).2) ((F_s_DrawQuotientFrame code).2)).1).1), .slice b100 ((((F_s_QuotientFrame (((F_s_DrawQuotientFrame code).1).1) (((F_s_DrawQuotientFrame code).1).2) ((F_s_DrawQuotientFrame code).2)).1).2).length) c101] 30, .own 2 1 b100 ((((F_s_QuotientFrame (((F_s_DrawQuotientFrame code).1).1) (((F_s_DrawQuotientFrame code).1).2) ((F_s_DrawQuotientFrame code).2)).1).2).length) c101 (((F_s_QuotientFrame (((F_s_DrawQuotientFrame code).1).1) (((F_s_DrawQuotientFrame code).1).2) ((F_s_DrawQuotientFrame code).2)).1).2), .blk b75 #[.int .i64 (((F_QuotientFrame (((F_s_DrawQuotientFrame code).1).1) (((F_s_DrawQuotientFrame code).1).2) ((F_s_DrawQuotientFrame code).2)).1).1), .slice b65 ((((F_QuotientFrame (((F_s_DrawQuotientFrame code).1).1) (((F_s_DrawQuotientFrame code).1).2) ((F_s_DrawQuotientFrame code).2)).1).2).length) c66] 30, .own 2 1 b65 ((((F_QuotientFrame (((F_s_DrawQuotientFrame code).1).1) (((F_s_DrawQuotientFrame code).1).2) ((F_s_DrawQuotientFrame code).2)).1).2).length) c66 (((F_QuotientFrame (((F_s_DrawQuotientFrame code).1).1) (((F_s_DrawQuotientFrame code).1).2) ((F_s_DrawQuotientFrame code).2)).1).2), .blk b40 #[.int .i64 (((F_s_DrawQuotientFrame code).1).1), .slice b27 ((((F_s_DrawQuotientFrame code).1).2).length) c28] 30, .own 2 1 b27 ((((F_s_DrawQuotientFrame code).1).2).length) c28 (((F_s_DrawQuotientFrame code).1).2), .own 2 1 b29 (((F_s_DrawQuotientFrame code).2).length) c30 ((F_s_DrawQuotientFrame code).2)]) hS635 [0, 1, 2, 3, 4, 5, 6, 7, 8] (by decide) rfl)⟩
              ·
               have hp649 := of_decide_eq_false ht585
               have hE650 := hE584; rw [ht585] at hE650; clear hE584
               refine wp_exit ?_
               refine p_te ?_
               have hX651 : F_l_FnCongruences_L1 code (Int.toNat ((((F_s_AllCongruences (((F_s_DrawQuotientFrame code).1).1) (((F_s_DrawQuotientFrame code).1).2)).1).length : Int) - 0) + 1) (!decide (((F_AllCongruences (((F_s_DrawQuotientFrame code).1).1) (((F_s_DrawQuotientFrame code).1).2)).2) = 0)) 0 = (found19, i20) := hT571.symm.trans (show F_l_FnCongruences_L1b code (F_l_FnCongruences_L1 code r575) found19 i20 = (found19, i20) by unfold F_l_FnCongruences_L1b; rw [ht585]; first | done | rfl)
               refine p_te (p_be (p_tn ?_))
               exact ⟨(by rw [hX651]; exact (show 0 ≤ i20 from (by first | omega | (simp only [sS_len, sL_len]; omega) | (simp only [List.length_replicate, sI_len]; omega) | (simp only [List.length_append, List.length_cons, List.length_nil, sI_len, cond_true, cond_false]; omega) | (simp only [List.length_append, List.length_cons, List.length_nil, sI_len, cond_eq_ite, apply_ite List.length]; split <;> simp only [List.length_append, List.length_cons, List.length_nil, sI_len] <;> omega) | grind))), (by rw [hX651]; exact (show i20 ≤ (((F_s_AllCongruences (((F_s_DrawQuotientFrame code).1).1) (((F_s_DrawQuotientFrame code).1).2)).1).length : Int) from (by first | omega | (simp only [sS_len, sL_len]; omega) | (simp only [List.length_replicate, sI_len]; omega) | (simp only [List.length_append, List.length_cons, List.length_nil, sI_len, cond_true, cond_false]; omega) | (simp only [List.length_append, List.length_cons, List.length_nil, sI_len, cond_eq_ite, apply_ite List.length]; split <;> simp only [List.length_append, List.length_cons, List.length_nil, sI_len] <;> omega) | grind))), (by rw [hX651]; exact (hE650.sub (L' := [(4, .slice b29 (((F_s_DrawQuotientFrame code).2).length) c30), (17, .slice b400 (((F_s_AllCongruences (((F_s_DrawQuotientFrame code).1).1) (((F_s_DrawQuotientFrame code).1).2)).1).length) c401), (19, .bool found19), (20, .int .i64 i20)]) ⟨rfl, rfl, rfl, rfl, trivial⟩)), (St.pick (Γ' := [.nest 22 1 none b400 c401 h402 ((F_s_AllCongruences (((F_s_DrawQuotientFrame code).1).1) (((F_s_DrawQuotientFrame code).1).2)).1), .nest 22 1 (some 2) b376 c377 h378 ((F_AllCongruences (((F_s_DrawQuotientFrame code).1).1) (((F_s_DrawQuotientFrame code).1).2)).1), .blk b109 #[.int .i64 (((F_s_QuotientFrame (((F_s_DrawQuotientFrame code).1).1) (((F_s_DrawQuotientFrame code).1).2) ((F_s_DrawQuotientFrame code).2)).1).1), .slice b100 ((((F_s_QuotientFrame (((F_s_DrawQuotientFrame code).1).1) (((F_s_DrawQuotientFrame code).1).2) ((F_s_DrawQuotientFrame code).2)).1).2).length) c101] 30, .own 2 1 b100 ((((F_s_QuotientFrame (((F_s_DrawQuotientFrame code).1).1) (((F_s_DrawQuotientFrame code).1).2) ((F_s_DrawQuotientFrame code).2)).1).2).length) c101 (((F_s_QuotientFrame (((F_s_DrawQuotientFrame code).1).1) (((F_s_DrawQuotientFrame code).1).2) ((F_s_DrawQuotientFrame code).2)).1).2), .blk b75 #[.int .i64 (((F_QuotientFrame (((F_s_DrawQuotientFrame code).1).1) (((F_s_DrawQuotientFrame code).1).2) ((F_s_DrawQuotientFrame code).2)).1).1), .slice b65 ((((F_QuotientFrame (((F_s_DrawQuotientFrame code).1).1) (((F_s_DrawQuotientFrame code).1).2) ((F_s_DrawQuotientFrame code).2)).1).2).length) c66] 30, .own 2 1 b65 ((((F_QuotientFrame (((F_s_DrawQuotientFrame code).1).1) (((F_s_DrawQuotientFrame code).1).2) ((F_s_DrawQuotientFrame code).2)).1).2).length) c66 (((F_QuotientFrame (((F_s_DrawQuotientFrame code).1).1) (((F_s_DrawQuotientFrame code).1).2) ((F_s_DrawQuotientFrame code).2)).1).2), .blk b40 #[.int .i64 (((F_s_DrawQuotientFrame code).1).1), .slice b27 ((((F_s_DrawQuotientFrame code).1).2).length) c28] 30, .own 2 1 b27 ((((F_s_DrawQuotientFrame code).1).2).length) c28 (((F_s_DrawQuotientFrame code).1).2), .own 2 1 b29 (((F_s_DrawQuotientFrame code).2).length) c30 ((F_s_DrawQuotientFrame code).2)]) hS570 [0, 1, 2, 3, 4, 5, 6, 7, 8] (by decide) rfl)⟩
            ·
             rintro a652 w653 ⟨hi657, hi658, hE654, hS655⟩; clear hE565 hS539
             refine p_tn ?_
             refine c_seq ?_
             refine c_reg ?_
             refine q_step (v := .bool ((F_l_FnCongruences_L1 code (Int.toNat ((((F_s_AllCongruences (((F_s_DrawQuotientFrame code).1).1) (((F_s_DrawQuotientFrame code).1).2)).1).length : Int) - 0) + 1) (!decide (((F_AllCongruences (((F_s_DrawQuotientFrame code).1).1) (((F_s_DrawQuotientFrame code).1).2)).2) = 0)) 0).1)) hE654 (y_move rfl) rfl rfl rfl ?_; intro a659 hE660; clear hE654
             refine q_step (v := .bool ((F_l_FnCongruences_L1 code (Int.toNat ((((F_s_AllCongruences (((F_s_DrawQuotientFrame code).1).1) (((F_s_DrawQuotientFrame code).1).2)).1).length : Int) - 0) + 1) (!decide (((F_AllCongruences (((F_s_DrawQuotientFrame code).1).1) (((F_s_DrawQuotientFrame code).1).2)).2) = 0)) 0).1)) hE660 (y_assign rfl) rfl rfl rfl ?_; intro a661 hE662; clear hE660
             refine c_nil ?_
             have hE663 := hE662.sub (L' := [(2, .bool ((F_l_FnCongruences_L1 code (Int.toNat ((((F_s_AllCongruences (((F_s_DrawQuotientFrame code).1).1) (((F_s_DrawQuotientFrame code).1).2)).1).length : Int) - 0) + 1) (!decide (((F_AllCongruences (((F_s_DrawQuotientFrame code).1).1) (((F_s_DrawQuotientFrame code).1).2)).2) = 0)) 0).1))]) ⟨rfl, trivial⟩; clear hE662
             refine p_tn ?_
             refine wp_ret ?_
             have hF : F_l_FnCongruences code = (F_l_FnCongruences_L1 code (Int.toNat ((((F_s_AllCongruences (((F_s_DrawQuotientFrame code).1).1) (((F_s_DrawQuotientFrame code).1).2)).1).length : Int) - 0) + 1) (!decide (((F_AllCongruences (((F_s_DrawQuotientFrame code).1).1) (((F_s_DrawQuotientFrame code).1).2)).2) = 0)) 0).1 := by unfold F_l_FnCongruences; rw [ht546, hb510, hb471, hb424, ht307, ht296, hb268, hb231, hb174, ht13]; first | done | rfl
             refine c_ret1 hE663 rfl rfl ?_
             exact ⟨(by rw [hF]; first | done | (dsimp only; done) | rfl), hS655.ext⟩
theorem foldl_or {β : Type} (c : β → Bool) (l : List β) (o : Bool) : l.foldl (fun o j => o || c j) o = (o || l.any c) := by
  induction l generalizing o with
  | nil => simp
  | cons a l ih => rw [List.foldl_cons, ih, List.any_cons, Bool.or_assoc]
theorem quot_morph {f0 : Int} {f1 classes : List Int} (hf : F_l05Is f0 f1 = true) (hc : F_l08Congruence f0 f1 classes = true) : F_IsMorphism f0 f1 (F_l08Quotient f0 f1 classes).1 (F_l08Quotient f0 f1 classes).2 classes = (true, 0) := by
  have ht := l05Is_t hf
  have h1 := isCong_eq (f0 := f0) (f1 := f1) (classes := classes) hf
  rw [hc] at h1
  have hl := isCongruence_t h1
  have hlc := hl
  unfold F_isCongruence at h1
  rw [decide_eq_true hl, Bool.not_true, Bool.false_or] at h1
  cases ha : F_areClasses classes
  · rw [ha] at h1; cases h1
  · rw [ha, Bool.not_true, cond_false] at h1
    have e := quot_eq hf hc
    have e2 : F_quotientRelation f1 classes = (F_l08Quotient f0 f1 classes).2 := by have e' := congrArg Prod.snd e; exact e'
    rw [e, e2] at h1
    have g1 := quot_g f1 ha (by omega)
    have g2 := quot_im f1 ha (by omega)
    rw [e] at g1 g2
    have hcl := areClasses_7 ha (by omega)
    obtain ⟨q1, q2⟩ := quot_spec (ap := f1) (classes := classes) (by omega) hcl
    have hcc := (classCount_bd hcl).1
    have hq1 : (F_l08Quotient f0 f1 classes).1 = F_classCount classes := by
      have e' := congrArg Prod.fst e
      rw [← e']
      show ((F_quotientRelation f1 classes).length : Int) = _
      rw [q1]; omega
    have hgf : F_l05Is (F_l08Quotient f0 f1 classes).1 (F_l08Quotient f0 f1 classes).2 = true := by
      rw [hq1, ← e2]
      obtain ⟨k, hk⟩ : ∃ k : Nat, F_classCount classes = (k : Int) := ⟨(F_classCount classes).toNat, by omega⟩
      have hkl : (F_quotientRelation f1 classes).length = k := by rw [q1]; omega
      rw [hk]
      unfold F_l05Is F_l01In
      rw [hkl, decide_eq_true (show (0 : Int) ≤ (k : Int) by omega), decide_eq_true (show (k : Int) ≤ 8 by omega), decide_eq_true rfl, Bool.true_and, Bool.true_and, Bool.true_and, masks_eq, List.all_eq_true]
      intro x hx
      obtain ⟨j, hj, rfl⟩ := List.getElem_of_mem hx
      have hb := q2 j (by omega)
      have ex : gI (F_quotientRelation f1 classes) (j : Int) = (F_quotientRelation f1 classes)[j] := by unfold gI; rw [Int.toNat_natCast]; exact gi_get hj
      have hmk : Mk k (gI (F_quotientRelation f1 classes) (j : Int)) := by
        rw [hb]
        unfold bucket
        have := fold_or (n := k) (by omega) (fun x => decide (gI classes (x : Int) = (j : Int))) (fun x => F_mapMask classes (gI f1 (x : Int))) (List.range f1.length) 0 (Mk.zero k) (fun x hx _ => by
          have hx' := List.mem_range.1 hx
          rw [quot_mask hf hlc hcl x (by omega)]
          have := fold_or (n := k) (by omega) (fun y => F_l01Bit (gI f1 (x : Int)) (y : Int)) (fun y => powI (gI classes (y : Int))) (List.range classes.length) 0 (Mk.zero k) (fun y hy _ => by
            have hy' := List.mem_range.1 hy
            have h4 := g2 (y : Int) (by omega) (by omega)
            rw [hq1, hk] at h4
            have h5 : gI classes (y : Int) = ((gI classes (y : Int)).toNat : Int) := by omega
            rw [h5]
            exact Mk.pow (by omega))
          have e3 : F_l08Image classes (gI f1 (x : Int)) = (List.range classes.length).foldl (fun o (y : Nat) => bif F_l01Bit (gI f1 (x : Int)) (y : Int) then orI o (powI (gI classes (y : Int))) else o) 0 := by
            unfold F_l08Image
            rw [rangeLoop0 (classes.length : Int) (by omega) (fun o j => bif F_l01Bit (gI f1 (x : Int)) j then orI o (powI (gI classes j)) else o) (F_l08Image_L1 classes (gI f1 (x : Int))) (fun _ _ _ => rfl), Int.toNat_natCast]
          rw [e3]; exact this.1)
        exact this.1
      rw [ex] at hmk
      unfold F_l01In
      rw [decide_eq_true hmk.1, decide_eq_true hmk.2]; rfl
    unfold F_IsMorphism
    rw [mapCode_of hf hgf hlc g2, decide_eq_true rfl, h1]; rfl
theorem FnCongruences_true (code : List Int) : F_l_FnCongruences code = true := by
  have hloop : ∀ fd : Bool, (F_l_FnCongruences_L1 code (Int.toNat ((((F_s_AllCongruences (((F_s_DrawQuotientFrame code).1).1) (((F_s_DrawQuotientFrame code).1).2)).1).length : Int) - 0) + 1) fd 0).1 = (fd || ((F_s_AllCongruences (((F_s_DrawQuotientFrame code).1).1) (((F_s_DrawQuotientFrame code).1).2)).1).any fun x => decide (x = (F_s_DrawQuotientFrame code).2)) := fun fd => by
    rw [rangeLoop0 _ (by omega) (fun o i => o || decide (gL ((F_s_AllCongruences (((F_s_DrawQuotientFrame code).1).1) (((F_s_DrawQuotientFrame code).1).2)).1) i = (F_s_DrawQuotientFrame code).2)) (F_l_FnCongruences_L1 code) (fun r o t => by
      show F_l_FnCongruences_L1b code _ o t = _
      unfold F_l_FnCongruences_L1b
      cases o
      · rw [Bool.false_or, cond_false]
      · rw [Bool.true_or, cond_true]), Int.toNat_natCast, foldl_or (fun (j : Nat) => decide (gL ((F_s_AllCongruences (((F_s_DrawQuotientFrame code).1).1) (((F_s_DrawQuotientFrame code).1).2)).1) (j : Int) = (F_s_DrawQuotientFrame code).2))]
    congr 1
    conv => rhs; rw [← map_gL ((F_s_AllCongruences (((F_s_DrawQuotientFrame code).1).1) (((F_s_DrawQuotientFrame code).1).2)).1)]
    rw [List.any_map]; rfl
  unfold F_l_FnCongruences
  rcases Bool.eq_false_or_eq_true (F_l_big code) with hb | hb
  · rw [hb]; rfl
  rw [hb, cond_false, hloop]
  generalize F_s_DrawQuotientFrame code = d
  obtain ⟨⟨f0, f1⟩, classes⟩ := d
  dsimp only
  unfold F_l_likeFrame5
  rw [QuotientFrame_eq, IsCongruence_eq, AllCongruences_eq]
  cases hf : F_l05Is f0 f1
  · have e1 : F_s_QuotientFrame f0 f1 classes = ((0, []), 1) := by unfold F_s_QuotientFrame; rw [hf]; rfl
    have e2 : F_s_IsCongruence f0 f1 classes = (false, 1) := by unfold F_s_IsCongruence; rw [hf]; rfl
    rw [e1, e2]
    simp
  · cases hc : F_l08Congruence f0 f1 classes
    · have e1 : F_s_QuotientFrame f0 f1 classes = ((0, []), 1) := by unfold F_s_QuotientFrame; rw [hf, hc]; rfl
      have e2 : F_s_IsCongruence f0 f1 classes = (false, 0) := by unfold F_s_IsCongruence; rw [hf, hc]; rfl
      rw [e1, e2]
      simp
    · have e1 : F_s_QuotientFrame f0 f1 classes = (((F_l08Quotient f0 f1 classes).1, (F_l08Quotient f0 f1 classes).2), 0) := by unfold F_s_QuotientFrame; rw [hf, hc]; rfl
      have e2 : F_s_IsCongruence f0 f1 classes = (true, 0) := by unfold F_s_IsCongruence; rw [hf, hc]; rfl
      rw [e1, e2]
      dsimp only
      rw [quot_morph hf hc]
      have ht := l05Is_t hf
      have hfound : ((!decide ((F_s_AllCongruences f0 f1).2 = 0)) || (F_s_AllCongruences f0 f1).1.any fun x => decide (x = classes)) = true := by
        unfold F_s_AllCongruences
        rw [hf, Bool.not_true, cond_false]
        by_cases h2 : 200 < ((F_l08Congruences f0 f1).length : Int)
        · rw [decide_eq_true h2]; rfl
        · rw [decide_eq_false h2, cond_false]
          show ((!decide ((0 : Int) = 0)) || (F_l08Congruences f0 f1).any fun x => decide (x = classes)) = true
          rw [Bool.or_eq_true, List.any_eq_true]
          exact .inr ⟨classes, cong_mem ht.1.1 hc, decide_eq_true rfl⟩
      rw [hfound]
      simp
end Go.Proofs.Ytlbonhloeefnmaa
