/- GSA: models and contracts, printed by wip/gen/gen.py -/
import Derived.Test.YtkilkfhjfobcdaaKCHGA
import Derived.Test.YtkilkfhjfobcdaaKCHNest
set_option linter.unusedVariables false
set_option linter.unusedSimpArgs false
namespace Go.Proofs.Ytkilkfhjfobcdaa
open Go.RowKit
/-- The number of all numbers. -/
def totL : List (List Int) → Nat
  | [] => 0
  | x :: l => x.length + totL l
/-- The numbers from k on, row by row. -/
def markedL : List (List Int) → Int → List (List Int)
  | [], _ => []
  | x :: l, k => marked x.length k :: markedL l (k + x.length)
theorem markedL_len : ∀ (l : List (List Int)) (k : Int), (markedL l k).length = l.length
  | [], _ => rfl
  | x :: l, k => by simp [markedL, markedL_len l]
theorem markedL_tot : ∀ (l : List (List Int)) (k : Int), totL (markedL l k) = totL l
  | [], _ => rfl
  | x :: l, k => by simp [markedL, totL, marked_len, markedL_tot l]
theorem totL_app : ∀ (l m : List (List Int)), totL (l ++ m) = totL l + totL m
  | [], m => by simp [totL]
  | x :: l, m => by simp [totL, totL_app l m]; omega
theorem totL_take_le (l : List (List Int)) (n : Nat) : totL (l.take n) ≤ totL l := by
  have h := totL_app (l.take n) (l.drop n)
  rw [List.take_append_drop] at h; omega
theorem gL_get {l : List (List Int)} {i : Nat} (h : i < l.length) : gL l (i : Int) = l[i] := by
  unfold gL; rw [Int.toNat_natCast, List.getD_eq_getElem?_getD, List.getElem?_eq_getElem h]; rfl
theorem totL_take (l : List (List Int)) {i : Int} (h0 : 0 ≤ i) (h1 : i < (l.length : Int)) : totL (l.take (i + 1).toNat) = totL (l.take i.toNat) + (gL l i).length := by
  obtain ⟨n, rfl⟩ : ∃ n : Nat, i = (n : Int) := ⟨i.toNat, by omega⟩
  have h : n < l.length := by omega
  rw [show ((n : Int) + 1).toNat = n + 1 by omega, Int.toNat_natCast, gL_get h, List.take_succ_eq_append_getElem h, totL_app]; simp [totL]
theorem row_le (l : List (List Int)) {i : Int} (h0 : 0 ≤ i) (h1 : i < (l.length : Int)) : (gL l i).length ≤ totL l := by
  have a := totL_take l h0 h1
  have b := totL_take_le l (i + 1).toNat
  omega
theorem totL_all (l : List (List Int)) : totL (l.take l.length) = totL l := by rw [List.take_length]
theorem gL_sL_ne {l : List (List Int)} {i m : Int} {xs : List Int} (h0 : 0 ≤ i) (h1 : 0 ≤ m) (h : i ≠ m) : gL (sL l i xs) m = gL l m := by
  unfold gL sL
  rw [List.getD_eq_getElem?_getD, List.getD_eq_getElem?_getD, List.getElem?_set, if_neg (by omega)]
theorem gL_sL {l : List (List Int)} {i : Int} {xs : List Int} (h0 : 0 ≤ i) (h1 : i < (l.length : Int)) : gL (sL l i xs) i = xs := by
  unfold gL sL
  rw [List.getD_eq_getElem?_getD, List.getElem?_set, if_pos rfl, if_pos (by omega)]; rfl
theorem extL {l m : List (List Int)} (hl : l.length = m.length) (h : ∀ i : Nat, i < l.length → gL l (i : Int) = gL m (i : Int)) : l = m := by
  refine List.ext_getElem hl fun i h1 h2 => ?_
  have := h i h1
  rwa [gL_get h1, gL_get h2] at this
def F_l_eqInt64SS_L1b (ap : List (List Int)) (bp : List (List Int)) (rec : Int → Except (Bool) (Int)) (i5 : Int) : Except (Bool) (Int) :=
  bif (decide (i5 < ((ap).length : Int))) then (bif (!(decide ((gL ap i5) = (gL bp i5)))) then (.error false) else (rec (i5 + 1))) else (.ok i5)
def F_l_eqInt64SS_L1 (ap : List (List Int)) (bp : List (List Int)) : Nat → Int → Except (Bool) (Int)
  | 0, i5 => .ok i5
  | r + 1, i5 => F_l_eqInt64SS_L1b ap bp (F_l_eqInt64SS_L1 ap bp r) i5
def F_l_eqInt64SS (ap : List (List Int)) (bp : List (List Int)) : Bool :=
  bif (!decide (((ap).length : Int) = ((bp).length : Int))) then false else (bif (isOk (F_l_eqInt64SS_L1 ap bp (Int.toNat (((ap).length : Int) - 0) + 1) 0)) then true else (errD (F_l_eqInt64SS_L1 ap bp (Int.toNat (((ap).length : Int) - 0) + 1) 0)))
theorem cf_l_eqInt64SS (args : Array Value) (w : World) : (callFunc 39 args).run Try.prog w = .ok (.enter 39 args) w := by kernel_rfl
set_option maxRecDepth 100000 in
theorem c_l_eqInt64SS (apA : Option Addr) (apN apC : Nat) (apQ : List Hd) (ap : List (List Int)) (bpA : Option Addr) (bpN bpC : Nat) (bpQ : List Hd) (bp : List (List Int)) (w : World) (apR : RdN w 1 apA apN apC apQ ap) (bpR : RdN w 1 bpA bpN bpC bpQ bp) :
    Calls Try.prog 39 #[.slice apA apN apC, .slice bpA bpN bpC] w (Ret fun v w' => v = .bool (F_l_eqInt64SS ap bp) ∧ Ext w w') := by
  obtain rfl : apN = ap.length := apR.len
  have apLe := apR.le
  obtain rfl : bpN = bp.length := bpR.len
  have bpLe := bpR.le
  have hS := St.nil w
  have hS1 := St.rdn0 hS rfl apR; clear hS
  have hS2 := St.rdn0 hS1 rfl bpR; clear hS1
  refine enter (args := [.slice apA ((ap).length) apC, .slice bpA ((bp).length) bpC]) Try.func39 rfl rfl ?_
  rw [Try.ntmps39]; intro a hE
  have hE := hE.sub (L' := [(0, .slice apA ((ap).length) apC), (1, .slice bpA ((bp).length) bpC)]) ⟨rfl, rfl, trivial⟩
  refine c_seq ?_
  refine c_reg ?_
  refine q_step (v := .bool false) hE (y_assign rfl) rfl rfl rfl ?_; intro a3 hE4; clear hE
  refine c_nil ?_
  have hE5 := hE4.sub (L' := [(0, .slice apA ((ap).length) apC), (1, .slice bpA ((bp).length) bpC)]) ⟨rfl, rfl, trivial⟩; clear hE4
  refine p_tn ?_
  refine c_seq ?_
  refine c_seq ?_
  refine c_reg ?_
  refine q_step (v := .slice apA ((ap).length) apC) hE5 (y_move rfl) rfl rfl rfl ?_; intro a6 hE7; clear hE5
  refine q_step (v := .int .i64 ((ap).length : Int)) hE7 (y_len (e := 22) (by kernel_rfl) rfl) rfl rfl rfl ?_; intro a8 hE9; clear hE7
  refine q_step (v := .slice bpA ((bp).length) bpC) hE9 (y_move rfl) rfl rfl rfl ?_; intro a10 hE11; clear hE9
  refine q_step (v := .int .i64 ((bp).length : Int)) hE11 (y_len (e := 22) (by kernel_rfl) rfl) rfl rfl rfl ?_; intro a12 hE13; clear hE11
  refine q_step (v := .bool (!decide (((ap).length : Int) = ((bp).length : Int)))) hE13 (y_neq rfl rfl) rfl rfl rfl ?_; intro a14 hE15; clear hE13
  refine c_nil ?_
  have hE16 := hE15.sub (L' := [(0, .slice apA ((ap).length) apC), (1, .slice bpA ((bp).length) bpC), (10, .bool (!decide (((ap).length : Int) = ((bp).length : Int))))]) ⟨rfl, rfl, rfl, trivial⟩; clear hE15
  refine p_tn ?_
  refine c_cond hE16 rfl (fun ht17 => ?_) (fun ht17 => ?_)
  ·
   have ht18 := bn_t ht17
   have hp19 := of_decide_eq_false ht18
   have hE20 := hE16; rw [ht17] at hE20; clear hE16
   refine c_seq ?_
   refine c_reg ?_
   refine q_step (v := .bool false) hE20 (y_assign rfl) rfl rfl rfl ?_; intro a21 hE22; clear hE20
   refine c_nil ?_
   have hE23 := hE22.sub (L' := [(4, .bool false)]) ⟨rfl, trivial⟩; clear hE22
   refine p_tn ?_
   refine wp_ret ?_
   refine p_tr ?_
   have hF : F_l_eqInt64SS ap bp = false := by unfold F_l_eqInt64SS; rw [ht17]; first | done | rfl
   refine c_ret1 hE23 rfl rfl ?_
   exact ⟨(by rw [hF]; first | done | (dsimp only; done) | rfl), hS2.ext⟩
  ·
   have ht24 := bn_f ht17
   have hp25 := of_decide_eq_true ht24
   have hE26 := hE16; rw [ht17] at hE26; clear hE16
   refine wp_skip ?_
   refine p_tn ?_
   refine c_seq ?_
   refine c_seq ?_
   refine c_reg ?_
   refine q_step (v := .int .i64 0) hE26 (y_assign rfl) rfl rfl rfl ?_; intro a27 hE28; clear hE26
   refine c_nil ?_
   have hE29 := hE28.sub (L' := [(0, .slice apA ((ap).length) apC), (1, .slice bpA ((bp).length) bpC), (5, .int .i64 0)]) ⟨rfl, rfl, rfl, trivial⟩; clear hE28
   refine p_tn ?_
   refine c_cut1 (fun a' w' => isOk (F_l_eqInt64SS_L1 ap bp (Int.toNat (((ap).length : Int) - 0) + 1) 0) = true ∧ (0 ≤ (okD (F_l_eqInt64SS_L1 ap bp (Int.toNat (((ap).length : Int) - 0) + 1) 0))) ∧ ((okD (F_l_eqInt64SS_L1 ap bp (Int.toNat (((ap).length : Int) - 0) + 1) 0)) ≤ ((ap).length : Int)) ∧ E a' 27 [(0, .slice apA ((ap).length) apC), (1, .slice bpA ((bp).length) bpC), (5, .int .i64 (okD (F_l_eqInt64SS_L1 ap bp (Int.toNat (((ap).length : Int) - 0) + 1) 0)))] ∧ St w w' [.rdn 1 bpA ((bp).length) bpC bpQ bp, .rdn 1 apA ((ap).length) apC apQ ap]) ?_ ?_
   ·
    refine wp_block ?_
    refine c_loop (fun r a' w' => ∃ i5 : Int, F_l_eqInt64SS_L1 ap bp r i5 = F_l_eqInt64SS_L1 ap bp (Int.toNat (((ap).length : Int) - 0) + 1) 0 ∧ Int.toNat (((ap).length : Int) - i5) < r ∧ (0 ≤ i5) ∧ (i5 ≤ ((ap).length : Int)) ∧ E a' 27 [(0, .slice apA ((ap).length) apC), (1, .slice bpA ((bp).length) bpC), (5, .int .i64 i5)] ∧ St w w' [.rdn 1 bpA ((bp).length) bpC bpQ bp, .rdn 1 apA ((ap).length) apC apQ ap]) (r := (Int.toNat (((ap).length : Int) - 0) + 1)) ?_ ?_
    · exact ⟨0, rfl, Nat.lt_succ_self _, (by first | omega | (simp only [sS_len, sL_len]; omega) | (simp only [List.length_replicate, sI_len]; omega) | (simp only [List.length_append, List.length_cons, List.length_nil, sI_len, cond_true, cond_false]; omega) | (simp only [List.length_append, List.length_cons, List.length_nil, sI_len, cond_eq_ite, apply_ite List.length]; split <;> simp only [List.length_append, List.length_cons, List.length_nil, sI_len] <;> omega) | grind), (by first | omega | (simp only [sS_len, sL_len]; omega) | (simp only [List.length_replicate, sI_len]; omega) | (simp only [List.length_append, List.length_cons, List.length_nil, sI_len, cond_true, cond_false]; omega) | (simp only [List.length_append, List.length_cons, List.length_nil, sI_len, cond_eq_ite, apply_ite List.length]; split <;> simp only [List.length_append, List.length_cons, List.length_nil, sI_len] <;> omega) | grind), (hE29.sub (L' := [(0, .slice apA ((ap).length) apC), (1, .slice bpA ((bp).length) bpC), (5, .int .i64 0)]) ⟨rfl, rfl, rfl, trivial⟩), (St.pick (Γ' := [.rdn 1 bpA ((bp).length) bpC bpQ bp, .rdn 1 apA ((ap).length) apC apQ ap]) hS2 [0, 1] (by decide) rfl)⟩
    ·
     clear hE29 hS2
     rintro r39 a31 w32 ⟨i5, hT35, hr36, hi37, hi38, hE33, hS34⟩
     obtain ⟨r39, rfl⟩ : ∃ r', r39 = r' + 1 := ⟨r39 - 1, by omega⟩
     refine c_seq ?_
     refine c_seq ?_
     refine c_reg ?_
     refine q_step (v := .int .i64 i5) hE33 (y_move rfl) rfl rfl rfl ?_; intro a40 hE41; clear hE33
     refine q_step (v := .slice apA ((ap).length) apC) hE41 (y_move rfl) rfl rfl rfl ?_; intro a42 hE43; clear hE41
     refine q_step (v := .int .i64 ((ap).length : Int)) hE43 (y_len (e := 22) (by kernel_rfl) rfl) rfl rfl rfl ?_; intro a44 hE45; clear hE43
     refine q_step (v := .bool (decide (i5 < ((ap).length : Int)))) hE45 (y_lss rfl rfl) rfl rfl rfl ?_; intro a46 hE47; clear hE45
     refine c_nil ?_
     have hE48 := hE47.sub (L' := [(0, .slice apA ((ap).length) apC), (1, .slice bpA ((bp).length) bpC), (5, .int .i64 i5), (14, .bool (decide (i5 < ((ap).length : Int))))]) ⟨rfl, rfl, rfl, rfl, trivial⟩; clear hE47
     refine p_tn ?_
     refine c_cond hE48 rfl (fun ht49 => ?_) (fun ht49 => ?_)
     ·
      have hp50 := of_decide_eq_true ht49
      have hE51 := hE48; rw [ht49] at hE51; clear hE48
      refine wp_skip ?_
      refine p_tn ?_
      refine c_seq ?_
      refine wp_block ?_
      refine c_seq ?_
      refine d_start (fun w w' => (fun w' => w'.cell? (adr apA (Int.toNat i5)) = some (.slice (hdA apQ i5) (gL ap i5).length (hdC apQ i5)) ∧ w'.cell? (adr bpA (Int.toNat i5)) = some (.slice (hdA bpQ i5) (gL bp i5).length (hdC bpQ i5)) ∧ True) w → (fun w' => w'.cell? (adr apA (Int.toNat i5)) = some (.slice (hdA apQ i5) (gL ap i5).length (hdC apQ i5)) ∧ w'.cell? (adr bpA (Int.toNat i5)) = some (.slice (hdA bpQ i5) (gL bp i5).length (hdC bpQ i5)) ∧ True) w') [3, 7] 10 (by kernel_rfl) rfl ?_
      intro w52 he53; have hS54 := St.go hS34 he53; clear hS34
      refine d_pure (fun _ h => h) (v := .slice apA ((ap).length) apC) 0 rfl hE51 (y_move rfl) rfl (by kernel_rfl) (by kernel_rfl) (by kernel_rfl) rfl rfl (fun _ _ _ h => h) ?_; intro a55 hE56; clear hE51
      refine d_pure (fun _ h => h) (v := .int .i64 i5) 1 rfl hE56 (y_move rfl) rfl (by kernel_rfl) (by kernel_rfl) (by kernel_rfl) rfl rfl (fun _ _ _ h => h) ?_; intro a57 hE58; clear hE56
      refine d_pure (fun _ h => h) (v := .pointer (some (adr apA (Int.toNat i5)))) 2 rfl hE58 (y_idx (by kernel_rfl) (fun _ => by kernel_rfl) rfl rfl (RdN.isS (m := i5) (St.rdNr (i := 1) hS54 rfl) (by omega) (by omega)) (by omega) (by omega) (Nat.mul_one _).symm) rfl (by kernel_rfl) (by kernel_rfl) (by kernel_rfl) rfl rfl (fun _ _ _ h => h) ?_; intro a59 hE60; clear hE58
      have hv61 : (0 : Int) ≤ i5 ∧ i5 < (((ap).length) : Int) := ⟨(by omega), (by omega)⟩
      refine d_take (fun _ h => h) (fun _ _ h k => h k) (v := .slice (hdA apQ i5) ((gL ap i5).length) (hdC apQ i5)) 3 rfl hE60 (S := fun w' => w'.cell? (adr apA (Int.toNat i5)) = some (.slice (hdA apQ i5) (gL ap i5).length (hdC apQ i5)) ∧ w'.cell? (adr bpA (Int.toNat i5)) = some (.slice (hdA bpQ i5) (gL bp i5).length (hdC bpQ i5)) ∧ True) ⟨(RdN.elt1 (St.rdNr (i := 1) hS54 rfl) (by omega) (by omega) _ (Ext.refl _)), (RdN.elt1 (St.rdNr (i := 0) hS54 rfl) (by omega) (by omega) _ (Ext.refl _)), trivial⟩ (y_load (fun _ => by kernel_rfl) rfl (fun _ h => h.1)) rfl rfl (by kernel_rfl) (by kernel_rfl) (by kernel_rfl) (by kernel_rfl) rfl rfl (fun _ _ _ h => h) ?_; intro a63 hE64; clear hE60
      refine d_pure (fun _ h => h) (v := .slice bpA ((bp).length) bpC) 4 rfl hE64 (y_move rfl) rfl (by kernel_rfl) (by kernel_rfl) (by kernel_rfl) rfl rfl (fun _ _ _ h => h) ?_; intro a65 hE66; clear hE64
      refine d_pure (fun _ h => h) (v := .int .i64 i5) 5 rfl hE66 (y_move rfl) rfl (by kernel_rfl) (by kernel_rfl) (by kernel_rfl) rfl rfl (fun _ _ _ h => h) ?_; intro a67 hE68; clear hE66
      refine d_pure (fun _ h => h) (v := .pointer (some (adr bpA (Int.toNat i5)))) 6 rfl hE68 (y_idx (by kernel_rfl) (fun _ => by kernel_rfl) rfl rfl (RdN.isS (m := i5) (St.rdNr (i := 0) hS54 rfl) (by omega) (by omega)) (by omega) (by omega) (Nat.mul_one _).symm) rfl (by kernel_rfl) (by kernel_rfl) (by kernel_rfl) rfl rfl (fun _ _ _ h => h) ?_; intro a69 hE70; clear hE68
      have hv71 : (0 : Int) ≤ i5 ∧ i5 < (((bp).length) : Int) := ⟨(by omega), (by omega)⟩
      refine d_take (fun _ h => h) (fun _ _ h k => h k) (v := .slice (hdA bpQ i5) ((gL bp i5).length) (hdC bpQ i5)) 7 rfl hE70 (S := fun w' => w'.cell? (adr apA (Int.toNat i5)) = some (.slice (hdA apQ i5) (gL ap i5).length (hdC apQ i5)) ∧ w'.cell? (adr bpA (Int.toNat i5)) = some (.slice (hdA bpQ i5) (gL bp i5).length (hdC bpQ i5)) ∧ True) ⟨(RdN.elt1 (St.rdNr (i := 1) hS54 rfl) (by omega) (by omega) _ (Ext.refl _)), (RdN.elt1 (St.rdNr (i := 0) hS54 rfl) (by omega) (by omega) _ (Ext.refl _)), trivial⟩ (y_load (fun _ => by kernel_rfl) rfl (fun _ h => h.2.1)) rfl rfl (by kernel_rfl) (by kernel_rfl) (by kernel_rfl) (by kernel_rfl) rfl rfl (fun _ _ _ h => h) ?_; intro a73 hE74; clear hE70
      refine d_only 8 (by kernel_rfl) rfl hE74 rfl (l_call (f := 17) (argv := [.slice (hdA apQ i5) ((gL ap i5).length) (hdC apQ i5), .slice (hdA bpQ i5) ((gL bp i5).length) (hdC bpQ i5)]) hE74 (fun _ => cf_l_eqInt64S _ _) rfl rfl (d_l_eqInt64S (hdA apQ i5) ((gL ap i5).length) (hdC apQ i5) (gL ap i5) (hdA bpQ i5) ((gL bp i5).length) (hdC bpQ i5) (gL bp i5) w52 (RdN.row1 (St.rdNr (i := 1) hS54 rfl) hv61.1 hv61.2) (RdN.row1 (St.rdNr (i := 0) hS54 rfl) hv71.1 hv71.2)) ?_)
      rintro _ w76 ⟨rfl, he80⟩ a77 hE78; clear hE74
      have hS79 := St.go hS54 he80; clear hS54
      refine ⟨fun h => Bool.noConfusion (h.symm.trans (show exm _ _ _ = true by kernel_rfl)), ?_⟩
      refine d_pure (fun _ h => h) (v := .bool (!(decide ((gL ap i5) = (gL bp i5))))) 9 rfl hE78 (y_not rfl) rfl (by kernel_rfl) (by kernel_rfl) (by kernel_rfl) rfl rfl (fun _ _ _ h => h) ?_; intro a81 hE82; clear hE78
      refine d_done (by kernel_rfl) ?_
      have hE83 := hE82.sub (L' := [(0, .slice apA ((ap).length) apC), (1, .slice bpA ((bp).length) bpC), (5, .int .i64 i5), (26, .bool (!(decide ((gL ap i5) = (gL bp i5)))))]) ⟨rfl, rfl, rfl, rfl, trivial⟩; clear hE82
      refine p_tn ?_
      refine c_cond hE83 rfl (fun ht84 => ?_) (fun ht84 => ?_)
      ·
       have ht85 := bn_t ht84
       have hp86 := of_decide_eq_false ht85
       have hE87 := hE83; rw [ht84] at hE87; clear hE83
       refine c_seq ?_
       refine c_reg ?_
       refine q_step (v := .bool false) hE87 (y_assign rfl) rfl rfl rfl ?_; intro a88 hE89; clear hE87
       refine c_nil ?_
       have hE90 := hE89.sub (L' := [(4, .bool false)]) ⟨rfl, trivial⟩; clear hE89
       refine p_tn ?_
       refine wp_ret ?_
       refine p_br ?_
       refine p_tr ?_
       have hX91 : F_l_eqInt64SS_L1 ap bp (Int.toNat (((ap).length : Int) - 0) + 1) 0 = .error false := hT35.symm.trans (show F_l_eqInt64SS_L1b ap bp (F_l_eqInt64SS_L1 ap bp r39) i5 = .error false by unfold F_l_eqInt64SS_L1b; rw [ht84, ht49]; first | done | rfl)
       refine p_tr (p_br (p_tr ?_))
       refine p_tr ?_
       have hF : F_l_eqInt64SS ap bp = false := by unfold F_l_eqInt64SS; rw [hX91, ht17]; first | done | rfl
       refine c_ret1 hE90 rfl rfl ?_
       exact ⟨(by rw [hF]; first | done | (dsimp only; done) | rfl), hS79.ext⟩
      ·
       have ht92 := bn_f ht84
       have hp93 := of_decide_eq_true ht92
       have hE94 := hE83; rw [ht84] at hE94; clear hE83
       refine wp_skip ?_
       refine p_bn ?_
       refine p_tn ?_
       refine c_reg ?_
       refine q_step (v := .int .i64 i5) hE94 (y_move rfl) rfl rfl rfl ?_; intro a95 hE96; clear hE94
       refine q_step (v := .int .i64 (i5 + 1)) hE96 (y_add rfl rfl ⟨(by omega), (by omega)⟩) rfl rfl rfl ?_; intro a97 hE98; clear hE96
       refine q_step (v := .int .i64 (i5 + 1)) hE98 (y_assign rfl) rfl rfl rfl ?_; intro a99 hE100; clear hE98
       refine c_nil ?_
       have hE101 := hE100.sub (L' := [(0, .slice apA ((ap).length) apC), (1, .slice bpA ((bp).length) bpC), (5, .int .i64 (i5 + 1))]) ⟨rfl, rfl, rfl, trivial⟩; clear hE100
       refine p_tn ⟨r39, Nat.lt_succ_self _, i5 + 1, (hT35.symm.trans (show F_l_eqInt64SS_L1b ap bp (F_l_eqInt64SS_L1 ap bp r39) i5 = F_l_eqInt64SS_L1 ap bp r39 (i5 + 1) by unfold F_l_eqInt64SS_L1b; rw [ht84, ht49]; first | done | rfl)).symm, (by omega), (by first | omega | (simp only [sS_len, sL_len]; omega) | (simp only [List.length_replicate, sI_len]; omega) | (simp only [List.length_append, List.length_cons, List.length_nil, sI_len, cond_true, cond_false]; omega) | (simp only [List.length_append, List.length_cons, List.length_nil, sI_len, cond_eq_ite, apply_ite List.length]; split <;> simp only [List.length_append, List.length_cons, List.length_nil, sI_len] <;> omega) | grind), (by first | omega | (simp only [sS_len, sL_len]; omega) | (simp only [List.length_replicate, sI_len]; omega) | (simp only [List.length_append, List.length_cons, List.length_nil, sI_len, cond_true, cond_false]; omega) | (simp only [List.length_append, List.length_cons, List.length_nil, sI_len, cond_eq_ite, apply_ite List.length]; split <;> simp only [List.length_append, List.length_cons, List.length_nil, sI_len] <;> omega) | grind), (hE101.sub (L' := [(0, .slice apA ((ap).length) apC), (1, .slice bpA ((bp).length) bpC), (5, .int .i64 (i5 + 1))]) ⟨rfl, rfl, rfl, trivial⟩), (St.pick (Γ' := [.rdn 1 bpA ((bp).length) bpC bpQ bp, .rdn 1 apA ((ap).length) apC apQ ap]) hS79 [0, 1] (by decide) rfl)⟩
     ·
      have hp102 := of_decide_eq_false ht49
      have hE103 := hE48; rw [ht49] at hE103; clear hE48
      refine wp_exit ?_
      refine p_te ?_
      have hX104 : F_l_eqInt64SS_L1 ap bp (Int.toNat (((ap).length : Int) - 0) + 1) 0 = .ok i5 := hT35.symm.trans (show F_l_eqInt64SS_L1b ap bp (F_l_eqInt64SS_L1 ap bp r39) i5 = .ok i5 by unfold F_l_eqInt64SS_L1b; rw [ht49]; first | done | rfl)
      refine p_te (p_be (p_tn ?_))
      exact ⟨(by rw [hX104]; rfl), (by rw [hX104]; exact (show 0 ≤ i5 from (by first | omega | (simp only [sS_len, sL_len]; omega) | (simp only [List.length_replicate, sI_len]; omega) | (simp only [List.length_append, List.length_cons, List.length_nil, sI_len, cond_true, cond_false]; omega) | (simp only [List.length_append, List.length_cons, List.length_nil, sI_len, cond_eq_ite, apply_ite List.length]; split <;> simp only [List.length_append, List.length_cons, List.length_nil, sI_len] <;> omega) | grind))), (by rw [hX104]; exact (show i5 ≤ ((ap).length : Int) from (by first | omega | (simp only [sS_len, sL_len]; omega) | (simp only [List.length_replicate, sI_len]; omega) | (simp only [List.length_append, List.length_cons, List.length_nil, sI_len, cond_true, cond_false]; omega) | (simp only [List.length_append, List.length_cons, List.length_nil, sI_len, cond_eq_ite, apply_ite List.length]; split <;> simp only [List.length_append, List.length_cons, List.length_nil, sI_len] <;> omega) | grind))), (by rw [hX104]; exact (hE103.sub (L' := [(0, .slice apA ((ap).length) apC), (1, .slice bpA ((bp).length) bpC), (5, .int .i64 i5)]) ⟨rfl, rfl, rfl, trivial⟩)), (St.pick (Γ' := [.rdn 1 bpA ((bp).length) bpC bpQ bp, .rdn 1 apA ((ap).length) apC apQ ap]) hS34 [0, 1] (by decide) rfl)⟩
   ·
    rintro a105 w106 ⟨hO109, hi110, hi111, hE107, hS108⟩; clear hE29 hS2
    refine p_tn ?_
    refine c_seq ?_
    refine c_reg ?_
    refine q_step (v := .bool true) hE107 (y_assign rfl) rfl rfl rfl ?_; intro a112 hE113; clear hE107
    refine c_nil ?_
    have hE114 := hE113.sub (L' := [(4, .bool true)]) ⟨rfl, trivial⟩; clear hE113
    refine p_tn ?_
    refine wp_ret ?_
    have hF : F_l_eqInt64SS ap bp = true := by unfold F_l_eqInt64SS; rw [hO109, ht17]; first | done | rfl
    refine c_ret1 hE114 rfl rfl ?_
    exact ⟨(by rw [hF]; first | done | (dsimp only; done) | rfl), hS108.ext⟩
theorem eqSS_eq (ap bp : List (List Int)) : F_l_eqInt64SS ap bp = decide (ap = bp) := by
  unfold F_l_eqInt64SS
  by_cases hl : ap.length = bp.length
  · rw [decide_eq_true (show (ap.length : Int) = (bp.length : Int) by omega), Bool.not_true, cond_false]
    have key : ∀ (k : Nat) (i : Int), 0 ≤ i → (ap.length : Int) - i = k → (∀ j : Nat, (j : Int) < i → gL ap (j : Int) = gL bp (j : Int)) → (bif isOk (F_l_eqInt64SS_L1 ap bp (k + 1) i) then true else errD (F_l_eqInt64SS_L1 ap bp (k + 1) i)) = decide (ap = bp) := by
      intro k
      induction k with
      | zero =>
        intro i h0 hk hp
        have e : F_l_eqInt64SS_L1 ap bp (0 + 1) i = .ok i := by
          show F_l_eqInt64SS_L1b ap bp _ i = _
          unfold F_l_eqInt64SS_L1b
          rw [decide_eq_false (by omega)]; rfl
        rw [e]
        have : ap = bp := extL hl fun j hj => hp j (by omega)
        rw [decide_eq_true this]; rfl
      | succ k ih =>
        intro i h0 hk hp
        have e : F_l_eqInt64SS_L1 ap bp (k + 1 + 1) i = bif !decide (gL ap i = gL bp i) then .error false else F_l_eqInt64SS_L1 ap bp (k + 1) (i + 1) := by
          show F_l_eqInt64SS_L1b ap bp _ i = _
          unfold F_l_eqInt64SS_L1b
          rw [decide_eq_true (by omega)]; rfl
        rw [e]
        by_cases h : gL ap i = gL bp i
        · rw [decide_eq_true h]
          refine ih (i + 1) (by omega) (by omega) fun j hj => ?_
          by_cases e : (j : Int) = i
          · rw [e]; exact h
          · exact hp j (by omega)
        · rw [decide_eq_false h]
          have : ¬ ap = bp := fun h' => h (by rw [h'])
          rw [decide_eq_false this]; rfl
    have e : Int.toNat ((ap.length : Int) - 0) = ap.length := by omega
    rw [e]
    exact key ap.length 0 (by omega) (by omega) fun j hj => by omega
  · rw [decide_eq_false (by omega)]
    have : ¬ ap = bp := fun h' => hl (by rw [h'])
    rw [decide_eq_false this]; rfl
theorem d_l_eqInt64SS (apA : Option Addr) (apN apC : Nat) (apQ : List Hd) (ap : List (List Int)) (bpA : Option Addr) (bpN bpC : Nat) (bpQ : List Hd) (bp : List (List Int)) (w : World) (apR : RdN w 1 apA apN apC apQ ap) (bpR : RdN w 1 bpA bpN bpC bpQ bp) :
    Calls Try.prog 39 #[.slice apA apN apC, .slice bpA bpN bpC] w (Ret fun v w' => v = .bool (decide (ap = bp)) ∧ Ext w w') := by
  have := c_l_eqInt64SS apA apN apC apQ ap bpA bpN bpC bpQ bp w apR bpR
  rwa [eqSS_eq] at this
def F_l_markInt64SS_L1b (ap : List (List Int)) (rec : Int → Int → (List (List Int)) → Int × Int × (List (List Int))) (k1 : Int) (i5 : Int) (a0 : List (List Int)) : Int × Int × (List (List Int)) :=
  bif (decide (i5 < ((ap).length : Int))) then (rec (k1 + ((gL a0 i5).length : Int)) (i5 + 1) (sL a0 i5 (marked (gL a0 i5).length k1))) else (k1, i5, a0)
def F_l_markInt64SS_L1 (ap : List (List Int)) : Nat → Int → Int → (List (List Int)) → Int × Int × (List (List Int))
  | 0, k1, i5, a0 => (k1, i5, a0)
  | r + 1, k1, i5, a0 => F_l_markInt64SS_L1b ap (F_l_markInt64SS_L1 ap r) k1 i5 a0
def F_l_markInt64SS (ap : List (List Int)) (kp : Int) : Int × List (List Int) :=
  ((F_l_markInt64SS_L1 ap (Int.toNat (((ap).length : Int) - 0) + 1) kp 0 ap).1, (F_l_markInt64SS_L1 ap (Int.toNat (((ap).length : Int) - 0) + 1) kp 0 ap).2.2)
theorem cf_l_markInt64SS (args : Array Value) (w : World) : (callFunc 40 args).run Try.prog w = .ok (.enter 40 args) w := by kernel_rfl
set_option maxRecDepth 100000 in
theorem c_l_markInt64SS (apA : Option Addr) (apC : Nat) (apQ : List Hd) (ap : List (List Int)) (kp : Int) (w : World) (w0v : World) (Γ0 : List Ent) (hS0 : St w0v w (.nest 22 1 (some 2) apA apC apQ ap :: Γ0)) (h0 : 0 ≤ kp) (h1 : kp ≤ 1000000) (hl : totL ap ≤ 4194304) :
    Calls Try.prog 40 #[.slice apA (ap).length apC, .int .i64 kp] w (Ret fun v w' => v = .int .i64 ((F_l_markInt64SS ap kp).1) ∧ St w0v w' (.nest 22 1 (some 2) apA apC apQ ((F_l_markInt64SS ap kp).2) :: Γ0)) := by
  have apLe := (St.rdNo (i := 0) hS0 rfl).le
  refine enter (args := [.slice apA ((ap).length) apC, .int .i64 kp]) Try.func40 rfl rfl ?_
  rw [Try.ntmps40]; intro a hE
  have hE := hE.sub (L' := [(0, .slice apA ((ap).length) apC), (1, .int .i64 kp)]) ⟨rfl, rfl, trivial⟩
  refine c_seq ?_
  refine c_reg ?_
  refine q_step (v := .int .i64 0) hE (y_assign rfl) rfl rfl rfl ?_; intro a1 hE2; clear hE
  refine c_nil ?_
  have hE3 := hE2.sub (L' := [(0, .slice apA ((ap).length) apC), (1, .int .i64 kp)]) ⟨rfl, rfl, trivial⟩; clear hE2
  refine p_tn ?_
  refine c_seq ?_
  refine c_seq ?_
  refine c_reg ?_
  refine q_step (v := .int .i64 0) hE3 (y_assign rfl) rfl rfl rfl ?_; intro a4 hE5; clear hE3
  refine c_nil ?_
  have hE6 := hE5.sub (L' := [(0, .slice apA ((ap).length) apC), (1, .int .i64 kp), (5, .int .i64 0)]) ⟨rfl, rfl, rfl, trivial⟩; clear hE5
  refine p_tn ?_
  refine c_cut1 (fun a' w' => (0 ≤ ((F_l_markInt64SS_L1 ap (Int.toNat (((ap).length : Int) - 0) + 1) kp 0 ap).2.1)) ∧ (((F_l_markInt64SS_L1 ap (Int.toNat (((ap).length : Int) - 0) + 1) kp 0 ap).1) = kp + (totL (ap.take ((F_l_markInt64SS_L1 ap (Int.toNat (((ap).length : Int) - 0) + 1) kp 0 ap).2.1).toNat) : Int)) ∧ (∀ m : Int, ((F_l_markInt64SS_L1 ap (Int.toNat (((ap).length : Int) - 0) + 1) kp 0 ap).2.1) ≤ m → m < (ap.length : Int) → gL ((F_l_markInt64SS_L1 ap (Int.toNat (((ap).length : Int) - 0) + 1) kp 0 ap).2.2) m = gL ap m) ∧ (((F_l_markInt64SS_L1 ap (Int.toNat (((ap).length : Int) - 0) + 1) kp 0 ap).2.2).length = ap.length) ∧ (((F_l_markInt64SS_L1 ap (Int.toNat (((ap).length : Int) - 0) + 1) kp 0 ap).2.1) ≤ ((ap).length : Int)) ∧ E a' 19 [(0, .slice apA ((ap).length) apC), (1, .int .i64 ((F_l_markInt64SS_L1 ap (Int.toNat (((ap).length : Int) - 0) + 1) kp 0 ap).1)), (5, .int .i64 ((F_l_markInt64SS_L1 ap (Int.toNat (((ap).length : Int) - 0) + 1) kp 0 ap).2.1))] ∧ St w0v w' (.nest 22 1 (some 2) apA apC apQ ((F_l_markInt64SS_L1 ap (Int.toNat (((ap).length : Int) - 0) + 1) kp 0 ap).2.2) :: Γ0)) ?_ ?_
  ·
   refine wp_block ?_
   refine c_loop (fun r a' w' => ∃ k1 : Int, ∃ i5 : Int, ∃ a0 : List (List Int), F_l_markInt64SS_L1 ap r k1 i5 a0 = F_l_markInt64SS_L1 ap (Int.toNat (((ap).length : Int) - 0) + 1) kp 0 ap ∧ Int.toNat (((ap).length : Int) - i5) < r ∧ (0 ≤ i5) ∧ (k1 = kp + (totL (ap.take i5.toNat) : Int)) ∧ (∀ m : Int, i5 ≤ m → m < (ap.length : Int) → gL a0 m = gL ap m) ∧ (a0.length = ap.length) ∧ (i5 ≤ ((ap).length : Int)) ∧ E a' 19 [(0, .slice apA ((ap).length) apC), (1, .int .i64 k1), (5, .int .i64 i5)] ∧ St w0v w' (.nest 22 1 (some 2) apA apC apQ a0 :: Γ0)) (r := (Int.toNat (((ap).length : Int) - 0) + 1)) ?_ ?_
   · exact ⟨kp, 0, ap, rfl, Nat.lt_succ_self _, (by first | omega | (simp only [sS_len, sL_len]; omega) | (simp only [List.length_replicate, sI_len]; omega) | (simp only [List.length_append, List.length_cons, List.length_nil, sI_len, cond_true, cond_false]; omega) | (simp only [List.length_append, List.length_cons, List.length_nil, sI_len, cond_eq_ite, apply_ite List.length]; split <;> simp only [List.length_append, List.length_cons, List.length_nil, sI_len] <;> omega) | grind), (by simp [totL]), (fun _ _ _ => rfl), rfl, (by first | omega | (simp only [sS_len, sL_len]; omega) | (simp only [List.length_replicate, sI_len]; omega) | (simp only [List.length_append, List.length_cons, List.length_nil, sI_len, cond_true, cond_false]; omega) | (simp only [List.length_append, List.length_cons, List.length_nil, sI_len, cond_eq_ite, apply_ite List.length]; split <;> simp only [List.length_append, List.length_cons, List.length_nil, sI_len] <;> omega) | grind), (hE6.sub (L' := [(0, .slice apA ((ap).length) apC), (1, .int .i64 kp), (5, .int .i64 0)]) ⟨rfl, rfl, rfl, trivial⟩), (St.pickT (Γ := [.nest 22 1 (some 2) apA apC apQ ap]) (Γ' := [.nest 22 1 (some 2) apA apC apQ ap]) (Γ0 := Γ0) hS0 [0] (by decide) rfl rfl)⟩
   ·
    clear hE6 hS0
    rintro r19 a8 w9 ⟨k1, i5, a0, hT12, hr13, hi14, hi15, hi16, hi17, hi18, hE10, hS11⟩
    obtain ⟨r19, rfl⟩ : ∃ r', r19 = r' + 1 := ⟨r19 - 1, by omega⟩
    refine c_seq ?_
    refine c_seq ?_
    refine c_reg ?_
    refine q_step (v := .int .i64 i5) hE10 (y_move rfl) rfl rfl rfl ?_; intro a20 hE21; clear hE10
    refine q_step (v := .slice apA ((ap).length) apC) hE21 (y_move rfl) rfl rfl rfl ?_; intro a22 hE23; clear hE21
    refine q_step (v := .int .i64 ((ap).length : Int)) hE23 (y_len (e := 22) (by kernel_rfl) rfl) rfl rfl rfl ?_; intro a24 hE25; clear hE23
    refine q_step (v := .bool (decide (i5 < ((ap).length : Int)))) hE25 (y_lss rfl rfl) rfl rfl rfl ?_; intro a26 hE27; clear hE25
    refine c_nil ?_
    have hE28 := hE27.sub (L' := [(0, .slice apA ((ap).length) apC), (1, .int .i64 k1), (5, .int .i64 i5), (9, .bool (decide (i5 < ((ap).length : Int))))]) ⟨rfl, rfl, rfl, rfl, trivial⟩; clear hE27
    refine p_tn ?_
    refine c_cond hE28 rfl (fun ht29 => ?_) (fun ht29 => ?_)
    ·
     have hp30 := of_decide_eq_true ht29
     have hE31 := hE28; rw [ht29] at hE31; clear hE28
     have hxi := (show ∀ m : Int, i5 ≤ m → m < (ap.length : Int) → gL a0 m = gL ap m by assumption) i5 (by omega) (by omega)
     have hrl := row_le ap (i := i5) (by omega) (by omega)
     have htl := totL_take ap (i := i5) (by omega) (by omega)
     have htt := totL_take_le ap (i5 + 1).toNat
     rw [← hxi] at htl hrl
     refine wp_skip ?_
     refine p_tn ?_
     refine c_seq ?_
     refine wp_block ?_
     refine c_reg ?_
     refine q_step (v := .slice apA ((ap).length) apC) hE31 (y_move rfl) rfl rfl rfl ?_; intro a32 hE33; clear hE31
     refine q_step (v := .int .i64 i5) hE33 (y_move rfl) rfl rfl rfl ?_; intro a34 hE35; clear hE33
     refine q_step (v := .pointer (some (adr apA (Int.toNat i5)))) hE35 (y_idx (by kernel_rfl) (fun _ => by kernel_rfl) rfl rfl (RdN.isS (m := i5) (St.rdNo (i := 0) hS11 rfl) (by omega) (by omega)) (by omega) (by omega) (Nat.mul_one _).symm) rfl rfl rfl ?_; intro a36 hE37; clear hE35
     have hv38 : (0 : Int) ≤ i5 ∧ i5 < ((a0).length : Int) := ⟨(by omega), (by omega)⟩
     refine q_step (v := .slice (hdA apQ i5) ((gL a0 i5).length) (hdC apQ i5)) hE37 (y_load (fun _ => by kernel_rfl) rfl (RdN.elt1 (St.rdNo (i := 0) hS11 rfl) (by omega) (by omega))) rfl rfl rfl ?_; intro a40 hE41; clear hE37
     refine q_step (v := .int .i64 k1) hE41 (y_move rfl) rfl rfl rfl ?_; intro a42 hE43; clear hE41
     have hS50 := (St.pickT (Γ := [.nest 22 1 (some 2) apA apC apQ a0]) (Γ' := [.nest 22 1 (some 2) apA apC apQ a0]) (Γ0 := Γ0) hS11 [0] (by decide) rfl rfl); clear hS11
     have hq51 : ∃ w2, InN w2 w0v.heap.size 1 (some 2) apQ a0 := ⟨_, St.nestI (i := 0) hS50 rfl⟩
     have hS52 := St.borrow hS50 hv38.1 hv38.2 (by decide) (Nat.div_one _); clear hS50
     refine l_step hE43 rfl (l_call (f := 18) (argv := [.slice (hdA apQ i5) ((gL a0 i5).length) (hdC apQ i5), .int .i64 k1]) hE43 (fun _ => cf_l_markInt64S _ _) rfl rfl (d_l_markInt64S (hdA apQ i5) ((gL a0 i5).length) (hdC apQ i5) (gL a0 i5) k1 w9 w0v (.hole 22 1 2 apA apC apQ a0 (Int.toNat i5) :: Γ0) hS52 (by omega) (by omega) (by omega)) ?_)
     rintro _ w45 ⟨rfl, hS48⟩ a46 hE47; clear hE43 hS52
     have hS53 := St.giveback hS48 hv38.1 hv38.2 (by decide) (Nat.div_one _) hq51; clear hS48
     refine q_step (v := .int .i64 (k1 + ((gL a0 i5).length : Int))) hE47 (y_assign rfl) rfl rfl rfl ?_; intro a54 hE55; clear hE47
     refine c_nil ?_
     have hE56 := hE55.sub (L' := [(0, .slice apA ((ap).length) apC), (1, .int .i64 (k1 + ((gL a0 i5).length : Int))), (5, .int .i64 i5)]) ⟨rfl, rfl, rfl, trivial⟩; clear hE55
     refine p_bn ?_
     refine p_tn ?_
     refine c_reg ?_
     refine q_step (v := .int .i64 i5) hE56 (y_move rfl) rfl rfl rfl ?_; intro a57 hE58; clear hE56
     refine q_step (v := .int .i64 (i5 + 1)) hE58 (y_add rfl rfl ⟨(by omega), (by omega)⟩) rfl rfl rfl ?_; intro a59 hE60; clear hE58
     refine q_step (v := .int .i64 (i5 + 1)) hE60 (y_assign rfl) rfl rfl rfl ?_; intro a61 hE62; clear hE60
     refine c_nil ?_
     have hE63 := hE62.sub (L' := [(0, .slice apA ((ap).length) apC), (1, .int .i64 (k1 + ((gL a0 i5).length : Int))), (5, .int .i64 (i5 + 1))]) ⟨rfl, rfl, rfl, trivial⟩; clear hE62
     refine p_tn ⟨r19, Nat.lt_succ_self _, k1 + ((gL a0 i5).length : Int), i5 + 1, sL a0 i5 (marked (gL a0 i5).length k1), (hT12.symm.trans (show F_l_markInt64SS_L1b ap (F_l_markInt64SS_L1 ap r19) k1 i5 a0 = F_l_markInt64SS_L1 ap r19 (k1 + ((gL a0 i5).length : Int)) (i5 + 1) (sL a0 i5 (marked (gL a0 i5).length k1)) by unfold F_l_markInt64SS_L1b; rw [ht29]; first | done | rfl)).symm, (by omega), (by first | omega | (simp only [sS_len, sL_len]; omega) | (simp only [List.length_replicate, sI_len]; omega) | (simp only [List.length_append, List.length_cons, List.length_nil, sI_len, cond_true, cond_false]; omega) | (simp only [List.length_append, List.length_cons, List.length_nil, sI_len, cond_eq_ite, apply_ite List.length]; split <;> simp only [List.length_append, List.length_cons, List.length_nil, sI_len] <;> omega) | grind), (by omega), (fun m h0 h1 => by rw [gL_sL_ne (by omega) (by omega) (by omega)]; exact (show ∀ m : Int, i5 ≤ m → m < (ap.length : Int) → gL a0 m = gL ap m by assumption) m (by omega) h1), (by rw [sL_len]; assumption), (by first | omega | (simp only [sS_len, sL_len]; omega) | (simp only [List.length_replicate, sI_len]; omega) | (simp only [List.length_append, List.length_cons, List.length_nil, sI_len, cond_true, cond_false]; omega) | (simp only [List.length_append, List.length_cons, List.length_nil, sI_len, cond_eq_ite, apply_ite List.length]; split <;> simp only [List.length_append, List.length_cons, List.length_nil, sI_len] <;> omega) | grind), (hE63.sub (L' := [(0, .slice apA ((ap).length) apC), (1, .int .i64 (k1 + ((gL a0 i5).length : Int))), (5, .int .i64 (i5 + 1))]) ⟨rfl, rfl, rfl, trivial⟩), (St.pickT (Γ := [.nest 22 1 (some 2) apA apC apQ (sL a0 i5 (marked (gL a0 i5).length k1))]) (Γ' := [.nest 22 1 (some 2) apA apC apQ (sL a0 i5 (marked (gL a0 i5).length k1))]) (Γ0 := Γ0) hS53 [0] (by decide) rfl rfl)⟩
    ·
     have hp64 := of_decide_eq_false ht29
     have hE65 := hE28; rw [ht29] at hE65; clear hE28
     refine wp_exit ?_
     refine p_te ?_
     have hX66 : F_l_markInt64SS_L1 ap (Int.toNat (((ap).length : Int) - 0) + 1) kp 0 ap = (k1, i5, a0) := hT12.symm.trans (show F_l_markInt64SS_L1b ap (F_l_markInt64SS_L1 ap r19) k1 i5 a0 = (k1, i5, a0) by unfold F_l_markInt64SS_L1b; rw [ht29]; first | done | rfl)
     refine p_te (p_be (p_tn ?_))
     exact ⟨(by rw [hX66]; exact (show 0 ≤ i5 from (by first | omega | (simp only [sS_len, sL_len]; omega) | (simp only [List.length_replicate, sI_len]; omega) | (simp only [List.length_append, List.length_cons, List.length_nil, sI_len, cond_true, cond_false]; omega) | (simp only [List.length_append, List.length_cons, List.length_nil, sI_len, cond_eq_ite, apply_ite List.length]; split <;> simp only [List.length_append, List.length_cons, List.length_nil, sI_len] <;> omega) | grind))), (by rw [hX66]; exact (show k1 = kp + (totL (ap.take i5.toNat) : Int) from (by first | omega | (simp only [sS_len, sL_len]; omega) | (simp only [List.length_replicate, sI_len]; omega) | (simp only [List.length_append, List.length_cons, List.length_nil, sI_len, cond_true, cond_false]; omega) | (simp only [List.length_append, List.length_cons, List.length_nil, sI_len, cond_eq_ite, apply_ite List.length]; split <;> simp only [List.length_append, List.length_cons, List.length_nil, sI_len] <;> omega) | grind))), (by rw [hX66]; exact (show ∀ m : Int, i5 ≤ m → m < (ap.length : Int) → gL a0 m = gL ap m from (by first | omega | (simp only [sS_len, sL_len]; omega) | (simp only [List.length_replicate, sI_len]; omega) | (simp only [List.length_append, List.length_cons, List.length_nil, sI_len, cond_true, cond_false]; omega) | (simp only [List.length_append, List.length_cons, List.length_nil, sI_len, cond_eq_ite, apply_ite List.length]; split <;> simp only [List.length_append, List.length_cons, List.length_nil, sI_len] <;> omega) | grind))), (by rw [hX66]; exact (show a0.length = ap.length from (by first | omega | (simp only [sS_len, sL_len]; omega) | (simp only [List.length_replicate, sI_len]; omega) | (simp only [List.length_append, List.length_cons, List.length_nil, sI_len, cond_true, cond_false]; omega) | (simp only [List.length_append, List.length_cons, List.length_nil, sI_len, cond_eq_ite, apply_ite List.length]; split <;> simp only [List.length_append, List.length_cons, List.length_nil, sI_len] <;> omega) | grind))), (by rw [hX66]; exact (show i5 ≤ ((ap).length : Int) from (by first | omega | (simp only [sS_len, sL_len]; omega) | (simp only [List.length_replicate, sI_len]; omega) | (simp only [List.length_append, List.length_cons, List.length_nil, sI_len, cond_true, cond_false]; omega) | (simp only [List.length_append, List.length_cons, List.length_nil, sI_len, cond_eq_ite, apply_ite List.length]; split <;> simp only [List.length_append, List.length_cons, List.length_nil, sI_len] <;> omega) | grind))), (by rw [hX66]; exact (hE65.sub (L' := [(0, .slice apA ((ap).length) apC), (1, .int .i64 k1), (5, .int .i64 i5)]) ⟨rfl, rfl, rfl, trivial⟩)), (by rw [hX66]; exact (St.pickT (Γ := [.nest 22 1 (some 2) apA apC apQ a0]) (Γ' := [.nest 22 1 (some 2) apA apC apQ a0]) (Γ0 := Γ0) hS11 [0] (by decide) rfl rfl))⟩
  ·
   rintro a67 w68 ⟨hi72, hi73, hi74, hi75, hi76, hE69, hS70⟩; clear hE6 hS0
   refine p_tn ?_
   refine c_seq ?_
   refine c_reg ?_
   refine q_step (v := .int .i64 ((F_l_markInt64SS_L1 ap (Int.toNat (((ap).length : Int) - 0) + 1) kp 0 ap).1)) hE69 (y_move rfl) rfl rfl rfl ?_; intro a77 hE78; clear hE69
   refine q_step (v := .int .i64 ((F_l_markInt64SS_L1 ap (Int.toNat (((ap).length : Int) - 0) + 1) kp 0 ap).1)) hE78 (y_assign rfl) rfl rfl rfl ?_; intro a79 hE80; clear hE78
   refine c_nil ?_
   have hE81 := hE80.sub (L' := [(4, .int .i64 ((F_l_markInt64SS_L1 ap (Int.toNat (((ap).length : Int) - 0) + 1) kp 0 ap).1))]) ⟨rfl, trivial⟩; clear hE80
   refine p_tn ?_
   refine wp_ret ?_
   have hF : F_l_markInt64SS ap kp = ((F_l_markInt64SS_L1 ap (Int.toNat (((ap).length : Int) - 0) + 1) kp 0 ap).1, (F_l_markInt64SS_L1 ap (Int.toNat (((ap).length : Int) - 0) + 1) kp 0 ap).2.2) := by unfold F_l_markInt64SS; rfl
   refine c_ret1 hE81 rfl rfl ?_
   have hS9 := (St.pickT (Γ := [.nest 22 1 (some 2) apA apC apQ ((F_l_markInt64SS_L1 ap (Int.toNat (((ap).length : Int) - 0) + 1) kp 0 ap).2.2)]) (Γ' := [.nest 22 1 (some 2) apA apC apQ ((F_l_markInt64SS_L1 ap (Int.toNat (((ap).length : Int) - 0) + 1) kp 0 ap).2.2)]) (Γ0 := Γ0) hS70 [0] (by decide) rfl rfl)
   exact ⟨(by rw [hF]), (by rw [hF]; (try dsimp only); exact hS9)⟩
theorem markedL_at : ∀ (l : List (List Int)) (k : Int) (j : Nat), j < l.length → gL (markedL l k) (j : Int) = marked (gL l (j : Int)).length (k + (totL (l.take j) : Int))
  | x :: l, k, 0, _ => by
    show marked x.length k = marked x.length (k + ((0 : Nat) : Int))
    rw [show k + ((0 : Nat) : Int) = k by omega]
  | x :: l, k, j + 1, h => by
    have := markedL_at l (k + x.length) j (by simpa using h)
    have e1 : gL (markedL (x :: l) k) ((j + 1 : Nat) : Int) = gL (markedL l (k + x.length)) (j : Int) := by
      unfold gL; rw [Int.toNat_natCast, Int.toNat_natCast]; rfl
    have e2 : gL (x :: l) ((j + 1 : Nat) : Int) = gL l (j : Int) := by
      unfold gL; rw [Int.toNat_natCast, Int.toNat_natCast]; rfl
    rw [e1, e2, this, List.take_succ_cons]
    simp only [totL]
    congr 1; omega
theorem markSS_key (ap : List (List Int)) (kp : Int) : ∀ (k : Nat) (k1 i : Int) (xs : List (List Int)), 0 ≤ i → (ap.length : Int) - i = k → xs.length = ap.length → k1 = kp + (totL (ap.take i.toNat) : Int) → (∀ j : Nat, j < ap.length → (j : Int) < i → gL xs (j : Int) = gL (markedL ap kp) (j : Int)) → (∀ j : Nat, i ≤ (j : Int) → gL xs (j : Int) = gL ap (j : Int)) →
    ∃ i', F_l_markInt64SS_L1 ap (k + 1) k1 i xs = (kp + (totL ap : Int), i', markedL ap kp) := by
  intro k
  induction k with
  | zero =>
    intro k1 i xs h0 hk hl h1 hp hq
    refine ⟨i, ?_⟩
    show F_l_markInt64SS_L1b ap _ k1 i xs = _
    unfold F_l_markInt64SS_L1b
    rw [decide_eq_false (by omega)]
    have : xs = markedL ap kp := extL (by rw [markedL_len, hl]) fun j hj => hp j (by omega) (by omega)
    rw [← this, h1, show i.toNat = ap.length by omega, totL_all]; rfl
  | succ k ih =>
    intro k1 i xs h0 hk hl h1 hp hq
    have ei : gL xs i = gL ap i := by
      have := hq i.toNat (by omega)
      rwa [show ((i.toNat : Nat) : Int) = i by omega] at this
    have ht := totL_take ap h0 (by omega)
    obtain ⟨i', h'⟩ := ih (k1 + ((gL xs i).length : Int)) (i + 1) (sL xs i (marked (gL xs i).length k1)) (by omega) (by omega) (by rw [sL_len]; exact hl) (by rw [ei]; omega) (fun j hj hji => by
      by_cases e : i = (j : Int)
      · rw [← e, gL_sL h0 (by omega), ei]
        have := markedL_at ap kp i.toNat (by omega)
        rw [show ((i.toNat : Nat) : Int) = i by omega] at this
        rw [this, h1]
      · rw [gL_sL_ne h0 (by omega) e]; exact hp j hj (by omega)) (fun j hj => by rw [gL_sL_ne h0 (by omega) (by omega)]; exact hq j (by omega))
    refine ⟨i', ?_⟩
    show F_l_markInt64SS_L1b ap _ k1 i xs = _
    unfold F_l_markInt64SS_L1b
    rw [decide_eq_true (by omega)]
    exact h'
theorem markSS_eq (ap : List (List Int)) (kp : Int) : F_l_markInt64SS ap kp = (kp + (totL ap : Int), markedL ap kp) := by
  unfold F_l_markInt64SS
  have e : Int.toNat ((ap.length : Int) - 0) = ap.length := by omega
  rw [e]
  obtain ⟨i', h⟩ := markSS_key ap kp ap.length kp 0 ap (by omega) (by omega) rfl (by simp [totL]) (fun j _ hj => by omega) (fun _ _ => rfl)
  rw [h]
theorem d_l_markInt64SS (apA : Option Addr) (apC : Nat) (apQ : List Hd) (ap : List (List Int)) (kp : Int) (w : World) (w0v : World) (Γ0 : List Ent) (hS0 : St w0v w (.nest 22 1 (some 2) apA apC apQ ap :: Γ0)) (h0 : 0 ≤ kp) (h1 : kp ≤ 1000000) (hl : totL ap ≤ 4194304) :
    Calls Try.prog 40 #[.slice apA ap.length apC, .int .i64 kp] w (Ret fun v w' => v = .int .i64 (kp + (totL ap : Int)) ∧ St w0v w' (.nest 22 1 (some 2) apA apC apQ (markedL ap kp) :: Γ0)) := by
  have := c_l_markInt64SS apA apC apQ ap kp w w0v Γ0 hS0 h0 h1 hl
  rwa [markSS_eq] at this
theorem heldI_le (ap : List Int) (kp : Int) (h : 0 ≤ kp) : F_l_heldInt64S ap kp ≤ kp + (ap.length : Int) :=
  held_key ap kp h (Int.toNat ((ap.length : Int) - 0) + 1) kp 0 (by omega) (by omega) (by omega)
def F_l_heldInt64SS_L1b (ap : List (List Int)) (rec : Int → Int → Except (Int) (Int × Int)) (k1 : Int) (i5 : Int) : Except (Int) (Int × Int) :=
  bif (decide (i5 < ((ap).length : Int))) then (bif (decide ((F_l_heldInt64S (gL ap i5) k1) < 0)) then (.error (-1)) else (rec (F_l_heldInt64S (gL ap i5) k1) (i5 + 1))) else (.ok (k1, i5))
def F_l_heldInt64SS_L1 (ap : List (List Int)) : Nat → Int → Int → Except (Int) (Int × Int)
  | 0, k1, i5 => .ok (k1, i5)
  | r + 1, k1, i5 => F_l_heldInt64SS_L1b ap (F_l_heldInt64SS_L1 ap r) k1 i5
def F_l_heldInt64SS (ap : List (List Int)) (kp : Int) : Int :=
  bif (isOk (F_l_heldInt64SS_L1 ap (Int.toNat (((ap).length : Int) - 0) + 1) kp 0)) then ((okD (F_l_heldInt64SS_L1 ap (Int.toNat (((ap).length : Int) - 0) + 1) kp 0)).1) else (errD (F_l_heldInt64SS_L1 ap (Int.toNat (((ap).length : Int) - 0) + 1) kp 0))
theorem cf_l_heldInt64SS (args : Array Value) (w : World) : (callFunc 121 args).run Try.prog w = .ok (.enter 121 args) w := by kernel_rfl
set_option maxRecDepth 100000 in
theorem c_l_heldInt64SS (apA : Option Addr) (apN apC : Nat) (apQ : List Hd) (ap : List (List Int)) (kp : Int) (w : World) (apR : RdN w 1 apA apN apC apQ ap) (h0 : 0 ≤ kp) (h1 : kp ≤ 1000000) (hl : totL ap ≤ 4194304) :
    Calls Try.prog 121 #[.slice apA apN apC, .int .i64 kp] w (Ret fun v w' => v = .int .i64 (F_l_heldInt64SS ap kp) ∧ Ext w w') := by
  obtain rfl : apN = ap.length := apR.len
  have apLe := apR.le
  have hS := St.nil w
  have hS1 := St.rdn0 hS rfl apR; clear hS
  refine enter (args := [.slice apA ((ap).length) apC, .int .i64 kp]) Try.func121 rfl rfl ?_
  rw [Try.ntmps121]; intro a hE
  have hE := hE.sub (L' := [(0, .slice apA ((ap).length) apC), (1, .int .i64 kp)]) ⟨rfl, rfl, trivial⟩
  refine c_seq ?_
  refine c_reg ?_
  refine q_step (v := .int .i64 0) hE (y_assign rfl) rfl rfl rfl ?_; intro a2 hE3; clear hE
  refine c_nil ?_
  have hE4 := hE3.sub (L' := [(0, .slice apA ((ap).length) apC), (1, .int .i64 kp)]) ⟨rfl, rfl, trivial⟩; clear hE3
  refine p_tn ?_
  refine c_seq ?_
  refine c_seq ?_
  refine c_reg ?_
  refine q_step (v := .int .i64 0) hE4 (y_assign rfl) rfl rfl rfl ?_; intro a5 hE6; clear hE4
  refine c_nil ?_
  have hE7 := hE6.sub (L' := [(0, .slice apA ((ap).length) apC), (1, .int .i64 kp), (5, .int .i64 0)]) ⟨rfl, rfl, rfl, trivial⟩; clear hE6
  refine p_tn ?_
  refine c_cut1 (fun a' w' => isOk (F_l_heldInt64SS_L1 ap (Int.toNat (((ap).length : Int) - 0) + 1) kp 0) = true ∧ (0 ≤ ((okD (F_l_heldInt64SS_L1 ap (Int.toNat (((ap).length : Int) - 0) + 1) kp 0)).2)) ∧ (0 ≤ ((okD (F_l_heldInt64SS_L1 ap (Int.toNat (((ap).length : Int) - 0) + 1) kp 0)).1)) ∧ (((okD (F_l_heldInt64SS_L1 ap (Int.toNat (((ap).length : Int) - 0) + 1) kp 0)).1) ≤ kp + (totL (ap.take ((okD (F_l_heldInt64SS_L1 ap (Int.toNat (((ap).length : Int) - 0) + 1) kp 0)).2).toNat) : Int)) ∧ (((okD (F_l_heldInt64SS_L1 ap (Int.toNat (((ap).length : Int) - 0) + 1) kp 0)).2) ≤ ((ap).length : Int)) ∧ E a' 21 [(0, .slice apA ((ap).length) apC), (1, .int .i64 ((okD (F_l_heldInt64SS_L1 ap (Int.toNat (((ap).length : Int) - 0) + 1) kp 0)).1)), (5, .int .i64 ((okD (F_l_heldInt64SS_L1 ap (Int.toNat (((ap).length : Int) - 0) + 1) kp 0)).2))] ∧ St w w' [.rdn 1 apA ((ap).length) apC apQ ap]) ?_ ?_
  ·
   refine wp_block ?_
   refine c_loop (fun r a' w' => ∃ k1 : Int, ∃ i5 : Int, F_l_heldInt64SS_L1 ap r k1 i5 = F_l_heldInt64SS_L1 ap (Int.toNat (((ap).length : Int) - 0) + 1) kp 0 ∧ Int.toNat (((ap).length : Int) - i5) < r ∧ (0 ≤ i5) ∧ (0 ≤ k1) ∧ (k1 ≤ kp + (totL (ap.take i5.toNat) : Int)) ∧ (i5 ≤ ((ap).length : Int)) ∧ E a' 21 [(0, .slice apA ((ap).length) apC), (1, .int .i64 k1), (5, .int .i64 i5)] ∧ St w w' [.rdn 1 apA ((ap).length) apC apQ ap]) (r := (Int.toNat (((ap).length : Int) - 0) + 1)) ?_ ?_
   · exact ⟨kp, 0, rfl, Nat.lt_succ_self _, (by first | omega | (simp only [sS_len, sL_len]; omega) | (simp only [List.length_replicate, sI_len]; omega) | (simp only [List.length_append, List.length_cons, List.length_nil, sI_len, cond_true, cond_false]; omega) | (simp only [List.length_append, List.length_cons, List.length_nil, sI_len, cond_eq_ite, apply_ite List.length]; split <;> simp only [List.length_append, List.length_cons, List.length_nil, sI_len] <;> omega) | grind), (by omega), (by simp [totL]), (by first | omega | (simp only [sS_len, sL_len]; omega) | (simp only [List.length_replicate, sI_len]; omega) | (simp only [List.length_append, List.length_cons, List.length_nil, sI_len, cond_true, cond_false]; omega) | (simp only [List.length_append, List.length_cons, List.length_nil, sI_len, cond_eq_ite, apply_ite List.length]; split <;> simp only [List.length_append, List.length_cons, List.length_nil, sI_len] <;> omega) | grind), (hE7.sub (L' := [(0, .slice apA ((ap).length) apC), (1, .int .i64 kp), (5, .int .i64 0)]) ⟨rfl, rfl, rfl, trivial⟩), (St.pick (Γ' := [.rdn 1 apA ((ap).length) apC apQ ap]) hS1 [0] (by decide) rfl)⟩
   ·
    clear hE7 hS1
    rintro r19 a9 w10 ⟨k1, i5, hT13, hr14, hi15, hi16, hi17, hi18, hE11, hS12⟩
    obtain ⟨r19, rfl⟩ : ∃ r', r19 = r' + 1 := ⟨r19 - 1, by omega⟩
    refine c_seq ?_
    refine c_seq ?_
    refine c_reg ?_
    refine q_step (v := .int .i64 i5) hE11 (y_move rfl) rfl rfl rfl ?_; intro a20 hE21; clear hE11
    refine q_step (v := .slice apA ((ap).length) apC) hE21 (y_move rfl) rfl rfl rfl ?_; intro a22 hE23; clear hE21
    refine q_step (v := .int .i64 ((ap).length : Int)) hE23 (y_len (e := 22) (by kernel_rfl) rfl) rfl rfl rfl ?_; intro a24 hE25; clear hE23
    refine q_step (v := .bool (decide (i5 < ((ap).length : Int)))) hE25 (y_lss rfl rfl) rfl rfl rfl ?_; intro a26 hE27; clear hE25
    refine c_nil ?_
    have hE28 := hE27.sub (L' := [(0, .slice apA ((ap).length) apC), (1, .int .i64 k1), (5, .int .i64 i5), (9, .bool (decide (i5 < ((ap).length : Int))))]) ⟨rfl, rfl, rfl, rfl, trivial⟩; clear hE27
    refine p_tn ?_
    refine c_cond hE28 rfl (fun ht29 => ?_) (fun ht29 => ?_)
    ·
     have hp30 := of_decide_eq_true ht29
     have hE31 := hE28; rw [ht29] at hE31; clear hE28
     have hrl := row_le ap (i := i5) (by omega) (by omega)
     have htl := totL_take ap (i := i5) (by omega) (by omega)
     have htt := totL_take_le ap (i5 + 1).toNat
     have hhl := heldI_le (gL ap i5) k1 (by omega)
     refine wp_skip ?_
     refine p_tn ?_
     refine c_seq ?_
     refine wp_block ?_
     refine c_seq ?_
     refine c_reg ?_
     refine q_step (v := .slice apA ((ap).length) apC) hE31 (y_move rfl) rfl rfl rfl ?_; intro a32 hE33; clear hE31
     refine q_step (v := .int .i64 i5) hE33 (y_move rfl) rfl rfl rfl ?_; intro a34 hE35; clear hE33
     refine q_step (v := .pointer (some (adr apA (Int.toNat i5)))) hE35 (y_idx (by kernel_rfl) (fun _ => by kernel_rfl) rfl rfl (RdN.isS (m := i5) (St.rdNr (i := 0) hS12 rfl) (by omega) (by omega)) (by omega) (by omega) (Nat.mul_one _).symm) rfl rfl rfl ?_; intro a36 hE37; clear hE35
     have hv38 : (0 : Int) ≤ i5 ∧ i5 < (((ap).length) : Int) := ⟨(by omega), (by omega)⟩
     refine q_step (v := .slice (hdA apQ i5) ((gL ap i5).length) (hdC apQ i5)) hE37 (y_load (fun _ => by kernel_rfl) rfl (RdN.elt1 (St.rdNr (i := 0) hS12 rfl) (by omega) (by omega))) rfl rfl rfl ?_; intro a40 hE41; clear hE37
     refine q_step (v := .int .i64 k1) hE41 (y_move rfl) rfl rfl rfl ?_; intro a42 hE43; clear hE41
     refine l_step hE43 rfl (l_call (f := 19) (argv := [.slice (hdA apQ i5) ((gL ap i5).length) (hdC apQ i5), .int .i64 k1]) hE43 (fun _ => cf_l_heldInt64S _ _) rfl rfl (c_l_heldInt64S (hdA apQ i5) ((gL ap i5).length) (hdC apQ i5) (gL ap i5) k1 w10 (RdN.row1 (St.rdNr (i := 0) hS12 rfl) hv38.1 hv38.2) (by omega) (by omega) (by omega)) ?_)
     rintro _ w45 ⟨rfl, he49⟩ a46 hE47; clear hE43
     have hS48 := St.go hS12 he49; clear hS12
     refine q_step (v := .int .i64 (F_l_heldInt64S (gL ap i5) k1)) hE47 (y_assign rfl) rfl rfl rfl ?_; intro a50 hE51; clear hE47
     refine c_nil ?_
     have hE52 := hE51.sub (L' := [(0, .slice apA ((ap).length) apC), (1, .int .i64 (F_l_heldInt64S (gL ap i5) k1)), (5, .int .i64 i5)]) ⟨rfl, rfl, rfl, trivial⟩; clear hE51
     refine p_tn ?_
     refine c_seq ?_
     refine c_reg ?_
     refine q_step (v := .int .i64 (F_l_heldInt64S (gL ap i5) k1)) hE52 (y_move rfl) rfl rfl rfl ?_; intro a53 hE54; clear hE52
     refine q_step (v := .bool (decide ((F_l_heldInt64S (gL ap i5) k1) < 0))) hE54 (y_lss rfl rfl) rfl rfl rfl ?_; intro a55 hE56; clear hE54
     refine c_nil ?_
     have hE57 := hE56.sub (L' := [(0, .slice apA ((ap).length) apC), (1, .int .i64 (F_l_heldInt64S (gL ap i5) k1)), (5, .int .i64 i5), (19, .bool (decide ((F_l_heldInt64S (gL ap i5) k1) < 0)))]) ⟨rfl, rfl, rfl, rfl, trivial⟩; clear hE56
     refine p_tn ?_
     refine c_cond hE57 rfl (fun ht58 => ?_) (fun ht58 => ?_)
     ·
      have hp59 := of_decide_eq_true ht58
      have hE60 := hE57; rw [ht58] at hE60; clear hE57
      refine c_seq ?_
      refine c_reg ?_
      refine q_step (v := .int .i64 (-1)) hE60 (y_assign rfl) rfl rfl rfl ?_; intro a61 hE62; clear hE60
      refine c_nil ?_
      have hE63 := hE62.sub (L' := [(4, .int .i64 (-1))]) ⟨rfl, trivial⟩; clear hE62
      refine p_tn ?_
      refine wp_ret ?_
      refine p_br ?_
      refine p_tr ?_
      have hX64 : F_l_heldInt64SS_L1 ap (Int.toNat (((ap).length : Int) - 0) + 1) kp 0 = .error (-1) := hT13.symm.trans (show F_l_heldInt64SS_L1b ap (F_l_heldInt64SS_L1 ap r19) k1 i5 = .error (-1) by unfold F_l_heldInt64SS_L1b; rw [ht58, ht29]; first | done | rfl)
      refine p_tr (p_br (p_tr ?_))
      refine p_tr ?_
      have hF : F_l_heldInt64SS ap kp = -1 := by unfold F_l_heldInt64SS; rw [hX64]; first | done | rfl
      refine c_ret1 hE63 rfl rfl ?_
      exact ⟨(by rw [hF]; first | done | (dsimp only; done) | rfl), hS48.ext⟩
     ·
      have hp65 := of_decide_eq_false ht58
      have hE66 := hE57; rw [ht58] at hE66; clear hE57
      refine wp_skip ?_
      refine p_bn ?_
      refine p_tn ?_
      refine c_reg ?_
      refine q_step (v := .int .i64 i5) hE66 (y_move rfl) rfl rfl rfl ?_; intro a67 hE68; clear hE66
      refine q_step (v := .int .i64 (i5 + 1)) hE68 (y_add rfl rfl ⟨(by omega), (by omega)⟩) rfl rfl rfl ?_; intro a69 hE70; clear hE68
      refine q_step (v := .int .i64 (i5 + 1)) hE70 (y_assign rfl) rfl rfl rfl ?_; intro a71 hE72; clear hE70
      refine c_nil ?_
      have hE73 := hE72.sub (L' := [(0, .slice apA ((ap).length) apC), (1, .int .i64 (F_l_heldInt64S (gL ap i5) k1)), (5, .int .i64 (i5 + 1))]) ⟨rfl, rfl, rfl, trivial⟩; clear hE72
      refine p_tn ⟨r19, Nat.lt_succ_self _, F_l_heldInt64S (gL ap i5) k1, i5 + 1, (hT13.symm.trans (show F_l_heldInt64SS_L1b ap (F_l_heldInt64SS_L1 ap r19) k1 i5 = F_l_heldInt64SS_L1 ap r19 (F_l_heldInt64S (gL ap i5) k1) (i5 + 1) by unfold F_l_heldInt64SS_L1b; rw [ht58, ht29]; first | done | rfl)).symm, (by omega), (by first | omega | (simp only [sS_len, sL_len]; omega) | (simp only [List.length_replicate, sI_len]; omega) | (simp only [List.length_append, List.length_cons, List.length_nil, sI_len, cond_true, cond_false]; omega) | (simp only [List.length_append, List.length_cons, List.length_nil, sI_len, cond_eq_ite, apply_ite List.length]; split <;> simp only [List.length_append, List.length_cons, List.length_nil, sI_len] <;> omega) | grind), (by first | omega | (simp only [sS_len, sL_len]; omega) | (simp only [List.length_replicate, sI_len]; omega) | (simp only [List.length_append, List.length_cons, List.length_nil, sI_len, cond_true, cond_false]; omega) | (simp only [List.length_append, List.length_cons, List.length_nil, sI_len, cond_eq_ite, apply_ite List.length]; split <;> simp only [List.length_append, List.length_cons, List.length_nil, sI_len] <;> omega) | grind), (by first | omega | (simp only [sS_len, sL_len]; omega) | (simp only [List.length_replicate, sI_len]; omega) | (simp only [List.length_append, List.length_cons, List.length_nil, sI_len, cond_true, cond_false]; omega) | (simp only [List.length_append, List.length_cons, List.length_nil, sI_len, cond_eq_ite, apply_ite List.length]; split <;> simp only [List.length_append, List.length_cons, List.length_nil, sI_len] <;> omega) | grind), (by first | omega | (simp only [sS_len, sL_len]; omega) | (simp only [List.length_replicate, sI_len]; omega) | (simp only [List.length_append, List.length_cons, List.length_nil, sI_len, cond_true, cond_false]; omega) | (simp only [List.length_append, List.length_cons, List.length_nil, sI_len, cond_eq_ite, apply_ite List.length]; split <;> simp only [List.length_append, List.length_cons, List.length_nil, sI_len] <;> omega) | grind), (hE73.sub (L' := [(0, .slice apA ((ap).length) apC), (1, .int .i64 (F_l_heldInt64S (gL ap i5) k1)), (5, .int .i64 (i5 + 1))]) ⟨rfl, rfl, rfl, trivial⟩), (St.pick (Γ' := [.rdn 1 apA ((ap).length) apC apQ ap]) hS48 [0] (by decide) rfl)⟩
    ·
     have hp74 := of_decide_eq_false ht29
     have hE75 := hE28; rw [ht29] at hE75; clear hE28
     refine wp_exit ?_
     refine p_te ?_
     have hX76 : F_l_heldInt64SS_L1 ap (Int.toNat (((ap).length : Int) - 0) + 1) kp 0 = .ok (k1, i5) := hT13.symm.trans (show F_l_heldInt64SS_L1b ap (F_l_heldInt64SS_L1 ap r19) k1 i5 = .ok (k1, i5) by unfold F_l_heldInt64SS_L1b; rw [ht29]; first | done | rfl)
     refine p_te (p_be (p_tn ?_))
     exact ⟨(by rw [hX76]; rfl), (by rw [hX76]; exact (show 0 ≤ i5 from (by first | omega | (simp only [sS_len, sL_len]; omega) | (simp only [List.length_replicate, sI_len]; omega) | (simp only [List.length_append, List.length_cons, List.length_nil, sI_len, cond_true, cond_false]; omega) | (simp only [List.length_append, List.length_cons, List.length_nil, sI_len, cond_eq_ite, apply_ite List.length]; split <;> simp only [List.length_append, List.length_cons, List.length_nil, sI_len] <;> omega) | grind))), (by rw [hX76]; exact (show 0 ≤ k1 from (by first | omega | (simp only [sS_len, sL_len]; omega) | (simp only [List.length_replicate, sI_len]; omega) | (simp only [List.length_append, List.length_cons, List.length_nil, sI_len, cond_true, cond_false]; omega) | (simp only [List.length_append, List.length_cons, List.length_nil, sI_len, cond_eq_ite, apply_ite List.length]; split <;> simp only [List.length_append, List.length_cons, List.length_nil, sI_len] <;> omega) | grind))), (by rw [hX76]; exact (show k1 ≤ kp + (totL (ap.take i5.toNat) : Int) from (by first | omega | (simp only [sS_len, sL_len]; omega) | (simp only [List.length_replicate, sI_len]; omega) | (simp only [List.length_append, List.length_cons, List.length_nil, sI_len, cond_true, cond_false]; omega) | (simp only [List.length_append, List.length_cons, List.length_nil, sI_len, cond_eq_ite, apply_ite List.length]; split <;> simp only [List.length_append, List.length_cons, List.length_nil, sI_len] <;> omega) | grind))), (by rw [hX76]; exact (show i5 ≤ ((ap).length : Int) from (by first | omega | (simp only [sS_len, sL_len]; omega) | (simp only [List.length_replicate, sI_len]; omega) | (simp only [List.length_append, List.length_cons, List.length_nil, sI_len, cond_true, cond_false]; omega) | (simp only [List.length_append, List.length_cons, List.length_nil, sI_len, cond_eq_ite, apply_ite List.length]; split <;> simp only [List.length_append, List.length_cons, List.length_nil, sI_len] <;> omega) | grind))), (by rw [hX76]; exact (hE75.sub (L' := [(0, .slice apA ((ap).length) apC), (1, .int .i64 k1), (5, .int .i64 i5)]) ⟨rfl, rfl, rfl, trivial⟩)), (St.pick (Γ' := [.rdn 1 apA ((ap).length) apC apQ ap]) hS12 [0] (by decide) rfl)⟩
  ·
   rintro a77 w78 ⟨hO81, hi82, hi83, hi84, hi85, hE79, hS80⟩; clear hE7 hS1
   refine p_tn ?_
   refine c_seq ?_
   refine c_reg ?_
   refine q_step (v := .int .i64 ((okD (F_l_heldInt64SS_L1 ap (Int.toNat (((ap).length : Int) - 0) + 1) kp 0)).1)) hE79 (y_move rfl) rfl rfl rfl ?_; intro a86 hE87; clear hE79
   refine q_step (v := .int .i64 ((okD (F_l_heldInt64SS_L1 ap (Int.toNat (((ap).length : Int) - 0) + 1) kp 0)).1)) hE87 (y_assign rfl) rfl rfl rfl ?_; intro a88 hE89; clear hE87
   refine c_nil ?_
   have hE90 := hE89.sub (L' := [(4, .int .i64 ((okD (F_l_heldInt64SS_L1 ap (Int.toNat (((ap).length : Int) - 0) + 1) kp 0)).1))]) ⟨rfl, trivial⟩; clear hE89
   refine p_tn ?_
   refine wp_ret ?_
   have hF : F_l_heldInt64SS ap kp = (okD (F_l_heldInt64SS_L1 ap (Int.toNat (((ap).length : Int) - 0) + 1) kp 0)).1 := by unfold F_l_heldInt64SS; rw [hO81]; first | done | rfl
   refine c_ret1 hE90 rfl rfl ?_
   exact ⟨(by rw [hF]; first | done | (dsimp only; done) | rfl), hS80.ext⟩
theorem heldSS_key (l : List (List Int)) (kp : Int) (h : 0 ≤ kp) : ∀ (k : Nat) (k1 i : Int), 0 ≤ i → (l.length : Int) - i = k → k1 = kp + (totL (l.take i.toNat) : Int) →
    ∃ i', F_l_heldInt64SS_L1 (markedL l kp) (k + 1) k1 i = .ok (kp + (totL l : Int), i') := by
  intro k
  induction k with
  | zero =>
    intro k1 i h0 hk h1
    refine ⟨i, ?_⟩
    show F_l_heldInt64SS_L1b _ _ k1 i = _
    unfold F_l_heldInt64SS_L1b
    rw [markedL_len, decide_eq_false (by omega), h1, show i.toNat = l.length by omega, totL_all]; rfl
  | succ k ih =>
    intro k1 i h0 hk h1
    have ht := totL_take l h0 (by omega)
    obtain ⟨i', h'⟩ := ih (k1 + ((gL l i).length : Int)) (i + 1) (by omega) (by omega) (by omega)
    refine ⟨i', ?_⟩
    show F_l_heldInt64SS_L1b _ _ k1 i = _
    unfold F_l_heldInt64SS_L1b
    have hg := markedL_at l kp i.toNat (by omega)
    rw [show ((i.toNat : Nat) : Int) = i by omega, ← h1] at hg
    rw [markedL_len, decide_eq_true (by omega), cond_true, hg, heldI_eq, decide_eq_false (by omega), cond_false]
    exact h'
theorem heldSS_eq (l : List (List Int)) (kp : Int) (h : 0 ≤ kp) : F_l_heldInt64SS (markedL l kp) kp = kp + (totL l : Int) := by
  unfold F_l_heldInt64SS
  have e : Int.toNat (((markedL l kp).length : Int) - 0) = l.length := by rw [markedL_len]; omega
  rw [e]
  obtain ⟨i', h'⟩ := heldSS_key l kp h l.length kp 0 (by omega) (by omega) (by simp [totL])
  rw [h']; rfl
end Go.Proofs.Ytkilkfhjfobcdaa
