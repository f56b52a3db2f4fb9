/- GLFS: models and contracts, printed by wip/gen/gen.py -/
import Derived.Test.YtlbonhloeefnmaaKLFGLFD
set_option linter.unusedVariables false
set_option linter.unusedSimpArgs false
namespace Go.Proofs.Ytlbonhloeefnmaa
open Go.RowKit
def F_l01Has_L1b (list : List Int) (np : Int) (rec : Int → Except (Bool) (Int)) (i5 : Int) : Except (Bool) (Int) :=
  bif (decide (i5 < (list.length : Int))) then (bif (decide ((gI list i5) = np)) then (.error true) else (rec (i5 + 1))) else (.ok i5)
def F_l01Has_L1 (list : List Int) (np : Int) : Nat → Int → Except (Bool) (Int)
  | 0, i5 => .ok i5
  | r + 1, i5 => F_l01Has_L1b list np (F_l01Has_L1 list np r) i5
def F_l01Has (list : List Int) (np : Int) : Bool :=
  bif (isOk (F_l01Has_L1 list np (Int.toNat ((list.length : Int) - 0) + 1) 0)) then false else (errD (F_l01Has_L1 list np (Int.toNat ((list.length : Int) - 0) + 1) 0))
theorem cf_l01Has (args : Array Value) (w : World) : (callFunc 232 args).run Try.prog w = .ok (.enter 232 args) w := by kernel_rfl
set_option maxRecDepth 100000 in
theorem c_l01Has (listA : Option Addr) (listN listC : Nat) (list : List Int) (np : Int) (w : World) (listR : RdS w 1 listA listN listC list) :
    Calls Try.prog 232 #[.slice listA listN listC, .int .i64 np] w (Ret fun v w' => v = .bool (F_l01Has list np) ∧ Ext w w') := by
  obtain rfl : listN = list.length := listR.len1.symm
  have listLe := listR.le
  have hS := St.nil w
  have hS1 := St.rd0 hS rfl listR; clear hS
  refine enter (args := [.slice listA list.length listC, .int .i64 np]) Try.func232 rfl rfl ?_
  rw [Try.ntmps232]; intro a hE
  have hE := hE.sub (L' := [(0, .slice listA list.length listC), (1, .int .i64 np)]) ⟨rfl, rfl, trivial⟩
  refine c_seq ?_
  refine c_reg ?_
  refine q_step (v := .bool false) hE (y_assign rfl) rfl rfl rfl ?_; intro a2 hE3; clear hE
  refine c_nil ?_
  have hE4 := hE3.sub (L' := [(0, .slice listA list.length listC), (1, .int .i64 np)]) ⟨rfl, rfl, trivial⟩; clear hE3
  refine p_tn ?_
  refine c_seq ?_
  refine c_seq ?_
  refine c_reg ?_
  refine q_step (v := .int .i64 0) hE4 (y_assign rfl) rfl rfl rfl ?_; intro a5 hE6; clear hE4
  refine c_nil ?_
  have hE7 := hE6.sub (L' := [(0, .slice listA list.length listC), (1, .int .i64 np), (5, .int .i64 0)]) ⟨rfl, rfl, rfl, trivial⟩; clear hE6
  refine p_tn ?_
  refine c_cut1 (fun a' w' => isOk (F_l01Has_L1 list np (Int.toNat ((list.length : Int) - 0) + 1) 0) = true ∧ (0 ≤ (okD (F_l01Has_L1 list np (Int.toNat ((list.length : Int) - 0) + 1) 0))) ∧ ((okD (F_l01Has_L1 list np (Int.toNat ((list.length : Int) - 0) + 1) 0)) ≤ (list.length : Int)) ∧ E a' 18 [(0, .slice listA list.length listC), (1, .int .i64 np), (5, .int .i64 (okD (F_l01Has_L1 list np (Int.toNat ((list.length : Int) - 0) + 1) 0)))] ∧ St w w' [.rd 1 listA list.length listC list]) ?_ ?_
  ·
   refine wp_block ?_
   refine c_loop (fun r a' w' => ∃ i5 : Int, F_l01Has_L1 list np r i5 = F_l01Has_L1 list np (Int.toNat ((list.length : Int) - 0) + 1) 0 ∧ Int.toNat ((list.length : Int) - i5) < r ∧ (0 ≤ i5) ∧ (i5 ≤ (list.length : Int)) ∧ E a' 18 [(0, .slice listA list.length listC), (1, .int .i64 np), (5, .int .i64 i5)] ∧ St w w' [.rd 1 listA list.length listC list]) (r := (Int.toNat ((list.length : Int) - 0) + 1)) ?_ ?_
   · exact ⟨0, rfl, Nat.lt_succ_self _, (by first | omega | (simp only [sS_len, sL_len]; omega) | (simp only [List.length_replicate, sI_len]; omega) | (simp only [List.length_append, List.length_cons, List.length_nil, sI_len, cond_true, cond_false]; omega) | (simp only [List.length_append, List.length_cons, List.length_nil, sI_len, cond_eq_ite, apply_ite List.length]; split <;> simp only [List.length_append, List.length_cons, List.length_nil, sI_len] <;> omega) | grind), (by first | omega | (simp only [sS_len, sL_len]; omega) | (simp only [List.length_replicate, sI_len]; omega) | (simp only [List.length_append, List.length_cons, List.length_nil, sI_len, cond_true, cond_false]; omega) | (simp only [List.length_append, List.length_cons, List.length_nil, sI_len, cond_eq_ite, apply_ite List.length]; split <;> simp only [List.length_append, List.length_cons, List.length_nil, sI_len] <;> omega) | grind), (hE7.sub (L' := [(0, .slice listA list.length listC), (1, .int .i64 np), (5, .int .i64 0)]) ⟨rfl, rfl, rfl, trivial⟩), (St.pick (Γ' := [.rd 1 listA list.length listC list]) hS1 [0] (by decide) rfl)⟩
   ·
    clear hE7 hS1
    rintro r17 a9 w10 ⟨i5, hT13, hr14, hi15, hi16, hE11, hS12⟩
    obtain ⟨r17, rfl⟩ : ∃ r', r17 = r' + 1 := ⟨r17 - 1, by omega⟩
    refine c_seq ?_
    refine c_seq ?_
    refine c_reg ?_
    refine q_step (v := .int .i64 i5) hE11 (y_move rfl) rfl rfl rfl ?_; intro a18 hE19; clear hE11
    refine q_step (v := .slice listA list.length listC) hE19 (y_move rfl) rfl rfl rfl ?_; intro a20 hE21; clear hE19
    refine q_step (v := .int .i64 (list.length : Int)) hE21 (y_len (e := 2) (by kernel_rfl) rfl) rfl rfl rfl ?_; intro a22 hE23; clear hE21
    refine q_step (v := .bool (decide (i5 < (list.length : Int)))) hE23 (y_lss rfl rfl) rfl rfl rfl ?_; intro a24 hE25; clear hE23
    refine c_nil ?_
    have hE26 := hE25.sub (L' := [(0, .slice listA list.length listC), (1, .int .i64 np), (5, .int .i64 i5), (9, .bool (decide (i5 < (list.length : Int))))]) ⟨rfl, rfl, rfl, rfl, trivial⟩; clear hE25
    refine p_tn ?_
    refine c_cond hE26 rfl (fun ht27 => ?_) (fun ht27 => ?_)
    ·
     have hp28 := of_decide_eq_true ht27
     have hE29 := hE26; rw [ht27] at hE29; clear hE26
     refine wp_skip ?_
     refine p_tn ?_
     refine c_seq ?_
     refine wp_block ?_
     refine c_seq ?_
     refine c_reg ?_
     refine q_step (v := .slice listA list.length listC) hE29 (y_move rfl) rfl rfl rfl ?_; intro a30 hE31; clear hE29
     refine q_step (v := .int .i64 i5) hE31 (y_move rfl) rfl rfl rfl ?_; intro a32 hE33; clear hE31
     refine q_step (v := .pointer (some (adr listA (Int.toNat i5)))) hE33 (y_idx (by kernel_rfl) (fun _ => by kernel_rfl) rfl rfl (RdS.isS (m := i5) (St.rdR (i := 0) hS12 rfl) (by omega) (by omega)) (by omega) (by omega) (Nat.mul_one _).symm) rfl rfl rfl ?_; intro a34 hE35; clear hE33
     refine q_step (v := .int .i64 (gI list i5)) hE35 (y_load (fun _ => by kernel_rfl) rfl (RdS.elt (St.rdR (i := 0) hS12 rfl) (by omega) (by omega))) rfl rfl rfl ?_; intro a36 hE37; clear hE35
     refine q_step (v := .int .i64 np) hE37 (y_move rfl) rfl rfl rfl ?_; intro a38 hE39; clear hE37
     refine q_step (v := .bool (decide ((gI list i5) = np))) hE39 (y_eql rfl rfl) rfl rfl rfl ?_; intro a40 hE41; clear hE39
     refine c_nil ?_
     have hE42 := hE41.sub (L' := [(0, .slice listA list.length listC), (1, .int .i64 np), (5, .int .i64 i5), (17, .bool (decide ((gI list i5) = np)))]) ⟨rfl, rfl, rfl, rfl, trivial⟩; clear hE41
     refine p_tn ?_
     refine c_cond hE42 rfl (fun ht43 => ?_) (fun ht43 => ?_)
     ·
      have hp44 := of_decide_eq_true ht43
      have hE45 := hE42; rw [ht43] at hE45; clear hE42
      refine c_seq ?_
      refine c_reg ?_
      refine q_step (v := .bool true) hE45 (y_assign rfl) rfl rfl rfl ?_; intro a46 hE47; clear hE45
      refine c_nil ?_
      have hE48 := hE47.sub (L' := [(4, .bool true)]) ⟨rfl, trivial⟩; clear hE47
      refine p_tn ?_
      refine wp_ret ?_
      refine p_br ?_
      refine p_tr ?_
      have hX49 : F_l01Has_L1 list np (Int.toNat ((list.length : Int) - 0) + 1) 0 = .error true := hT13.symm.trans (show F_l01Has_L1b list np (F_l01Has_L1 list np r17) i5 = .error true by unfold F_l01Has_L1b; rw [ht43, ht27]; first | done | rfl)
      refine p_tr (p_br (p_tr ?_))
      refine p_tr ?_
      have hF : F_l01Has list np = true := by unfold F_l01Has; rw [hX49]; first | done | rfl
      refine c_ret1 hE48 rfl rfl ?_
      exact ⟨(by rw [hF]; first | done | (dsimp only; done) | rfl), hS12.ext⟩
     ·
      have hp50 := of_decide_eq_false ht43
      have hE51 := hE42; rw [ht43] at hE51; clear hE42
      refine wp_skip ?_
      refine p_bn ?_
      refine p_tn ?_
      refine c_reg ?_
      refine q_step (v := .int .i64 i5) hE51 (y_move rfl) rfl rfl rfl ?_; intro a52 hE53; clear hE51
      refine q_step (v := .int .i64 (i5 + 1)) hE53 (y_add rfl rfl ⟨(by omega), (by omega)⟩) rfl rfl rfl ?_; intro a54 hE55; clear hE53
      refine q_step (v := .int .i64 (i5 + 1)) hE55 (y_assign rfl) rfl rfl rfl ?_; intro a56 hE57; clear hE55
      refine c_nil ?_
      have hE58 := hE57.sub (L' := [(0, .slice listA list.length listC), (1, .int .i64 np), (5, .int .i64 (i5 + 1))]) ⟨rfl, rfl, rfl, trivial⟩; clear hE57
      refine p_tn ⟨r17, Nat.lt_succ_self _, i5 + 1, (hT13.symm.trans (show F_l01Has_L1b list np (F_l01Has_L1 list np r17) i5 = F_l01Has_L1 list np r17 (i5 + 1) by unfold F_l01Has_L1b; rw [ht43, ht27]; first | done | rfl)).symm, (by omega), (by first | omega | (simp only [sS_len, sL_len]; omega) | (simp only [List.length_replicate, sI_len]; omega) | (simp only [List.length_append, List.length_cons, List.length_nil, sI_len, cond_true, cond_false]; omega) | (simp only [List.length_append, List.length_cons, List.length_nil, sI_len, cond_eq_ite, apply_ite List.length]; split <;> simp only [List.length_append, List.length_cons, List.length_nil, sI_len] <;> omega) | grind), (by first | omega | (simp only [sS_len, sL_len]; omega) | (simp only [List.length_replicate, sI_len]; omega) | (simp only [List.length_append, List.length_cons, List.length_nil, sI_len, cond_true, cond_false]; omega) | (simp only [List.length_append, List.length_cons, List.length_nil, sI_len, cond_eq_ite, apply_ite List.length]; split <;> simp only [List.length_append, List.length_cons, List.length_nil, sI_len] <;> omega) | grind), (hE58.sub (L' := [(0, .slice listA list.length listC), (1, .int .i64 np), (5, .int .i64 (i5 + 1))]) ⟨rfl, rfl, rfl, trivial⟩), (St.pick (Γ' := [.rd 1 listA list.length listC list]) hS12 [0] (by decide) rfl)⟩
    ·
     have hp59 := of_decide_eq_false ht27
     have hE60 := hE26; rw [ht27] at hE60; clear hE26
     refine wp_exit ?_
     refine p_te ?_
     have hX61 : F_l01Has_L1 list np (Int.toNat ((list.length : Int) - 0) + 1) 0 = .ok i5 := hT13.symm.trans (show F_l01Has_L1b list np (F_l01Has_L1 list np r17) i5 = .ok i5 by unfold F_l01Has_L1b; rw [ht27]; first | done | rfl)
     refine p_te (p_be (p_tn ?_))
     exact ⟨(by rw [hX61]; rfl), (by rw [hX61]; exact (show 0 ≤ i5 from (by first | omega | (simp only [sS_len, sL_len]; omega) | (simp only [List.length_replicate, sI_len]; omega) | (simp only [List.length_append, List.length_cons, List.length_nil, sI_len, cond_true, cond_false]; omega) | (simp only [List.length_append, List.length_cons, List.length_nil, sI_len, cond_eq_ite, apply_ite List.length]; split <;> simp only [List.length_append, List.length_cons, List.length_nil, sI_len] <;> omega) | grind))), (by rw [hX61]; exact (show i5 ≤ (list.length : Int) from (by first | omega | (simp only [sS_len, sL_len]; omega) | (simp only [List.length_replicate, sI_len]; omega) | (simp only [List.length_append, List.length_cons, List.length_nil, sI_len, cond_true, cond_false]; omega) | (simp only [List.length_append, List.length_cons, List.length_nil, sI_len, cond_eq_ite, apply_ite List.length]; split <;> simp only [List.length_append, List.length_cons, List.length_nil, sI_len] <;> omega) | grind))), (by rw [hX61]; exact (hE60.sub (L' := [(0, .slice listA list.length listC), (1, .int .i64 np), (5, .int .i64 i5)]) ⟨rfl, rfl, rfl, trivial⟩)), (St.pick (Γ' := [.rd 1 listA list.length listC list]) hS12 [0] (by decide) rfl)⟩
  ·
   rintro a62 w63 ⟨hO66, hi67, hi68, hE64, hS65⟩; clear hE7 hS1
   refine p_tn ?_
   refine c_seq ?_
   refine c_reg ?_
   refine q_step (v := .bool false) hE64 (y_assign rfl) rfl rfl rfl ?_; intro a69 hE70; clear hE64
   refine c_nil ?_
   have hE71 := hE70.sub (L' := [(4, .bool false)]) ⟨rfl, trivial⟩; clear hE70
   refine p_tn ?_
   refine wp_ret ?_
   have hF : F_l01Has list np = false := by unfold F_l01Has; rw [hO66]; first | done | rfl
   refine c_ret1 hE71 rfl rfl ?_
   exact ⟨(by rw [hF]; first | done | (dsimp only; done) | rfl), hS65.ext⟩
def F_l05Orders_L3b (np : Int) (out3 : List (List Int)) (i6L2 : Int) (rec : (List (List Int)) → Int → (List (List Int)) × Int) (next5L3 : List (List Int)) (v7L3 : Int) : (List (List Int)) × Int :=
  bif (decide (v7L3 < np)) then (bif (!(F_l01Has (gL out3 i6L2) v7L3)) then (rec (next5L3 ++ ([(gL out3 i6L2) ++ ([v7L3])])) (v7L3 + 1)) else (rec next5L3 (v7L3 + 1))) else (next5L3, v7L3)
def F_l05Orders_L3 (np : Int) (out3 : List (List Int)) (i6L2 : Int) : Nat → (List (List Int)) → Int → (List (List Int)) × Int
  | 0, next5L3, v7L3 => (next5L3, v7L3)
  | r + 1, next5L3, v7L3 => F_l05Orders_L3b np out3 i6L2 (F_l05Orders_L3 np out3 i6L2 r) next5L3 v7L3
def F_l05Orders_L2b (np : Int) (out3 : List (List Int)) (rec : (List (List Int)) → Int → (List (List Int)) × Int) (next5L2 : List (List Int)) (i6L2 : Int) : (List (List Int)) × Int :=
  bif (decide (i6L2 < ((out3).length : Int))) then (rec ((F_l05Orders_L3 np out3 i6L2 (Int.toNat (np - 0) + 1) next5L2 0).1) (i6L2 + 1)) else (next5L2, i6L2)
def F_l05Orders_L2 (np : Int) (out3 : List (List Int)) : Nat → (List (List Int)) → Int → (List (List Int)) × Int
  | 0, next5L2, i6L2 => (next5L2, i6L2)
  | r + 1, next5L2, i6L2 => F_l05Orders_L2b np out3 (F_l05Orders_L2 np out3 r) next5L2 i6L2
def F_l05Orders_L1b (np : Int) (rec : (List (List Int)) → Int → (List (List Int)) × Int) (out3 : List (List Int)) (k4 : Int) : (List (List Int)) × Int :=
  bif (decide (k4 < np)) then (rec ((F_l05Orders_L2 np out3 (Int.toNat (((out3).length : Int) - 0) + 1) ([]) 0).1) (k4 + 1)) else (out3, k4)
def F_l05Orders_L1 (np : Int) : Nat → (List (List Int)) → Int → (List (List Int)) × Int
  | 0, out3, k4 => (out3, k4)
  | r + 1, out3, k4 => F_l05Orders_L1b np (F_l05Orders_L1 np r) out3 k4
def F_l05Orders (np : Int) : List (List Int) :=
  (F_l05Orders_L1 np (Int.toNat (np - 0) + 1) ([[]]) 0).1
theorem cf_l05Orders (args : Array Value) (w : World) : (callFunc 181 args).run Try.prog w = .ok (.enter 181 args) w := by kernel_rfl
set_option maxRecDepth 100000 in
theorem c_l05Orders (np : Int) (w : World) (h0 : 0 ≤ np) (h1 : np ≤ 6) :
    Calls Try.prog 181 #[.int .i64 np] w (Ret fun v w' => ∃ b1 : Option Addr, ∃ c1 : Nat, ∃ h1 : List Hd, v = .slice b1 (F_l05Orders np).length c1 ∧ OwnN w' w.heap.size 22 1 2 b1 c1 h1 (F_l05Orders np) ∧ Ext w w') := by
  have hP := P6_zero
  have hS := St.nil w
  refine enter (args := [.int .i64 np]) Try.func181 rfl rfl ?_
  rw [Try.ntmps181]; intro a hE
  have hE := hE.sub (L' := [(0, .int .i64 np)]) ⟨rfl, trivial⟩
  refine c_seq ?_
  refine c_reg ?_
  refine q_step (v := .slice none 0 0) hE (y_assign rfl) rfl rfl rfl ?_; intro a1 hE2; clear hE
  refine c_nil ?_
  have hE3 := hE2.sub (L' := [(0, .int .i64 np)]) ⟨rfl, trivial⟩; clear hE2
  refine p_tn ?_
  refine c_seq ?_
  refine c_reg ?_
  refine l_step hE3 rfl (l_lit (e := 2) (s := 1) (xs := []) (vs := []) hS hE3 rfl (fun _ => by kernel_rfl) rfl rfl rfl ?_)
  intro b4 w5 hS8 he9 a6 hE7; clear hS hE3
  have hS16 := (St.pick (Γ' := [.own 2 1 (some ⟨b4, 0, none⟩) 0 0 ([])]) hS8 [0] (by decide) rfl); clear hS8
  refine l_step hE7 rfl (l_litO1 (e := 22) hS16 hE7 rfl (fun _ => by kernel_rfl) rfl ?_)
  intro b10 w11 hS14 he15 a12 hE13; clear hS16 hE7
  refine q_step (v := .slice (some ⟨b10, 0, none⟩) 1 1) hE13 (y_assign rfl) rfl rfl rfl ?_; intro a17 hE18; clear hE13
  refine c_nil ?_
  have hE19 := hE18.sub (L' := [(0, .int .i64 np), (3, .slice (some ⟨b10, 0, none⟩) 1 1)]) ⟨rfl, rfl, trivial⟩; clear hE18
  refine p_tn ?_
  refine c_seq ?_
  refine c_seq ?_
  refine c_reg ?_
  refine q_step (v := .int .i64 0) hE19 (y_assign rfl) rfl rfl rfl ?_; intro a20 hE21; clear hE19
  refine c_nil ?_
  have hE22 := hE21.sub (L' := [(0, .int .i64 np), (3, .slice (some ⟨b10, 0, none⟩) 1 1), (4, .int .i64 0)]) ⟨rfl, rfl, rfl, trivial⟩; clear hE21
  refine p_tn ?_
  refine c_cut1 (fun a' w' => ∃ out3A_23 : Option Addr, ∃ out3C_23 : Nat, ∃ out3H_23 : List Hd, (0 ≤ ((F_l05Orders_L1 np (Int.toNat (np - 0) + 1) ([[]]) 0).2)) ∧ (RowsN ((F_l05Orders_L1 np (Int.toNat (np - 0) + 1) ([[]]) 0).2) ((F_l05Orders_L1 np (Int.toNat (np - 0) + 1) ([[]]) 0).1)) ∧ ((((F_l05Orders_L1 np (Int.toNat (np - 0) + 1) ([[]]) 0).1).length : Int) ≤ (P6 ((F_l05Orders_L1 np (Int.toNat (np - 0) + 1) ([[]]) 0).2) : Int)) ∧ (((F_l05Orders_L1 np (Int.toNat (np - 0) + 1) ([[]]) 0).2) ≤ np) ∧ E a' 47 [(0, .int .i64 np), (3, .slice out3A_23 (((F_l05Orders_L1 np (Int.toNat (np - 0) + 1) ([[]]) 0).1).length) out3C_23), (4, .int .i64 ((F_l05Orders_L1 np (Int.toNat (np - 0) + 1) ([[]]) 0).2))] ∧ St w w' [.nest 22 1 (some 2) out3A_23 out3C_23 out3H_23 ((F_l05Orders_L1 np (Int.toNat (np - 0) + 1) ([[]]) 0).1)]) ?_ ?_
  ·
   refine wp_block ?_
   refine c_loop (fun r a' w' => ∃ out3 : List (List Int), ∃ k4 : Int, ∃ out3A : Option Addr, ∃ out3C : Nat, ∃ out3H : List Hd, F_l05Orders_L1 np r out3 k4 = F_l05Orders_L1 np (Int.toNat (np - 0) + 1) ([[]]) 0 ∧ Int.toNat (np - k4) < r ∧ (0 ≤ k4) ∧ (RowsN k4 out3) ∧ ((out3.length : Int) ≤ (P6 k4 : Int)) ∧ (k4 ≤ np) ∧ E a' 47 [(0, .int .i64 np), (3, .slice out3A ((out3).length) out3C), (4, .int .i64 k4)] ∧ St w w' [.nest 22 1 (some 2) out3A out3C out3H out3]) (r := (Int.toNat (np - 0) + 1)) ?_ ?_
   · exact ⟨[[]], 0, some ⟨b10, 0, none⟩, 1, [⟨some ⟨b4, 0, none⟩, 0, 0⟩], rfl, Nat.lt_succ_self _, (by first | omega | (simp only [sS_len, sL_len]; omega) | (simp only [List.length_replicate, sI_len]; omega) | (simp only [List.length_append, List.length_cons, List.length_nil, sI_len, cond_true, cond_false]; omega) | (simp only [List.length_append, List.length_cons, List.length_nil, sI_len, cond_eq_ite, apply_ite List.length]; split <;> simp only [List.length_append, List.length_cons, List.length_nil, sI_len] <;> omega) | grind), (RowsN.one (by simp)), (by rw [P6_zero]; simp), (by first | omega | (simp only [sS_len, sL_len]; omega) | (simp only [List.length_replicate, sI_len]; omega) | (simp only [List.length_append, List.length_cons, List.length_nil, sI_len, cond_true, cond_false]; omega) | (simp only [List.length_append, List.length_cons, List.length_nil, sI_len, cond_eq_ite, apply_ite List.length]; split <;> simp only [List.length_append, List.length_cons, List.length_nil, sI_len] <;> omega) | grind), (hE22.sub (L' := [(0, .int .i64 np), (3, .slice (some ⟨b10, 0, none⟩) 1 1), (4, .int .i64 0)]) ⟨rfl, rfl, rfl, trivial⟩), (St.pick (Γ' := [.nest 22 1 (some 2) (some ⟨b10, 0, none⟩) 1 ([⟨some ⟨b4, 0, none⟩, 0, 0⟩]) ([[]])]) hS14 [0] (by decide) rfl)⟩
   ·
    clear hE22 hS14
    rintro r34 a24 w25 ⟨out3, k4, out3A, out3C, out3H, hT28, hr29, hi30, hi31, hi32, hi33, hE26, hS27⟩
    obtain ⟨r34, rfl⟩ : ∃ r', r34 = r' + 1 := ⟨r34 - 1, by omega⟩
    refine c_seq ?_
    refine c_seq ?_
    refine c_reg ?_
    refine q_step (v := .int .i64 k4) hE26 (y_move rfl) rfl rfl rfl ?_; intro a35 hE36; clear hE26
    refine q_step (v := .int .i64 np) hE36 (y_move rfl) rfl rfl rfl ?_; intro a37 hE38; clear hE36
    refine q_step (v := .bool (decide (k4 < np))) hE38 (y_lss rfl rfl) rfl rfl rfl ?_; intro a39 hE40; clear hE38
    refine c_nil ?_
    have hE41 := hE40.sub (L' := [(0, .int .i64 np), (3, .slice out3A ((out3).length) out3C), (4, .int .i64 k4), (12, .bool (decide (k4 < np)))]) ⟨rfl, rfl, rfl, rfl, trivial⟩; clear hE40
    refine p_tn ?_
    refine c_cond hE41 rfl (fun ht42 => ?_) (fun ht42 => ?_)
    ·
     have hp43 := of_decide_eq_true ht42
     have hE44 := hE41; rw [ht42] at hE44; clear hE41
     have hp6 := P6_succ (k := k4) (by omega)
     have hp7 := P6_le (k := k4) (by omega)
     have hrw := (show RowsN k4 out3 by assumption)
     refine wp_skip ?_
     refine p_tn ?_
     refine c_seq ?_
     refine wp_block ?_
     refine c_seq ?_
     refine c_reg ?_
     refine l_step hE44 rfl (l_lit0N (e := 22) (t' := 2) (s := 1) hS27 hE44 (fun _ => by kernel_rfl) rfl ?_)
     intro b45 w46 hS49 he50 a47 hE48; clear hS27 hE44
     refine q_step (v := .slice (some ⟨b45, 0, none⟩) 0 0) hE48 (y_assign rfl) rfl rfl rfl ?_; intro a51 hE52; clear hE48
     refine c_nil ?_
     have hE53 := hE52.sub (L' := [(0, .int .i64 np), (3, .slice out3A ((out3).length) out3C), (4, .int .i64 k4), (5, .slice (some ⟨b45, 0, none⟩) 0 0)]) ⟨rfl, rfl, rfl, rfl, trivial⟩; clear hE52
     refine p_tn ?_
     refine c_seq ?_
     refine c_seq ?_
     refine c_reg ?_
     refine q_step (v := .int .i64 0) hE53 (y_assign rfl) rfl rfl rfl ?_; intro a54 hE55; clear hE53
     refine c_nil ?_
     have hE56 := hE55.sub (L' := [(0, .int .i64 np), (3, .slice out3A ((out3).length) out3C), (4, .int .i64 k4), (5, .slice (some ⟨b45, 0, none⟩) 0 0), (6, .int .i64 0)]) ⟨rfl, rfl, rfl, rfl, rfl, trivial⟩; clear hE55
     refine p_tn ?_
     refine c_cut1 (fun a' w' => ∃ next5L2A_57 : Option Addr, ∃ next5L2C_57 : Nat, ∃ next5L2H_57 : List Hd, (0 ≤ ((F_l05Orders_L2 np out3 (Int.toNat (((out3).length : Int) - 0) + 1) ([]) 0).2)) ∧ (RowsN (k4 + 1) ((F_l05Orders_L2 np out3 (Int.toNat (((out3).length : Int) - 0) + 1) ([]) 0).1)) ∧ ((((F_l05Orders_L2 np out3 (Int.toNat (((out3).length : Int) - 0) + 1) ([]) 0).1).length : Int) ≤ 6 * ((F_l05Orders_L2 np out3 (Int.toNat (((out3).length : Int) - 0) + 1) ([]) 0).2)) ∧ (((F_l05Orders_L2 np out3 (Int.toNat (((out3).length : Int) - 0) + 1) ([]) 0).2) ≤ ((out3).length : Int)) ∧ E a' 47 [(0, .int .i64 np), (3, .slice out3A ((out3).length) out3C), (4, .int .i64 k4), (5, .slice next5L2A_57 (((F_l05Orders_L2 np out3 (Int.toNat (((out3).length : Int) - 0) + 1) ([]) 0).1).length) next5L2C_57), (6, .int .i64 ((F_l05Orders_L2 np out3 (Int.toNat (((out3).length : Int) - 0) + 1) ([]) 0).2))] ∧ St w w' [.nest 22 1 (some 2) next5L2A_57 next5L2C_57 next5L2H_57 ((F_l05Orders_L2 np out3 (Int.toNat (((out3).length : Int) - 0) + 1) ([]) 0).1), .nest 22 1 (some 2) out3A out3C out3H out3]) ?_ ?_
     ·
      refine wp_block ?_
      refine c_loop (fun r a' w' => ∃ next5L2 : List (List Int), ∃ i6L2 : Int, ∃ next5L2A : Option Addr, ∃ next5L2C : Nat, ∃ next5L2H : List Hd, F_l05Orders_L2 np out3 r next5L2 i6L2 = F_l05Orders_L2 np out3 (Int.toNat (((out3).length : Int) - 0) + 1) ([]) 0 ∧ Int.toNat (((out3).length : Int) - i6L2) < r ∧ (0 ≤ i6L2) ∧ (RowsN (k4 + 1) next5L2) ∧ ((next5L2.length : Int) ≤ 6 * i6L2) ∧ (i6L2 ≤ ((out3).length : Int)) ∧ E a' 47 [(0, .int .i64 np), (3, .slice out3A ((out3).length) out3C), (4, .int .i64 k4), (5, .slice next5L2A ((next5L2).length) next5L2C), (6, .int .i64 i6L2)] ∧ St w w' [.nest 22 1 (some 2) next5L2A next5L2C next5L2H next5L2, .nest 22 1 (some 2) out3A out3C out3H out3]) (r := (Int.toNat (((out3).length : Int) - 0) + 1)) ?_ ?_
      · exact ⟨[], 0, some ⟨b45, 0, none⟩, 0, [], rfl, Nat.lt_succ_self _, (by first | omega | (simp only [sS_len, sL_len]; omega) | (simp only [List.length_replicate, sI_len]; omega) | (simp only [List.length_append, List.length_cons, List.length_nil, sI_len, cond_true, cond_false]; omega) | (simp only [List.length_append, List.length_cons, List.length_nil, sI_len, cond_eq_ite, apply_ite List.length]; split <;> simp only [List.length_append, List.length_cons, List.length_nil, sI_len] <;> omega) | grind), (fun r h0 h1 => absurd h1 (by simp; omega)), (by first | omega | (simp only [sS_len, sL_len]; omega) | (simp only [List.length_replicate, sI_len]; omega) | (simp only [List.length_append, List.length_cons, List.length_nil, sI_len, cond_true, cond_false]; omega) | (simp only [List.length_append, List.length_cons, List.length_nil, sI_len, cond_eq_ite, apply_ite List.length]; split <;> simp only [List.length_append, List.length_cons, List.length_nil, sI_len] <;> omega) | grind), (by first | omega | (simp only [sS_len, sL_len]; omega) | (simp only [List.length_replicate, sI_len]; omega) | (simp only [List.length_append, List.length_cons, List.length_nil, sI_len, cond_true, cond_false]; omega) | (simp only [List.length_append, List.length_cons, List.length_nil, sI_len, cond_eq_ite, apply_ite List.length]; split <;> simp only [List.length_append, List.length_cons, List.length_nil, sI_len] <;> omega) | grind), (hE56.sub (L' := [(0, .int .i64 np), (3, .slice out3A ((out3).length) out3C), (4, .int .i64 k4), (5, .slice (some ⟨b45, 0, none⟩) 0 0), (6, .int .i64 0)]) ⟨rfl, rfl, rfl, rfl, rfl, trivial⟩), (St.pick (Γ' := [.nest 22 1 (some 2) (some ⟨b45, 0, none⟩) 0 ([]) ([]), .nest 22 1 (some 2) out3A out3C out3H out3]) hS49 [0, 1] (by decide) rfl)⟩
      ·
       clear hE56 hS49
       rintro r68 a58 w59 ⟨next5L2, i6L2, next5L2A, next5L2C, next5L2H, hT62, hr63, hi64, hi65, hi66, hi67, hE60, hS61⟩
       obtain ⟨r68, rfl⟩ : ∃ r', r68 = r' + 1 := ⟨r68 - 1, by omega⟩
       refine c_seq ?_
       refine c_seq ?_
       refine c_reg ?_
       refine q_step (v := .int .i64 i6L2) hE60 (y_move rfl) rfl rfl rfl ?_; intro a69 hE70; clear hE60
       refine q_step (v := .slice out3A ((out3).length) out3C) hE70 (y_move rfl) rfl rfl rfl ?_; intro a71 hE72; clear hE70
       refine q_step (v := .int .i64 ((out3).length : Int)) hE72 (y_len (e := 22) (by kernel_rfl) rfl) rfl rfl rfl ?_; intro a73 hE74; clear hE72
       refine q_step (v := .bool (decide (i6L2 < ((out3).length : Int)))) hE74 (y_lss rfl rfl) rfl rfl rfl ?_; intro a75 hE76; clear hE74
       refine c_nil ?_
       have hE77 := hE76.sub (L' := [(0, .int .i64 np), (3, .slice out3A ((out3).length) out3C), (4, .int .i64 k4), (5, .slice next5L2A ((next5L2).length) next5L2C), (6, .int .i64 i6L2), (19, .bool (decide (i6L2 < ((out3).length : Int))))]) ⟨rfl, rfl, rfl, rfl, rfl, rfl, trivial⟩; clear hE76
       refine p_tn ?_
       refine c_cond hE77 rfl (fun ht78 => ?_) (fun ht78 => ?_)
       ·
        have hp79 := of_decide_eq_true ht78
        have hE80 := hE77; rw [ht78] at hE80; clear hE77
        have hr6 := hrw i6L2 (by omega) (by omega)
        refine wp_skip ?_
        refine p_tn ?_
        refine c_seq ?_
        refine wp_block ?_
        refine c_seq ?_
        refine c_reg ?_
        refine q_step (v := .int .i64 0) hE80 (y_assign rfl) rfl rfl rfl ?_; intro a81 hE82; clear hE80
        refine c_nil ?_
        have hE83 := hE82.sub (L' := [(0, .int .i64 np), (3, .slice out3A ((out3).length) out3C), (4, .int .i64 k4), (5, .slice next5L2A ((next5L2).length) next5L2C), (6, .int .i64 i6L2), (7, .int .i64 0)]) ⟨rfl, rfl, rfl, rfl, rfl, rfl, trivial⟩; clear hE82
        refine p_tn ?_
        refine c_cut1 (fun a' w' => ∃ next5L3A_84 : Option Addr, ∃ next5L3C_84 : Nat, ∃ next5L3H_84 : List Hd, (0 ≤ ((F_l05Orders_L3 np out3 i6L2 (Int.toNat (np - 0) + 1) next5L2 0).2)) ∧ (RowsN (k4 + 1) ((F_l05Orders_L3 np out3 i6L2 (Int.toNat (np - 0) + 1) next5L2 0).1)) ∧ ((((F_l05Orders_L3 np out3 i6L2 (Int.toNat (np - 0) + 1) next5L2 0).1).length : Int) ≤ 6 * i6L2 + ((F_l05Orders_L3 np out3 i6L2 (Int.toNat (np - 0) + 1) next5L2 0).2)) ∧ (((F_l05Orders_L3 np out3 i6L2 (Int.toNat (np - 0) + 1) next5L2 0).2) ≤ np) ∧ E a' 47 [(0, .int .i64 np), (3, .slice out3A ((out3).length) out3C), (4, .int .i64 k4), (5, .slice next5L3A_84 (((F_l05Orders_L3 np out3 i6L2 (Int.toNat (np - 0) + 1) next5L2 0).1).length) next5L3C_84), (6, .int .i64 i6L2), (7, .int .i64 ((F_l05Orders_L3 np out3 i6L2 (Int.toNat (np - 0) + 1) next5L2 0).2))] ∧ St w w' [.nest 22 1 (some 2) next5L3A_84 next5L3C_84 next5L3H_84 ((F_l05Orders_L3 np out3 i6L2 (Int.toNat (np - 0) + 1) next5L2 0).1), .nest 22 1 (some 2) out3A out3C out3H out3]) ?_ ?_
        ·
         refine wp_block ?_
         refine c_loop (fun r a' w' => ∃ next5L3 : List (List Int), ∃ v7L3 : Int, ∃ next5L3A : Option Addr, ∃ next5L3C : Nat, ∃ next5L3H : List Hd, F_l05Orders_L3 np out3 i6L2 r next5L3 v7L3 = F_l05Orders_L3 np out3 i6L2 (Int.toNat (np - 0) + 1) next5L2 0 ∧ Int.toNat (np - v7L3) < r ∧ (0 ≤ v7L3) ∧ (RowsN (k4 + 1) next5L3) ∧ ((next5L3.length : Int) ≤ 6 * i6L2 + v7L3) ∧ (v7L3 ≤ np) ∧ E a' 47 [(0, .int .i64 np), (3, .slice out3A ((out3).length) out3C), (4, .int .i64 k4), (5, .slice next5L3A ((next5L3).length) next5L3C), (6, .int .i64 i6L2), (7, .int .i64 v7L3)] ∧ St w w' [.nest 22 1 (some 2) next5L3A next5L3C next5L3H next5L3, .nest 22 1 (some 2) out3A out3C out3H out3]) (r := (Int.toNat (np - 0) + 1)) ?_ ?_
         · exact ⟨next5L2, 0, next5L2A, next5L2C, next5L2H, rfl, Nat.lt_succ_self _, (by first | omega | (simp only [sS_len, sL_len]; omega) | (simp only [List.length_replicate, sI_len]; omega) | (simp only [List.length_append, List.length_cons, List.length_nil, sI_len, cond_true, cond_false]; omega) | (simp only [List.length_append, List.length_cons, List.length_nil, sI_len, cond_eq_ite, apply_ite List.length]; split <;> simp only [List.length_append, List.length_cons, List.length_nil, sI_len] <;> omega) | grind), (by first | omega | (simp only [sS_len, sL_len]; omega) | (simp only [List.length_replicate, sI_len]; omega) | (simp only [List.length_append, List.length_cons, List.length_nil, sI_len, cond_true, cond_false]; omega) | (simp only [List.length_append, List.length_cons, List.length_nil, sI_len, cond_eq_ite, apply_ite List.length]; split <;> simp only [List.length_append, List.length_cons, List.length_nil, sI_len] <;> omega) | grind), (by first | omega | (simp only [sS_len, sL_len]; omega) | (simp only [List.length_replicate, sI_len]; omega) | (simp only [List.length_append, List.length_cons, List.length_nil, sI_len, cond_true, cond_false]; omega) | (simp only [List.length_append, List.length_cons, List.length_nil, sI_len, cond_eq_ite, apply_ite List.length]; split <;> simp only [List.length_append, List.length_cons, List.length_nil, sI_len] <;> omega) | grind), (by first | omega | (simp only [sS_len, sL_len]; omega) | (simp only [List.length_replicate, sI_len]; omega) | (simp only [List.length_append, List.length_cons, List.length_nil, sI_len, cond_true, cond_false]; omega) | (simp only [List.length_append, List.length_cons, List.length_nil, sI_len, cond_eq_ite, apply_ite List.length]; split <;> simp only [List.length_append, List.length_cons, List.length_nil, sI_len] <;> omega) | grind), (hE83.sub (L' := [(0, .int .i64 np), (3, .slice out3A ((out3).length) out3C), (4, .int .i64 k4), (5, .slice next5L2A ((next5L2).length) next5L2C), (6, .int .i64 i6L2), (7, .int .i64 0)]) ⟨rfl, rfl, rfl, rfl, rfl, rfl, trivial⟩), (St.pick (Γ' := [.nest 22 1 (some 2) next5L2A next5L2C next5L2H next5L2, .nest 22 1 (some 2) out3A out3C out3H out3]) hS61 [0, 1] (by decide) rfl)⟩
         ·
          clear hE83 hS61
          rintro r95 a85 w86 ⟨next5L3, v7L3, next5L3A, next5L3C, next5L3H, hT89, hr90, hi91, hi92, hi93, hi94, hE87, hS88⟩
          obtain ⟨r95, rfl⟩ : ∃ r', r95 = r' + 1 := ⟨r95 - 1, by omega⟩
          refine c_seq ?_
          refine c_seq ?_
          refine c_reg ?_
          refine q_step (v := .int .i64 v7L3) hE87 (y_move rfl) rfl rfl rfl ?_; intro a96 hE97; clear hE87
          refine q_step (v := .int .i64 np) hE97 (y_move rfl) rfl rfl rfl ?_; intro a98 hE99; clear hE97
          refine q_step (v := .bool (decide (v7L3 < np))) hE99 (y_lss rfl rfl) rfl rfl rfl ?_; intro a100 hE101; clear hE99
          refine c_nil ?_
          have hE102 := hE101.sub (L' := [(0, .int .i64 np), (3, .slice out3A ((out3).length) out3C), (4, .int .i64 k4), (5, .slice next5L3A ((next5L3).length) next5L3C), (6, .int .i64 i6L2), (7, .int .i64 v7L3), (24, .bool (decide (v7L3 < np)))]) ⟨rfl, rfl, rfl, rfl, rfl, rfl, rfl, trivial⟩; clear hE101
          refine p_tn ?_
          refine c_cond hE102 rfl (fun ht103 => ?_) (fun ht103 => ?_)
          ·
           have hp104 := of_decide_eq_true ht103
           have hE105 := hE102; rw [ht103] at hE105; clear hE102
           refine wp_skip ?_
           refine p_tn ?_
           refine c_seq ?_
           refine wp_block ?_
           refine c_seq ?_
           refine c_reg ?_
           refine q_step (v := .slice out3A ((out3).length) out3C) hE105 (y_move rfl) rfl rfl rfl ?_; intro a106 hE107; clear hE105
           refine q_step (v := .int .i64 i6L2) hE107 (y_move rfl) rfl rfl rfl ?_; intro a108 hE109; clear hE107
           refine q_step (v := .pointer (some (adr out3A (Int.toNat i6L2)))) hE109 (y_idx (by kernel_rfl) (fun _ => by kernel_rfl) rfl rfl (RdN.isS (m := i6L2) (St.rdNo (i := 1) hS88 rfl) (by omega) (by omega)) (by omega) (by omega) (Nat.mul_one _).symm) rfl rfl rfl ?_; intro a110 hE111; clear hE109
           have hv112 : (0 : Int) ≤ i6L2 ∧ i6L2 < ((out3).length : Int) := ⟨(by omega), (by omega)⟩
           refine q_step (v := .slice (hdA out3H i6L2) ((gL out3 i6L2).length) (hdC out3H i6L2)) hE111 (y_load (fun _ => by kernel_rfl) rfl (RdN.elt1 (St.rdNo (i := 1) hS88 rfl) (by omega) (by omega))) rfl rfl rfl ?_; intro a114 hE115; clear hE111
           refine q_step (v := .int .i64 v7L3) hE115 (y_move rfl) rfl rfl rfl ?_; intro a116 hE117; clear hE115
           refine l_step hE117 rfl (l_call (f := 232) (argv := [.slice (hdA out3H i6L2) ((gL out3 i6L2).length) (hdC out3H i6L2), .int .i64 v7L3]) hE117 (fun _ => cf_l01Has _ _) rfl rfl (c_l01Has (hdA out3H i6L2) ((gL out3 i6L2).length) (hdC out3H i6L2) (gL out3 i6L2) v7L3 w86 (RdN.row1 (St.rdNo (i := 1) hS88 rfl) hv112.1 hv112.2)) ?_)
           rintro _ w119 ⟨rfl, he123⟩ a120 hE121; clear hE117
           have hS122 := St.go hS88 he123; clear hS88
           refine q_step (v := .bool (!(F_l01Has (gL out3 i6L2) v7L3))) hE121 (y_not rfl) rfl rfl rfl ?_; intro a124 hE125; clear hE121
           refine c_nil ?_
           have hE126 := hE125.sub (L' := [(0, .int .i64 np), (3, .slice out3A ((out3).length) out3C), (4, .int .i64 k4), (5, .slice next5L3A ((next5L3).length) next5L3C), (6, .int .i64 i6L2), (7, .int .i64 v7L3), (33, .bool (!(F_l01Has (gL out3 i6L2) v7L3)))]) ⟨rfl, rfl, rfl, rfl, rfl, rfl, rfl, trivial⟩; clear hE125
           refine p_tn ?_
           refine c_cond hE126 rfl (fun ht127 => ?_) (fun ht127 => ?_)
           ·
            have ht128 := bn_t ht127
            have hE129 := hE126; rw [ht127] at hE129; clear hE126
            refine c_reg ?_
            refine q_step (v := .slice next5L3A ((next5L3).length) next5L3C) hE129 (y_move rfl) rfl rfl rfl ?_; intro a130 hE131; clear hE129
            refine q_step (v := .slice out3A ((out3).length) out3C) hE131 (y_move rfl) rfl rfl rfl ?_; intro a132 hE133; clear hE131
            refine q_step (v := .int .i64 i6L2) hE133 (y_move rfl) rfl rfl rfl ?_; intro a134 hE135; clear hE133
            refine q_step (v := .pointer (some (adr out3A (Int.toNat i6L2)))) hE135 (y_idx (by kernel_rfl) (fun _ => by kernel_rfl) rfl rfl (RdN.isS (m := i6L2) (St.rdNo (i := 1) hS122 rfl) (by omega) (by omega)) (by omega) (by omega) (Nat.mul_one _).symm) rfl rfl rfl ?_; intro a136 hE137; clear hE135
            refine q_step (v := .slice (hdA out3H i6L2) ((gL out3 i6L2).length) (hdC out3H i6L2)) hE137 (y_load (fun _ => by kernel_rfl) rfl (RdN.elt1 (St.rdNo (i := 1) hS122 rfl) (by omega) (by omega))) rfl rfl rfl ?_; intro a138 hE139; clear hE137
            refine l_step hE139 rfl (l_call (f := 140) (argv := [.slice (hdA out3H i6L2) ((gL out3 i6L2).length) (hdC out3H i6L2)]) hE139 (fun _ => cf_l01Own _ _) rfl rfl (d_l01Own (hdA out3H i6L2) ((gL out3 i6L2).length) (hdC out3H i6L2) (gL out3 i6L2) w119 (RdN.row1 (St.rdNo (i := 1) hS122 rfl) hv112.1 hv112.2) (by omega)) ?_)
            rintro _ w141 ⟨b146, c147, rfl, ho148, he145⟩ a142 hE143; clear hE139
            have hS144 := St.own hS122 he145 ho148; clear hS122
            refine q_step (v := .int .i64 v7L3) hE143 (y_move rfl) rfl rfl rfl ?_; intro a149 hE150; clear hE143
            refine l_step hE150 rfl (l_lit (e := 2) (s := 1) (xs := [v7L3]) (vs := [.int .i64 v7L3]) hS144 hE150 rfl (fun _ => by kernel_rfl) rfl rfl rfl ?_)
            intro b151 w152 hS155 he156 a153 hE154; clear hS144 hE150
            obtain ⟨_, hi1, hi2, hi3, hi4⟩ := info_parts (show (Try.prog.info? 2).map (fun i => (i.zero, i.size, i.bytes)) = some (some (.int .i64 0), 1, 8) by kernel_rfl)
            refine l_step hE154 rfl (l_append (k := 1) (n' := ((gL out3 i6L2) ++ ([v7L3])).length) hS155 hE154 (by kernel_rfl) hi1 hi2 hi3 rfl (by decide) (by rw [hi4]; decide) rfl rfl rfl (St.rdO (i := 0) hS155 rfl) (by first | omega | (simp only [List.length_append, List.length_cons, List.length_nil]; omega)) (by have h1 := (St.rdO (i := 1) hS155 rfl).len1; have h2 := (St.rdO (i := 0) hS155 rfl).len1; first | rw [List.length_append, h1, h2] | (simp only [List.length_append])) rfl ?_)
            intro b157 c163 w158 hS161 a159 hE160; clear hS155 hE154 hi1 hi2 hi3 hi4
            have hS170 := (St.pick (Γ' := [.own 2 1 b157 (((gL out3 i6L2) ++ ([v7L3])).length) c163 ((gL out3 i6L2) ++ ([v7L3])), .own 2 1 (some ⟨b151, 0, none⟩) 1 1 ([v7L3]), .nest 22 1 (some 2) next5L3A next5L3C next5L3H next5L3, .nest 22 1 (some 2) out3A out3C out3H out3]) hS161 [1, 0, 2, 3] (by decide) rfl); clear hS161
            refine l_step hE160 rfl (l_litO1 (e := 22) hS170 hE160 rfl (fun _ => by kernel_rfl) rfl ?_)
            intro b164 w165 hS168 he169 a166 hE167; clear hS170 hE160
            have hS177 := (St.pick (Γ' := [.nest 22 1 (some 2) (some ⟨b164, 0, none⟩) 1 ([⟨b157, ((gL out3 i6L2) ++ ([v7L3])).length, c163⟩]) ([(gL out3 i6L2) ++ ([v7L3])]), .own 2 1 (some ⟨b151, 0, none⟩) 1 1 ([v7L3]), .nest 22 1 (some 2) next5L3A next5L3C next5L3H next5L3, .nest 22 1 (some 2) out3A out3C out3H out3]) hS168 [0, 1, 2, 3] (by decide) rfl); clear hS168
            obtain ⟨_, hi1, hi2, hi3, hi4⟩ := info_parts (show (Try.prog.info? 22).map (fun i => (i.zero, i.size, i.bytes)) = some (some (.slice none 0 0), 1, 24) by kernel_rfl)
            refine l_step hE167 rfl (l_appendN (k := 1) hS177 hE167 (by kernel_rfl) hi1 hi2 hi3 rfl (by rw [hi4]; decide) rfl rfl rfl rfl rfl rfl (by first | omega | (simp only [List.length_append, List.length_cons, List.length_nil]; omega)) rfl ?_)
            intro b171 c178 w172 hS175 a173 hE174; clear hS177 hE167 hi1 hi2 hi3 hi4
            refine q_step (v := .slice b171 ((next5L3 ++ ([(gL out3 i6L2) ++ ([v7L3])])).length) c178) hE174 (y_assign rfl) rfl rfl rfl ?_; intro a179 hE180; clear hE174
            refine c_nil ?_
            have hE181 := hE180.sub (L' := [(0, .int .i64 np), (3, .slice out3A ((out3).length) out3C), (4, .int .i64 k4), (5, .slice b171 ((next5L3 ++ ([(gL out3 i6L2) ++ ([v7L3])])).length) c178), (6, .int .i64 i6L2), (7, .int .i64 v7L3)]) ⟨rfl, rfl, rfl, rfl, rfl, rfl, trivial⟩; clear hE180
            refine p_bn ?_
            refine p_tn ?_
            refine c_reg ?_
            refine q_step (v := .int .i64 v7L3) hE181 (y_move rfl) rfl rfl rfl ?_; intro a182 hE183; clear hE181
            refine q_step (v := .int .i64 (v7L3 + 1)) hE183 (y_add rfl rfl ⟨(by omega), (by omega)⟩) rfl rfl rfl ?_; intro a184 hE185; clear hE183
            refine q_step (v := .int .i64 (v7L3 + 1)) hE185 (y_assign rfl) rfl rfl rfl ?_; intro a186 hE187; clear hE185
            refine c_nil ?_
            have hE188 := hE187.sub (L' := [(0, .int .i64 np), (3, .slice out3A ((out3).length) out3C), (4, .int .i64 k4), (5, .slice b171 ((next5L3 ++ ([(gL out3 i6L2) ++ ([v7L3])])).length) c178), (6, .int .i64 i6L2), (7, .int .i64 (v7L3 + 1))]) ⟨rfl, rfl, rfl, rfl, rfl, rfl, trivial⟩; clear hE187
            refine p_tn ⟨r95, Nat.lt_succ_self _, next5L3 ++ ([(gL out3 i6L2) ++ ([v7L3])]), v7L3 + 1, b171, c178, next5L3H ++ ([⟨b157, ((gL out3 i6L2) ++ ([v7L3])).length, c163⟩]), (hT89.symm.trans (show F_l05Orders_L3b np out3 i6L2 (F_l05Orders_L3 np out3 i6L2 r95) next5L3 v7L3 = F_l05Orders_L3 np out3 i6L2 r95 (next5L3 ++ ([(gL out3 i6L2) ++ ([v7L3])])) (v7L3 + 1) by unfold F_l05Orders_L3b; rw [ht127, ht103]; first | done | rfl)).symm, (by omega), (by first | omega | (simp only [sS_len, sL_len]; omega) | (simp only [List.length_replicate, sI_len]; omega) | (simp only [List.length_append, List.length_cons, List.length_nil, sI_len, cond_true, cond_false]; omega) | (simp only [List.length_append, List.length_cons, List.length_nil, sI_len, cond_eq_ite, apply_ite List.length]; split <;> simp only [List.length_append, List.length_cons, List.length_nil, sI_len] <;> omega) | grind), (by first | assumption | exact RowsN.app (by assumption) (by rw [len_app1]; omega)), (by first | omega | (simp only [sS_len, sL_len]; omega) | (simp only [List.length_replicate, sI_len]; omega) | (simp only [List.length_append, List.length_cons, List.length_nil, sI_len, cond_true, cond_false]; omega) | (simp only [List.length_append, List.length_cons, List.length_nil, sI_len, cond_eq_ite, apply_ite List.length]; split <;> simp only [List.length_append, List.length_cons, List.length_nil, sI_len] <;> omega) | grind), (by first | omega | (simp only [sS_len, sL_len]; omega) | (simp only [List.length_replicate, sI_len]; omega) | (simp only [List.length_append, List.length_cons, List.length_nil, sI_len, cond_true, cond_false]; omega) | (simp only [List.length_append, List.length_cons, List.length_nil, sI_len, cond_eq_ite, apply_ite List.length]; split <;> simp only [List.length_append, List.length_cons, List.length_nil, sI_len] <;> omega) | grind), (hE188.sub (L' := [(0, .int .i64 np), (3, .slice out3A ((out3).length) out3C), (4, .int .i64 k4), (5, .slice b171 ((next5L3 ++ ([(gL out3 i6L2) ++ ([v7L3])])).length) c178), (6, .int .i64 i6L2), (7, .int .i64 (v7L3 + 1))]) ⟨rfl, rfl, rfl, rfl, rfl, rfl, trivial⟩), (St.pick (Γ' := [.nest 22 1 (some 2) b171 c178 (next5L3H ++ ([⟨b157, ((gL out3 i6L2) ++ ([v7L3])).length, c163⟩])) (next5L3 ++ ([(gL out3 i6L2) ++ ([v7L3])])), .nest 22 1 (some 2) out3A out3C out3H out3]) hS175 [1, 2] (by decide) rfl)⟩
           ·
            have ht189 := bn_f ht127
            have hE190 := hE126; rw [ht127] at hE190; clear hE126
            refine wp_skip ?_
            refine p_bn ?_
            refine p_tn ?_
            refine c_reg ?_
            refine q_step (v := .int .i64 v7L3) hE190 (y_move rfl) rfl rfl rfl ?_; intro a191 hE192; clear hE190
            refine q_step (v := .int .i64 (v7L3 + 1)) hE192 (y_add rfl rfl ⟨(by omega), (by omega)⟩) rfl rfl rfl ?_; intro a193 hE194; clear hE192
            refine q_step (v := .int .i64 (v7L3 + 1)) hE194 (y_assign rfl) rfl rfl rfl ?_; intro a195 hE196; clear hE194
            refine c_nil ?_
            have hE197 := hE196.sub (L' := [(0, .int .i64 np), (3, .slice out3A ((out3).length) out3C), (4, .int .i64 k4), (5, .slice next5L3A ((next5L3).length) next5L3C), (6, .int .i64 i6L2), (7, .int .i64 (v7L3 + 1))]) ⟨rfl, rfl, rfl, rfl, rfl, rfl, trivial⟩; clear hE196
            refine p_tn ⟨r95, Nat.lt_succ_self _, next5L3, v7L3 + 1, next5L3A, next5L3C, next5L3H, (hT89.symm.trans (show F_l05Orders_L3b np out3 i6L2 (F_l05Orders_L3 np out3 i6L2 r95) next5L3 v7L3 = F_l05Orders_L3 np out3 i6L2 r95 next5L3 (v7L3 + 1) by unfold F_l05Orders_L3b; rw [ht127, ht103]; first | done | rfl)).symm, (by omega), (by first | omega | (simp only [sS_len, sL_len]; omega) | (simp only [List.length_replicate, sI_len]; omega) | (simp only [List.length_append, List.length_cons, List.length_nil, sI_len, cond_true, cond_false]; omega) | (simp only [List.length_append, List.length_cons, List.length_nil, sI_len, cond_eq_ite, apply_ite List.length]; split <;> simp only [List.length_append, List.length_cons, List.length_nil, sI_len] <;> omega) | grind), (by first | assumption | exact RowsN.app (by assumption) (by rw [len_app1]; omega)), (by first | omega | (simp only [sS_len, sL_len]; omega) | (simp only [List.length_replicate, sI_len]; omega) | (simp only [List.length_append, List.length_cons, List.length_nil, sI_len, cond_true, cond_false]; omega) | (simp only [List.length_append, List.length_cons, List.length_nil, sI_len, cond_eq_ite, apply_ite List.length]; split <;> simp only [List.length_append, List.length_cons, List.length_nil, sI_len] <;> omega) | grind), (by first | omega | (simp only [sS_len, sL_len]; omega) | (simp only [List.length_replicate, sI_len]; omega) | (simp only [List.length_append, List.length_cons, List.length_nil, sI_len, cond_true, cond_false]; omega) | (simp only [List.length_append, List.length_cons, List.length_nil, sI_len, cond_eq_ite, apply_ite List.length]; split <;> simp only [List.length_append, List.length_cons, List.length_nil, sI_len] <;> omega) | grind), (hE197.sub (L' := [(0, .int .i64 np), (3, .slice out3A ((out3).length) out3C), (4, .int .i64 k4), (5, .slice next5L3A ((next5L3).length) next5L3C), (6, .int .i64 i6L2), (7, .int .i64 (v7L3 + 1))]) ⟨rfl, rfl, rfl, rfl, rfl, rfl, trivial⟩), (St.pick (Γ' := [.nest 22 1 (some 2) next5L3A next5L3C next5L3H next5L3, .nest 22 1 (some 2) out3A out3C out3H out3]) hS122 [0, 1] (by decide) rfl)⟩
          ·
           have hp198 := of_decide_eq_false ht103
           have hE199 := hE102; rw [ht103] at hE199; clear hE102
           refine wp_exit ?_
           refine p_te ?_
           have hX200 : F_l05Orders_L3 np out3 i6L2 (Int.toNat (np - 0) + 1) next5L2 0 = (next5L3, v7L3) := hT89.symm.trans (show F_l05Orders_L3b np out3 i6L2 (F_l05Orders_L3 np out3 i6L2 r95) next5L3 v7L3 = (next5L3, v7L3) by unfold F_l05Orders_L3b; rw [ht103]; first | done | rfl)
           refine p_te (p_be (p_tn ?_))
           exact ⟨next5L3A, next5L3C, next5L3H, (by rw [hX200]; exact (show 0 ≤ v7L3 from (by first | omega | (simp only [sS_len, sL_len]; omega) | (simp only [List.length_replicate, sI_len]; omega) | (simp only [List.length_append, List.length_cons, List.length_nil, sI_len, cond_true, cond_false]; omega) | (simp only [List.length_append, List.length_cons, List.length_nil, sI_len, cond_eq_ite, apply_ite List.length]; split <;> simp only [List.length_append, List.length_cons, List.length_nil, sI_len] <;> omega) | grind))), (by rw [hX200]; exact (show RowsN (k4 + 1) next5L3 from (by first | omega | (simp only [sS_len, sL_len]; omega) | (simp only [List.length_replicate, sI_len]; omega) | (simp only [List.length_append, List.length_cons, List.length_nil, sI_len, cond_true, cond_false]; omega) | (simp only [List.length_append, List.length_cons, List.length_nil, sI_len, cond_eq_ite, apply_ite List.length]; split <;> simp only [List.length_append, List.length_cons, List.length_nil, sI_len] <;> omega) | grind))), (by rw [hX200]; exact (show (next5L3.length : Int) ≤ 6 * i6L2 + v7L3 from (by first | omega | (simp only [sS_len, sL_len]; omega) | (simp only [List.length_replicate, sI_len]; omega) | (simp only [List.length_append, List.length_cons, List.length_nil, sI_len, cond_true, cond_false]; omega) | (simp only [List.length_append, List.length_cons, List.length_nil, sI_len, cond_eq_ite, apply_ite List.length]; split <;> simp only [List.length_append, List.length_cons, List.length_nil, sI_len] <;> omega) | grind))), (by rw [hX200]; exact (show v7L3 ≤ np from (by first | omega | (simp only [sS_len, sL_len]; omega) | (simp only [List.length_replicate, sI_len]; omega) | (simp only [List.length_append, List.length_cons, List.length_nil, sI_len, cond_true, cond_false]; omega) | (simp only [List.length_append, List.length_cons, List.length_nil, sI_len, cond_eq_ite, apply_ite List.length]; split <;> simp only [List.length_append, List.length_cons, List.length_nil, sI_len] <;> omega) | grind))), (by rw [hX200]; exact (hE199.sub (L' := [(0, .int .i64 np), (3, .slice out3A ((out3).length) out3C), (4, .int .i64 k4), (5, .slice next5L3A ((next5L3).length) next5L3C), (6, .int .i64 i6L2), (7, .int .i64 v7L3)]) ⟨rfl, rfl, rfl, rfl, rfl, rfl, trivial⟩)), (by rw [hX200]; exact (St.pick (Γ' := [.nest 22 1 (some 2) next5L3A next5L3C next5L3H next5L3, .nest 22 1 (some 2) out3A out3C out3H out3]) hS88 [0, 1] (by decide) rfl))⟩
        ·
         rintro a201 w202 ⟨next5L3A_84, next5L3C_84, next5L3H_84, hi206, hi207, hi208, hi209, hE203, hS204⟩; clear hE83 hS61
         refine p_bn ?_
         refine p_tn ?_
         refine c_reg ?_
         refine q_step (v := .int .i64 i6L2) hE203 (y_move rfl) rfl rfl rfl ?_; intro a210 hE211; clear hE203
         refine q_step (v := .int .i64 (i6L2 + 1)) hE211 (y_add rfl rfl ⟨(by omega), (by omega)⟩) rfl rfl rfl ?_; intro a212 hE213; clear hE211
         refine q_step (v := .int .i64 (i6L2 + 1)) hE213 (y_assign rfl) rfl rfl rfl ?_; intro a214 hE215; clear hE213
         refine c_nil ?_
         have hE216 := hE215.sub (L' := [(0, .int .i64 np), (3, .slice out3A ((out3).length) out3C), (4, .int .i64 k4), (5, .slice next5L3A_84 (((F_l05Orders_L3 np out3 i6L2 (Int.toNat (np - 0) + 1) next5L2 0).1).length) next5L3C_84), (6, .int .i64 (i6L2 + 1))]) ⟨rfl, rfl, rfl, rfl, rfl, trivial⟩; clear hE215
         refine p_tn ⟨r68, Nat.lt_succ_self _, (F_l05Orders_L3 np out3 i6L2 (Int.toNat (np - 0) + 1) next5L2 0).1, i6L2 + 1, next5L3A_84, next5L3C_84, next5L3H_84, (hT62.symm.trans (show F_l05Orders_L2b np out3 (F_l05Orders_L2 np out3 r68) next5L2 i6L2 = F_l05Orders_L2 np out3 r68 ((F_l05Orders_L3 np out3 i6L2 (Int.toNat (np - 0) + 1) next5L2 0).1) (i6L2 + 1) by unfold F_l05Orders_L2b; rw [ht78]; first | done | rfl)).symm, (by omega), (by first | omega | (simp only [sS_len, sL_len]; omega) | (simp only [List.length_replicate, sI_len]; omega) | (simp only [List.length_append, List.length_cons, List.length_nil, sI_len, cond_true, cond_false]; omega) | (simp only [List.length_append, List.length_cons, List.length_nil, sI_len, cond_eq_ite, apply_ite List.length]; split <;> simp only [List.length_append, List.length_cons, List.length_nil, sI_len] <;> omega) | grind), (by first | omega | (simp only [sS_len, sL_len]; omega) | (simp only [List.length_replicate, sI_len]; omega) | (simp only [List.length_append, List.length_cons, List.length_nil, sI_len, cond_true, cond_false]; omega) | (simp only [List.length_append, List.length_cons, List.length_nil, sI_len, cond_eq_ite, apply_ite List.length]; split <;> simp only [List.length_append, List.length_cons, List.length_nil, sI_len] <;> omega) | grind), (by first | omega | (simp only [sS_len, sL_len]; omega) | (simp only [List.length_replicate, sI_len]; omega) | (simp only [List.length_append, List.length_cons, List.length_nil, sI_len, cond_true, cond_false]; omega) | (simp only [List.length_append, List.length_cons, List.length_nil, sI_len, cond_eq_ite, apply_ite List.length]; split <;> simp only [List.length_append, List.length_cons, List.length_nil, sI_len] <;> omega) | grind), (by first | omega | (simp only [sS_len, sL_len]; omega) | (simp only [List.length_replicate, sI_len]; omega) | (simp only [List.length_append, List.length_cons, List.length_nil, sI_len, cond_true, cond_false]; omega) | (simp only [List.length_append, List.length_cons, List.length_nil, sI_len, cond_eq_ite, apply_ite List.length]; split <;> simp only [List.length_append, List.length_cons, List.length_nil, sI_len] <;> omega) | grind), (hE216.sub (L' := [(0, .int .i64 np), (3, .slice out3A ((out3).length) out3C), (4, .int .i64 k4), (5, .slice next5L3A_84 (((F_l05Orders_L3 np out3 i6L2 (Int.toNat (np - 0) + 1) next5L2 0).1).length) next5L3C_84), (6, .int .i64 (i6L2 + 1))]) ⟨rfl, rfl, rfl, rfl, rfl, trivial⟩), (St.pick (Γ' := [.nest 22 1 (some 2) next5L3A_84 next5L3C_84 next5L3H_84 ((F_l05Orders_L3 np out3 i6L2 (Int.toNat (np - 0) + 1) next5L2 0).1), .nest 22 1 (some 2) out3A out3C out3H out3]) hS204 [0, 1] (by decide) rfl)⟩
       ·
        have hp217 := of_decide_eq_false ht78
        have hE218 := hE77; rw [ht78] at hE218; clear hE77
        refine wp_exit ?_
        refine p_te ?_
        have hX219 : F_l05Orders_L2 np out3 (Int.toNat (((out3).length : Int) - 0) + 1) ([]) 0 = (next5L2, i6L2) := hT62.symm.trans (show F_l05Orders_L2b np out3 (F_l05Orders_L2 np out3 r68) next5L2 i6L2 = (next5L2, i6L2) by unfold F_l05Orders_L2b; rw [ht78]; first | done | rfl)
        refine p_te (p_be (p_tn ?_))
        exact ⟨next5L2A, next5L2C, next5L2H, (by rw [hX219]; exact (show 0 ≤ i6L2 from (by first | omega | (simp only [sS_len, sL_len]; omega) | (simp only [List.length_replicate, sI_len]; omega) | (simp only [List.length_append, List.length_cons, List.length_nil, sI_len, cond_true, cond_false]; omega) | (simp only [List.length_append, List.length_cons, List.length_nil, sI_len, cond_eq_ite, apply_ite List.length]; split <;> simp only [List.length_append, List.length_cons, List.length_nil, sI_len] <;> omega) | grind))), (by rw [hX219]; exact (show RowsN (k4 + 1) next5L2 from (by first | omega | (simp only [sS_len, sL_len]; omega) | (simp only [List.length_replicate, sI_len]; omega) | (simp only [List.length_append, List.length_cons, List.length_nil, sI_len, cond_true, cond_false]; omega) | (simp only [List.length_append, List.length_cons, List.length_nil, sI_len, cond_eq_ite, apply_ite List.length]; split <;> simp only [List.length_append, List.length_cons, List.length_nil, sI_len] <;> omega) | grind))), (by rw [hX219]; exact (show (next5L2.length : Int) ≤ 6 * i6L2 from (by first | omega | (simp only [sS_len, sL_len]; omega) | (simp only [List.length_replicate, sI_len]; omega) | (simp only [List.length_append, List.length_cons, List.length_nil, sI_len, cond_true, cond_false]; omega) | (simp only [List.length_append, List.length_cons, List.length_nil, sI_len, cond_eq_ite, apply_ite List.length]; split <;> simp only [List.length_append, List.length_cons, List.length_nil, sI_len] <;> omega) | grind))), (by rw [hX219]; exact (show i6L2 ≤ ((out3).length : Int) from (by first | omega | (simp only [sS_len, sL_len]; omega) | (simp only [List.length_replicate, sI_len]; omega) | (simp only [List.length_append, List.length_cons, List.length_nil, sI_len, cond_true, cond_false]; omega) | (simp only [List.length_append, List.length_cons, List.length_nil, sI_len, cond_eq_ite, apply_ite List.length]; split <;> simp only [List.length_append, List.length_cons, List.length_nil, sI_len] <;> omega) | grind))), (by rw [hX219]; exact (hE218.sub (L' := [(0, .int .i64 np), (3, .slice out3A ((out3).length) out3C), (4, .int .i64 k4), (5, .slice next5L2A ((next5L2).length) next5L2C), (6, .int .i64 i6L2)]) ⟨rfl, rfl, rfl, rfl, rfl, trivial⟩)), (by rw [hX219]; exact (St.pick (Γ' := [.nest 22 1 (some 2) next5L2A next5L2C next5L2H next5L2, .nest 22 1 (some 2) out3A out3C out3H out3]) hS61 [0, 1] (by decide) rfl))⟩
     ·
      rintro a220 w221 ⟨next5L2A_57, next5L2C_57, next5L2H_57, hi225, hi226, hi227, hi228, hE222, hS223⟩; clear hE56 hS49
      refine p_tn ?_
      refine c_reg ?_
      refine q_step (v := .slice next5L2A_57 (((F_l05Orders_L2 np out3 (Int.toNat (((out3).length : Int) - 0) + 1) ([]) 0).1).length) next5L2C_57) hE222 (y_move rfl) rfl rfl rfl ?_; intro a229 hE230; clear hE222
      refine q_step (v := .slice next5L2A_57 (((F_l05Orders_L2 np out3 (Int.toNat (((out3).length : Int) - 0) + 1) ([]) 0).1).length) next5L2C_57) hE230 (y_assign rfl) rfl rfl rfl ?_; intro a231 hE232; clear hE230
      refine c_nil ?_
      have hE233 := hE232.sub (L' := [(0, .int .i64 np), (3, .slice next5L2A_57 (((F_l05Orders_L2 np out3 (Int.toNat (((out3).length : Int) - 0) + 1) ([]) 0).1).length) next5L2C_57), (4, .int .i64 k4)]) ⟨rfl, rfl, rfl, trivial⟩; clear hE232
      refine p_bn ?_
      refine p_tn ?_
      refine c_reg ?_
      refine q_step (v := .int .i64 k4) hE233 (y_move rfl) rfl rfl rfl ?_; intro a234 hE235; clear hE233
      refine q_step (v := .int .i64 (k4 + 1)) hE235 (y_add rfl rfl ⟨(by omega), (by omega)⟩) rfl rfl rfl ?_; intro a236 hE237; clear hE235
      refine q_step (v := .int .i64 (k4 + 1)) hE237 (y_assign rfl) rfl rfl rfl ?_; intro a238 hE239; clear hE237
      refine c_nil ?_
      have hE240 := hE239.sub (L' := [(0, .int .i64 np), (3, .slice next5L2A_57 (((F_l05Orders_L2 np out3 (Int.toNat (((out3).length : Int) - 0) + 1) ([]) 0).1).length) next5L2C_57), (4, .int .i64 (k4 + 1))]) ⟨rfl, rfl, rfl, trivial⟩; clear hE239
      refine p_tn ⟨r34, Nat.lt_succ_self _, (F_l05Orders_L2 np out3 (Int.toNat (((out3).length : Int) - 0) + 1) ([]) 0).1, k4 + 1, next5L2A_57, next5L2C_57, next5L2H_57, (hT28.symm.trans (show F_l05Orders_L1b np (F_l05Orders_L1 np r34) out3 k4 = F_l05Orders_L1 np r34 ((F_l05Orders_L2 np out3 (Int.toNat (((out3).length : Int) - 0) + 1) ([]) 0).1) (k4 + 1) by unfold F_l05Orders_L1b; rw [ht42]; first | done | rfl)).symm, (by omega), (by first | omega | (simp only [sS_len, sL_len]; omega) | (simp only [List.length_replicate, sI_len]; omega) | (simp only [List.length_append, List.length_cons, List.length_nil, sI_len, cond_true, cond_false]; omega) | (simp only [List.length_append, List.length_cons, List.length_nil, sI_len, cond_eq_ite, apply_ite List.length]; split <;> simp only [List.length_append, List.length_cons, List.length_nil, sI_len] <;> omega) | grind), (by first | omega | (simp only [sS_len, sL_len]; omega) | (simp only [List.length_replicate, sI_len]; omega) | (simp only [List.length_append, List.length_cons, List.length_nil, sI_len, cond_true, cond_false]; omega) | (simp only [List.length_append, List.length_cons, List.length_nil, sI_len, cond_eq_ite, apply_ite List.length]; split <;> simp only [List.length_append, List.length_cons, List.length_nil, sI_len] <;> omega) | grind), (by first | omega | (simp only [sS_len, sL_len]; omega) | (simp only [List.length_replicate, sI_len]; omega) | (simp only [List.length_append, List.length_cons, List.length_nil, sI_len, cond_true, cond_false]; omega) | (simp only [List.length_append, List.length_cons, List.length_nil, sI_len, cond_eq_ite, apply_ite List.length]; split <;> simp only [List.length_append, List.length_cons, List.length_nil, sI_len] <;> omega) | grind), (by first | omega | (simp only [sS_len, sL_len]; omega) | (simp only [List.length_replicate, sI_len]; omega) | (simp only [List.length_append, List.length_cons, List.length_nil, sI_len, cond_true, cond_false]; omega) | (simp only [List.length_append, List.length_cons, List.length_nil, sI_len, cond_eq_ite, apply_ite List.length]; split <;> simp only [List.length_append, List.length_cons, List.length_nil, sI_len] <;> omega) | grind), (hE240.sub (L' := [(0, .int .i64 np), (3, .slice next5L2A_57 (((F_l05Orders_L2 np out3 (Int.toNat (((out3).length : Int) - 0) + 1) ([]) 0).1).length) next5L2C_57), (4, .int .i64 (k4 + 1))]) ⟨rfl, rfl, rfl, trivial⟩), (St.pick (Γ' := [.nest 22 1 (some 2) next5L2A_57 next5L2C_57 next5L2H_57 ((F_l05Orders_L2 np out3 (Int.toNat (((out3).length : Int) - 0) + 1) ([]) 0).1)]) hS223 [0] (by decide) rfl)⟩
    ·
     have hp241 := of_decide_eq_false ht42
     have hE242 := hE41; rw [ht42] at hE242; clear hE41
     refine wp_exit ?_
     refine p_te ?_
     have hX243 : F_l05Orders_L1 np (Int.toNat (np - 0) + 1) ([[]]) 0 = (out3, k4) := hT28.symm.trans (show F_l05Orders_L1b np (F_l05Orders_L1 np r34) out3 k4 = (out3, k4) by unfold F_l05Orders_L1b; rw [ht42]; first | done | rfl)
     refine p_te (p_be (p_tn ?_))
     exact ⟨out3A, out3C, out3H, (by rw [hX243]; exact (show 0 ≤ k4 from (by first | omega | (simp only [sS_len, sL_len]; omega) | (simp only [List.length_replicate, sI_len]; omega) | (simp only [List.length_append, List.length_cons, List.length_nil, sI_len, cond_true, cond_false]; omega) | (simp only [List.length_append, List.length_cons, List.length_nil, sI_len, cond_eq_ite, apply_ite List.length]; split <;> simp only [List.length_append, List.length_cons, List.length_nil, sI_len] <;> omega) | grind))), (by rw [hX243]; exact (show RowsN k4 out3 from (by first | omega | (simp only [sS_len, sL_len]; omega) | (simp only [List.length_replicate, sI_len]; omega) | (simp only [List.length_append, List.length_cons, List.length_nil, sI_len, cond_true, cond_false]; omega) | (simp only [List.length_append, List.length_cons, List.length_nil, sI_len, cond_eq_ite, apply_ite List.length]; split <;> simp only [List.length_append, List.length_cons, List.length_nil, sI_len] <;> omega) | grind))), (by rw [hX243]; exact (show (out3.length : Int) ≤ (P6 k4 : Int) from (by first | omega | (simp only [sS_len, sL_len]; omega) | (simp only [List.length_replicate, sI_len]; omega) | (simp only [List.length_append, List.length_cons, List.length_nil, sI_len, cond_true, cond_false]; omega) | (simp only [List.length_append, List.length_cons, List.length_nil, sI_len, cond_eq_ite, apply_ite List.length]; split <;> simp only [List.length_append, List.length_cons, List.length_nil, sI_len] <;> omega) | grind))), (by rw [hX243]; exact (show k4 ≤ np from (by first | omega | (simp only [sS_len, sL_len]; omega) | (simp only [List.length_replicate, sI_len]; omega) | (simp only [List.length_append, List.length_cons, List.length_nil, sI_len, cond_true, cond_false]; omega) | (simp only [List.length_append, List.length_cons, List.length_nil, sI_len, cond_eq_ite, apply_ite List.length]; split <;> simp only [List.length_append, List.length_cons, List.length_nil, sI_len] <;> omega) | grind))), (by rw [hX243]; exact (hE242.sub (L' := [(0, .int .i64 np), (3, .slice out3A ((out3).length) out3C), (4, .int .i64 k4)]) ⟨rfl, rfl, rfl, trivial⟩)), (by rw [hX243]; exact (St.pick (Γ' := [.nest 22 1 (some 2) out3A out3C out3H out3]) hS27 [0] (by decide) rfl))⟩
  ·
   rintro a244 w245 ⟨out3A_23, out3C_23, out3H_23, hi249, hi250, hi251, hi252, hE246, hS247⟩; clear hE22 hS14
   refine p_tn ?_
   refine c_seq ?_
   refine c_reg ?_
   refine q_step (v := .slice out3A_23 (((F_l05Orders_L1 np (Int.toNat (np - 0) + 1) ([[]]) 0).1).length) out3C_23) hE246 (y_move rfl) rfl rfl rfl ?_; intro a253 hE254; clear hE246
   refine q_step (v := .slice out3A_23 (((F_l05Orders_L1 np (Int.toNat (np - 0) + 1) ([[]]) 0).1).length) out3C_23) hE254 (y_assign rfl) rfl rfl rfl ?_; intro a255 hE256; clear hE254
   refine c_nil ?_
   have hE257 := hE256.sub (L' := [(2, .slice out3A_23 (((F_l05Orders_L1 np (Int.toNat (np - 0) + 1) ([[]]) 0).1).length) out3C_23)]) ⟨rfl, trivial⟩; clear hE256
   refine p_tn ?_
   refine wp_ret ?_
   have hF : F_l05Orders np = (F_l05Orders_L1 np (Int.toNat (np - 0) + 1) ([[]]) 0).1 := by unfold F_l05Orders; rfl
   refine c_ret1 hE257 rfl rfl ?_
   exact ⟨out3A_23, out3C_23, out3H_23, (by rw [hF]; first | done | (dsimp only; done) | rfl), (by rw [hF]; (try dsimp only); exact St.okN (i := 0) hS247 rfl), hS247.ext⟩
theorem foldl_fm2 {α β : Type} (g : β → List α) (l : List β) (o : List α) : l.foldl (fun o k => o ++ g k) o = o ++ l.flatMap g := by
  induction l generalizing o with
  | nil => simp
  | cons a l ih => rw [List.foldl_cons, ih, List.flatMap_cons, List.append_assoc]
theorem l01Has_eq (l : List Int) (x : Int) : F_l01Has l x = decide (x ∈ l) := by
  have e := allE (F_l01Has_L1 l x) true (l.length : Int) (fun i => decide (gI l i = x)) (by omega) (fun r i _ _ => rfl)
  unfold F_l01Has
  rw [e, isOk_bif, errD_bif, Int.toNat_natCast, all_gI l (fun y => !decide (y = x)), Bool.eq_iff_iff, decide_eq_true_iff]
  cases h : l.all fun y => !decide (y = x)
  · rw [cond_false]
    refine ⟨fun _ => ?_, fun _ => rfl⟩
    apply Decidable.byContradiction
    intro hn
    have : (l.all fun y => !decide (y = x)) = true := by
      rw [List.all_eq_true]
      intro y hy
      rw [decide_eq_false (fun e => hn (by rw [← e]; exact hy))]; rfl
    rw [h] at this; cases this
  · rw [cond_true]
    refine ⟨fun h => (by cases h), fun hx => ?_⟩
    have := List.all_eq_true.1 h x hx
    rw [decide_eq_true rfl] at this; cases this
theorem orders_L3 (n : Nat) (out : List (List Int)) (i : Int) (nx : List (List Int)) : (F_l05Orders_L3 (n : Int) out i (Int.toNat ((n : Int) - 0) + 1) nx 0).1 = nx ++ extv n (gL out i) := by
  rw [rangeLoop0 (n : Int) (by omega) (fun o v => bif !(decide (v ∈ gL out i)) then o ++ [gL out i ++ [v]] else o) (F_l05Orders_L3 (n : Int) out i) (fun r o t => by
    show F_l05Orders_L3b (n : Int) out i _ o t = _
    unfold F_l05Orders_L3b
    rw [l01Has_eq]
    cases decide (t ∈ gL out i)
    · rw [Bool.not_false, cond_true, cond_true]
    · rw [Bool.not_true, cond_false, cond_false]), Int.toNat_natCast]
  unfold extv
  generalize List.range n = l
  induction l generalizing nx with
  | nil => simp
  | cons v l ih =>
    rw [List.foldl_cons, ih]
    cases h : decide ((v : Int) ∈ gL out i)
    · rw [List.filter_cons_of_pos (by rw [h]; rfl), Bool.not_false, cond_true, List.map_cons]
      simp
    · rw [List.filter_cons_of_neg (by rw [h]; decide), Bool.not_true, cond_false]
theorem map_gL2 (xs : List (List Int)) : (List.range xs.length).map (fun (j : Nat) => gL xs (j : Int)) = xs := by
  apply List.ext_getElem
  · simp
  · intro i h1 h2
    simp only [List.getElem_map, List.getElem_range]
    unfold gL
    rw [Int.toNat_natCast]
    have := getD_some (d := []) h2
    rw [List.getElem?_eq_getElem h2] at this
    exact (Option.some.inj this).symm
theorem orders_L2 (n : Nat) (out : List (List Int)) : (F_l05Orders_L2 (n : Int) out (Int.toNat ((out.length : Int) - 0) + 1) [] 0).1 = out.flatMap (extv n) := by
  rw [rangeLoop0 (out.length : Int) (by omega) (fun o i => o ++ extv n (gL out i)) (F_l05Orders_L2 (n : Int) out) (fun r o t => by
    show F_l05Orders_L2b (n : Int) out _ o t = _
    unfold F_l05Orders_L2b
    rw [orders_L3]), Int.toNat_natCast, foldl_fm2 (fun (i : Nat) => extv n (gL out (i : Int))), List.nil_append]
  conv => rhs; rw [← map_gL2 out]
  rw [List.flatMap_map]
theorem orders_L1 (n : Nat) : ∀ (d : Nat) (k : Int) (out : List (List Int)), (n : Int) - k = (d : Int) → (F_l05Orders_L1 (n : Int) (d + 1) out k).1 = out.flatMap (PD n d) := by
  intro d
  induction d with
  | zero =>
    intro k out h
    show (F_l05Orders_L1b (n : Int) _ out k).1 = _
    unfold F_l05Orders_L1b
    rw [decide_eq_false (by omega), cond_false]
    show out = out.flatMap fun p => [p]
    simp
  | succ d ih =>
    intro k out h
    show (F_l05Orders_L1b (n : Int) (F_l05Orders_L1 (n : Int) (d + 1)) out k).1 = _
    unfold F_l05Orders_L1b
    rw [decide_eq_true (by omega), cond_true, orders_L2, ih _ _ (by omega), List.flatMap_assoc]
    rfl
theorem orders_eq (n : Nat) : F_l05Orders (n : Int) = PD n n [] := by
  unfold F_l05Orders
  rw [show Int.toNat ((n : Int) - 0) = n by omega, orders_L1 n n 0 [[]] (by omega)]
  simp
theorem gL_mem2 {xs : List (List Int)} {i : Int} (h0 : 0 ≤ i) (h1 : i < (xs.length : Int)) : gL xs i ∈ xs := by
  have h := List.mem_of_getElem? (getD_some (l := xs) (k := i.toNat) (d := []) (by omega))
  exact h
theorem OkP.nil (n : Nat) : OkP n [] := ⟨List.nodup_nil, fun y hy => by cases hy⟩
theorem orders_row (n : Nat) {i : Int} (h0 : 0 ≤ i) (h1 : i < ((F_l05Orders (n : Int)).length : Int)) : OkP n (gL (F_l05Orders (n : Int)) i) ∧ (gL (F_l05Orders (n : Int)) i).length = n := by
  have h := gL_mem2 h0 h1
  rw [orders_eq] at h ⊢
  obtain ⟨a, b⟩ := PD_ok n n [] _ (OkP.nil n) h
  refine ⟨a, ?_⟩
  rw [b]; simp
theorem sum_le_mul {α : Type} (f : α → Nat) (B : Nat) : ∀ l : List α, (∀ x, x ∈ l → f x ≤ B) → (l.map f).sum ≤ l.length * B := by
  intro l
  induction l with
  | nil => intro _; exact Nat.zero_le _
  | cons x l ih =>
    intro h
    have h1 := h x (List.mem_cons_self ..)
    have h2 := ih fun y hy => h y (List.mem_cons_of_mem _ hy)
    rw [List.map_cons, List.sum_cons, List.length_cons, Nat.add_mul]
    omega
theorem PD_len (n : Nat) : ∀ (d : Nat) (p : List Int), (PD n d p).length ≤ n ^ d := by
  intro d
  induction d with
  | zero => intro p; exact Nat.le_refl _
  | succ d ih =>
    intro p
    rw [show PD n (d + 1) p = (extv n p).flatMap (PD n d) from rfl, List.length_flatMap]
    refine Nat.le_trans (sum_le_mul _ (n ^ d) _ fun x _ => ih x) ?_
    have h1 : (extv n p).length ≤ n := by
      unfold extv
      rw [List.length_map]
      exact Nat.le_trans (List.length_filter_le _ _) (by simp)
    rw [Nat.pow_succ, Nat.mul_comm (n ^ d) n]
    exact Nat.mul_le_mul_right _ h1
theorem orders_len {n : Nat} (h : n ≤ 6) : (F_l05Orders (n : Int)).length ≤ 46656 := by
  rw [orders_eq]
  refine Nat.le_trans (PD_len n n []) ?_
  have : n = 0 ∨ n = 1 ∨ n = 2 ∨ n = 3 ∨ n = 4 ∨ n = 5 ∨ n = 6 := by omega
  rcases this with rfl | rfl | rfl | rfl | rfl | rfl | rfl <;> decide
def F_l05Renumber_L1b (arrows : List Int) (order : List Int) (rec : (List Int) → Int → (List Int) × Int) (out5 : List Int) (i6 : Int) : (List Int) × Int :=
  bif (decide (i6 < (order.length : Int))) then (rec (out5 ++ ([F_l05Squeeze order (gI arrows (gI order i6))])) (i6 + 1)) else (out5, i6)
def F_l05Renumber_L1 (arrows : List Int) (order : List Int) : Nat → (List Int) → Int → (List Int) × Int
  | 0, out5, i6 => (out5, i6)
  | r + 1, out5, i6 => F_l05Renumber_L1b arrows order (F_l05Renumber_L1 arrows order r) out5 i6
def F_l05Renumber (arrows : List Int) (order : List Int) : List Int :=
  (F_l05Renumber_L1 arrows order (Int.toNat ((order.length : Int) - 0) + 1) ([]) 0).1
theorem cf_l05Renumber (args : Array Value) (w : World) : (callFunc 182 args).run Try.prog w = .ok (.enter 182 args) w := by kernel_rfl
set_option maxRecDepth 100000 in
theorem c_l05Renumber (arrowsA : Option Addr) (arrowsN arrowsC : Nat) (arrows : List Int) (orderA : Option Addr) (orderN orderC : Nat) (order : List Int) (w : World) (arrowsR : RdS w 1 arrowsA arrowsN arrowsC arrows) (orderR : RdS w 1 orderA orderN orderC order) (hl : arrows.length ≤ 8) (ho : order.length ≤ 8) (hx : ∀ m : Int, 0 ≤ m → m < (order.length : Int) → 0 ≤ gI order m ∧ gI order m < (arrows.length : Int)) :
    Calls Try.prog 182 #[.slice arrowsA arrowsN arrowsC, .slice orderA orderN orderC] w (Ret fun v w' => ∃ b1 : Option Addr, ∃ c1 : Nat, v = .slice b1 (F_l05Renumber arrows order).length c1 ∧ OwnS w' w.heap.size 2 1 b1 (F_l05Renumber arrows order).length c1 (F_l05Renumber arrows order) ∧ Ext w w') := by
  obtain rfl : arrowsN = arrows.length := arrowsR.len1.symm
  have arrowsLe := arrowsR.le
  obtain rfl : orderN = order.length := orderR.len1.symm
  have orderLe := orderR.le
  have hS := St.nil w
  have hS1 := St.rd0 hS rfl arrowsR; clear hS
  have hS2 := St.rd0 hS1 rfl orderR; clear hS1
  refine enter (args := [.slice arrowsA arrows.length arrowsC, .slice orderA order.length orderC]) Try.func182 rfl rfl ?_
  rw [Try.ntmps182]; intro a hE
  have hE := hE.sub (L' := [(0, .slice arrowsA arrows.length arrowsC), (1, .slice orderA order.length orderC)]) ⟨rfl, rfl, trivial⟩
  refine c_seq ?_
  refine c_reg ?_
  refine q_step (v := .slice none 0 0) hE (y_assign rfl) rfl rfl rfl ?_; intro a3 hE4; clear hE
  refine c_nil ?_
  have hE5 := hE4.sub (L' := [(0, .slice arrowsA arrows.length arrowsC), (1, .slice orderA order.length orderC)]) ⟨rfl, rfl, trivial⟩; clear hE4
  refine p_tn ?_
  refine c_seq ?_
  refine c_reg ?_
  refine l_step hE5 rfl (l_lit (e := 2) (s := 1) (xs := []) (vs := []) hS2 hE5 rfl (fun _ => by kernel_rfl) rfl rfl rfl ?_)
  intro b6 w7 hS10 he11 a8 hE9; clear hS2 hE5
  refine q_step (v := .slice (some ⟨b6, 0, none⟩) 0 0) hE9 (y_assign rfl) rfl rfl rfl ?_; intro a12 hE13; clear hE9
  refine c_nil ?_
  have hE14 := hE13.sub (L' := [(0, .slice arrowsA arrows.length arrowsC), (1, .slice orderA order.length orderC), (5, .slice (some ⟨b6, 0, none⟩) 0 0)]) ⟨rfl, rfl, rfl, trivial⟩; clear hE13
  refine p_tn ?_
  refine c_seq ?_
  refine c_seq ?_
  refine c_reg ?_
  refine q_step (v := .int .i64 0) hE14 (y_assign rfl) rfl rfl rfl ?_; intro a15 hE16; clear hE14
  refine c_nil ?_
  have hE17 := hE16.sub (L' := [(0, .slice arrowsA arrows.length arrowsC), (1, .slice orderA order.length orderC), (5, .slice (some ⟨b6, 0, none⟩) 0 0), (6, .int .i64 0)]) ⟨rfl, rfl, rfl, rfl, trivial⟩; clear hE16
  refine p_tn ?_
  refine c_cut1 (fun a' w' => ∃ out5A_18 : Option Addr, ∃ out5C_18 : Nat, (0 ≤ ((F_l05Renumber_L1 arrows order (Int.toNat ((order.length : Int) - 0) + 1) ([]) 0).2)) ∧ (((F_l05Renumber_L1 arrows order (Int.toNat ((order.length : Int) - 0) + 1) ([]) 0).2) ≤ (order.length : Int)) ∧ ((((F_l05Renumber_L1 arrows order (Int.toNat ((order.length : Int) - 0) + 1) ([]) 0).1).length : Int) ≤ ((F_l05Renumber_L1 arrows order (Int.toNat ((order.length : Int) - 0) + 1) ([]) 0).2)) ∧ E a' 27 [(0, .slice arrowsA arrows.length arrowsC), (1, .slice orderA order.length orderC), (5, .slice out5A_18 (((F_l05Renumber_L1 arrows order (Int.toNat ((order.length : Int) - 0) + 1) ([]) 0).1).length) out5C_18), (6, .int .i64 ((F_l05Renumber_L1 arrows order (Int.toNat ((order.length : Int) - 0) + 1) ([]) 0).2))] ∧ St w w' [.own 2 1 out5A_18 (((F_l05Renumber_L1 arrows order (Int.toNat ((order.length : Int) - 0) + 1) ([]) 0).1).length) out5C_18 ((F_l05Renumber_L1 arrows order (Int.toNat ((order.length : Int) - 0) + 1) ([]) 0).1), .rd 1 orderA order.length orderC order, .rd 1 arrowsA arrows.length arrowsC arrows]) ?_ ?_
  ·
   refine wp_block ?_
   refine c_loop (fun r a' w' => ∃ out5 : List Int, ∃ i6 : Int, ∃ out5A : Option Addr, ∃ out5C : Nat, F_l05Renumber_L1 arrows order r out5 i6 = F_l05Renumber_L1 arrows order (Int.toNat ((order.length : Int) - 0) + 1) ([]) 0 ∧ Int.toNat ((order.length : Int) - i6) < r ∧ (0 ≤ i6) ∧ (i6 ≤ (order.length : Int)) ∧ ((out5.length : Int) ≤ i6) ∧ E a' 27 [(0, .slice arrowsA arrows.length arrowsC), (1, .slice orderA order.length orderC), (5, .slice out5A ((out5).length) out5C), (6, .int .i64 i6)] ∧ St w w' [.own 2 1 out5A ((out5).length) out5C out5, .rd 1 orderA order.length orderC order, .rd 1 arrowsA arrows.length arrowsC arrows]) (r := (Int.toNat ((order.length : Int) - 0) + 1)) ?_ ?_
   · exact ⟨[], 0, some ⟨b6, 0, none⟩, 0, rfl, Nat.lt_succ_self _, (by first | omega | (simp only [sS_len, sL_len]; omega) | (simp only [List.length_replicate, sI_len]; omega) | (simp only [List.length_append, List.length_cons, List.length_nil, sI_len, cond_true, cond_false]; omega) | (simp only [List.length_append, List.length_cons, List.length_nil, sI_len, cond_eq_ite, apply_ite List.length]; split <;> simp only [List.length_append, List.length_cons, List.length_nil, sI_len] <;> omega) | grind), (by first | omega | (simp only [sS_len, sL_len]; omega) | (simp only [List.length_replicate, sI_len]; omega) | (simp only [List.length_append, List.length_cons, List.length_nil, sI_len, cond_true, cond_false]; omega) | (simp only [List.length_append, List.length_cons, List.length_nil, sI_len, cond_eq_ite, apply_ite List.length]; split <;> simp only [List.length_append, List.length_cons, List.length_nil, sI_len] <;> omega) | grind), (by first | omega | (simp only [sS_len, sL_len]; omega) | (simp only [List.length_replicate, sI_len]; omega) | (simp only [List.length_append, List.length_cons, List.length_nil, sI_len, cond_true, cond_false]; omega) | (simp only [List.length_append, List.length_cons, List.length_nil, sI_len, cond_eq_ite, apply_ite List.length]; split <;> simp only [List.length_append, List.length_cons, List.length_nil, sI_len] <;> omega) | grind), (hE17.sub (L' := [(0, .slice arrowsA arrows.length arrowsC), (1, .slice orderA order.length orderC), (5, .slice (some ⟨b6, 0, none⟩) 0 0), (6, .int .i64 0)]) ⟨rfl, rfl, rfl, rfl, trivial⟩), (St.pick (Γ' := [.own 2 1 (some ⟨b6, 0, none⟩) 0 0 ([]), .rd 1 orderA order.length orderC order, .rd 1 arrowsA arrows.length arrowsC arrows]) hS10 [0, 1, 2] (by decide) rfl)⟩
   ·
    clear hE17 hS10
    rintro r28 a19 w20 ⟨out5, i6, out5A, out5C, hT23, hr24, hi25, hi26, hi27, hE21, hS22⟩
    obtain ⟨r28, rfl⟩ : ∃ r', r28 = r' + 1 := ⟨r28 - 1, by omega⟩
    refine c_seq ?_
    refine c_seq ?_
    refine c_reg ?_
    refine q_step (v := .int .i64 i6) hE21 (y_move rfl) rfl rfl rfl ?_; intro a29 hE30; clear hE21
    refine q_step (v := .slice orderA order.length orderC) hE30 (y_move rfl) rfl rfl rfl ?_; intro a31 hE32; clear hE30
    refine q_step (v := .int .i64 (order.length : Int)) hE32 (y_len (e := 2) (by kernel_rfl) rfl) rfl rfl rfl ?_; intro a33 hE34; clear hE32
    refine q_step (v := .bool (decide (i6 < (order.length : Int)))) hE34 (y_lss rfl rfl) rfl rfl rfl ?_; intro a35 hE36; clear hE34
    refine c_nil ?_
    have hE37 := hE36.sub (L' := [(0, .slice arrowsA arrows.length arrowsC), (1, .slice orderA order.length orderC), (5, .slice out5A ((out5).length) out5C), (6, .int .i64 i6), (11, .bool (decide (i6 < (order.length : Int))))]) ⟨rfl, rfl, rfl, rfl, rfl, trivial⟩; clear hE36
    refine p_tn ?_
    refine c_cond hE37 rfl (fun ht38 => ?_) (fun ht38 => ?_)
    ·
     have hp39 := of_decide_eq_true ht38
     have hE40 := hE37; rw [ht38] at hE40; clear hE37
     have hx6 := hx i6 (by omega) (by omega)
     refine wp_skip ?_
     refine p_tn ?_
     refine c_seq ?_
     refine wp_block ?_
     refine c_reg ?_
     refine q_step (v := .slice out5A ((out5).length) out5C) hE40 (y_move rfl) rfl rfl rfl ?_; intro a41 hE42; clear hE40
     refine q_step (v := .slice orderA order.length orderC) hE42 (y_move rfl) rfl rfl rfl ?_; intro a43 hE44; clear hE42
     refine q_step (v := .slice arrowsA arrows.length arrowsC) hE44 (y_move rfl) rfl rfl rfl ?_; intro a45 hE46; clear hE44
     refine q_step (v := .slice orderA order.length orderC) hE46 (y_move rfl) rfl rfl rfl ?_; intro a47 hE48; clear hE46
     refine q_step (v := .int .i64 i6) hE48 (y_move rfl) rfl rfl rfl ?_; intro a49 hE50; clear hE48
     refine q_step (v := .pointer (some (adr orderA (Int.toNat i6)))) hE50 (y_idx (by kernel_rfl) (fun _ => by kernel_rfl) rfl rfl (RdS.isS (m := i6) (St.rdR (i := 1) hS22 rfl) (by omega) (by omega)) (by omega) (by omega) (Nat.mul_one _).symm) rfl rfl rfl ?_; intro a51 hE52; clear hE50
     refine q_step (v := .int .i64 (gI order i6)) hE52 (y_load (fun _ => by kernel_rfl) rfl (RdS.elt (St.rdR (i := 1) hS22 rfl) (by omega) (by omega))) rfl rfl rfl ?_; intro a53 hE54; clear hE52
     refine q_step (v := .pointer (some (adr arrowsA (Int.toNat (gI order i6))))) hE54 (y_idx (by kernel_rfl) (fun _ => by kernel_rfl) rfl rfl (RdS.isS (m := gI order i6) (St.rdR (i := 2) hS22 rfl) (by omega) (by omega)) (by omega) (by omega) (Nat.mul_one _).symm) rfl rfl rfl ?_; intro a55 hE56; clear hE54
     refine q_step (v := .int .i64 (gI arrows (gI order i6))) hE56 (y_load (fun _ => by kernel_rfl) rfl (RdS.elt (St.rdR (i := 2) hS22 rfl) (by omega) (by omega))) rfl rfl rfl ?_; intro a57 hE58; clear hE56
     refine l_step hE58 rfl (l_call (f := 233) (argv := [.slice orderA order.length orderC, .int .i64 (gI arrows (gI order i6))]) hE58 (fun _ => cf_l05Squeeze _ _) rfl rfl (c_l05Squeeze orderA order.length orderC order (gI arrows (gI order i6)) w20 (St.rdR (i := 1) hS22 rfl) (by omega) (fun m h0 h1 => by have := hx m h0 h1; omega)) ?_)
     rintro _ w60 ⟨rfl, he64⟩ a61 hE62; clear hE58
     have hS63 := St.go hS22 he64; clear hS22
     refine l_step hE62 rfl (l_lit (e := 2) (s := 1) (xs := [F_l05Squeeze order (gI arrows (gI order i6))]) (vs := [.int .i64 (F_l05Squeeze order (gI arrows (gI order i6)))]) hS63 hE62 rfl (fun _ => by kernel_rfl) rfl rfl rfl ?_)
     intro b65 w66 hS69 he70 a67 hE68; clear hS63 hE62
     obtain ⟨_, hi1, hi2, hi3, hi4⟩ := info_parts (show (Try.prog.info? 2).map (fun i => (i.zero, i.size, i.bytes)) = some (some (.int .i64 0), 1, 8) by kernel_rfl)
     refine l_step hE68 rfl (l_append (k := 1) (n' := (out5 ++ ([F_l05Squeeze order (gI arrows (gI order i6))])).length) hS69 hE68 (by kernel_rfl) hi1 hi2 hi3 rfl (by decide) (by rw [hi4]; decide) rfl rfl rfl (St.rdO (i := 0) hS69 rfl) (by first | omega | (simp only [List.length_append, List.length_cons, List.length_nil]; omega)) (by have h1 := (St.rdO (i := 1) hS69 rfl).len1; have h2 := (St.rdO (i := 0) hS69 rfl).len1; first | rw [List.length_append, h1, h2] | (simp only [List.length_append])) rfl ?_)
     intro b71 c77 w72 hS75 a73 hE74; clear hS69 hE68 hi1 hi2 hi3 hi4
     refine q_step (v := .slice b71 ((out5 ++ ([F_l05Squeeze order (gI arrows (gI order i6))])).length) c77) hE74 (y_assign rfl) rfl rfl rfl ?_; intro a78 hE79; clear hE74
     refine c_nil ?_
     have hE80 := hE79.sub (L' := [(0, .slice arrowsA arrows.length arrowsC), (1, .slice orderA order.length orderC), (5, .slice b71 ((out5 ++ ([F_l05Squeeze order (gI arrows (gI order i6))])).length) c77), (6, .int .i64 i6)]) ⟨rfl, rfl, rfl, rfl, trivial⟩; clear hE79
     refine p_bn ?_
     refine p_tn ?_
     refine c_reg ?_
     refine q_step (v := .int .i64 i6) hE80 (y_move rfl) rfl rfl rfl ?_; intro a81 hE82; clear hE80
     refine q_step (v := .int .i64 (i6 + 1)) hE82 (y_add rfl rfl ⟨(by omega), (by omega)⟩) rfl rfl rfl ?_; intro a83 hE84; clear hE82
     refine q_step (v := .int .i64 (i6 + 1)) hE84 (y_assign rfl) rfl rfl rfl ?_; intro a85 hE86; clear hE84
     refine c_nil ?_
     have hE87 := hE86.sub (L' := [(0, .slice arrowsA arrows.length arrowsC), (1, .slice orderA order.length orderC), (5, .slice b71 ((out5 ++ ([F_l05Squeeze order (gI arrows (gI order i6))])).length) c77), (6, .int .i64 (i6 + 1))]) ⟨rfl, rfl, rfl, rfl, trivial⟩; clear hE86
     refine p_tn ⟨r28, Nat.lt_succ_self _, out5 ++ ([F_l05Squeeze order (gI arrows (gI order i6))]), i6 + 1, b71, c77, (hT23.symm.trans (show F_l05Renumber_L1b arrows order (F_l05Renumber_L1 arrows order r28) out5 i6 = F_l05Renumber_L1 arrows order r28 (out5 ++ ([F_l05Squeeze order (gI arrows (gI order i6))])) (i6 + 1) by unfold F_l05Renumber_L1b; rw [ht38]; first | done | rfl)).symm, (by omega), (by first | omega | (simp only [sS_len, sL_len]; omega) | (simp only [List.length_replicate, sI_len]; omega) | (simp only [List.length_append, List.length_cons, List.length_nil, sI_len, cond_true, cond_false]; omega) | (simp only [List.length_append, List.length_cons, List.length_nil, sI_len, cond_eq_ite, apply_ite List.length]; split <;> simp only [List.length_append, List.length_cons, List.length_nil, sI_len] <;> omega) | grind), (by first | omega | (simp only [sS_len, sL_len]; omega) | (simp only [List.length_replicate, sI_len]; omega) | (simp only [List.length_append, List.length_cons, List.length_nil, sI_len, cond_true, cond_false]; omega) | (simp only [List.length_append, List.length_cons, List.length_nil, sI_len, cond_eq_ite, apply_ite List.length]; split <;> simp only [List.length_append, List.length_cons, List.length_nil, sI_len] <;> omega) | grind), (by first | omega | (simp only [sS_len, sL_len]; omega) | (simp only [List.length_replicate, sI_len]; omega) | (simp only [List.length_append, List.length_cons, List.length_nil, sI_len, cond_true, cond_false]; omega) | (simp only [List.length_append, List.length_cons, List.length_nil, sI_len, cond_eq_ite, apply_ite List.length]; split <;> simp only [List.length_append, List.length_cons, List.length_nil, sI_len] <;> omega) | grind), (hE87.sub (L' := [(0, .slice arrowsA arrows.length arrowsC), (1, .slice orderA order.length orderC), (5, .slice b71 ((out5 ++ ([F_l05Squeeze order (gI arrows (gI order i6))])).length) c77), (6, .int .i64 (i6 + 1))]) ⟨rfl, rfl, rfl, rfl, trivial⟩), (St.pick (Γ' := [.own 2 1 b71 ((out5 ++ ([F_l05Squeeze order (gI arrows (gI order i6))])).length) c77 (out5 ++ ([F_l05Squeeze order (gI arrows (gI order i6))])), .rd 1 orderA order.length orderC order, .rd 1 arrowsA arrows.length arrowsC arrows]) hS75 [1, 2, 3] (by decide) rfl)⟩
    ·
     have hp88 := of_decide_eq_false ht38
     have hE89 := hE37; rw [ht38] at hE89; clear hE37
     refine wp_exit ?_
     refine p_te ?_
     have hX90 : F_l05Renumber_L1 arrows order (Int.toNat ((order.length : Int) - 0) + 1) ([]) 0 = (out5, i6) := hT23.symm.trans (show F_l05Renumber_L1b arrows order (F_l05Renumber_L1 arrows order r28) out5 i6 = (out5, i6) by unfold F_l05Renumber_L1b; rw [ht38]; first | done | rfl)
     refine p_te (p_be (p_tn ?_))
     exact ⟨out5A, out5C, (by rw [hX90]; exact (show 0 ≤ i6 from (by first | omega | (simp only [sS_len, sL_len]; omega) | (simp only [List.length_replicate, sI_len]; omega) | (simp only [List.length_append, List.length_cons, List.length_nil, sI_len, cond_true, cond_false]; omega) | (simp only [List.length_append, List.length_cons, List.length_nil, sI_len, cond_eq_ite, apply_ite List.length]; split <;> simp only [List.length_append, List.length_cons, List.length_nil, sI_len] <;> omega) | grind))), (by rw [hX90]; exact (show i6 ≤ (order.length : Int) from (by first | omega | (simp only [sS_len, sL_len]; omega) | (simp only [List.length_replicate, sI_len]; omega) | (simp only [List.length_append, List.length_cons, List.length_nil, sI_len, cond_true, cond_false]; omega) | (simp only [List.length_append, List.length_cons, List.length_nil, sI_len, cond_eq_ite, apply_ite List.length]; split <;> simp only [List.length_append, List.length_cons, List.length_nil, sI_len] <;> omega) | grind))), (by rw [hX90]; exact (show (out5.length : Int) ≤ i6 from (by first | omega | (simp only [sS_len, sL_len]; omega) | (simp only [List.length_replicate, sI_len]; omega) | (simp only [List.length_append, List.length_cons, List.length_nil, sI_len, cond_true, cond_false]; omega) | (simp only [List.length_append, List.length_cons, List.length_nil, sI_len, cond_eq_ite, apply_ite List.length]; split <;> simp only [List.length_append, List.length_cons, List.length_nil, sI_len] <;> omega) | grind))), (by rw [hX90]; exact (hE89.sub (L' := [(0, .slice arrowsA arrows.length arrowsC), (1, .slice orderA order.length orderC), (5, .slice out5A ((out5).length) out5C), (6, .int .i64 i6)]) ⟨rfl, rfl, rfl, rfl, trivial⟩)), (by rw [hX90]; exact (St.pick (Γ' := [.own 2 1 out5A ((out5).length) out5C out5, .rd 1 orderA order.length orderC order, .rd 1 arrowsA arrows.length arrowsC arrows]) hS22 [0, 1, 2] (by decide) rfl))⟩
  ·
   rintro a91 w92 ⟨out5A_18, out5C_18, hi96, hi97, hi98, hE93, hS94⟩; clear hE17 hS10
   refine p_tn ?_
   refine c_seq ?_
   refine c_reg ?_
   refine q_step (v := .slice out5A_18 (((F_l05Renumber_L1 arrows order (Int.toNat ((order.length : Int) - 0) + 1) ([]) 0).1).length) out5C_18) hE93 (y_move rfl) rfl rfl rfl ?_; intro a99 hE100; clear hE93
   refine q_step (v := .slice out5A_18 (((F_l05Renumber_L1 arrows order (Int.toNat ((order.length : Int) - 0) + 1) ([]) 0).1).length) out5C_18) hE100 (y_assign rfl) rfl rfl rfl ?_; intro a101 hE102; clear hE100
   refine c_nil ?_
   have hE103 := hE102.sub (L' := [(4, .slice out5A_18 (((F_l05Renumber_L1 arrows order (Int.toNat ((order.length : Int) - 0) + 1) ([]) 0).1).length) out5C_18)]) ⟨rfl, trivial⟩; clear hE102
   refine p_tn ?_
   refine wp_ret ?_
   have hF : F_l05Renumber arrows order = (F_l05Renumber_L1 arrows order (Int.toNat ((order.length : Int) - 0) + 1) ([]) 0).1 := by unfold F_l05Renumber; rfl
   refine c_ret1 hE103 rfl rfl ?_
   exact ⟨out5A_18, out5C_18, (by rw [hF]; first | done | (dsimp only; done) | rfl), (by rw [hF]; (try dsimp only); exact hS94.ok 0 _ rfl), hS94.ext⟩
theorem renumber_map (a o : List Int) : F_l05Renumber a o = (List.range o.length).map fun (i : Nat) => F_l05Squeeze o (gI a (gI o (i : Int))) := by
  unfold F_l05Renumber
  rw [mapLoop0 (o.length : Int) (by omega) (fun i => F_l05Squeeze o (gI a (gI o i))) (F_l05Renumber_L1 a o) (fun _ _ _ => rfl), Int.toNat_natCast]
def F_l01Less_L1b (ap : List Int) (bp : List Int) (rec : Int → Except (Bool) (Int)) (i5 : Int) : Except (Bool) (Int) :=
  bif ((decide (i5 < (ap.length : Int))) && (decide (i5 < (bp.length : Int)))) then (bif (!decide ((gI ap i5) = (gI bp i5))) then (.error (decide ((gI ap i5) < (gI bp i5)))) else (rec (i5 + 1))) else (.ok i5)
def F_l01Less_L1 (ap : List Int) (bp : List Int) : Nat → Int → Except (Bool) (Int)
  | 0, i5 => .ok i5
  | r + 1, i5 => F_l01Less_L1b ap bp (F_l01Less_L1 ap bp r) i5
def F_l01Less (ap : List Int) (bp : List Int) : Bool :=
  bif (isOk (F_l01Less_L1 ap bp (Int.toNat ((ap.length : Int) - 0) + 1) 0)) then (decide ((ap.length : Int) < (bp.length : Int))) else (errD (F_l01Less_L1 ap bp (Int.toNat ((ap.length : Int) - 0) + 1) 0))
theorem cf_l01Less (args : Array Value) (w : World) : (callFunc 183 args).run Try.prog w = .ok (.enter 183 args) w := by kernel_rfl
set_option maxRecDepth 100000 in
theorem c_l01Less (apA : Option Addr) (apN apC : Nat) (ap : List Int) (bpA : Option Addr) (bpN bpC : Nat) (bp : List Int) (w : World) (apR : RdS w 1 apA apN apC ap) (bpR : RdS w 1 bpA bpN bpC bp) :
    Calls Try.prog 183 #[.slice apA apN apC, .slice bpA bpN bpC] w (Ret fun v w' => v = .bool (F_l01Less ap bp) ∧ Ext w w') := by
  obtain rfl : apN = ap.length := apR.len1.symm
  have apLe := apR.le
  obtain rfl : bpN = bp.length := bpR.len1.symm
  have bpLe := bpR.le
  have hS := St.nil w
  have hS1 := St.rd0 hS rfl apR; clear hS
  have hS2 := St.rd0 hS1 rfl bpR; clear hS1
  refine enter (args := [.slice apA ap.length apC, .slice bpA bp.length bpC]) Try.func183 rfl rfl ?_
  rw [Try.ntmps183]; intro a hE
  have hE := hE.sub (L' := [(0, .slice apA ap.length apC), (1, .slice bpA bp.length bpC)]) ⟨rfl, rfl, trivial⟩
  refine c_seq ?_
  refine c_reg ?_
  refine q_step (v := .bool false) hE (y_assign rfl) rfl rfl rfl ?_; intro a3 hE4; clear hE
  refine c_nil ?_
  have hE5 := hE4.sub (L' := [(0, .slice apA ap.length apC), (1, .slice bpA bp.length bpC)]) ⟨rfl, rfl, trivial⟩; clear hE4
  refine p_tn ?_
  refine c_seq ?_
  refine c_seq ?_
  refine c_reg ?_
  refine q_step (v := .int .i64 0) hE5 (y_assign rfl) rfl rfl rfl ?_; intro a6 hE7; clear hE5
  refine c_nil ?_
  have hE8 := hE7.sub (L' := [(0, .slice apA ap.length apC), (1, .slice bpA bp.length bpC), (5, .int .i64 0)]) ⟨rfl, rfl, rfl, trivial⟩; clear hE7
  refine p_tn ?_
  refine c_cut1 (fun a' w' => isOk (F_l01Less_L1 ap bp (Int.toNat ((ap.length : Int) - 0) + 1) 0) = true ∧ (0 ≤ (okD (F_l01Less_L1 ap bp (Int.toNat ((ap.length : Int) - 0) + 1) 0))) ∧ E a' 41 [(0, .slice apA ap.length apC), (1, .slice bpA bp.length bpC), (5, .int .i64 (okD (F_l01Less_L1 ap bp (Int.toNat ((ap.length : Int) - 0) + 1) 0)))] ∧ St w w' [.rd 1 bpA bp.length bpC bp, .rd 1 apA ap.length apC ap]) ?_ ?_
  ·
   refine wp_block ?_
   refine c_loop (fun r a' w' => ∃ i5 : Int, F_l01Less_L1 ap bp r i5 = F_l01Less_L1 ap bp (Int.toNat ((ap.length : Int) - 0) + 1) 0 ∧ Int.toNat ((ap.length : Int) - i5) < r ∧ (0 ≤ i5) ∧ E a' 41 [(0, .slice apA ap.length apC), (1, .slice bpA bp.length bpC), (5, .int .i64 i5)] ∧ St w w' [.rd 1 bpA bp.length bpC bp, .rd 1 apA ap.length apC ap]) (r := (Int.toNat ((ap.length : Int) - 0) + 1)) ?_ ?_
   · exact ⟨0, rfl, Nat.lt_succ_self _, (by first | omega | (simp only [sS_len, sL_len]; omega) | (simp only [List.length_replicate, sI_len]; omega) | (simp only [List.length_append, List.length_cons, List.length_nil, sI_len, cond_true, cond_false]; omega) | (simp only [List.length_append, List.length_cons, List.length_nil, sI_len, cond_eq_ite, apply_ite List.length]; split <;> simp only [List.length_append, List.length_cons, List.length_nil, sI_len] <;> omega) | grind), (hE8.sub (L' := [(0, .slice apA ap.length apC), (1, .slice bpA bp.length bpC), (5, .int .i64 0)]) ⟨rfl, rfl, rfl, trivial⟩), (St.pick (Γ' := [.rd 1 bpA bp.length bpC bp, .rd 1 apA ap.length apC ap]) hS2 [0, 1] (by decide) rfl)⟩
   ·
    clear hE8 hS2
    rintro r17 a10 w11 ⟨i5, hT14, hr15, hi16, hE12, hS13⟩
    obtain ⟨r17, rfl⟩ : ∃ r', r17 = r' + 1 := ⟨r17 - 1, by omega⟩
    refine c_seq ?_
    refine c_cut (fun a' w' => E a' 41 [(0, .slice apA ap.length apC), (1, .slice bpA bp.length bpC), (5, .int .i64 i5), (15, .bool ((decide (i5 < (ap.length : Int))) && (decide (i5 < (bp.length : Int)))))] ∧ St w w' [.rd 1 bpA bp.length bpC bp, .rd 1 apA ap.length apC ap]) ?_ ?_
    ·
     refine c_reg ?_
     refine q_step (v := .int .i64 i5) hE12 (y_move rfl) rfl rfl rfl ?_; intro a18 hE19; clear hE12
     refine q_step (v := .slice apA ap.length apC) hE19 (y_move rfl) rfl rfl rfl ?_; intro a20 hE21; clear hE19
     refine q_step (v := .int .i64 (ap.length : Int)) hE21 (y_len (e := 2) (by kernel_rfl) rfl) rfl rfl rfl ?_; intro a22 hE23; clear hE21
     refine q_step (v := .bool (decide (i5 < (ap.length : Int)))) hE23 (y_lss rfl rfl) rfl rfl rfl ?_; intro a24 hE25; clear hE23
     refine q_step (v := .bool (decide (i5 < (ap.length : Int)))) hE25 (y_move rfl) rfl rfl rfl ?_; intro a26 hE27; clear hE25
     rcases Bool.eq_false_or_eq_true (decide (i5 < (ap.length : Int))) with hb28 | hb28
     ·
      have hE29 := hE27; (try rw [hb28] at hE29); clear hE27
      have hp30 := of_decide_eq_true hb28
      refine q_step (v := .int .i64 i5) hE29 (y_move rfl) rfl rfl rfl ?_; intro a31 hE32; clear hE29
      refine q_step (v := .slice bpA bp.length bpC) hE32 (y_move rfl) rfl rfl rfl ?_; intro a33 hE34; clear hE32
      refine q_step (v := .int .i64 (bp.length : Int)) hE34 (y_len (e := 2) (by kernel_rfl) rfl) rfl rfl rfl ?_; intro a35 hE36; clear hE34
      refine q_step (v := .bool (decide (i5 < (bp.length : Int)))) hE36 (y_lss rfl rfl) rfl rfl rfl ?_; intro a37 hE38; clear hE36
      refine q_step (v := .bool (decide (i5 < (bp.length : Int)))) hE38 (y_pick (b := true) rfl rfl) rfl rfl rfl ?_; intro a39 hE40; clear hE38
      refine c_nil ?_
      have hE41 := hE40.sub (L' := [(0, .slice apA ap.length apC), (1, .slice bpA bp.length bpC), (5, .int .i64 i5), (15, .bool (decide (i5 < (bp.length : Int))))]) ⟨rfl, rfl, rfl, rfl, trivial⟩; clear hE40
      refine p_tn ?_
      have hE42 := hE41.sub (L' := [(0, .slice apA ap.length apC), (1, .slice bpA bp.length bpC), (5, .int .i64 i5), (15, .bool (decide (i5 < (bp.length : Int))))]) ⟨rfl, rfl, rfl, rfl, trivial⟩
      have hS43 := (St.pick (Γ' := [.rd 1 bpA bp.length bpC bp, .rd 1 apA ap.length apC ap]) hS13 [0, 1] (by decide) rfl)
      exact ⟨(by rw [hb28]; exact hE42), hS43⟩
     ·
      have hE44 := hE27; (try rw [hb28] at hE44); clear hE27
      have hp45 := of_decide_eq_false hb28
      refine q_skip hE44 rfl rfl rfl ?_; intro a46 hE47; clear hE44
      refine q_skip hE47 rfl rfl rfl ?_; intro a48 hE49; clear hE47
      refine q_skip hE49 rfl rfl rfl ?_; intro a50 hE51; clear hE49
      refine q_skip hE51 rfl rfl rfl ?_; intro a52 hE53; clear hE51
      refine q_step (v := .bool false) hE53 (y_pick (b := false) rfl rfl) rfl rfl rfl ?_; intro a54 hE55; clear hE53
      refine c_nil ?_
      have hE56 := hE55.sub (L' := [(0, .slice apA ap.length apC), (1, .slice bpA bp.length bpC), (5, .int .i64 i5), (15, .bool false)]) ⟨rfl, rfl, rfl, rfl, trivial⟩; clear hE55
      refine p_tn ?_
      have hE57 := hE56.sub (L' := [(0, .slice apA ap.length apC), (1, .slice bpA bp.length bpC), (5, .int .i64 i5), (15, .bool false)]) ⟨rfl, rfl, rfl, rfl, trivial⟩
      have hS58 := (St.pick (Γ' := [.rd 1 bpA bp.length bpC bp, .rd 1 apA ap.length apC ap]) hS13 [0, 1] (by decide) rfl)
      exact ⟨(by rw [hb28]; exact hE57), hS58⟩
    ·
     rintro a59 w60 ⟨hE61, hS62⟩; clear hE12 hS13
     refine c_cond hE61 rfl (fun ht64 => ?_) (fun ht64 => ?_)
     ·
      obtain ⟨ht65, ht66⟩ := band_t ht64
      have hp67 := of_decide_eq_true ht65
      have hp68 := of_decide_eq_true ht66
      have hE69 := hE61; rw [ht64] at hE69; clear hE61
      refine wp_skip ?_
      refine p_tn ?_
      refine c_seq ?_
      refine wp_block ?_
      refine c_seq ?_
      refine d_start (fun w w' => (fun w' => w'.cell? (adr apA (Int.toNat i5)) = some (.int .i64 (gI ap i5)) ∧ w'.cell? (adr bpA (Int.toNat i5)) = some (.int .i64 (gI bp i5)) ∧ True) w → (fun w' => w'.cell? (adr apA (Int.toNat i5)) = some (.int .i64 (gI ap i5)) ∧ w'.cell? (adr bpA (Int.toNat i5)) = some (.int .i64 (gI bp i5)) ∧ True) w') [3, 7] 9 (by kernel_rfl) rfl ?_
      intro w70 he71; have hS72 := St.go hS62 he71; clear hS62
      refine d_pure (fun _ h => h) (v := .slice apA ap.length apC) 0 rfl hE69 (y_move rfl) rfl (by kernel_rfl) (by kernel_rfl) (by kernel_rfl) rfl rfl (fun _ _ _ h => h) ?_; intro a73 hE74; clear hE69
      refine d_pure (fun _ h => h) (v := .int .i64 i5) 1 rfl hE74 (y_move rfl) rfl (by kernel_rfl) (by kernel_rfl) (by kernel_rfl) rfl rfl (fun _ _ _ h => h) ?_; intro a75 hE76; clear hE74
      refine d_pure (fun _ h => h) (v := .pointer (some (adr apA (Int.toNat i5)))) 2 rfl hE76 (y_idx (by kernel_rfl) (fun _ => by kernel_rfl) rfl rfl (RdS.isS (m := i5) (St.rdR (i := 1) hS72 rfl) (by omega) (by omega)) (by omega) (by omega) (Nat.mul_one _).symm) rfl (by kernel_rfl) (by kernel_rfl) (by kernel_rfl) rfl rfl (fun _ _ _ h => h) ?_; intro a77 hE78; clear hE76
      refine d_take (fun _ h => h) (fun _ _ h k => h k) (v := .int .i64 (gI ap i5)) 3 rfl hE78 (S := fun w' => w'.cell? (adr apA (Int.toNat i5)) = some (.int .i64 (gI ap i5)) ∧ w'.cell? (adr bpA (Int.toNat i5)) = some (.int .i64 (gI bp i5)) ∧ True) ⟨(RdS.elt (St.rdR (i := 1) hS72 rfl) (by omega) (by omega) _ (Ext.refl _)), (RdS.elt (St.rdR (i := 0) hS72 rfl) (by omega) (by omega) _ (Ext.refl _)), trivial⟩ (y_load (fun _ => by kernel_rfl) rfl (fun _ h => h.1)) rfl rfl (by kernel_rfl) (by kernel_rfl) (by kernel_rfl) (by kernel_rfl) rfl rfl (fun _ _ _ h => h) ?_; intro a79 hE80; clear hE78
      refine d_pure (fun _ h => h) (v := .slice bpA bp.length bpC) 4 rfl hE80 (y_move rfl) rfl (by kernel_rfl) (by kernel_rfl) (by kernel_rfl) rfl rfl (fun _ _ _ h => h) ?_; intro a81 hE82; clear hE80
      refine d_pure (fun _ h => h) (v := .int .i64 i5) 5 rfl hE82 (y_move rfl) rfl (by kernel_rfl) (by kernel_rfl) (by kernel_rfl) rfl rfl (fun _ _ _ h => h) ?_; intro a83 hE84; clear hE82
      refine d_pure (fun _ h => h) (v := .pointer (some (adr bpA (Int.toNat i5)))) 6 rfl hE84 (y_idx (by kernel_rfl) (fun _ => by kernel_rfl) rfl rfl (RdS.isS (m := i5) (St.rdR (i := 0) hS72 rfl) (by omega) (by omega)) (by omega) (by omega) (Nat.mul_one _).symm) rfl (by kernel_rfl) (by kernel_rfl) (by kernel_rfl) rfl rfl (fun _ _ _ h => h) ?_; intro a85 hE86; clear hE84
      refine d_take (fun _ h => h) (fun _ _ h k => h k) (v := .int .i64 (gI bp i5)) 7 rfl hE86 (S := fun w' => w'.cell? (adr apA (Int.toNat i5)) = some (.int .i64 (gI ap i5)) ∧ w'.cell? (adr bpA (Int.toNat i5)) = some (.int .i64 (gI bp i5)) ∧ True) ⟨(RdS.elt (St.rdR (i := 1) hS72 rfl) (by omega) (by omega) _ (Ext.refl _)), (RdS.elt (St.rdR (i := 0) hS72 rfl) (by omega) (by omega) _ (Ext.refl _)), trivial⟩ (y_load (fun _ => by kernel_rfl) rfl (fun _ h => h.2.1)) rfl rfl (by kernel_rfl) (by kernel_rfl) (by kernel_rfl) (by kernel_rfl) rfl rfl (fun _ _ _ h => h) ?_; intro a87 hE88; clear hE86
      refine d_pure (fun _ h => h) (v := .bool (!decide ((gI ap i5) = (gI bp i5)))) 8 rfl hE88 (y_neq rfl rfl) rfl (by kernel_rfl) (by kernel_rfl) (by kernel_rfl) rfl rfl (fun _ _ _ h => h) ?_; intro a89 hE90; clear hE88
      refine d_done (by kernel_rfl) ?_
      have hE91 := hE90.sub (L' := [(0, .slice apA ap.length apC), (1, .slice bpA bp.length bpC), (5, .int .i64 i5), (26, .bool (!decide ((gI ap i5) = (gI bp i5))))]) ⟨rfl, rfl, rfl, rfl, trivial⟩; clear hE90
      refine p_tn ?_
      refine c_cond hE91 rfl (fun ht92 => ?_) (fun ht92 => ?_)
      ·
       have ht93 := bn_t ht92
       have hp94 := of_decide_eq_false ht93
       have hE95 := hE91; rw [ht92] at hE95; clear hE91
       refine c_seq ?_
       refine d_start (fun w w' => (fun w' => w'.cell? (adr apA (Int.toNat i5)) = some (.int .i64 (gI ap i5)) ∧ w'.cell? (adr bpA (Int.toNat i5)) = some (.int .i64 (gI bp i5)) ∧ True) w → (fun w' => w'.cell? (adr apA (Int.toNat i5)) = some (.int .i64 (gI ap i5)) ∧ w'.cell? (adr bpA (Int.toNat i5)) = some (.int .i64 (gI bp i5)) ∧ True) w') [3, 7] 10 (by kernel_rfl) rfl ?_
       intro w96 he97; have hS98 := St.go hS72 he97; clear hS72
       refine d_pure (fun _ h => h) (v := .slice apA ap.length apC) 0 rfl hE95 (y_move rfl) rfl (by kernel_rfl) (by kernel_rfl) (by kernel_rfl) rfl rfl (fun _ _ _ h => h) ?_; intro a99 hE100; clear hE95
       refine d_pure (fun _ h => h) (v := .int .i64 i5) 1 rfl hE100 (y_move rfl) rfl (by kernel_rfl) (by kernel_rfl) (by kernel_rfl) rfl rfl (fun _ _ _ h => h) ?_; intro a101 hE102; clear hE100
       refine d_pure (fun _ h => h) (v := .pointer (some (adr apA (Int.toNat i5)))) 2 rfl hE102 (y_idx (by kernel_rfl) (fun _ => by kernel_rfl) rfl rfl (RdS.isS (m := i5) (St.rdR (i := 1) hS98 rfl) (by omega) (by omega)) (by omega) (by omega) (Nat.mul_one _).symm) rfl (by kernel_rfl) (by kernel_rfl) (by kernel_rfl) rfl rfl (fun _ _ _ h => h) ?_; intro a103 hE104; clear hE102
       refine d_take (fun _ h => h) (fun _ _ h k => h k) (v := .int .i64 (gI ap i5)) 3 rfl hE104 (S := fun w' => w'.cell? (adr apA (Int.toNat i5)) = some (.int .i64 (gI ap i5)) ∧ w'.cell? (adr bpA (Int.toNat i5)) = some (.int .i64 (gI bp i5)) ∧ True) ⟨(RdS.elt (St.rdR (i := 1) hS98 rfl) (by omega) (by omega) _ (Ext.refl _)), (RdS.elt (St.rdR (i := 0) hS98 rfl) (by omega) (by omega) _ (Ext.refl _)), trivial⟩ (y_load (fun _ => by kernel_rfl) rfl (fun _ h => h.1)) rfl rfl (by kernel_rfl) (by kernel_rfl) (by kernel_rfl) (by kernel_rfl) rfl rfl (fun _ _ _ h => h) ?_; intro a105 hE106; clear hE104
       refine d_pure (fun _ h => h) (v := .slice bpA bp.length bpC) 4 rfl hE106 (y_move rfl) rfl (by kernel_rfl) (by kernel_rfl) (by kernel_rfl) rfl rfl (fun _ _ _ h => h) ?_; intro a107 hE108; clear hE106
       refine d_pure (fun _ h => h) (v := .int .i64 i5) 5 rfl hE108 (y_move rfl) rfl (by kernel_rfl) (by kernel_rfl) (by kernel_rfl) rfl rfl (fun _ _ _ h => h) ?_; intro a109 hE110; clear hE108
       refine d_pure (fun _ h => h) (v := .pointer (some (adr bpA (Int.toNat i5)))) 6 rfl hE110 (y_idx (by kernel_rfl) (fun _ => by kernel_rfl) rfl rfl (RdS.isS (m := i5) (St.rdR (i := 0) hS98 rfl) (by omega) (by omega)) (by omega) (by omega) (Nat.mul_one _).symm) rfl (by kernel_rfl) (by kernel_rfl) (by kernel_rfl) rfl rfl (fun _ _ _ h => h) ?_; intro a111 hE112; clear hE110
       refine d_take (fun _ h => h) (fun _ _ h k => h k) (v := .int .i64 (gI bp i5)) 7 rfl hE112 (S := fun w' => w'.cell? (adr apA (Int.toNat i5)) = some (.int .i64 (gI ap i5)) ∧ w'.cell? (adr bpA (Int.toNat i5)) = some (.int .i64 (gI bp i5)) ∧ True) ⟨(RdS.elt (St.rdR (i := 1) hS98 rfl) (by omega) (by omega) _ (Ext.refl _)), (RdS.elt (St.rdR (i := 0) hS98 rfl) (by omega) (by omega) _ (Ext.refl _)), trivial⟩ (y_load (fun _ => by kernel_rfl) rfl (fun _ h => h.2.1)) rfl rfl (by kernel_rfl) (by kernel_rfl) (by kernel_rfl) (by kernel_rfl) rfl rfl (fun _ _ _ h => h) ?_; intro a113 hE114; clear hE112
       refine d_pure (fun _ h => h) (v := .bool (decide ((gI ap i5) < (gI bp i5)))) 8 rfl hE114 (y_lss rfl rfl) rfl (by kernel_rfl) (by kernel_rfl) (by kernel_rfl) rfl rfl (fun _ _ _ h => h) ?_; intro a115 hE116; clear hE114
       refine d_pure (fun _ h => h) (v := .bool (decide ((gI ap i5) < (gI bp i5)))) 9 rfl hE116 (y_assign rfl) rfl (by kernel_rfl) (by kernel_rfl) (by kernel_rfl) rfl rfl (fun _ _ _ h => h) ?_; intro a117 hE118; clear hE116
       refine d_done (by kernel_rfl) ?_
       have hE119 := hE118.sub (L' := [(4, .bool (decide ((gI ap i5) < (gI bp i5))))]) ⟨rfl, trivial⟩; clear hE118
       refine p_tn ?_
       refine wp_ret ?_
       refine p_br ?_
       refine p_tr ?_
       have hX120 : F_l01Less_L1 ap bp (Int.toNat ((ap.length : Int) - 0) + 1) 0 = .error (decide ((gI ap i5) < (gI bp i5))) := hT14.symm.trans (show F_l01Less_L1b ap bp (F_l01Less_L1 ap bp r17) i5 = .error (decide ((gI ap i5) < (gI bp i5))) by unfold F_l01Less_L1b; rw [ht92, ht64]; first | done | rfl)
       refine p_tr (p_br (p_tr ?_))
       refine p_tr ?_
       have hF : F_l01Less ap bp = decide ((gI ap i5) < (gI bp i5)) := by unfold F_l01Less; rw [hX120]; first | done | rfl
       refine c_ret1 hE119 rfl rfl ?_
       exact ⟨(by rw [hF]; first | done | (dsimp only; done) | rfl), hS98.ext⟩
      ·
       have ht121 := bn_f ht92
       have hp122 := of_decide_eq_true ht121
       have hE123 := hE91; rw [ht92] at hE123; clear hE91
       refine wp_skip ?_
       refine p_bn ?_
       refine p_tn ?_
       refine c_reg ?_
       refine q_step (v := .int .i64 i5) hE123 (y_move rfl) rfl rfl rfl ?_; intro a124 hE125; clear hE123
       refine q_step (v := .int .i64 (i5 + 1)) hE125 (y_add rfl rfl ⟨(by omega), (by omega)⟩) rfl rfl rfl ?_; intro a126 hE127; clear hE125
       refine q_step (v := .int .i64 (i5 + 1)) hE127 (y_assign rfl) rfl rfl rfl ?_; intro a128 hE129; clear hE127
       refine c_nil ?_
       have hE130 := hE129.sub (L' := [(0, .slice apA ap.length apC), (1, .slice bpA bp.length bpC), (5, .int .i64 (i5 + 1))]) ⟨rfl, rfl, rfl, trivial⟩; clear hE129
       refine p_tn ⟨r17, Nat.lt_succ_self _, i5 + 1, (hT14.symm.trans (show F_l01Less_L1b ap bp (F_l01Less_L1 ap bp r17) i5 = F_l01Less_L1 ap bp r17 (i5 + 1) by unfold F_l01Less_L1b; rw [ht92, ht64]; first | done | rfl)).symm, (by omega), (by first | omega | (simp only [sS_len, sL_len]; omega) | (simp only [List.length_replicate, sI_len]; omega) | (simp only [List.length_append, List.length_cons, List.length_nil, sI_len, cond_true, cond_false]; omega) | (simp only [List.length_append, List.length_cons, List.length_nil, sI_len, cond_eq_ite, apply_ite List.length]; split <;> simp only [List.length_append, List.length_cons, List.length_nil, sI_len] <;> omega) | grind), (hE130.sub (L' := [(0, .slice apA ap.length apC), (1, .slice bpA bp.length bpC), (5, .int .i64 (i5 + 1))]) ⟨rfl, rfl, rfl, trivial⟩), (St.pick (Γ' := [.rd 1 bpA bp.length bpC bp, .rd 1 apA ap.length apC ap]) hS72 [0, 1] (by decide) rfl)⟩
     ·
      have hE131 := hE61; rw [ht64] at hE131; clear hE61
      refine wp_exit ?_
      refine p_te ?_
      have hX132 : F_l01Less_L1 ap bp (Int.toNat ((ap.length : Int) - 0) + 1) 0 = .ok i5 := hT14.symm.trans (show F_l01Less_L1b ap bp (F_l01Less_L1 ap bp r17) i5 = .ok i5 by unfold F_l01Less_L1b; rw [ht64]; first | done | rfl)
      refine p_te (p_be (p_tn ?_))
      exact ⟨(by rw [hX132]; rfl), (by rw [hX132]; exact (show 0 ≤ i5 from (by first | omega | (simp only [sS_len, sL_len]; omega) | (simp only [List.length_replicate, sI_len]; omega) | (simp only [List.length_append, List.length_cons, List.length_nil, sI_len, cond_true, cond_false]; omega) | (simp only [List.length_append, List.length_cons, List.length_nil, sI_len, cond_eq_ite, apply_ite List.length]; split <;> simp only [List.length_append, List.length_cons, List.length_nil, sI_len] <;> omega) | grind))), (by rw [hX132]; exact (hE131.sub (L' := [(0, .slice apA ap.length apC), (1, .slice bpA bp.length bpC), (5, .int .i64 i5)]) ⟨rfl, rfl, rfl, trivial⟩)), (St.pick (Γ' := [.rd 1 bpA bp.length bpC bp, .rd 1 apA ap.length apC ap]) hS62 [0, 1] (by decide) rfl)⟩
  ·
   rintro a133 w134 ⟨hO137, hi138, hE135, hS136⟩; clear hE8 hS2
   refine p_tn ?_
   refine c_seq ?_
   refine c_reg ?_
   refine q_step (v := .slice apA ap.length apC) hE135 (y_move rfl) rfl rfl rfl ?_; intro a139 hE140; clear hE135
   refine q_step (v := .int .i64 (ap.length : Int)) hE140 (y_len (e := 2) (by kernel_rfl) rfl) rfl rfl rfl ?_; intro a141 hE142; clear hE140
   refine q_step (v := .slice bpA bp.length bpC) hE142 (y_move rfl) rfl rfl rfl ?_; intro a143 hE144; clear hE142
   refine q_step (v := .int .i64 (bp.length : Int)) hE144 (y_len (e := 2) (by kernel_rfl) rfl) rfl rfl rfl ?_; intro a145 hE146; clear hE144
   refine q_step (v := .bool (decide ((ap.length : Int) < (bp.length : Int)))) hE146 (y_lss rfl rfl) rfl rfl rfl ?_; intro a147 hE148; clear hE146
   refine q_step (v := .bool (decide ((ap.length : Int) < (bp.length : Int)))) hE148 (y_assign rfl) rfl rfl rfl ?_; intro a149 hE150; clear hE148
   refine c_nil ?_
   have hE151 := hE150.sub (L' := [(4, .bool (decide ((ap.length : Int) < (bp.length : Int))))]) ⟨rfl, trivial⟩; clear hE150
   refine p_tn ?_
   refine wp_ret ?_
   have hF : F_l01Less ap bp = decide ((ap.length : Int) < (bp.length : Int)) := by unfold F_l01Less; rw [hO137]; first | done | rfl
   refine c_ret1 hE151 rfl rfl ?_
   exact ⟨(by rw [hF]; first | done | (dsimp only; done) | rfl), hS136.ext⟩
def F_l05Least_L1b (arrows : List Int) (rec : (List Int) → Int → (List Int) × Int) (best4 : List Int) (i5 : Int) : (List Int) × Int :=
  bif (decide (i5 < ((F_l05Orders (arrows.length : Int)).length : Int))) then (bif (F_l01Less (F_l05Renumber arrows (gL (F_l05Orders (arrows.length : Int)) i5)) best4) then (rec (F_l05Renumber arrows (gL (F_l05Orders (arrows.length : Int)) i5)) (i5 + 1)) else (rec best4 (i5 + 1))) else (best4, i5)
def F_l05Least_L1 (arrows : List Int) : Nat → (List Int) → Int → (List Int) × Int
  | 0, best4, i5 => (best4, i5)
  | r + 1, best4, i5 => F_l05Least_L1b arrows (F_l05Least_L1 arrows r) best4 i5
def F_l05Least (arrows : List Int) : List Int :=
  (F_l05Least_L1 arrows (Int.toNat (((F_l05Orders (arrows.length : Int)).length : Int) - 0) + 1) arrows 0).1
theorem cf_l05Least (args : Array Value) (w : World) : (callFunc 105 args).run Try.prog w = .ok (.enter 105 args) w := by kernel_rfl
set_option maxRecDepth 100000 in
theorem c_l05Least (arrowsA : Option Addr) (arrowsN arrowsC : Nat) (arrows : List Int) (w : World) (arrowsR : RdS w 1 arrowsA arrowsN arrowsC arrows) (hl : arrows.length ≤ 6) :
    Calls Try.prog 105 #[.slice arrowsA arrowsN arrowsC] w (Ret fun v w' => ∃ b1 : Option Addr, ∃ c1 : Nat, v = .slice b1 (F_l05Least arrows).length c1 ∧ OwnS w' w.heap.size 2 1 b1 (F_l05Least arrows).length c1 (F_l05Least arrows) ∧ Ext w w') := by
  obtain rfl : arrowsN = arrows.length := arrowsR.len1.symm
  have arrowsLe := arrowsR.le
  have hS := St.nil w
  have hS1 := St.rd0 hS rfl arrowsR; clear hS
  refine enter (args := [.slice arrowsA arrows.length arrowsC]) Try.func105 rfl rfl ?_
  rw [Try.ntmps105]; intro a hE
  have hE := hE.sub (L' := [(0, .slice arrowsA arrows.length arrowsC)]) ⟨rfl, trivial⟩
  refine c_seq ?_
  refine c_reg ?_
  refine q_step (v := .slice none 0 0) hE (y_assign rfl) rfl rfl rfl ?_; intro a2 hE3; clear hE
  refine c_nil ?_
  have hE4 := hE3.sub (L' := [(0, .slice arrowsA arrows.length arrowsC)]) ⟨rfl, trivial⟩; clear hE3
  refine p_tn ?_
  refine c_seq ?_
  refine c_reg ?_
  refine q_step (v := .slice arrowsA arrows.length arrowsC) hE4 (y_move rfl) rfl rfl rfl ?_; intro a5 hE6; clear hE4
  refine q_step (v := .int .i64 (arrows.length : Int)) hE6 (y_len (e := 2) (by kernel_rfl) rfl) rfl rfl rfl ?_; intro a7 hE8; clear hE6
  refine l_step hE8 rfl (l_call (f := 181) (argv := [.int .i64 (arrows.length : Int)]) hE8 (fun _ => cf_l05Orders _ _) rfl rfl (c_l05Orders (arrows.length : Int) w (by omega) (by omega)) ?_)
  rintro _ w10 ⟨b15, c16, h17, rfl, ho18, he14⟩ a11 hE12; clear hE8
  have hol := orders_len (n := arrows.length) hl
  have hS13 := St.ownN hS1 he14 ho18; clear hS1
  refine q_step (v := .slice b15 ((F_l05Orders (arrows.length : Int)).length) c16) hE12 (y_assign rfl) rfl rfl rfl ?_; intro a19 hE20; clear hE12
  refine c_nil ?_
  have hE21 := hE20.sub (L' := [(0, .slice arrowsA arrows.length arrowsC), (3, .slice b15 ((F_l05Orders (arrows.length : Int)).length) c16)]) ⟨rfl, rfl, trivial⟩; clear hE20
  refine p_tn ?_
  refine c_seq ?_
  refine c_reg ?_
  refine q_step (v := .slice arrowsA arrows.length arrowsC) hE21 (y_move rfl) rfl rfl rfl ?_; intro a22 hE23; clear hE21
  refine l_step hE23 rfl (l_call (f := 140) (argv := [.slice arrowsA arrows.length arrowsC]) hE23 (fun _ => cf_l01Own _ _) rfl rfl (d_l01Own arrowsA arrows.length arrowsC arrows w10 (St.rdR (i := 1) hS13 rfl) (by omega)) ?_)
  rintro _ w25 ⟨b30, c31, rfl, ho32, he29⟩ a26 hE27; clear hE23
  have hS28 := St.own hS13 he29 ho32; clear hS13
  refine q_step (v := .slice b30 ((arrows).length) c31) hE27 (y_assign rfl) rfl rfl rfl ?_; intro a33 hE34; clear hE27
  refine c_nil ?_
  have hE35 := hE34.sub (L' := [(0, .slice arrowsA arrows.length arrowsC), (3, .slice b15 ((F_l05Orders (arrows.length : Int)).length) c16), (4, .slice b30 ((arrows).length) c31)]) ⟨rfl, rfl, rfl, trivial⟩; clear hE34
  refine p_tn ?_
  refine c_seq ?_
  refine c_seq ?_
  refine c_reg ?_
  refine q_step (v := .int .i64 0) hE35 (y_assign rfl) rfl rfl rfl ?_; intro a36 hE37; clear hE35
  refine c_nil ?_
  have hE38 := hE37.sub (L' := [(0, .slice arrowsA arrows.length arrowsC), (3, .slice b15 ((F_l05Orders (arrows.length : Int)).length) c16), (4, .slice b30 ((arrows).length) c31), (5, .int .i64 0)]) ⟨rfl, rfl, rfl, rfl, trivial⟩; clear hE37
  refine p_tn ?_
  refine c_cut1 (fun a' w' => ∃ best4A_39 : Option Addr, ∃ best4C_39 : Nat, (0 ≤ ((F_l05Least_L1 arrows (Int.toNat (((F_l05Orders (arrows.length : Int)).length : Int) - 0) + 1) arrows 0).2)) ∧ (((F_l05Least_L1 arrows (Int.toNat (((F_l05Orders (arrows.length : Int)).length : Int) - 0) + 1) arrows 0).2) ≤ ((F_l05Orders (arrows.length : Int)).length : Int)) ∧ E a' 29 [(0, .slice arrowsA arrows.length arrowsC), (3, .slice b15 ((F_l05Orders (arrows.length : Int)).length) c16), (4, .slice best4A_39 (((F_l05Least_L1 arrows (Int.toNat (((F_l05Orders (arrows.length : Int)).length : Int) - 0) + 1) arrows 0).1).length) best4C_39), (5, .int .i64 ((F_l05Least_L1 arrows (Int.toNat (((F_l05Orders (arrows.length : Int)).length : Int) - 0) + 1) arrows 0).2))] ∧ St w w' [.own 2 1 best4A_39 (((F_l05Least_L1 arrows (Int.toNat (((F_l05Orders (arrows.length : Int)).length : Int) - 0) + 1) arrows 0).1).length) best4C_39 ((F_l05Least_L1 arrows (Int.toNat (((F_l05Orders (arrows.length : Int)).length : Int) - 0) + 1) arrows 0).1), .nest 22 1 (some 2) b15 c16 h17 (F_l05Orders (arrows.length : Int)), .rd 1 arrowsA arrows.length arrowsC arrows]) ?_ ?_
  ·
   refine wp_block ?_
   refine c_loop (fun r a' w' => ∃ best4 : List Int, ∃ i5 : Int, ∃ best4A : Option Addr, ∃ best4C : Nat, F_l05Least_L1 arrows r best4 i5 = F_l05Least_L1 arrows (Int.toNat (((F_l05Orders (arrows.length : Int)).length : Int) - 0) + 1) arrows 0 ∧ Int.toNat (((F_l05Orders (arrows.length : Int)).length : Int) - i5) < r ∧ (0 ≤ i5) ∧ (i5 ≤ ((F_l05Orders (arrows.length : Int)).length : Int)) ∧ E a' 29 [(0, .slice arrowsA arrows.length arrowsC), (3, .slice b15 ((F_l05Orders (arrows.length : Int)).length) c16), (4, .slice best4A ((best4).length) best4C), (5, .int .i64 i5)] ∧ St w w' [.own 2 1 best4A ((best4).length) best4C best4, .nest 22 1 (some 2) b15 c16 h17 (F_l05Orders (arrows.length : Int)), .rd 1 arrowsA arrows.length arrowsC arrows]) (r := (Int.toNat (((F_l05Orders (arrows.length : Int)).length : Int) - 0) + 1)) ?_ ?_
   · exact ⟨arrows, 0, b30, c31, rfl, Nat.lt_succ_self _, (by first | omega | (simp only [sS_len, sL_len]; omega) | (simp only [List.length_replicate, sI_len]; omega) | (simp only [List.length_append, List.length_cons, List.length_nil, sI_len, cond_true, cond_false]; omega) | (simp only [List.length_append, List.length_cons, List.length_nil, sI_len, cond_eq_ite, apply_ite List.length]; split <;> simp only [List.length_append, List.length_cons, List.length_nil, sI_len] <;> omega) | grind), (by first | omega | (simp only [sS_len, sL_len]; omega) | (simp only [List.length_replicate, sI_len]; omega) | (simp only [List.length_append, List.length_cons, List.length_nil, sI_len, cond_true, cond_false]; omega) | (simp only [List.length_append, List.length_cons, List.length_nil, sI_len, cond_eq_ite, apply_ite List.length]; split <;> simp only [List.length_append, List.length_cons, List.length_nil, sI_len] <;> omega) | grind), (hE38.sub (L' := [(0, .slice arrowsA arrows.length arrowsC), (3, .slice b15 ((F_l05Orders (arrows.length : Int)).length) c16), (4, .slice b30 ((arrows).length) c31), (5, .int .i64 0)]) ⟨rfl, rfl, rfl, rfl, trivial⟩), (St.pick (Γ' := [.own 2 1 b30 ((arrows).length) c31 arrows, .nest 22 1 (some 2) b15 c16 h17 (F_l05Orders (arrows.length : Int)), .rd 1 arrowsA arrows.length arrowsC arrows]) hS28 [0, 1, 2] (by decide) rfl)⟩
   ·
    clear hE38 hS28
    rintro r48 a40 w41 ⟨best4, i5, best4A, best4C, hT44, hr45, hi46, hi47, hE42, hS43⟩
    obtain ⟨r48, rfl⟩ : ∃ r', r48 = r' + 1 := ⟨r48 - 1, by omega⟩
    refine c_seq ?_
    refine c_seq ?_
    refine c_reg ?_
    refine q_step (v := .int .i64 i5) hE42 (y_move rfl) rfl rfl rfl ?_; intro a49 hE50; clear hE42
    refine q_step (v := .slice b15 ((F_l05Orders (arrows.length : Int)).length) c16) hE50 (y_move rfl) rfl rfl rfl ?_; intro a51 hE52; clear hE50
    refine q_step (v := .int .i64 ((F_l05Orders (arrows.length : Int)).length : Int)) hE52 (y_len (e := 22) (by kernel_rfl) rfl) rfl rfl rfl ?_; intro a53 hE54; clear hE52
    refine q_step (v := .bool (decide (i5 < ((F_l05Orders (arrows.length : Int)).length : Int)))) hE54 (y_lss rfl rfl) rfl rfl rfl ?_; intro a55 hE56; clear hE54
    refine c_nil ?_
    have hE57 := hE56.sub (L' := [(0, .slice arrowsA arrows.length arrowsC), (3, .slice b15 ((F_l05Orders (arrows.length : Int)).length) c16), (4, .slice best4A ((best4).length) best4C), (5, .int .i64 i5), (15, .bool (decide (i5 < ((F_l05Orders (arrows.length : Int)).length : Int))))]) ⟨rfl, rfl, rfl, rfl, rfl, trivial⟩; clear hE56
    refine p_tn ?_
    refine c_cond hE57 rfl (fun ht58 => ?_) (fun ht58 => ?_)
    ·
     have hp59 := of_decide_eq_true ht58
     have hE60 := hE57; rw [ht58] at hE60; clear hE57
     have hrw := orders_row arrows.length (i := i5) (by omega) (by omega)
     refine wp_skip ?_
     refine p_tn ?_
     refine c_seq ?_
     refine wp_block ?_
     refine c_seq ?_
     refine c_reg ?_
     refine q_step (v := .slice arrowsA arrows.length arrowsC) hE60 (y_move rfl) rfl rfl rfl ?_; intro a61 hE62; clear hE60
     refine q_step (v := .slice b15 ((F_l05Orders (arrows.length : Int)).length) c16) hE62 (y_move rfl) rfl rfl rfl ?_; intro a63 hE64; clear hE62
     refine q_step (v := .int .i64 i5) hE64 (y_move rfl) rfl rfl rfl ?_; intro a65 hE66; clear hE64
     refine q_step (v := .pointer (some (adr b15 (Int.toNat i5)))) hE66 (y_idx (by kernel_rfl) (fun _ => by kernel_rfl) rfl rfl (RdN.isS (m := i5) (St.rdNo (i := 1) hS43 rfl) (by omega) (by omega)) (by omega) (by omega) (Nat.mul_one _).symm) rfl rfl rfl ?_; intro a67 hE68; clear hE66
     have hv69 : (0 : Int) ≤ i5 ∧ i5 < ((F_l05Orders (arrows.length : Int)).length : Int) := ⟨(by omega), (by omega)⟩
     refine q_step (v := .slice (hdA h17 i5) ((gL (F_l05Orders (arrows.length : Int)) i5).length) (hdC h17 i5)) hE68 (y_load (fun _ => by kernel_rfl) rfl (RdN.elt1 (St.rdNo (i := 1) hS43 rfl) (by omega) (by omega))) rfl rfl rfl ?_; intro a71 hE72; clear hE68
     refine l_step hE72 rfl (l_call (f := 182) (argv := [.slice arrowsA arrows.length arrowsC, .slice (hdA h17 i5) ((gL (F_l05Orders (arrows.length : Int)) i5).length) (hdC h17 i5)]) hE72 (fun _ => cf_l05Renumber _ _) rfl rfl (c_l05Renumber arrowsA arrows.length arrowsC arrows (hdA h17 i5) ((gL (F_l05Orders (arrows.length : Int)) i5).length) (hdC h17 i5) (gL (F_l05Orders (arrows.length : Int)) i5) w41 (St.rdR (i := 2) hS43 rfl) (RdN.row1 (St.rdNo (i := 1) hS43 rfl) hv69.1 hv69.2) (by omega) (by omega) hrw.1.rng) ?_)
     rintro _ w74 ⟨b79, c80, rfl, ho81, he78⟩ a75 hE76; clear hE72
     have hS77 := St.own hS43 he78 ho81; clear hS43
     refine q_step (v := .slice b79 ((F_l05Renumber arrows (gL (F_l05Orders (arrows.length : Int)) i5)).length) c80) hE76 (y_assign rfl) rfl rfl rfl ?_; intro a82 hE83; clear hE76
     refine c_nil ?_
     have hE84 := hE83.sub (L' := [(0, .slice arrowsA arrows.length arrowsC), (3, .slice b15 ((F_l05Orders (arrows.length : Int)).length) c16), (4, .slice best4A ((best4).length) best4C), (5, .int .i64 i5), (6, .slice b79 ((F_l05Renumber arrows (gL (F_l05Orders (arrows.length : Int)) i5)).length) c80)]) ⟨rfl, rfl, rfl, rfl, rfl, trivial⟩; clear hE83
     refine p_tn ?_
     refine c_seq ?_
     refine c_reg ?_
     refine q_step (v := .slice b79 ((F_l05Renumber arrows (gL (F_l05Orders (arrows.length : Int)) i5)).length) c80) hE84 (y_move rfl) rfl rfl rfl ?_; intro a85 hE86; clear hE84
     refine q_step (v := .slice best4A ((best4).length) best4C) hE86 (y_move rfl) rfl rfl rfl ?_; intro a87 hE88; clear hE86
     refine l_step hE88 rfl (l_call (f := 183) (argv := [.slice b79 ((F_l05Renumber arrows (gL (F_l05Orders (arrows.length : Int)) i5)).length) c80, .slice best4A ((best4).length) best4C]) hE88 (fun _ => cf_l01Less _ _) rfl rfl (c_l01Less b79 ((F_l05Renumber arrows (gL (F_l05Orders (arrows.length : Int)) i5)).length) c80 (F_l05Renumber arrows (gL (F_l05Orders (arrows.length : Int)) i5)) best4A ((best4).length) best4C best4 w74 (St.rdO (i := 0) hS77 rfl) (St.rdO (i := 1) hS77 rfl)) ?_)
     rintro _ w90 ⟨rfl, he94⟩ a91 hE92; clear hE88
     have hS93 := St.go hS77 he94; clear hS77
     refine c_nil ?_
     have hE95 := hE92.sub (L' := [(0, .slice arrowsA arrows.length arrowsC), (3, .slice b15 ((F_l05Orders (arrows.length : Int)).length) c16), (4, .slice best4A ((best4).length) best4C), (5, .int .i64 i5), (6, .slice b79 ((F_l05Renumber arrows (gL (F_l05Orders (arrows.length : Int)) i5)).length) c80), (26, .bool (F_l01Less (F_l05Renumber arrows (gL (F_l05Orders (arrows.length : Int)) i5)) best4))]) ⟨rfl, rfl, rfl, rfl, rfl, rfl, trivial⟩; clear hE92
     refine p_tn ?_
     refine c_cond hE95 rfl (fun ht96 => ?_) (fun ht96 => ?_)
     ·
      have hE97 := hE95; rw [ht96] at hE97; clear hE95
      refine c_reg ?_
      refine q_step (v := .slice b79 ((F_l05Renumber arrows (gL (F_l05Orders (arrows.length : Int)) i5)).length) c80) hE97 (y_move rfl) rfl rfl rfl ?_; intro a98 hE99; clear hE97
      refine q_step (v := .slice b79 ((F_l05Renumber arrows (gL (F_l05Orders (arrows.length : Int)) i5)).length) c80) hE99 (y_assign rfl) rfl rfl rfl ?_; intro a100 hE101; clear hE99
      refine c_nil ?_
      have hE102 := hE101.sub (L' := [(0, .slice arrowsA arrows.length arrowsC), (3, .slice b15 ((F_l05Orders (arrows.length : Int)).length) c16), (4, .slice b79 ((F_l05Renumber arrows (gL (F_l05Orders (arrows.length : Int)) i5)).length) c80), (5, .int .i64 i5)]) ⟨rfl, rfl, rfl, rfl, trivial⟩; clear hE101
      refine p_bn ?_
      refine p_tn ?_
      refine c_reg ?_
      refine q_step (v := .int .i64 i5) hE102 (y_move rfl) rfl rfl rfl ?_; intro a103 hE104; clear hE102
      refine q_step (v := .int .i64 (i5 + 1)) hE104 (y_add rfl rfl ⟨(by omega), (by omega)⟩) rfl rfl rfl ?_; intro a105 hE106; clear hE104
      refine q_step (v := .int .i64 (i5 + 1)) hE106 (y_assign rfl) rfl rfl rfl ?_; intro a107 hE108; clear hE106
      refine c_nil ?_
      have hE109 := hE108.sub (L' := [(0, .slice arrowsA arrows.length arrowsC), (3, .slice b15 ((F_l05Orders (arrows.length : Int)).length) c16), (4, .slice b79 ((F_l05Renumber arrows (gL (F_l05Orders (arrows.length : Int)) i5)).length) c80), (5, .int .i64 (i5 + 1))]) ⟨rfl, rfl, rfl, rfl, trivial⟩; clear hE108
      refine p_tn ⟨r48, Nat.lt_succ_self _, F_l05Renumber arrows (gL (F_l05Orders (arrows.length : Int)) i5), i5 + 1, b79, c80, (hT44.symm.trans (show F_l05Least_L1b arrows (F_l05Least_L1 arrows r48) best4 i5 = F_l05Least_L1 arrows r48 (F_l05Renumber arrows (gL (F_l05Orders (arrows.length : Int)) i5)) (i5 + 1) by unfold F_l05Least_L1b; rw [ht96, ht58]; first | done | rfl)).symm, (by omega), (by first | omega | (simp only [sS_len, sL_len]; omega) | (simp only [List.length_replicate, sI_len]; omega) | (simp only [List.length_append, List.length_cons, List.length_nil, sI_len, cond_true, cond_false]; omega) | (simp only [List.length_append, List.length_cons, List.length_nil, sI_len, cond_eq_ite, apply_ite List.length]; split <;> simp only [List.length_append, List.length_cons, List.length_nil, sI_len] <;> omega) | grind), (by first | omega | (simp only [sS_len, sL_len]; omega) | (simp only [List.length_replicate, sI_len]; omega) | (simp only [List.length_append, List.length_cons, List.length_nil, sI_len, cond_true, cond_false]; omega) | (simp only [List.length_append, List.length_cons, List.length_nil, sI_len, cond_eq_ite, apply_ite List.length]; split <;> simp only [List.length_append, List.length_cons, List.length_nil, sI_len] <;> omega) | grind), (hE109.sub (L' := [(0, .slice arrowsA arrows.length arrowsC), (3, .slice b15 ((F_l05Orders (arrows.length : Int)).length) c16), (4, .slice b79 ((F_l05Renumber arrows (gL (F_l05Orders (arrows.length : Int)) i5)).length) c80), (5, .int .i64 (i5 + 1))]) ⟨rfl, rfl, rfl, rfl, trivial⟩), (St.pick (Γ' := [.own 2 1 b79 ((F_l05Renumber arrows (gL (F_l05Orders (arrows.length : Int)) i5)).length) c80 (F_l05Renumber arrows (gL (F_l05Orders (arrows.length : Int)) i5)), .nest 22 1 (some 2) b15 c16 h17 (F_l05Orders (arrows.length : Int)), .rd 1 arrowsA arrows.length arrowsC arrows]) hS93 [0, 2, 3] (by decide) rfl)⟩
     ·
      have hE110 := hE95; rw [ht96] at hE110; clear hE95
      refine wp_skip ?_
      refine p_bn ?_
      refine p_tn ?_
      refine c_reg ?_
      refine q_step (v := .int .i64 i5) hE110 (y_move rfl) rfl rfl rfl ?_; intro a111 hE112; clear hE110
      refine q_step (v := .int .i64 (i5 + 1)) hE112 (y_add rfl rfl ⟨(by omega), (by omega)⟩) rfl rfl rfl ?_; intro a113 hE114; clear hE112
      refine q_step (v := .int .i64 (i5 + 1)) hE114 (y_assign rfl) rfl rfl rfl ?_; intro a115 hE116; clear hE114
      refine c_nil ?_
      have hE117 := hE116.sub (L' := [(0, .slice arrowsA arrows.length arrowsC), (3, .slice b15 ((F_l05Orders (arrows.length : Int)).length) c16), (4, .slice best4A ((best4).length) best4C), (5, .int .i64 (i5 + 1))]) ⟨rfl, rfl, rfl, rfl, trivial⟩; clear hE116
      refine p_tn ⟨r48, Nat.lt_succ_self _, best4, i5 + 1, best4A, best4C, (hT44.symm.trans (show F_l05Least_L1b arrows (F_l05Least_L1 arrows r48) best4 i5 = F_l05Least_L1 arrows r48 best4 (i5 + 1) by unfold F_l05Least_L1b; rw [ht96, ht58]; first | done | rfl)).symm, (by omega), (by first | omega | (simp only [sS_len, sL_len]; omega) | (simp only [List.length_replicate, sI_len]; omega) | (simp only [List.length_append, List.length_cons, List.length_nil, sI_len, cond_true, cond_false]; omega) | (simp only [List.length_append, List.length_cons, List.length_nil, sI_len, cond_eq_ite, apply_ite List.length]; split <;> simp only [List.length_append, List.length_cons, List.length_nil, sI_len] <;> omega) | grind), (by first | omega | (simp only [sS_len, sL_len]; omega) | (simp only [List.length_replicate, sI_len]; omega) | (simp only [List.length_append, List.length_cons, List.length_nil, sI_len, cond_true, cond_false]; omega) | (simp only [List.length_append, List.length_cons, List.length_nil, sI_len, cond_eq_ite, apply_ite List.length]; split <;> simp only [List.length_append, List.length_cons, List.length_nil, sI_len] <;> omega) | grind), (hE117.sub (L' := [(0, .slice arrowsA arrows.length arrowsC), (3, .slice b15 ((F_l05Orders (arrows.length : Int)).length) c16), (4, .slice best4A ((best4).length) best4C), (5, .int .i64 (i5 + 1))]) ⟨rfl, rfl, rfl, rfl, trivial⟩), (St.pick (Γ' := [.own 2 1 best4A ((best4).length) best4C best4, .nest 22 1 (some 2) b15 c16 h17 (F_l05Orders (arrows.length : Int)), .rd 1 arrowsA arrows.length arrowsC arrows]) hS93 [1, 2, 3] (by decide) rfl)⟩
    ·
     have hp118 := of_decide_eq_false ht58
     have hE119 := hE57; rw [ht58] at hE119; clear hE57
     refine wp_exit ?_
     refine p_te ?_
     have hX120 : F_l05Least_L1 arrows (Int.toNat (((F_l05Orders (arrows.length : Int)).length : Int) - 0) + 1) arrows 0 = (best4, i5) := hT44.symm.trans (show F_l05Least_L1b arrows (F_l05Least_L1 arrows r48) best4 i5 = (best4, i5) by unfold F_l05Least_L1b; rw [ht58]; first | done | rfl)
     refine p_te (p_be (p_tn ?_))
     exact ⟨best4A, best4C, (by rw [hX120]; exact (show 0 ≤ i5 from (by first | omega | (simp only [sS_len, sL_len]; omega) | (simp only [List.length_replicate, sI_len]; omega) | (simp only [List.length_append, List.length_cons, List.length_nil, sI_len, cond_true, cond_false]; omega) | (simp only [List.length_append, List.length_cons, List.length_nil, sI_len, cond_eq_ite, apply_ite List.length]; split <;> simp only [List.length_append, List.length_cons, List.length_nil, sI_len] <;> omega) | grind))), (by rw [hX120]; exact (show i5 ≤ ((F_l05Orders (arrows.length : Int)).length : Int) from (by first | omega | (simp only [sS_len, sL_len]; omega) | (simp only [List.length_replicate, sI_len]; omega) | (simp only [List.length_append, List.length_cons, List.length_nil, sI_len, cond_true, cond_false]; omega) | (simp only [List.length_append, List.length_cons, List.length_nil, sI_len, cond_eq_ite, apply_ite List.length]; split <;> simp only [List.length_append, List.length_cons, List.length_nil, sI_len] <;> omega) | grind))), (by rw [hX120]; exact (hE119.sub (L' := [(0, .slice arrowsA arrows.length arrowsC), (3, .slice b15 ((F_l05Orders (arrows.length : Int)).length) c16), (4, .slice best4A ((best4).length) best4C), (5, .int .i64 i5)]) ⟨rfl, rfl, rfl, rfl, trivial⟩)), (by rw [hX120]; exact (St.pick (Γ' := [.own 2 1 best4A ((best4).length) best4C best4, .nest 22 1 (some 2) b15 c16 h17 (F_l05Orders (arrows.length : Int)), .rd 1 arrowsA arrows.length arrowsC arrows]) hS43 [0, 1, 2] (by decide) rfl))⟩
  ·
   rintro a121 w122 ⟨best4A_39, best4C_39, hi126, hi127, hE123, hS124⟩; clear hE38 hS28
   refine p_tn ?_
   refine c_seq ?_
   refine c_reg ?_
   refine q_step (v := .slice best4A_39 (((F_l05Least_L1 arrows (Int.toNat (((F_l05Orders (arrows.length : Int)).length : Int) - 0) + 1) arrows 0).1).length) best4C_39) hE123 (y_move rfl) rfl rfl rfl ?_; intro a128 hE129; clear hE123
   refine q_step (v := .slice best4A_39 (((F_l05Least_L1 arrows (Int.toNat (((F_l05Orders (arrows.length : Int)).length : Int) - 0) + 1) arrows 0).1).length) best4C_39) hE129 (y_assign rfl) rfl rfl rfl ?_; intro a130 hE131; clear hE129
   refine c_nil ?_
   have hE132 := hE131.sub (L' := [(2, .slice best4A_39 (((F_l05Least_L1 arrows (Int.toNat (((F_l05Orders (arrows.length : Int)).length : Int) - 0) + 1) arrows 0).1).length) best4C_39)]) ⟨rfl, trivial⟩; clear hE131
   refine p_tn ?_
   refine wp_ret ?_
   have hF : F_l05Least arrows = (F_l05Least_L1 arrows (Int.toNat (((F_l05Orders (arrows.length : Int)).length : Int) - 0) + 1) arrows 0).1 := by unfold F_l05Least; rfl
   refine c_ret1 hE132 rfl rfl ?_
   exact ⟨best4A_39, best4C_39, (by rw [hF]; first | done | (dsimp only; done) | rfl), (by rw [hF]; (try dsimp only); exact hS124.ok 0 _ rfl), hS124.ext⟩
theorem renumber_len (a o : List Int) : (F_l05Renumber a o).length = o.length := by rw [renumber_map]; simp
theorem least_len {n : Nat} {a : List Int} (hl : a.length = n) : (F_l05Least a).length = n := by
  have key : ∀ (r : Nat) (b : List Int) (i : Int), 0 ≤ i → b.length = n → (F_l05Least_L1 a r b i).1.length = n := by
    intro r
    induction r with
    | zero => intro b i _ hb; exact hb
    | succ r ih =>
      intro b i hi hb
      show (F_l05Least_L1b a (F_l05Least_L1 a r) b i).1.length = n
      unfold F_l05Least_L1b
      rw [hl]
      by_cases h : i < ((F_l05Orders (n : Int)).length : Int)
      · rw [decide_eq_true h, cond_true]
        have := (orders_row n hi h).2
        cases F_l01Less (F_l05Renumber a (gL (F_l05Orders (n : Int)) i)) b
        · exact ih _ _ (by omega) hb
        · exact ih _ _ (by omega) (by rw [renumber_len]; exact this)
      · rw [decide_eq_false h, cond_false]; exact hb
  unfold F_l05Least
  exact key _ _ _ (by omega) hl
def F_s_LeastFrame (f0 : Int) (f1 : List Int) : (Int × List Int) × (Int) :=
  bif (!(F_l05Is f0 f1)) then ((0, []), 1) else (bif (decide (6 < f0)) then ((0, []), 3) else ((((F_l05Least f1).length : Int), (F_l05Least f1)), 0))
theorem cf_s_LeastFrame (args : Array Value) (w : World) : (callFunc 41 args).run Try.prog w = .ok (.enter 41 args) w := by kernel_rfl
set_option maxRecDepth 100000 in
theorem c_s_LeastFrame (f0 : Int) (f1A : Option Addr) (f1N f1C : Nat) (f1 : List Int) (w : World) (f1R : RdS w 1 f1A f1N f1C f1) :
    Calls Try.prog 41 #[.agg #[.int .i64 f0, .slice f1A f1N f1C]] w (Ret fun v w' => ∃ b1 : Option Addr, ∃ c1 : Nat, v = .tuple #[.agg #[.int .i64 (((F_s_LeastFrame f0 f1).1).1), .slice b1 (((F_s_LeastFrame f0 f1).1).2).length c1], .int .i64 ((F_s_LeastFrame f0 f1).2)] ∧ OwnS w' w.heap.size 2 1 b1 (((F_s_LeastFrame f0 f1).1).2).length c1 (((F_s_LeastFrame f0 f1).1).2) ∧ Ext w w') := by
  obtain rfl : f1N = f1.length := f1R.len1.symm
  have f1Le := f1R.le
  have hS := St.nil w
  have hS1 := St.rd0 hS rfl f1R; clear hS
  refine enter (args := [.agg #[.int .i64 f0, .slice f1A f1.length f1C]]) Try.func41 rfl rfl ?_
  rw [Try.ntmps41]; intro a hE
  have hE := hE.sub (L' := [(0, .agg #[.int .i64 f0, .slice f1A f1.length f1C])]) ⟨rfl, trivial⟩
  refine c_seq ?_
  refine c_reg ?_
  refine l_step hE rfl (l_box (v := .agg #[.int .i64 f0, .slice f1A f1.length f1C]) (cs := #[.int .i64 f0, .slice f1A f1.length f1C]) hS1 hE rfl rfl rfl ?_)
  intro b2 w3 hS6 he7 a4 hE5; clear hS1 hE
  refine l_step hE5 rfl (l_alloc (z := .agg #[.int .i64 0, .slice none 0 0]) (cs := #[.int .i64 0, .slice none 0 0]) hS6 hE5 (fun _ => by kernel_rfl) rfl rfl ?_)
  intro b8 w9 hS12 he13 a10 hE11; clear hS6 hE5
  refine q_step (v := .int .i64 0) hE11 (y_assign rfl) rfl rfl rfl ?_; intro a14 hE15; clear hE11
  refine c_nil ?_
  have hE16 := hE15.sub (L' := [(1, .pointer (some ⟨b2, 0, none⟩)), (2, .pointer (some ⟨b8, 0, none⟩))]) ⟨rfl, rfl, trivial⟩; clear hE15
  refine p_tn ?_
  refine c_seq ?_
  refine wp_block ?_
  refine c_seq ?_
  refine c_reg ?_
  refine q_step (v := .agg #[.int .i64 f0, .slice f1A f1.length f1C]) hE16 (y_loadS Try.underlying30 rfl (by kernel_rfl) rfl (St.row (i := 1) hS12 rfl)) rfl rfl rfl ?_; intro a17 hE18; clear hE16
  refine l_step hE18 rfl (l_call (f := 94) (argv := [.agg #[.int .i64 f0, .slice f1A f1.length f1C]]) hE18 (fun _ => cf_l05Is _ _) rfl rfl (c_l05Is f0 f1A f1.length f1C f1 w9 (St.rdR (i := 2) hS12 rfl)) ?_)
  rintro _ w20 ⟨rfl, he24⟩ a21 hE22; clear hE18
  have hS23 := St.go hS12 he24; clear hS12
  refine q_step (v := .bool (!(F_l05Is f0 f1))) hE22 (y_not rfl) rfl rfl rfl ?_; intro a25 hE26; clear hE22
  refine q_step (v := .bool (!(F_l05Is f0 f1))) hE26 (y_assign rfl) rfl rfl rfl ?_; intro a27 hE28; clear hE26
  refine c_nil ?_
  have hE29 := hE28.sub (L' := [(1, .pointer (some ⟨b2, 0, none⟩)), (2, .pointer (some ⟨b8, 0, none⟩)), (4, .bool (!(F_l05Is f0 f1)))]) ⟨rfl, rfl, rfl, trivial⟩; clear hE28
  refine p_tn ?_
  refine c_cond hE29 rfl (fun ht30 => ?_) (fun ht30 => ?_)
  ·
   have ht31 := bn_t ht30
   have hE32 := hE29; rw [ht30] at hE32; clear hE29
   refine c_seq ?_
   refine c_reg ?_
   refine q_step (v := .agg #[.int .i64 0, .slice none 0 0]) hE32 (y_build (vs := #[]) (fun a n hE => by simp) (fun _ => by kernel_rfl)) rfl rfl rfl ?_; intro a33 hE34; clear hE32
   refine l_step hE34 rfl (l_storeS (k := 0) (cs' := #[.int .i64 0, .slice none 0 0]) hS23 hE34 (by kernel_rfl) rfl rfl (by kernel_rfl) rfl rfl ?_)
   intro w36 hS39 a37 hE38; clear hS23 hE34
   refine q_step (v := .int .i64 1) hE38 (y_assign rfl) rfl rfl rfl ?_; intro a41 hE42; clear hE38
   refine c_nil ?_
   have hE43 := hE42.sub (L' := [(2, .pointer (some ⟨b8, 0, none⟩)), (3, .int .i64 1)]) ⟨rfl, rfl, trivial⟩; clear hE42
   refine p_tn ?_
   refine wp_ret ?_
   refine p_br ?_
   refine p_tr ?_
   have hF : F_s_LeastFrame f0 f1 = ((0, []), 1) := by unfold F_s_LeastFrame; rw [ht30]; first | done | rfl
   refine c_retC2 hE43 rfl rfl rfl Try.underlying30 rfl (by kernel_rfl) (St.row (i := 0) hS39 rfl _ (Ext.refl _)) ?_
   exact ⟨none, 0, (by rw [hF]; first | done | (dsimp only; done) | rfl), (by rw [hF]; (try dsimp only); exact OwnS.nilS _ _ _ _), hS39.ext⟩
  ·
   have ht44 := bn_f ht30
   have hp45 := l05Is_t ht44
   have hE46 := hE29; rw [ht30] at hE46; clear hE29
   refine c_seq ?_
   refine c_reg ?_
   refine q_step (v := .pointer (some ⟨b2, 0, none⟩)) hE46 (y_field rfl (fun _ => by kernel_rfl)) rfl rfl rfl ?_; intro a47 hE48; clear hE46
   refine q_step (v := .int .i64 f0) hE48 (y_load (fun _ => by kernel_rfl) rfl (St.cell (i := 1) hS23 rfl rfl)) rfl rfl rfl ?_; intro a49 hE50; clear hE48
   refine q_step (v := .bool (decide (6 < f0))) hE50 (y_gtr rfl rfl) rfl rfl rfl ?_; intro a51 hE52; clear hE50
   refine q_step (v := .bool (decide (6 < f0))) hE52 (y_assign rfl) rfl rfl rfl ?_; intro a53 hE54; clear hE52
   refine c_nil ?_
   have hE55 := hE54.sub (L' := [(1, .pointer (some ⟨b2, 0, none⟩)), (2, .pointer (some ⟨b8, 0, none⟩)), (9, .bool (decide (6 < f0)))]) ⟨rfl, rfl, rfl, trivial⟩; clear hE54
   refine p_tn ?_
   refine c_cond hE55 rfl (fun ht56 => ?_) (fun ht56 => ?_)
   ·
    have hp57 := of_decide_eq_true ht56
    have hE58 := hE55; rw [ht56] at hE58; clear hE55
    refine c_seq ?_
    refine c_reg ?_
    refine q_step (v := .agg #[.int .i64 0, .slice none 0 0]) hE58 (y_build (vs := #[]) (fun a n hE => by simp) (fun _ => by kernel_rfl)) rfl rfl rfl ?_; intro a59 hE60; clear hE58
    refine l_step hE60 rfl (l_storeS (k := 0) (cs' := #[.int .i64 0, .slice none 0 0]) hS23 hE60 (by kernel_rfl) rfl rfl (by kernel_rfl) rfl rfl ?_)
    intro w62 hS65 a63 hE64; clear hS23 hE60
    refine q_step (v := .int .i64 3) hE64 (y_assign rfl) rfl rfl rfl ?_; intro a67 hE68; clear hE64
    refine c_nil ?_
    have hE69 := hE68.sub (L' := [(2, .pointer (some ⟨b8, 0, none⟩)), (3, .int .i64 3)]) ⟨rfl, rfl, trivial⟩; clear hE68
    refine p_tn ?_
    refine wp_ret ?_
    refine p_br ?_
    refine p_tr ?_
    have hF : F_s_LeastFrame f0 f1 = ((0, []), 3) := by unfold F_s_LeastFrame; rw [ht56, ht30]; first | done | rfl
    refine c_retC2 hE69 rfl rfl rfl Try.underlying30 rfl (by kernel_rfl) (St.row (i := 0) hS65 rfl _ (Ext.refl _)) ?_
    exact ⟨none, 0, (by rw [hF]; first | done | (dsimp only; done) | rfl), (by rw [hF]; (try dsimp only); exact OwnS.nilS _ _ _ _), hS65.ext⟩
   ·
    have hp70 := of_decide_eq_false ht56
    have hE71 := hE55; rw [ht56] at hE71; clear hE55
    refine wp_skip ?_
    refine p_bn ?_
    refine p_tn ?_
    refine c_seq ?_
    refine c_reg ?_
    refine q_step (v := .pointer (some ⟨b2, 1, none⟩)) hE71 (y_field rfl (fun _ => by kernel_rfl)) rfl rfl rfl ?_; intro a72 hE73; clear hE71
    refine q_step (v := .slice f1A f1.length f1C) hE73 (y_load (fun _ => by kernel_rfl) rfl (St.cell (i := 1) hS23 rfl rfl)) rfl rfl rfl ?_; intro a74 hE75; clear hE73
    refine l_step hE75 rfl (l_call (f := 105) (argv := [.slice f1A f1.length f1C]) hE75 (fun _ => cf_l05Least _ _) rfl rfl (c_l05Least f1A f1.length f1C f1 w20 (St.rdR (i := 2) hS23 rfl) (by omega)) ?_)
    rintro _ w77 ⟨b82, c83, rfl, ho84, he81⟩ a78 hE79; clear hE75
    have hll := least_len (a := f1) (n := f1.length) rfl
    have hS80 := St.own hS23 he81 ho84; clear hS23
    refine l_step hE79 rfl (l_call (f := 104) (argv := [.slice b82 ((F_l05Least f1).length) c83]) hE79 (fun _ => cf_l05Make _ _) rfl rfl (d_l05Make b82 ((F_l05Least f1).length) c83 (F_l05Least f1) w77 (St.rdO (i := 0) hS80 rfl) (by omega)) ?_)
    rintro _ w86 ⟨b91, c92, rfl, ho93, he90⟩ a87 hE88; clear hE79
    have hS89 := St.own hS80 he90 ho93; clear hS80
    refine l_step hE88 rfl (l_storeS (k := 2) (cs' := #[.int .i64 ((F_l05Least f1).length : Int), .slice b91 ((F_l05Least f1).length) c92]) hS89 hE88 (by kernel_rfl) rfl rfl (by kernel_rfl) rfl rfl ?_)
    intro w95 hS98 a96 hE97; clear hS89 hE88
    refine q_step (v := .int .i64 0) hE97 (y_assign rfl) rfl rfl rfl ?_; intro a100 hE101; clear hE97
    refine c_nil ?_
    have hE102 := hE101.sub (L' := [(2, .pointer (some ⟨b8, 0, none⟩)), (3, .int .i64 0)]) ⟨rfl, rfl, trivial⟩; clear hE101
    refine p_tn ?_
    refine wp_ret ?_
    have hF : F_s_LeastFrame f0 f1 = ((((F_l05Least f1).length : Int), (F_l05Least f1)), 0) := by unfold F_s_LeastFrame; rw [ht56, ht30]; first | done | rfl
    refine c_retC2 hE102 rfl rfl rfl Try.underlying30 rfl (by kernel_rfl) (St.row (i := 2) hS98 rfl _ (Ext.refl _)) ?_
    exact ⟨b91, c92, (by rw [hF]; first | done | (dsimp only; done) | rfl), (by rw [hF]; (try dsimp only); exact hS98.ok 0 _ rfl), hS98.ext⟩
end Go.Proofs.Ytlbonhloeefnmaa
