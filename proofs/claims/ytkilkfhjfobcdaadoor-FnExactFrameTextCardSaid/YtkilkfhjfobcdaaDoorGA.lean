/- GA: models and contracts, printed by wip/gen/gen.py -/
import Derived.Test.YtkilkfhjfobcdaaDoorLoud
set_option linter.unusedVariables false
set_option linter.unusedSimpArgs false
namespace Go.Proofs.YtkilkfhjfobcdaaDoor
open Go.RowKit

def F_l_szInt64S (ap : List Int) (left : Int) : Int :=
  bif (decide ((left - (ap.length : Int)) < 0)) then (-1) else (left - (ap.length : Int))
theorem cf_l_szInt64S (args : Array Value) (w : World) : (callFunc 9 args).run Tryd.prog w = .ok (.enter 9 args) w := by kernel_rfl
set_option maxRecDepth 100000 in
theorem c_l_szInt64S (apA : Option Addr) (apN apC : Nat) (ap : List Int) (left : Int) (w : World) (apR : RdS w 1 apA apN apC ap) (hl : left ≤ 1048576) (hl0 : 0 ≤ left) :
    Calls Tryd.prog 9 #[.slice apA apN apC, .int .i64 left] w (Ret fun v w' => v = .int .i64 (F_l_szInt64S ap left) ∧ w = w') := by
  obtain rfl : apN = ap.length := apR.len1.symm
  have apLe := apR.le
  have hS := St.nil w
  have hS1 := St.rd0 hS rfl apR; clear hS
  refine enter (args := [.slice apA ap.length apC, .int .i64 left]) Tryd.func9 rfl rfl ?_
  rw [Tryd.ntmps9]; intro a hE
  have hE := hE.sub (L' := [(0, .slice apA ap.length apC), (1, .int .i64 left)]) ⟨rfl, rfl, trivial⟩
  refine c_seq ?_
  refine c_reg ?_
  refine q_step (v := .int .i64 0) hE (y_assign rfl) rfl rfl rfl ?_; intro a2 hE3; clear hE
  refine c_nil ?_
  have hE4 := hE3.sub (L' := [(0, .slice apA ap.length apC), (1, .int .i64 left)]) ⟨rfl, rfl, trivial⟩; clear hE3
  refine p_tn ?_
  refine c_seq ?_
  refine c_reg ?_
  refine q_step (v := .int .i64 left) hE4 (y_move rfl) rfl rfl rfl ?_; intro a5 hE6; clear hE4
  refine q_step (v := .slice apA ap.length apC) hE6 (y_move rfl) rfl rfl rfl ?_; intro a7 hE8; clear hE6
  refine q_step (v := .int .i64 (ap.length : Int)) hE8 (y_len (e := 2) (by kernel_rfl) rfl) rfl rfl rfl ?_; intro a9 hE10; clear hE8
  refine q_step (v := .int .i64 (left - (ap.length : Int))) hE10 (y_sub rfl rfl ⟨(by omega), (by omega)⟩) rfl rfl rfl ?_; intro a11 hE12; clear hE10
  refine q_step (v := .int .i64 (left - (ap.length : Int))) hE12 (y_assign rfl) rfl rfl rfl ?_; intro a13 hE14; clear hE12
  refine c_nil ?_
  have hE15 := hE14.sub (L' := [(1, .int .i64 (left - (ap.length : Int)))]) ⟨rfl, trivial⟩; clear hE14
  refine p_tn ?_
  refine c_seq ?_
  refine c_seq ?_
  refine c_reg ?_
  refine q_step (v := .int .i64 (left - (ap.length : Int))) hE15 (y_move rfl) rfl rfl rfl ?_; intro a16 hE17; clear hE15
  refine q_step (v := .bool (decide ((left - (ap.length : Int)) < 0))) hE17 (y_lss rfl rfl) rfl rfl rfl ?_; intro a18 hE19; clear hE17
  refine c_nil ?_
  have hE20 := hE19.sub (L' := [(1, .int .i64 (left - (ap.length : Int))), (10, .bool (decide ((left - (ap.length : Int)) < 0)))]) ⟨rfl, rfl, trivial⟩; clear hE19
  refine p_tn ?_
  refine c_cond hE20 rfl (fun ht21 => ?_) (fun ht21 => ?_)
  ·
   have hp22 := of_decide_eq_true ht21
   have hE23 := hE20; rw [ht21] at hE23; clear hE20
   refine c_seq ?_
   refine c_reg ?_
   refine q_step (v := .int .i64 (-1)) hE23 (y_assign rfl) rfl rfl rfl ?_; intro a24 hE25; clear hE23
   refine c_nil ?_
   have hE26 := hE25.sub (L' := [(4, .int .i64 (-1))]) ⟨rfl, trivial⟩; clear hE25
   refine p_tn ?_
   refine wp_ret ?_
   refine p_tr ?_
   have hF : F_l_szInt64S ap left = -1 := by unfold F_l_szInt64S; rw [ht21]; first | done | rfl
   refine c_ret1 hE26 rfl rfl ?_
   exact ⟨(by rw [hF]; first | done | (dsimp only; done) | rfl), rfl⟩
  ·
   have hp27 := of_decide_eq_false ht21
   have hE28 := hE20; rw [ht21] at hE28; clear hE20
   refine wp_skip ?_
   refine p_tn ?_
   refine c_seq ?_
   refine c_reg ?_
   refine q_step (v := .int .i64 (left - (ap.length : Int))) hE28 (y_move rfl) rfl rfl rfl ?_; intro a29 hE30; clear hE28
   refine q_step (v := .int .i64 (left - (ap.length : Int))) hE30 (y_assign rfl) rfl rfl rfl ?_; intro a31 hE32; clear hE30
   refine c_nil ?_
   have hE33 := hE32.sub (L' := [(4, .int .i64 (left - (ap.length : Int)))]) ⟨rfl, trivial⟩; clear hE32
   refine p_tn ?_
   refine wp_ret ?_
   have hF : F_l_szInt64S ap left = left - (ap.length : Int) := by unfold F_l_szInt64S; rw [ht21]; first | done | rfl
   refine c_ret1 hE33 rfl rfl ?_
   exact ⟨(by rw [hF]; first | done | (dsimp only; done) | rfl), rfl⟩

def F_l_toInt64S_L1b (ap : List Int) (rec : Int → (List Int) → Int × (List Int)) (i4 : Int) (out3 : List Int) : Int × (List Int) :=
  bif (decide (i4 < (ap.length : Int))) then (rec (i4 + 1) (sI out3 i4 (gI ap i4))) else (i4, out3)
def F_l_toInt64S_L1 (ap : List Int) : Nat → Int → (List Int) → Int × (List Int)
  | 0, i4, out3 => (i4, out3)
  | r + 1, i4, out3 => F_l_toInt64S_L1b ap (F_l_toInt64S_L1 ap r) i4 out3
def F_l_toInt64S (ap : List Int) : List Int :=
  (F_l_toInt64S_L1 ap (Int.toNat ((ap.length : Int) - 0) + 1) 0 (List.replicate (Int.toNat (ap.length : Int)) 0)).2
theorem cf_l_toInt64S (args : Array Value) (w : World) : (callFunc 12 args).run Tryd.prog w = .ok (.enter 12 args) w := by kernel_rfl
set_option maxRecDepth 100000 in
theorem c_l_toInt64S (apA : Option Addr) (apN apC : Nat) (ap : List Int) (w : World) (apR : RdS w 1 apA apN apC ap) (hl : ap.length ≤ 1048576) :
    Calls Tryd.prog 12 #[.slice apA apN apC] w (Ret fun v w' => ∃ b1 : Option Addr, ∃ c1 : Nat, v = .slice b1 (F_l_toInt64S ap).length c1 ∧ OwnS w' w.heap.size 2 1 b1 (F_l_toInt64S ap).length c1 (F_l_toInt64S ap) ∧ Ext w w') := by
  obtain rfl : apN = ap.length := apR.len1.symm
  have apLe := apR.le
  have hS := St.nil w
  have hS1 := St.rd0 hS rfl apR; clear hS
  refine enter (args := [.slice apA ap.length apC]) Tryd.func12 rfl rfl ?_
  rw [Tryd.ntmps12]; intro a hE
  have hE := hE.sub (L' := [(0, .slice apA ap.length apC)]) ⟨rfl, trivial⟩
  refine c_seq ?_
  refine c_reg ?_
  refine q_step (v := .slice none 0 0) hE (y_assign rfl) rfl rfl rfl ?_; intro a2 hE3; clear hE
  refine c_nil ?_
  have hE4 := hE3.sub (L' := [(0, .slice apA ap.length apC)]) ⟨rfl, trivial⟩; clear hE3
  refine p_tn ?_
  refine c_seq ?_
  refine c_reg ?_
  refine q_step (v := .slice apA ap.length apC) hE4 (y_move rfl) rfl rfl rfl ?_; intro a5 hE6; clear hE4
  refine q_step (v := .int .i64 (ap.length : Int)) hE6 (y_len (e := 2) (by kernel_rfl) rfl) rfl rfl rfl ?_; intro a7 hE8; clear hE6
  refine l_step hE8 rfl (l_make (e := 2) (m := (ap.length : Int)) hS1 hE8 (by kernel_rfl) (by kernel_rfl) rfl rfl (by omega) (by omega) rfl ?_)
  intro b9 w10 hS13 he14 a11 hE12; clear hS1 hE8
  refine q_step (v := .slice b9 (Int.toNat (ap.length : Int)) (Int.toNat (ap.length : Int))) hE12 (y_assign rfl) rfl rfl rfl ?_; intro a15 hE16; clear hE12
  refine c_nil ?_
  have hE17 := hE16.sub (L' := [(0, .slice apA ap.length apC), (3, .slice b9 (Int.toNat (ap.length : Int)) (Int.toNat (ap.length : Int)))]) ⟨rfl, rfl, trivial⟩; clear hE16
  refine p_tn ?_
  refine c_seq ?_
  refine c_seq ?_
  refine c_reg ?_
  refine q_step (v := .int .i64 0) hE17 (y_assign rfl) rfl rfl rfl ?_; intro a18 hE19; clear hE17
  refine c_nil ?_
  have hE20 := hE19.sub (L' := [(0, .slice apA ap.length apC), (3, .slice b9 (Int.toNat (ap.length : Int)) (Int.toNat (ap.length : Int))), (4, .int .i64 0)]) ⟨rfl, rfl, rfl, trivial⟩; clear hE19
  refine p_tn ?_
  refine c_cut1 (fun a' w' => (0 ≤ ((F_l_toInt64S_L1 ap (Int.toNat ((ap.length : Int) - 0) + 1) 0 (List.replicate (Int.toNat (ap.length : Int)) 0)).1)) ∧ (((F_l_toInt64S_L1 ap (Int.toNat ((ap.length : Int) - 0) + 1) 0 (List.replicate (Int.toNat (ap.length : Int)) 0)).1) ≤ (ap.length : Int)) ∧ E a' 22 [(0, .slice apA ap.length apC), (3, .slice b9 (Int.toNat (ap.length : Int)) (Int.toNat (ap.length : Int))), (4, .int .i64 ((F_l_toInt64S_L1 ap (Int.toNat ((ap.length : Int) - 0) + 1) 0 (List.replicate (Int.toNat (ap.length : Int)) 0)).1))] ∧ St w w' [.own 2 1 b9 (Int.toNat (ap.length : Int)) (Int.toNat (ap.length : Int)) ((F_l_toInt64S_L1 ap (Int.toNat ((ap.length : Int) - 0) + 1) 0 (List.replicate (Int.toNat (ap.length : Int)) 0)).2), .rd 1 apA ap.length apC ap]) ?_ ?_
  ·
   refine wp_block ?_
   refine c_loop (fun r a' w' => ∃ i4 : Int, ∃ out3 : List Int, F_l_toInt64S_L1 ap r i4 out3 = F_l_toInt64S_L1 ap (Int.toNat ((ap.length : Int) - 0) + 1) 0 (List.replicate (Int.toNat (ap.length : Int)) 0) ∧ Int.toNat ((ap.length : Int) - i4) < r ∧ (0 ≤ i4) ∧ (i4 ≤ (ap.length : Int)) ∧ E a' 22 [(0, .slice apA ap.length apC), (3, .slice b9 (Int.toNat (ap.length : Int)) (Int.toNat (ap.length : Int))), (4, .int .i64 i4)] ∧ St w w' [.own 2 1 b9 (Int.toNat (ap.length : Int)) (Int.toNat (ap.length : Int)) out3, .rd 1 apA ap.length apC ap]) (r := (Int.toNat ((ap.length : Int) - 0) + 1)) ?_ ?_
   · exact ⟨0, List.replicate (Int.toNat (ap.length : Int)) 0, rfl, Nat.lt_succ_self _, (by first | omega | (simp only [sS_len, sL_len]; omega) | (simp only [List.length_replicate, sI_len]; omega) | (simp only [List.length_append, List.length_cons, List.length_nil, sI_len, cond_true, cond_false]; omega) | (simp only [List.length_append, List.length_cons, List.length_nil, sI_len, cond_eq_ite, apply_ite List.length]; split <;> simp only [List.length_append, List.length_cons, List.length_nil, sI_len] <;> omega) | grind), (by first | omega | (simp only [sS_len, sL_len]; omega) | (simp only [List.length_replicate, sI_len]; omega) | (simp only [List.length_append, List.length_cons, List.length_nil, sI_len, cond_true, cond_false]; omega) | (simp only [List.length_append, List.length_cons, List.length_nil, sI_len, cond_eq_ite, apply_ite List.length]; split <;> simp only [List.length_append, List.length_cons, List.length_nil, sI_len] <;> omega) | grind), (hE20.sub (L' := [(0, .slice apA ap.length apC), (3, .slice b9 (Int.toNat (ap.length : Int)) (Int.toNat (ap.length : Int))), (4, .int .i64 0)]) ⟨rfl, rfl, rfl, trivial⟩), (St.pick (Γ' := [.own 2 1 b9 (Int.toNat (ap.length : Int)) (Int.toNat (ap.length : Int)) (List.replicate (Int.toNat (ap.length : Int)) 0), .rd 1 apA ap.length apC ap]) hS13 [0, 1] (by decide) rfl)⟩
   ·
    clear hE20 hS13
    rintro r30 a22 w23 ⟨i4, out3, hT26, hr27, hi28, hi29, hE24, hS25⟩
    obtain ⟨r30, rfl⟩ : ∃ r', r30 = r' + 1 := ⟨r30 - 1, by omega⟩
    refine c_seq ?_
    refine c_seq ?_
    refine c_reg ?_
    refine q_step (v := .int .i64 i4) hE24 (y_move rfl) rfl rfl rfl ?_; intro a31 hE32; clear hE24
    refine q_step (v := .slice apA ap.length apC) hE32 (y_move rfl) rfl rfl rfl ?_; intro a33 hE34; clear hE32
    refine q_step (v := .int .i64 (ap.length : Int)) hE34 (y_len (e := 2) (by kernel_rfl) rfl) rfl rfl rfl ?_; intro a35 hE36; clear hE34
    refine q_step (v := .bool (decide (i4 < (ap.length : Int)))) hE36 (y_lss rfl rfl) rfl rfl rfl ?_; intro a37 hE38; clear hE36
    refine c_nil ?_
    have hE39 := hE38.sub (L' := [(0, .slice apA ap.length apC), (3, .slice b9 (Int.toNat (ap.length : Int)) (Int.toNat (ap.length : Int))), (4, .int .i64 i4), (11, .bool (decide (i4 < (ap.length : Int))))]) ⟨rfl, rfl, rfl, rfl, trivial⟩; clear hE38
    refine p_tn ?_
    refine c_cond hE39 rfl (fun ht40 => ?_) (fun ht40 => ?_)
    ·
     have hp41 := of_decide_eq_true ht40
     have hE42 := hE39; rw [ht40] at hE42; clear hE39
     refine wp_skip ?_
     refine p_tn ?_
     refine c_seq ?_
     refine wp_block ?_
     refine c_reg ?_
     refine q_step (v := .slice b9 (Int.toNat (ap.length : Int)) (Int.toNat (ap.length : Int))) hE42 (y_move rfl) rfl rfl rfl ?_; intro a43 hE44; clear hE42
     refine q_step (v := .int .i64 i4) hE44 (y_move rfl) rfl rfl rfl ?_; intro a45 hE46; clear hE44
     refine q_step (v := .slice apA ap.length apC) hE46 (y_move rfl) rfl rfl rfl ?_; intro a47 hE48; clear hE46
     refine q_step (v := .int .i64 i4) hE48 (y_move rfl) rfl rfl rfl ?_; intro a49 hE50; clear hE48
     refine q_step (v := .pointer (some (adr apA (Int.toNat i4)))) hE50 (y_idx (by kernel_rfl) (fun _ => by kernel_rfl) rfl rfl (RdS.isS (m := i4) (St.rdR (i := 1) hS25 rfl) (by omega) (by omega)) (by omega) (by omega) (Nat.mul_one _).symm) rfl rfl rfl ?_; intro a51 hE52; clear hE50
     refine q_step (v := .int .i64 (gI ap i4)) hE52 (y_load (fun _ => by kernel_rfl) rfl (RdS.elt (St.rdR (i := 1) hS25 rfl) (by omega) (by omega))) rfl rfl rfl ?_; intro a53 hE54; clear hE52
     refine q_step (v := .pointer (some (adr b9 (Int.toNat i4)))) hE54 (y_idx (by kernel_rfl) (fun _ => by kernel_rfl) rfl rfl (RdS.isS (m := i4) (St.rdO (i := 0) hS25 rfl) (by omega) (by omega)) (by omega) (by omega) (Nat.mul_one _).symm) rfl rfl rfl ?_; intro a55 hE56; clear hE54
     refine l_step hE56 rfl (l_store (k := 0) hS25 hE56 (fun _ => by kernel_rfl) rfl rfl rfl (by omega) (by omega) ?_)
     intro w58 hS61 a59 hE60; clear hS25 hE56
     refine c_nil ?_
     have hE63 := hE60.sub (L' := [(0, .slice apA ap.length apC), (3, .slice b9 (Int.toNat (ap.length : Int)) (Int.toNat (ap.length : Int))), (4, .int .i64 i4)]) ⟨rfl, rfl, rfl, trivial⟩; clear hE60
     refine p_bn ?_
     refine p_tn ?_
     refine c_reg ?_
     refine q_step (v := .int .i64 i4) hE63 (y_move rfl) rfl rfl rfl ?_; intro a64 hE65; clear hE63
     refine q_step (v := .int .i64 (i4 + 1)) hE65 (y_add rfl rfl ⟨(by omega), (by omega)⟩) rfl rfl rfl ?_; intro a66 hE67; clear hE65
     refine q_step (v := .int .i64 (i4 + 1)) hE67 (y_assign rfl) rfl rfl rfl ?_; intro a68 hE69; clear hE67
     refine c_nil ?_
     have hE70 := hE69.sub (L' := [(0, .slice apA ap.length apC), (3, .slice b9 (Int.toNat (ap.length : Int)) (Int.toNat (ap.length : Int))), (4, .int .i64 (i4 + 1))]) ⟨rfl, rfl, rfl, trivial⟩; clear hE69
     refine p_tn ⟨r30, Nat.lt_succ_self _, i4 + 1, sI out3 i4 (gI ap i4), (hT26.symm.trans (show F_l_toInt64S_L1b ap (F_l_toInt64S_L1 ap r30) i4 out3 = F_l_toInt64S_L1 ap r30 (i4 + 1) (sI out3 i4 (gI ap i4)) by unfold F_l_toInt64S_L1b; rw [ht40]; first | done | rfl)).symm, (by omega), (by first | omega | (simp only [sS_len, sL_len]; omega) | (simp only [List.length_replicate, sI_len]; omega) | (simp only [List.length_append, List.length_cons, List.length_nil, sI_len, cond_true, cond_false]; omega) | (simp only [List.length_append, List.length_cons, List.length_nil, sI_len, cond_eq_ite, apply_ite List.length]; split <;> simp only [List.length_append, List.length_cons, List.length_nil, sI_len] <;> omega) | grind), (by first | omega | (simp only [sS_len, sL_len]; omega) | (simp only [List.length_replicate, sI_len]; omega) | (simp only [List.length_append, List.length_cons, List.length_nil, sI_len, cond_true, cond_false]; omega) | (simp only [List.length_append, List.length_cons, List.length_nil, sI_len, cond_eq_ite, apply_ite List.length]; split <;> simp only [List.length_append, List.length_cons, List.length_nil, sI_len] <;> omega) | grind), (hE70.sub (L' := [(0, .slice apA ap.length apC), (3, .slice b9 (Int.toNat (ap.length : Int)) (Int.toNat (ap.length : Int))), (4, .int .i64 (i4 + 1))]) ⟨rfl, rfl, rfl, trivial⟩), (St.pick (Γ' := [.own 2 1 b9 (Int.toNat (ap.length : Int)) (Int.toNat (ap.length : Int)) (sI out3 i4 (gI ap i4)), .rd 1 apA ap.length apC ap]) hS61 [0, 1] (by decide) rfl)⟩
    ·
     have hp71 := of_decide_eq_false ht40
     have hE72 := hE39; rw [ht40] at hE72; clear hE39
     refine wp_exit ?_
     refine p_te ?_
     have hX73 : F_l_toInt64S_L1 ap (Int.toNat ((ap.length : Int) - 0) + 1) 0 (List.replicate (Int.toNat (ap.length : Int)) 0) = (i4, out3) := hT26.symm.trans (show F_l_toInt64S_L1b ap (F_l_toInt64S_L1 ap r30) i4 out3 = (i4, out3) by unfold F_l_toInt64S_L1b; rw [ht40]; first | done | rfl)
     refine p_te (p_be (p_tn ?_))
     exact ⟨(by rw [hX73]; exact (show 0 ≤ i4 from (by first | omega | (simp only [sS_len, sL_len]; omega) | (simp only [List.length_replicate, sI_len]; omega) | (simp only [List.length_append, List.length_cons, List.length_nil, sI_len, cond_true, cond_false]; omega) | (simp only [List.length_append, List.length_cons, List.length_nil, sI_len, cond_eq_ite, apply_ite List.length]; split <;> simp only [List.length_append, List.length_cons, List.length_nil, sI_len] <;> omega) | grind))), (by rw [hX73]; exact (show i4 ≤ (ap.length : Int) from (by first | omega | (simp only [sS_len, sL_len]; omega) | (simp only [List.length_replicate, sI_len]; omega) | (simp only [List.length_append, List.length_cons, List.length_nil, sI_len, cond_true, cond_false]; omega) | (simp only [List.length_append, List.length_cons, List.length_nil, sI_len, cond_eq_ite, apply_ite List.length]; split <;> simp only [List.length_append, List.length_cons, List.length_nil, sI_len] <;> omega) | grind))), (by rw [hX73]; exact (hE72.sub (L' := [(0, .slice apA ap.length apC), (3, .slice b9 (Int.toNat (ap.length : Int)) (Int.toNat (ap.length : Int))), (4, .int .i64 i4)]) ⟨rfl, rfl, rfl, trivial⟩)), (by rw [hX73]; exact (St.pick (Γ' := [.own 2 1 b9 (Int.toNat (ap.length : Int)) (Int.toNat (ap.length : Int)) out3, .rd 1 apA ap.length apC ap]) hS25 [0, 1] (by decide) rfl))⟩
  ·
   rintro a74 w75 ⟨hi79, hi80, hE76, hS77⟩; clear hE20 hS13
   refine p_tn ?_
   refine c_seq ?_
   refine c_reg ?_
   refine q_step (v := .slice b9 (Int.toNat (ap.length : Int)) (Int.toNat (ap.length : Int))) hE76 (y_move rfl) rfl rfl rfl ?_; intro a81 hE82; clear hE76
   refine q_step (v := .slice b9 (Int.toNat (ap.length : Int)) (Int.toNat (ap.length : Int))) hE82 (y_assign rfl) rfl rfl rfl ?_; intro a83 hE84; clear hE82
   refine c_nil ?_
   have hE85 := hE84.sub (L' := [(2, .slice b9 (Int.toNat (ap.length : Int)) (Int.toNat (ap.length : Int)))]) ⟨rfl, trivial⟩; clear hE84
   refine p_tn ?_
   refine wp_ret ?_
   have hF : F_l_toInt64S ap = (F_l_toInt64S_L1 ap (Int.toNat ((ap.length : Int) - 0) + 1) 0 (List.replicate (Int.toNat (ap.length : Int)) 0)).2 := by unfold F_l_toInt64S; rfl
   refine c_ret1 hE85 rfl rfl ?_
   exact ⟨b9, Int.toNat (ap.length : Int), (by rw [hF]; first | rfl | (rw [(St.rdO (i := 0) hS77 rfl).len1])), (by rw [hF, (St.rdO (i := 0) hS77 rfl).len1]; (try dsimp only); exact hS77.ok 0 _ rfl), hS77.ext⟩

theorem toI_key (ap : List Int) : ∀ (k : Nat) (i : Int) (xs : List Int), 0 ≤ i → (ap.length : Int) - i = k → xs.length = ap.length → (∀ j : Nat, (j : Int) < i → gi xs j = gi ap j) → (F_l_toInt64S_L1 ap (k + 1) i xs).2 = ap := by
  intro k
  induction k with
  | zero =>
    intro i xs h0 hk hl hp
    show (F_l_toInt64S_L1b ap _ i xs).2 = ap
    unfold F_l_toInt64S_L1b
    rw [decide_eq_false (by omega)]
    show xs = ap
    exact ext_gi hl fun j hj => hp j (by omega)
  | succ k ih =>
    intro i xs h0 hk hl hp
    show (F_l_toInt64S_L1b ap _ i xs).2 = ap
    unfold F_l_toInt64S_L1b
    rw [decide_eq_true (by omega)]
    refine ih (i + 1) (sI xs i (gI ap i)) (by omega) (by omega) (by rw [sI_len]; exact hl) fun j hj => ?_
    unfold sI gI
    rw [gi_set (by omega)]
    by_cases e : i.toNat = j
    · rw [if_pos e, e]
    · rw [if_neg e]; exact hp j (by omega)
theorem toI_eq (ap : List Int) : F_l_toInt64S ap = ap := by
  unfold F_l_toInt64S
  have e : Int.toNat ((ap.length : Int) - 0) = ap.length := by omega
  rw [e]
  exact toI_key ap ap.length 0 _ (by omega) (by omega) (by simp) fun j hj => by omega
theorem d_l_toInt64S (apA : Option Addr) (apN apC : Nat) (ap : List Int) (w : World) (apR : RdS w 1 apA apN apC ap) (hl : ap.length ≤ 1048576) :
    Calls Tryd.prog 12 #[.slice apA apN apC] w (Ret fun v w' => ∃ b1 : Option Addr, ∃ c1 : Nat, v = .slice b1 ap.length c1 ∧ OwnS w' w.heap.size 2 1 b1 ap.length c1 ap ∧ Ext w w') := by
  have := c_l_toInt64S apA apN apC ap w apR hl
  rwa [toI_eq] at this

def F_l_eqInt64S_L1b (ap : List Int) (bp : List Int) (rec : Int → Except (Bool) (Int)) (i5 : Int) : Except (Bool) (Int) :=
  bif (decide (i5 < (ap.length : Int))) then (bif (!decide ((gI ap i5) = (gI bp i5))) then (.error false) else (rec (i5 + 1))) else (.ok i5)
def F_l_eqInt64S_L1 (ap : List Int) (bp : List Int) : Nat → Int → Except (Bool) (Int)
  | 0, i5 => .ok i5
  | r + 1, i5 => F_l_eqInt64S_L1b ap bp (F_l_eqInt64S_L1 ap bp r) i5
def F_l_eqInt64S (ap : List Int) (bp : List Int) : Bool :=
  bif (!decide ((ap.length : Int) = (bp.length : Int))) then false else (bif (isOk (F_l_eqInt64S_L1 ap bp (Int.toNat ((ap.length : Int) - 0) + 1) 0)) then true else (errD (F_l_eqInt64S_L1 ap bp (Int.toNat ((ap.length : Int) - 0) + 1) 0)))
theorem cf_l_eqInt64S (args : Array Value) (w : World) : (callFunc 15 args).run Tryd.prog w = .ok (.enter 15 args) w := by kernel_rfl
set_option maxRecDepth 100000 in
theorem c_l_eqInt64S (apA : Option Addr) (apN apC : Nat) (ap : List Int) (bpA : Option Addr) (bpN bpC : Nat) (bp : List Int) (w : World) (apR : RdS w 1 apA apN apC ap) (bpR : RdS w 1 bpA bpN bpC bp) :
    Calls Tryd.prog 15 #[.slice apA apN apC, .slice bpA bpN bpC] w (Ret fun v w' => v = .bool (F_l_eqInt64S ap bp) ∧ Ext w w') := by
  obtain rfl : apN = ap.length := apR.len1.symm
  have apLe := apR.le
  obtain rfl : bpN = bp.length := bpR.len1.symm
  have bpLe := bpR.le
  have hS := St.nil w
  have hS1 := St.rd0 hS rfl apR; clear hS
  have hS2 := St.rd0 hS1 rfl bpR; clear hS1
  refine enter (args := [.slice apA ap.length apC, .slice bpA bp.length bpC]) Tryd.func15 rfl rfl ?_
  rw [Tryd.ntmps15]; intro a hE
  have hE := hE.sub (L' := [(0, .slice apA ap.length apC), (1, .slice bpA bp.length bpC)]) ⟨rfl, rfl, trivial⟩
  refine c_seq ?_
  refine c_reg ?_
  refine q_step (v := .bool false) hE (y_assign rfl) rfl rfl rfl ?_; intro a3 hE4; clear hE
  refine c_nil ?_
  have hE5 := hE4.sub (L' := [(0, .slice apA ap.length apC), (1, .slice bpA bp.length bpC)]) ⟨rfl, rfl, trivial⟩; clear hE4
  refine p_tn ?_
  refine c_seq ?_
  refine c_seq ?_
  refine c_reg ?_
  refine q_step (v := .slice apA ap.length apC) hE5 (y_move rfl) rfl rfl rfl ?_; intro a6 hE7; clear hE5
  refine q_step (v := .int .i64 (ap.length : Int)) hE7 (y_len (e := 2) (by kernel_rfl) rfl) rfl rfl rfl ?_; intro a8 hE9; clear hE7
  refine q_step (v := .slice bpA bp.length bpC) hE9 (y_move rfl) rfl rfl rfl ?_; intro a10 hE11; clear hE9
  refine q_step (v := .int .i64 (bp.length : Int)) hE11 (y_len (e := 2) (by kernel_rfl) rfl) rfl rfl rfl ?_; intro a12 hE13; clear hE11
  refine q_step (v := .bool (!decide ((ap.length : Int) = (bp.length : Int)))) hE13 (y_neq rfl rfl) rfl rfl rfl ?_; intro a14 hE15; clear hE13
  refine c_nil ?_
  have hE16 := hE15.sub (L' := [(0, .slice apA ap.length apC), (1, .slice bpA bp.length bpC), (10, .bool (!decide ((ap.length : Int) = (bp.length : Int))))]) ⟨rfl, rfl, rfl, trivial⟩; clear hE15
  refine p_tn ?_
  refine c_cond hE16 rfl (fun ht17 => ?_) (fun ht17 => ?_)
  ·
   have ht18 := bn_t ht17
   have hp19 := of_decide_eq_false ht18
   have hE20 := hE16; rw [ht17] at hE20; clear hE16
   refine c_seq ?_
   refine c_reg ?_
   refine q_step (v := .bool false) hE20 (y_assign rfl) rfl rfl rfl ?_; intro a21 hE22; clear hE20
   refine c_nil ?_
   have hE23 := hE22.sub (L' := [(4, .bool false)]) ⟨rfl, trivial⟩; clear hE22
   refine p_tn ?_
   refine wp_ret ?_
   refine p_tr ?_
   have hF : F_l_eqInt64S ap bp = false := by unfold F_l_eqInt64S; rw [ht17]; first | done | rfl
   refine c_ret1 hE23 rfl rfl ?_
   exact ⟨(by rw [hF]; first | done | (dsimp only; done) | rfl), hS2.ext⟩
  ·
   have ht24 := bn_f ht17
   have hp25 := of_decide_eq_true ht24
   have hE26 := hE16; rw [ht17] at hE26; clear hE16
   refine wp_skip ?_
   refine p_tn ?_
   refine c_seq ?_
   refine c_seq ?_
   refine c_reg ?_
   refine q_step (v := .int .i64 0) hE26 (y_assign rfl) rfl rfl rfl ?_; intro a27 hE28; clear hE26
   refine c_nil ?_
   have hE29 := hE28.sub (L' := [(0, .slice apA ap.length apC), (1, .slice bpA bp.length bpC), (5, .int .i64 0)]) ⟨rfl, rfl, rfl, trivial⟩; clear hE28
   refine p_tn ?_
   refine c_cut1 (fun a' w' => isOk (F_l_eqInt64S_L1 ap bp (Int.toNat ((ap.length : Int) - 0) + 1) 0) = true ∧ (0 ≤ (okD (F_l_eqInt64S_L1 ap bp (Int.toNat ((ap.length : Int) - 0) + 1) 0))) ∧ ((okD (F_l_eqInt64S_L1 ap bp (Int.toNat ((ap.length : Int) - 0) + 1) 0)) ≤ (ap.length : Int)) ∧ E a' 26 [(0, .slice apA ap.length apC), (1, .slice bpA bp.length bpC), (5, .int .i64 (okD (F_l_eqInt64S_L1 ap bp (Int.toNat ((ap.length : Int) - 0) + 1) 0)))] ∧ St w w' [.rd 1 bpA bp.length bpC bp, .rd 1 apA ap.length apC ap]) ?_ ?_
   ·
    refine wp_block ?_
    refine c_loop (fun r a' w' => ∃ i5 : Int, F_l_eqInt64S_L1 ap bp r i5 = F_l_eqInt64S_L1 ap bp (Int.toNat ((ap.length : Int) - 0) + 1) 0 ∧ Int.toNat ((ap.length : Int) - i5) < r ∧ (0 ≤ i5) ∧ (i5 ≤ (ap.length : Int)) ∧ E a' 26 [(0, .slice apA ap.length apC), (1, .slice bpA bp.length bpC), (5, .int .i64 i5)] ∧ St w w' [.rd 1 bpA bp.length bpC bp, .rd 1 apA ap.length apC ap]) (r := (Int.toNat ((ap.length : Int) - 0) + 1)) ?_ ?_
    · exact ⟨0, rfl, Nat.lt_succ_self _, (by first | omega | (simp only [sS_len, sL_len]; omega) | (simp only [List.length_replicate, sI_len]; omega) | (simp only [List.length_append, List.length_cons, List.length_nil, sI_len, cond_true, cond_false]; omega) | (simp only [List.length_append, List.length_cons, List.length_nil, sI_len, cond_eq_ite, apply_ite List.length]; split <;> simp only [List.length_append, List.length_cons, List.length_nil, sI_len] <;> omega) | grind), (by first | omega | (simp only [sS_len, sL_len]; omega) | (simp only [List.length_replicate, sI_len]; omega) | (simp only [List.length_append, List.length_cons, List.length_nil, sI_len, cond_true, cond_false]; omega) | (simp only [List.length_append, List.length_cons, List.length_nil, sI_len, cond_eq_ite, apply_ite List.length]; split <;> simp only [List.length_append, List.length_cons, List.length_nil, sI_len] <;> omega) | grind), (hE29.sub (L' := [(0, .slice apA ap.length apC), (1, .slice bpA bp.length bpC), (5, .int .i64 0)]) ⟨rfl, rfl, rfl, trivial⟩), (St.pick (Γ' := [.rd 1 bpA bp.length bpC bp, .rd 1 apA ap.length apC ap]) hS2 [0, 1] (by decide) rfl)⟩
    ·
     clear hE29 hS2
     rintro r39 a31 w32 ⟨i5, hT35, hr36, hi37, hi38, hE33, hS34⟩
     obtain ⟨r39, rfl⟩ : ∃ r', r39 = r' + 1 := ⟨r39 - 1, by omega⟩
     refine c_seq ?_
     refine c_seq ?_
     refine c_reg ?_
     refine q_step (v := .int .i64 i5) hE33 (y_move rfl) rfl rfl rfl ?_; intro a40 hE41; clear hE33
     refine q_step (v := .slice apA ap.length apC) hE41 (y_move rfl) rfl rfl rfl ?_; intro a42 hE43; clear hE41
     refine q_step (v := .int .i64 (ap.length : Int)) hE43 (y_len (e := 2) (by kernel_rfl) rfl) rfl rfl rfl ?_; intro a44 hE45; clear hE43
     refine q_step (v := .bool (decide (i5 < (ap.length : Int)))) hE45 (y_lss rfl rfl) rfl rfl rfl ?_; intro a46 hE47; clear hE45
     refine c_nil ?_
     have hE48 := hE47.sub (L' := [(0, .slice apA ap.length apC), (1, .slice bpA bp.length bpC), (5, .int .i64 i5), (14, .bool (decide (i5 < (ap.length : Int))))]) ⟨rfl, rfl, rfl, rfl, trivial⟩; clear hE47
     refine p_tn ?_
     refine c_cond hE48 rfl (fun ht49 => ?_) (fun ht49 => ?_)
     ·
      have hp50 := of_decide_eq_true ht49
      have hE51 := hE48; rw [ht49] at hE51; clear hE48
      refine wp_skip ?_
      refine p_tn ?_
      refine c_seq ?_
      refine wp_block ?_
      refine c_seq ?_
      refine d_start (fun w w' => (fun w' => w'.cell? (adr apA (Int.toNat i5)) = some (.int .i64 (gI ap i5)) ∧ w'.cell? (adr bpA (Int.toNat i5)) = some (.int .i64 (gI bp i5)) ∧ True) w → (fun w' => w'.cell? (adr apA (Int.toNat i5)) = some (.int .i64 (gI ap i5)) ∧ w'.cell? (adr bpA (Int.toNat i5)) = some (.int .i64 (gI bp i5)) ∧ True) w') [3, 7] 9 (by kernel_rfl) rfl ?_
      intro w52 he53; have hS54 := St.go hS34 he53; clear hS34
      refine d_pure (fun _ h => h) (v := .slice apA ap.length apC) 0 rfl hE51 (y_move rfl) rfl (by kernel_rfl) (by kernel_rfl) (by kernel_rfl) rfl rfl (fun _ _ _ h => h) ?_; intro a55 hE56; clear hE51
      refine d_pure (fun _ h => h) (v := .int .i64 i5) 1 rfl hE56 (y_move rfl) rfl (by kernel_rfl) (by kernel_rfl) (by kernel_rfl) rfl rfl (fun _ _ _ h => h) ?_; intro a57 hE58; clear hE56
      refine d_pure (fun _ h => h) (v := .pointer (some (adr apA (Int.toNat i5)))) 2 rfl hE58 (y_idx (by kernel_rfl) (fun _ => by kernel_rfl) rfl rfl (RdS.isS (m := i5) (St.rdR (i := 1) hS54 rfl) (by omega) (by omega)) (by omega) (by omega) (Nat.mul_one _).symm) rfl (by kernel_rfl) (by kernel_rfl) (by kernel_rfl) rfl rfl (fun _ _ _ h => h) ?_; intro a59 hE60; clear hE58
      refine d_take (fun _ h => h) (fun _ _ h k => h k) (v := .int .i64 (gI ap i5)) 3 rfl hE60 (S := fun w' => w'.cell? (adr apA (Int.toNat i5)) = some (.int .i64 (gI ap i5)) ∧ w'.cell? (adr bpA (Int.toNat i5)) = some (.int .i64 (gI bp i5)) ∧ True) ⟨(RdS.elt (St.rdR (i := 1) hS54 rfl) (by omega) (by omega) _ (Ext.refl _)), (RdS.elt (St.rdR (i := 0) hS54 rfl) (by omega) (by omega) _ (Ext.refl _)), trivial⟩ (y_load (fun _ => by kernel_rfl) rfl (fun _ h => h.1)) rfl rfl (by kernel_rfl) (by kernel_rfl) (by kernel_rfl) (by kernel_rfl) rfl rfl (fun _ _ _ h => h) ?_; intro a61 hE62; clear hE60
      refine d_pure (fun _ h => h) (v := .slice bpA bp.length bpC) 4 rfl hE62 (y_move rfl) rfl (by kernel_rfl) (by kernel_rfl) (by kernel_rfl) rfl rfl (fun _ _ _ h => h) ?_; intro a63 hE64; clear hE62
      refine d_pure (fun _ h => h) (v := .int .i64 i5) 5 rfl hE64 (y_move rfl) rfl (by kernel_rfl) (by kernel_rfl) (by kernel_rfl) rfl rfl (fun _ _ _ h => h) ?_; intro a65 hE66; clear hE64
      refine d_pure (fun _ h => h) (v := .pointer (some (adr bpA (Int.toNat i5)))) 6 rfl hE66 (y_idx (by kernel_rfl) (fun _ => by kernel_rfl) rfl rfl (RdS.isS (m := i5) (St.rdR (i := 0) hS54 rfl) (by omega) (by omega)) (by omega) (by omega) (Nat.mul_one _).symm) rfl (by kernel_rfl) (by kernel_rfl) (by kernel_rfl) rfl rfl (fun _ _ _ h => h) ?_; intro a67 hE68; clear hE66
      refine d_take (fun _ h => h) (fun _ _ h k => h k) (v := .int .i64 (gI bp i5)) 7 rfl hE68 (S := fun w' => w'.cell? (adr apA (Int.toNat i5)) = some (.int .i64 (gI ap i5)) ∧ w'.cell? (adr bpA (Int.toNat i5)) = some (.int .i64 (gI bp i5)) ∧ True) ⟨(RdS.elt (St.rdR (i := 1) hS54 rfl) (by omega) (by omega) _ (Ext.refl _)), (RdS.elt (St.rdR (i := 0) hS54 rfl) (by omega) (by omega) _ (Ext.refl _)), trivial⟩ (y_load (fun _ => by kernel_rfl) rfl (fun _ h => h.2.1)) rfl rfl (by kernel_rfl) (by kernel_rfl) (by kernel_rfl) (by kernel_rfl) rfl rfl (fun _ _ _ h => h) ?_; intro a69 hE70; clear hE68
      refine d_pure (fun _ h => h) (v := .bool (!decide ((gI ap i5) = (gI bp i5)))) 8 rfl hE70 (y_neq rfl rfl) rfl (by kernel_rfl) (by kernel_rfl) (by kernel_rfl) rfl rfl (fun _ _ _ h => h) ?_; intro a71 hE72; clear hE70
      refine d_done (by kernel_rfl) ?_
      have hE73 := hE72.sub (L' := [(0, .slice apA ap.length apC), (1, .slice bpA bp.length bpC), (5, .int .i64 i5), (25, .bool (!decide ((gI ap i5) = (gI bp i5))))]) ⟨rfl, rfl, rfl, rfl, trivial⟩; clear hE72
      refine p_tn ?_
      refine c_cond hE73 rfl (fun ht74 => ?_) (fun ht74 => ?_)
      ·
       have ht75 := bn_t ht74
       have hp76 := of_decide_eq_false ht75
       have hE77 := hE73; rw [ht74] at hE77; clear hE73
       refine c_seq ?_
       refine c_reg ?_
       refine q_step (v := .bool false) hE77 (y_assign rfl) rfl rfl rfl ?_; intro a78 hE79; clear hE77
       refine c_nil ?_
       have hE80 := hE79.sub (L' := [(4, .bool false)]) ⟨rfl, trivial⟩; clear hE79
       refine p_tn ?_
       refine wp_ret ?_
       refine p_br ?_
       refine p_tr ?_
       have hX81 : F_l_eqInt64S_L1 ap bp (Int.toNat ((ap.length : Int) - 0) + 1) 0 = .error false := hT35.symm.trans (show F_l_eqInt64S_L1b ap bp (F_l_eqInt64S_L1 ap bp r39) i5 = .error false by unfold F_l_eqInt64S_L1b; rw [ht74, ht49]; first | done | rfl)
       refine p_tr (p_br (p_tr ?_))
       refine p_tr ?_
       have hF : F_l_eqInt64S ap bp = false := by unfold F_l_eqInt64S; rw [hX81, ht17]; first | done | rfl
       refine c_ret1 hE80 rfl rfl ?_
       exact ⟨(by rw [hF]; first | done | (dsimp only; done) | rfl), hS54.ext⟩
      ·
       have ht82 := bn_f ht74
       have hp83 := of_decide_eq_true ht82
       have hE84 := hE73; rw [ht74] at hE84; clear hE73
       refine wp_skip ?_
       refine p_bn ?_
       refine p_tn ?_
       refine c_reg ?_
       refine q_step (v := .int .i64 i5) hE84 (y_move rfl) rfl rfl rfl ?_; intro a85 hE86; clear hE84
       refine q_step (v := .int .i64 (i5 + 1)) hE86 (y_add rfl rfl ⟨(by omega), (by omega)⟩) rfl rfl rfl ?_; intro a87 hE88; clear hE86
       refine q_step (v := .int .i64 (i5 + 1)) hE88 (y_assign rfl) rfl rfl rfl ?_; intro a89 hE90; clear hE88
       refine c_nil ?_
       have hE91 := hE90.sub (L' := [(0, .slice apA ap.length apC), (1, .slice bpA bp.length bpC), (5, .int .i64 (i5 + 1))]) ⟨rfl, rfl, rfl, trivial⟩; clear hE90
       refine p_tn ⟨r39, Nat.lt_succ_self _, i5 + 1, (hT35.symm.trans (show F_l_eqInt64S_L1b ap bp (F_l_eqInt64S_L1 ap bp r39) i5 = F_l_eqInt64S_L1 ap bp r39 (i5 + 1) by unfold F_l_eqInt64S_L1b; rw [ht74, ht49]; first | done | rfl)).symm, (by omega), (by first | omega | (simp only [sS_len, sL_len]; omega) | (simp only [List.length_replicate, sI_len]; omega) | (simp only [List.length_append, List.length_cons, List.length_nil, sI_len, cond_true, cond_false]; omega) | (simp only [List.length_append, List.length_cons, List.length_nil, sI_len, cond_eq_ite, apply_ite List.length]; split <;> simp only [List.length_append, List.length_cons, List.length_nil, sI_len] <;> omega) | grind), (by first | omega | (simp only [sS_len, sL_len]; omega) | (simp only [List.length_replicate, sI_len]; omega) | (simp only [List.length_append, List.length_cons, List.length_nil, sI_len, cond_true, cond_false]; omega) | (simp only [List.length_append, List.length_cons, List.length_nil, sI_len, cond_eq_ite, apply_ite List.length]; split <;> simp only [List.length_append, List.length_cons, List.length_nil, sI_len] <;> omega) | grind), (hE91.sub (L' := [(0, .slice apA ap.length apC), (1, .slice bpA bp.length bpC), (5, .int .i64 (i5 + 1))]) ⟨rfl, rfl, rfl, trivial⟩), (St.pick (Γ' := [.rd 1 bpA bp.length bpC bp, .rd 1 apA ap.length apC ap]) hS54 [0, 1] (by decide) rfl)⟩
     ·
      have hp92 := of_decide_eq_false ht49
      have hE93 := hE48; rw [ht49] at hE93; clear hE48
      refine wp_exit ?_
      refine p_te ?_
      have hX94 : F_l_eqInt64S_L1 ap bp (Int.toNat ((ap.length : Int) - 0) + 1) 0 = .ok i5 := hT35.symm.trans (show F_l_eqInt64S_L1b ap bp (F_l_eqInt64S_L1 ap bp r39) i5 = .ok i5 by unfold F_l_eqInt64S_L1b; rw [ht49]; first | done | rfl)
      refine p_te (p_be (p_tn ?_))
      exact ⟨(by rw [hX94]; rfl), (by rw [hX94]; exact (show 0 ≤ i5 from (by first | omega | (simp only [sS_len, sL_len]; omega) | (simp only [List.length_replicate, sI_len]; omega) | (simp only [List.length_append, List.length_cons, List.length_nil, sI_len, cond_true, cond_false]; omega) | (simp only [List.length_append, List.length_cons, List.length_nil, sI_len, cond_eq_ite, apply_ite List.length]; split <;> simp only [List.length_append, List.length_cons, List.length_nil, sI_len] <;> omega) | grind))), (by rw [hX94]; exact (show i5 ≤ (ap.length : Int) from (by first | omega | (simp only [sS_len, sL_len]; omega) | (simp only [List.length_replicate, sI_len]; omega) | (simp only [List.length_append, List.length_cons, List.length_nil, sI_len, cond_true, cond_false]; omega) | (simp only [List.length_append, List.length_cons, List.length_nil, sI_len, cond_eq_ite, apply_ite List.length]; split <;> simp only [List.length_append, List.length_cons, List.length_nil, sI_len] <;> omega) | grind))), (by rw [hX94]; exact (hE93.sub (L' := [(0, .slice apA ap.length apC), (1, .slice bpA bp.length bpC), (5, .int .i64 i5)]) ⟨rfl, rfl, rfl, trivial⟩)), (St.pick (Γ' := [.rd 1 bpA bp.length bpC bp, .rd 1 apA ap.length apC ap]) hS34 [0, 1] (by decide) rfl)⟩
   ·
    rintro a95 w96 ⟨hO99, hi100, hi101, hE97, hS98⟩; clear hE29 hS2
    refine p_tn ?_
    refine c_seq ?_
    refine c_reg ?_
    refine q_step (v := .bool true) hE97 (y_assign rfl) rfl rfl rfl ?_; intro a102 hE103; clear hE97
    refine c_nil ?_
    have hE104 := hE103.sub (L' := [(4, .bool true)]) ⟨rfl, trivial⟩; clear hE103
    refine p_tn ?_
    refine wp_ret ?_
    have hF : F_l_eqInt64S ap bp = true := by unfold F_l_eqInt64S; rw [hO99, ht17]; first | done | rfl
    refine c_ret1 hE104 rfl rfl ?_
    exact ⟨(by rw [hF]; first | done | (dsimp only; done) | rfl), hS98.ext⟩

theorem eqI_key (ap bp : List Int) (hl : ap.length = bp.length) : ∀ (k : Nat) (i : Int), 0 ≤ i → (ap.length : Int) - i = k → (∀ j : Nat, (j : Int) < i → gi ap j = gi bp j) →
    (bif isOk (F_l_eqInt64S_L1 ap bp (k + 1) i) then true else errD (F_l_eqInt64S_L1 ap bp (k + 1) i)) = decide (ap = bp) := by
  intro k
  induction k with
  | zero =>
    intro i h0 hk hp
    have e : F_l_eqInt64S_L1 ap bp (0 + 1) i = .ok i := by
      show F_l_eqInt64S_L1b ap bp _ i = _
      unfold F_l_eqInt64S_L1b
      rw [decide_eq_false (by omega)]; rfl
    rw [e]
    have : ap = bp := ext_gi hl fun j hj => hp j (by omega)
    rw [decide_eq_true this]; rfl
  | succ k ih =>
    intro i h0 hk hp
    have e : F_l_eqInt64S_L1 ap bp (k + 1 + 1) i = bif !decide (gI ap i = gI bp i) then .error false else F_l_eqInt64S_L1 ap bp (k + 1) (i + 1) := by
      show F_l_eqInt64S_L1b ap bp _ i = _
      unfold F_l_eqInt64S_L1b
      rw [decide_eq_true (by omega)]; rfl
    rw [e]
    by_cases h : gI ap i = gI bp i
    · rw [decide_eq_true h]
      refine ih (i + 1) (by omega) (by omega) fun j hj => ?_
      by_cases e : (j : Int) = i
      · have : i.toNat = j := by omega
        unfold gI at h; rw [this] at h; exact h
      · exact hp j (by omega)
    · rw [decide_eq_false h]
      have : ¬ ap = bp := fun h' => h (by rw [h'])
      rw [decide_eq_false this]; rfl
theorem eqI_eq (ap bp : List Int) : F_l_eqInt64S ap bp = decide (ap = bp) := by
  unfold F_l_eqInt64S
  by_cases hl : ap.length = bp.length
  · rw [decide_eq_true (by omega)]
    have e : Int.toNat ((ap.length : Int) - 0) = ap.length := by omega
    rw [e]
    exact eqI_key ap bp hl ap.length 0 (by omega) (by omega) fun j hj => by omega
  · rw [decide_eq_false (by omega)]
    have : ¬ ap = bp := fun h' => hl (by rw [h'])
    rw [decide_eq_false this]; rfl
theorem d_l_eqInt64S (apA : Option Addr) (apN apC : Nat) (ap : List Int) (bpA : Option Addr) (bpN bpC : Nat) (bp : List Int) (w : World) (apR : RdS w 1 apA apN apC ap) (bpR : RdS w 1 bpA bpN bpC bp) :
    Calls Tryd.prog 15 #[.slice apA apN apC, .slice bpA bpN bpC] w (Ret fun v w' => v = .bool (decide (ap = bp)) ∧ Ext w w') := by
  have := c_l_eqInt64S apA apN apC ap bpA bpN bpC bp w apR bpR
  rwa [eqI_eq] at this

/-- The numbers from s on. -/
def marked (n : Nat) (s : Int) : List Int := (List.range n).map fun (j : Nat) => s + (j : Int)
theorem marked_len (n : Nat) (s : Int) : (marked n s).length = n := by simp [marked]
theorem gi_marked {n : Nat} {s : Int} {k : Nat} (h : k < n) : gi (marked n s) k = s + k := by
  rw [gi_get (by simpa [marked] using h)]; simp [marked]
theorem szI_bound {ap : List Int} {left : Int} (h : ¬ F_l_szInt64S ap left < 0) : (ap.length : Int) ≤ left ∧ 0 ≤ F_l_szInt64S ap left ∧ F_l_szInt64S ap left ≤ left := by
  unfold F_l_szInt64S at *
  by_cases h1 : left - (ap.length : Int) < 0
  · rw [decide_eq_true h1] at h; exact absurd (show (-1 : Int) < 0 by decide) h
  · rw [decide_eq_false h1] at *; simp only [cond_false] at *; omega

def F_l_szFrame (ap0 : Int) (ap1 : List Int) (left : Int) : Int :=
  bif (decide ((F_l_szInt64S ap1 left) < 0)) then (-1) else (F_l_szInt64S ap1 left)
theorem cf_l_szFrame (args : Array Value) (w : World) : (callFunc 4 args).run Tryd.prog w = .ok (.enter 4 args) w := by kernel_rfl
set_option maxRecDepth 100000 in
theorem c_l_szFrame (ap0 : Int) (ap1A : Option Addr) (ap1N ap1C : Nat) (ap1 : List Int) (left : Int) (w : World) (ap1R : RdS w 1 ap1A ap1N ap1C ap1) (hl : left ≤ 1048576) (hl0 : 0 ≤ left) :
    Calls Tryd.prog 4 #[.agg #[.int .i64 ap0, .slice ap1A ap1N ap1C], .int .i64 left] w (Ret fun v w' => v = .int .i64 (F_l_szFrame ap0 ap1 left) ∧ Ext w w') := by
  obtain rfl : ap1N = ap1.length := ap1R.len1.symm
  have ap1Le := ap1R.le
  have hS := St.nil w
  have hS1 := St.rd0 hS rfl ap1R; clear hS
  refine enter (args := [.agg #[.int .i64 ap0, .slice ap1A ap1.length ap1C], .int .i64 left]) Tryd.func4 rfl rfl ?_
  rw [Tryd.ntmps4]; intro a hE
  have hE := hE.sub (L' := [(0, .agg #[.int .i64 ap0, .slice ap1A ap1.length ap1C]), (1, .int .i64 left)]) ⟨rfl, rfl, trivial⟩
  refine c_seq ?_
  refine c_reg ?_
  refine l_step hE rfl (l_box (v := .agg #[.int .i64 ap0, .slice ap1A ap1.length ap1C]) (cs := #[.int .i64 ap0, .slice ap1A ap1.length ap1C]) hS1 hE rfl rfl rfl ?_)
  intro b2 w3 hS6 he7 a4 hE5; clear hS1 hE
  refine q_step (v := .int .i64 0) hE5 (y_assign rfl) rfl rfl rfl ?_; intro a8 hE9; clear hE5
  refine c_nil ?_
  have hE10 := hE9.sub (L' := [(1, .int .i64 left), (2, .pointer (some ⟨b2, 0, none⟩))]) ⟨rfl, rfl, trivial⟩; clear hE9
  refine p_tn ?_
  refine c_seq ?_
  refine c_reg ?_
  refine q_step (v := .pointer (some ⟨b2, 1, none⟩)) hE10 (y_field rfl (fun _ => by kernel_rfl)) rfl rfl rfl ?_; intro a11 hE12; clear hE10
  refine q_step (v := .slice ap1A ap1.length ap1C) hE12 (y_load (fun _ => by kernel_rfl) rfl (St.cell (i := 0) hS6 rfl rfl)) rfl rfl rfl ?_; intro a13 hE14; clear hE12
  refine q_step (v := .int .i64 left) hE14 (y_move rfl) rfl rfl rfl ?_; intro a15 hE16; clear hE14
  refine l_step hE16 rfl (l_call (f := 9) (argv := [.slice ap1A ap1.length ap1C, .int .i64 left]) hE16 (fun _ => cf_l_szInt64S _ _) rfl rfl (c_l_szInt64S ap1A ap1.length ap1C ap1 left w3 (St.rdR (i := 1) hS6 rfl) (by omega) (by omega)) ?_)
  rintro _ _ ⟨rfl, rfl⟩ a19 hE20; clear hE16
  refine q_step (v := .int .i64 (F_l_szInt64S ap1 left)) hE20 (y_assign rfl) rfl rfl rfl ?_; intro a23 hE24; clear hE20
  refine c_nil ?_
  have hE25 := hE24.sub (L' := [(1, .int .i64 (F_l_szInt64S ap1 left))]) ⟨rfl, trivial⟩; clear hE24
  refine p_tn ?_
  refine c_seq ?_
  refine c_seq ?_
  refine c_reg ?_
  refine q_step (v := .int .i64 (F_l_szInt64S ap1 left)) hE25 (y_move rfl) rfl rfl rfl ?_; intro a26 hE27; clear hE25
  refine q_step (v := .bool (decide ((F_l_szInt64S ap1 left) < 0))) hE27 (y_lss rfl rfl) rfl rfl rfl ?_; intro a28 hE29; clear hE27
  refine c_nil ?_
  have hE30 := hE29.sub (L' := [(1, .int .i64 (F_l_szInt64S ap1 left)), (10, .bool (decide ((F_l_szInt64S ap1 left) < 0)))]) ⟨rfl, rfl, trivial⟩; clear hE29
  refine p_tn ?_
  refine c_cond hE30 rfl (fun ht31 => ?_) (fun ht31 => ?_)
  ·
   have hp32 := of_decide_eq_true ht31
   have hE33 := hE30; rw [ht31] at hE33; clear hE30
   refine c_seq ?_
   refine c_reg ?_
   refine q_step (v := .int .i64 (-1)) hE33 (y_assign rfl) rfl rfl rfl ?_; intro a34 hE35; clear hE33
   refine c_nil ?_
   have hE36 := hE35.sub (L' := [(4, .int .i64 (-1))]) ⟨rfl, trivial⟩; clear hE35
   refine p_tn ?_
   refine wp_ret ?_
   refine p_tr ?_
   have hF : F_l_szFrame ap0 ap1 left = -1 := by unfold F_l_szFrame; rw [ht31]; first | done | rfl
   refine c_ret1 hE36 rfl rfl ?_
   exact ⟨(by rw [hF]; first | done | (dsimp only; done) | rfl), hS6.ext⟩
  ·
   have hp37 := of_decide_eq_false ht31
   have hE38 := hE30; rw [ht31] at hE38; clear hE30
   refine wp_skip ?_
   refine p_tn ?_
   refine c_seq ?_
   refine c_reg ?_
   refine q_step (v := .int .i64 (F_l_szInt64S ap1 left)) hE38 (y_move rfl) rfl rfl rfl ?_; intro a39 hE40; clear hE38
   refine q_step (v := .int .i64 (F_l_szInt64S ap1 left)) hE40 (y_assign rfl) rfl rfl rfl ?_; intro a41 hE42; clear hE40
   refine c_nil ?_
   have hE43 := hE42.sub (L' := [(4, .int .i64 (F_l_szInt64S ap1 left))]) ⟨rfl, trivial⟩; clear hE42
   refine p_tn ?_
   refine wp_ret ?_
   have hF : F_l_szFrame ap0 ap1 left = F_l_szInt64S ap1 left := by unfold F_l_szFrame; rw [ht31]; first | done | rfl
   refine c_ret1 hE43 rfl rfl ?_
   exact ⟨(by rw [hF]; first | done | (dsimp only; done) | rfl), hS6.ext⟩

def F_l_toFrame (ap0 : Int) (ap1 : List Int) : Int × List Int :=
  (ap0, ap1)
theorem cf_l_toFrame (args : Array Value) (w : World) : (callFunc 6 args).run Tryd.prog w = .ok (.enter 6 args) w := by kernel_rfl
set_option maxRecDepth 100000 in
theorem c_l_toFrame (ap0 : Int) (ap1A : Option Addr) (ap1N ap1C : Nat) (ap1 : List Int) (w : World) (ap1R : RdS w 1 ap1A ap1N ap1C ap1) (hl : ap1.length ≤ 1048576) :
    Calls Tryd.prog 6 #[.agg #[.int .i64 ap0, .slice ap1A ap1N ap1C]] w (Ret fun v w' => ∃ b1 : Option Addr, ∃ c1 : Nat, v = .agg #[.int .i64 ((F_l_toFrame ap0 ap1).1), .slice b1 ((F_l_toFrame ap0 ap1).2).length c1] ∧ OwnS w' w.heap.size 2 1 b1 ((F_l_toFrame ap0 ap1).2).length c1 ((F_l_toFrame ap0 ap1).2) ∧ Ext w w') := by
  obtain rfl : ap1N = ap1.length := ap1R.len1.symm
  have ap1Le := ap1R.le
  have hS := St.nil w
  have hS1 := St.rd0 hS rfl ap1R; clear hS
  refine enter (args := [.agg #[.int .i64 ap0, .slice ap1A ap1.length ap1C]]) Tryd.func6 rfl rfl ?_
  rw [Tryd.ntmps6]; intro a hE
  have hE := hE.sub (L' := [(0, .agg #[.int .i64 ap0, .slice ap1A ap1.length ap1C])]) ⟨rfl, trivial⟩
  refine c_seq ?_
  refine c_reg ?_
  refine l_step hE rfl (l_box (v := .agg #[.int .i64 ap0, .slice ap1A ap1.length ap1C]) (cs := #[.int .i64 ap0, .slice ap1A ap1.length ap1C]) hS1 hE rfl rfl rfl ?_)
  intro b2 w3 hS6 he7 a4 hE5; clear hS1 hE
  refine l_step hE5 rfl (l_alloc (z := .agg #[.int .i64 0, .slice none 0 0]) (cs := #[.int .i64 0, .slice none 0 0]) hS6 hE5 (fun _ => by kernel_rfl) rfl rfl ?_)
  intro b8 w9 hS12 he13 a10 hE11; clear hS6 hE5
  refine c_nil ?_
  have hE14 := hE11.sub (L' := [(1, .pointer (some ⟨b2, 0, none⟩)), (2, .pointer (some ⟨b8, 0, none⟩))]) ⟨rfl, rfl, trivial⟩; clear hE11
  refine p_tn ?_
  refine c_seq ?_
  refine c_reg ?_
  refine l_step hE14 rfl (l_alloc (z := .agg #[.int .i64 0, .slice none 0 0]) (cs := #[.int .i64 0, .slice none 0 0]) hS12 hE14 (fun _ => by kernel_rfl) rfl rfl ?_)
  intro b15 w16 hS19 he20 a17 hE18; clear hS12 hE14
  refine c_nil ?_
  have hE21 := hE18.sub (L' := [(1, .pointer (some ⟨b2, 0, none⟩)), (2, .pointer (some ⟨b8, 0, none⟩)), (3, .pointer (some ⟨b15, 0, none⟩))]) ⟨rfl, rfl, rfl, trivial⟩; clear hE18
  refine p_tn ?_
  refine c_seq ?_
  refine c_reg ?_
  refine q_step (v := .pointer (some ⟨b2, 0, none⟩)) hE21 (y_field rfl (fun _ => by kernel_rfl)) rfl rfl rfl ?_; intro a22 hE23; clear hE21
  refine q_step (v := .int .i64 ap0) hE23 (y_load (fun _ => by kernel_rfl) rfl (St.cell (i := 2) hS19 rfl rfl)) rfl rfl rfl ?_; intro a24 hE25; clear hE23
  refine q_step (v := .pointer (some ⟨b15, 0, none⟩)) hE25 (y_field rfl (fun _ => by kernel_rfl)) rfl rfl rfl ?_; intro a26 hE27; clear hE25
  refine l_step hE27 rfl (l_storeB (k := 0) (cs' := #[.int .i64 ap0, .slice none 0 0]) hS19 hE27 (fun _ => by kernel_rfl) rfl rfl rfl rfl rfl rfl rfl ?_)
  intro w29 hS32 a30 hE31; clear hS19 hE27
  refine c_nil ?_
  have hE34 := hE31.sub (L' := [(1, .pointer (some ⟨b2, 0, none⟩)), (2, .pointer (some ⟨b8, 0, none⟩)), (3, .pointer (some ⟨b15, 0, none⟩))]) ⟨rfl, rfl, rfl, trivial⟩; clear hE31
  refine p_tn ?_
  refine c_seq ?_
  refine c_reg ?_
  refine q_step (v := .pointer (some ⟨b2, 1, none⟩)) hE34 (y_field rfl (fun _ => by kernel_rfl)) rfl rfl rfl ?_; intro a35 hE36; clear hE34
  refine q_step (v := .slice ap1A ap1.length ap1C) hE36 (y_load (fun _ => by kernel_rfl) rfl (St.cell (i := 2) hS32 rfl rfl)) rfl rfl rfl ?_; intro a37 hE38; clear hE36
  refine l_step hE38 rfl (l_call (f := 12) (argv := [.slice ap1A ap1.length ap1C]) hE38 (fun _ => cf_l_toInt64S _ _) rfl rfl (d_l_toInt64S ap1A ap1.length ap1C ap1 w29 (St.rdR (i := 3) hS32 rfl) (by omega)) ?_)
  rintro _ w40 ⟨b45, c46, rfl, ho47, he44⟩ a41 hE42; clear hE38
  have hS43 := St.own hS32 he44 ho47; clear hS32
  refine q_step (v := .pointer (some ⟨b15, 1, none⟩)) hE42 (y_field rfl (fun _ => by kernel_rfl)) rfl rfl rfl ?_; intro a48 hE49; clear hE42
  refine l_step hE49 rfl (l_storeB (k := 1) (cs' := #[.int .i64 ap0, .slice b45 ((ap1).length) c46]) hS43 hE49 (fun _ => by kernel_rfl) rfl rfl rfl rfl rfl rfl rfl ?_)
  intro w51 hS54 a52 hE53; clear hS43 hE49
  refine c_nil ?_
  have hE56 := hE53.sub (L' := [(2, .pointer (some ⟨b8, 0, none⟩)), (3, .pointer (some ⟨b15, 0, none⟩))]) ⟨rfl, rfl, trivial⟩; clear hE53
  refine p_tn ?_
  refine c_seq ?_
  refine c_reg ?_
  refine q_step (v := .agg #[.int .i64 ap0, .slice b45 ((ap1).length) c46]) hE56 (y_loadS Tryd.underlying28 rfl (by kernel_rfl) rfl (St.row (i := 1) hS54 rfl)) rfl rfl rfl ?_; intro a57 hE58; clear hE56
  refine l_step hE58 rfl (l_storeS (k := 2) (cs' := #[.int .i64 ap0, .slice b45 ((ap1).length) c46]) hS54 hE58 (by kernel_rfl) rfl rfl (by kernel_rfl) rfl rfl ?_)
  intro w60 hS63 a61 hE62; clear hS54 hE58
  refine c_nil ?_
  have hE65 := hE62.sub (L' := [(2, .pointer (some ⟨b8, 0, none⟩))]) ⟨rfl, trivial⟩; clear hE62
  refine p_tn ?_
  refine wp_ret ?_
  have hF : F_l_toFrame ap0 ap1 = (ap0, ap1) := by unfold F_l_toFrame; rfl
  refine c_retC hE65 rfl rfl Tryd.underlying28 rfl (by kernel_rfl) (St.row (i := 2) hS63 rfl _ (Ext.refl _)) ?_
  exact ⟨b45, c46, (by rw [hF]; first | done | (dsimp only; done) | rfl), (by rw [hF]; (try dsimp only); exact hS63.ok 0 _ rfl), hS63.ext⟩

def F_l_eqFrame (ap0 : Int) (ap1 : List Int) (bp0 : Int) (bp1 : List Int) : Bool :=
  bif (!decide (ap0 = bp0)) then false else (bif (!(decide (ap1 = bp1))) then false else true)
theorem cf_l_eqFrame (args : Array Value) (w : World) : (callFunc 8 args).run Tryd.prog w = .ok (.enter 8 args) w := by kernel_rfl
set_option maxRecDepth 100000 in
theorem c_l_eqFrame (ap0 : Int) (ap1A : Option Addr) (ap1N ap1C : Nat) (ap1 : List Int) (bp0 : Int) (bp1A : Option Addr) (bp1N bp1C : Nat) (bp1 : List Int) (w : World) (ap1R : RdS w 1 ap1A ap1N ap1C ap1) (bp1R : RdS w 1 bp1A bp1N bp1C bp1) :
    Calls Tryd.prog 8 #[.agg #[.int .i64 ap0, .slice ap1A ap1N ap1C], .agg #[.int .i64 bp0, .slice bp1A bp1N bp1C]] w (Ret fun v w' => v = .bool (F_l_eqFrame ap0 ap1 bp0 bp1) ∧ Ext w w') := by
  obtain rfl : ap1N = ap1.length := ap1R.len1.symm
  have ap1Le := ap1R.le
  obtain rfl : bp1N = bp1.length := bp1R.len1.symm
  have bp1Le := bp1R.le
  have hS := St.nil w
  have hS1 := St.rd0 hS rfl ap1R; clear hS
  have hS2 := St.rd0 hS1 rfl bp1R; clear hS1
  refine enter (args := [.agg #[.int .i64 ap0, .slice ap1A ap1.length ap1C], .agg #[.int .i64 bp0, .slice bp1A bp1.length bp1C]]) Tryd.func8 rfl rfl ?_
  rw [Tryd.ntmps8]; intro a hE
  have hE := hE.sub (L' := [(0, .agg #[.int .i64 ap0, .slice ap1A ap1.length ap1C]), (1, .agg #[.int .i64 bp0, .slice bp1A bp1.length bp1C])]) ⟨rfl, rfl, trivial⟩
  refine c_seq ?_
  refine c_reg ?_
  refine l_step hE rfl (l_box (v := .agg #[.int .i64 ap0, .slice ap1A ap1.length ap1C]) (cs := #[.int .i64 ap0, .slice ap1A ap1.length ap1C]) hS2 hE rfl rfl rfl ?_)
  intro b3 w4 hS7 he8 a5 hE6; clear hS2 hE
  refine l_step hE6 rfl (l_box (v := .agg #[.int .i64 bp0, .slice bp1A bp1.length bp1C]) (cs := #[.int .i64 bp0, .slice bp1A bp1.length bp1C]) hS7 hE6 rfl rfl rfl ?_)
  intro b9 w10 hS13 he14 a11 hE12; clear hS7 hE6
  refine q_step (v := .bool false) hE12 (y_assign rfl) rfl rfl rfl ?_; intro a15 hE16; clear hE12
  refine c_nil ?_
  have hE17 := hE16.sub (L' := [(2, .pointer (some ⟨b3, 0, none⟩)), (3, .pointer (some ⟨b9, 0, none⟩))]) ⟨rfl, rfl, trivial⟩; clear hE16
  refine p_tn ?_
  refine c_seq ?_
  refine c_seq ?_
  refine c_reg ?_
  refine q_step (v := .pointer (some ⟨b3, 0, none⟩)) hE17 (y_field rfl (fun _ => by kernel_rfl)) rfl rfl rfl ?_; intro a18 hE19; clear hE17
  refine q_step (v := .int .i64 ap0) hE19 (y_load (fun _ => by kernel_rfl) rfl (St.cell (i := 1) hS13 rfl rfl)) rfl rfl rfl ?_; intro a20 hE21; clear hE19
  refine q_step (v := .pointer (some ⟨b9, 0, none⟩)) hE21 (y_field rfl (fun _ => by kernel_rfl)) rfl rfl rfl ?_; intro a22 hE23; clear hE21
  refine q_step (v := .int .i64 bp0) hE23 (y_load (fun _ => by kernel_rfl) rfl (St.cell (i := 0) hS13 rfl rfl)) rfl rfl rfl ?_; intro a24 hE25; clear hE23
  refine q_step (v := .bool (!decide (ap0 = bp0))) hE25 (y_neq rfl rfl) rfl rfl rfl ?_; intro a26 hE27; clear hE25
  refine c_nil ?_
  have hE28 := hE27.sub (L' := [(2, .pointer (some ⟨b3, 0, none⟩)), (3, .pointer (some ⟨b9, 0, none⟩)), (9, .bool (!decide (ap0 = bp0)))]) ⟨rfl, rfl, rfl, trivial⟩; clear hE27
  refine p_tn ?_
  refine c_cond hE28 rfl (fun ht29 => ?_) (fun ht29 => ?_)
  ·
   have ht30 := bn_t ht29
   have hp31 := of_decide_eq_false ht30
   have hE32 := hE28; rw [ht29] at hE32; clear hE28
   refine c_seq ?_
   refine c_reg ?_
   refine q_step (v := .bool false) hE32 (y_assign rfl) rfl rfl rfl ?_; intro a33 hE34; clear hE32
   refine c_nil ?_
   have hE35 := hE34.sub (L' := [(4, .bool false)]) ⟨rfl, trivial⟩; clear hE34
   refine p_tn ?_
   refine wp_ret ?_
   refine p_tr ?_
   have hF : F_l_eqFrame ap0 ap1 bp0 bp1 = false := by unfold F_l_eqFrame; rw [ht29]; first | done | rfl
   refine c_ret1 hE35 rfl rfl ?_
   exact ⟨(by rw [hF]; first | done | (dsimp only; done) | rfl), hS13.ext⟩
  ·
   have ht36 := bn_f ht29
   have hp37 := of_decide_eq_true ht36
   have hE38 := hE28; rw [ht29] at hE38; clear hE28
   refine wp_skip ?_
   refine p_tn ?_
   refine c_seq ?_
   refine c_seq ?_
   refine c_reg ?_
   refine q_step (v := .pointer (some ⟨b3, 1, none⟩)) hE38 (y_field rfl (fun _ => by kernel_rfl)) rfl rfl rfl ?_; intro a39 hE40; clear hE38
   refine q_step (v := .slice ap1A ap1.length ap1C) hE40 (y_load (fun _ => by kernel_rfl) rfl (St.cell (i := 1) hS13 rfl rfl)) rfl rfl rfl ?_; intro a41 hE42; clear hE40
   refine q_step (v := .pointer (some ⟨b9, 1, none⟩)) hE42 (y_field rfl (fun _ => by kernel_rfl)) rfl rfl rfl ?_; intro a43 hE44; clear hE42
   refine q_step (v := .slice bp1A bp1.length bp1C) hE44 (y_load (fun _ => by kernel_rfl) rfl (St.cell (i := 0) hS13 rfl rfl)) rfl rfl rfl ?_; intro a45 hE46; clear hE44
   refine l_step hE46 rfl (l_call (f := 15) (argv := [.slice ap1A ap1.length ap1C, .slice bp1A bp1.length bp1C]) hE46 (fun _ => cf_l_eqInt64S _ _) rfl rfl (d_l_eqInt64S ap1A ap1.length ap1C ap1 bp1A bp1.length bp1C bp1 w10 (St.rdR (i := 3) hS13 rfl) (St.rdR (i := 2) hS13 rfl)) ?_)
   rintro _ w48 ⟨rfl, he52⟩ a49 hE50; clear hE46
   have hS51 := St.go hS13 he52; clear hS13
   refine q_step (v := .bool (!(decide (ap1 = bp1)))) hE50 (y_not rfl) rfl rfl rfl ?_; intro a53 hE54; clear hE50
   refine c_nil ?_
   have hE55 := hE54.sub (L' := [(15, .bool (!(decide (ap1 = bp1))))]) ⟨rfl, trivial⟩; clear hE54
   refine p_tn ?_
   refine c_cond hE55 rfl (fun ht56 => ?_) (fun ht56 => ?_)
   ·
    have ht57 := bn_t ht56
    have hp58 := of_decide_eq_false ht57
    have hE59 := hE55; rw [ht56] at hE59; clear hE55
    refine c_seq ?_
    refine c_reg ?_
    refine q_step (v := .bool false) hE59 (y_assign rfl) rfl rfl rfl ?_; intro a60 hE61; clear hE59
    refine c_nil ?_
    have hE62 := hE61.sub (L' := [(4, .bool false)]) ⟨rfl, trivial⟩; clear hE61
    refine p_tn ?_
    refine wp_ret ?_
    refine p_tr ?_
    have hF : F_l_eqFrame ap0 ap1 bp0 bp1 = false := by unfold F_l_eqFrame; rw [ht56, ht29]; first | done | rfl
    refine c_ret1 hE62 rfl rfl ?_
    exact ⟨(by rw [hF]; first | done | (dsimp only; done) | rfl), hS51.ext⟩
   ·
    have ht63 := bn_f ht56
    have hp64 := of_decide_eq_true ht63
    have hE65 := hE55; rw [ht56] at hE65; clear hE55
    refine wp_skip ?_
    refine p_tn ?_
    refine c_seq ?_
    refine c_reg ?_
    refine q_step (v := .bool true) hE65 (y_assign rfl) rfl rfl rfl ?_; intro a66 hE67; clear hE65
    refine c_nil ?_
    have hE68 := hE67.sub (L' := [(4, .bool true)]) ⟨rfl, trivial⟩; clear hE67
    refine p_tn ?_
    refine wp_ret ?_
    have hF : F_l_eqFrame ap0 ap1 bp0 bp1 = true := by unfold F_l_eqFrame; rw [ht56, ht29]; first | done | rfl
    refine c_ret1 hE68 rfl rfl ?_
    exact ⟨(by rw [hF]; first | done | (dsimp only; done) | rfl), hS51.ext⟩

theorem d_l_toFrame (ap0 : Int) (ap1A : Option Addr) (ap1N ap1C : Nat) (ap1 : List Int) (w : World) (ap1R : RdS w 1 ap1A ap1N ap1C ap1) (hl : ap1.length ≤ 1048576) :
    Calls Tryd.prog 6 #[.agg #[.int .i64 ap0, .slice ap1A ap1N ap1C]] w (Ret fun v w' => ∃ b1 : Option Addr, ∃ c1 : Nat, v = .agg #[.int .i64 ap0, .slice b1 ap1.length c1] ∧ OwnS w' w.heap.size 2 1 b1 ap1.length c1 ap1 ∧ Ext w w') :=
  c_l_toFrame ap0 ap1A ap1N ap1C ap1 w ap1R hl
theorem szFrame_bound {ap0 : Int} {ap1 : List Int} {left : Int} (h : ¬ F_l_szFrame ap0 ap1 left < 0) : (ap1.length : Int) ≤ left ∧ 0 ≤ F_l_szFrame ap0 ap1 left ∧ F_l_szFrame ap0 ap1 left ≤ left := by
  unfold F_l_szFrame at *
  by_cases h1 : F_l_szInt64S ap1 left < 0
  · rw [decide_eq_true h1] at h; exact absurd (show (-1 : Int) < 0 by decide) h
  · rw [decide_eq_false h1] at *; exact szI_bound h1
theorem eqFrame_eq (ap0 : Int) (ap1 : List Int) (bp0 : Int) (bp1 : List Int) : F_l_eqFrame ap0 ap1 bp0 bp1 = decide ((ap0, ap1) = (bp0, bp1)) := by
  unfold F_l_eqFrame
  by_cases h0 : ap0 = bp0 <;> by_cases h1 : ap1 = bp1 <;> simp [h0, h1]
theorem d_l_eqFrame (ap0 : Int) (ap1A : Option Addr) (ap1N ap1C : Nat) (ap1 : List Int) (bp0 : Int) (bp1A : Option Addr) (bp1N bp1C : Nat) (bp1 : List Int) (w : World) (ap1R : RdS w 1 ap1A ap1N ap1C ap1) (bp1R : RdS w 1 bp1A bp1N bp1C bp1) :
    Calls Tryd.prog 8 #[.agg #[.int .i64 ap0, .slice ap1A ap1N ap1C], .agg #[.int .i64 bp0, .slice bp1A bp1N bp1C]] w (Ret fun v w' => v = .bool (decide ((ap0, ap1) = (bp0, bp1))) ∧ Ext w w') := by
  have := c_l_eqFrame ap0 ap1A ap1N ap1C ap1 bp0 bp1A bp1N bp1C bp1 w ap1R bp1R
  rwa [eqFrame_eq] at this




end Go.Proofs.YtkilkfhjfobcdaaDoor
