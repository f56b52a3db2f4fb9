/- GHS0: models and contracts, printed by wip/gen/gen.py -/
import Derived.Test.YtkilkfhjfobcdaaKCHGHA0
set_option linter.unusedVariables false
set_option linter.unusedSimpArgs false
namespace Go.Proofs.Ytkilkfhjfobcdaa
open Go.RowKit
def F_l18Low_L1b (order : List Int) (mask : Int) (rec : Int → Except (Int) (Int)) (x5 : Int) : Except (Int) (Int) :=
  bif (decide (x5 < (order.length : Int))) then (bif (F_l01Bit mask x5) then (bif (decide ((anI mask (gI order x5)) = 0)) then (.error x5) else (rec (x5 + 1))) else (rec (x5 + 1))) else (.ok x5)
def F_l18Low_L1 (order : List Int) (mask : Int) : Nat → Int → Except (Int) (Int)
  | 0, x5 => .ok x5
  | r + 1, x5 => F_l18Low_L1b order mask (F_l18Low_L1 order mask r) x5
def F_l18Low (order : List Int) (mask : Int) : Int :=
  bif (isOk (F_l18Low_L1 order mask (Int.toNat ((order.length : Int) - 0) + 1) 0)) then (-1) else (errD (F_l18Low_L1 order mask (Int.toNat ((order.length : Int) - 0) + 1) 0))
theorem cf_l18Low (args : Array Value) (w : World) : (callFunc 209 args).run Try.prog w = .ok (.enter 209 args) w := by kernel_rfl
set_option maxRecDepth 100000 in
theorem c_l18Low (orderA : Option Addr) (orderN orderC : Nat) (order : List Int) (mask : Int) (w : World) (orderR : RdS w 1 orderA orderN orderC order) (hl : order.length ≤ 60) :
    Calls Try.prog 209 #[.slice orderA orderN orderC, .int .i64 mask] w (Ret fun v w' => v = .int .i64 (F_l18Low order mask) ∧ Ext w w') := by
  obtain rfl : orderN = order.length := orderR.len1.symm
  have orderLe := orderR.le
  have hS := St.nil w
  have hS1 := St.rd0 hS rfl orderR; clear hS
  refine enter (args := [.slice orderA order.length orderC, .int .i64 mask]) Try.func209 rfl rfl ?_
  rw [Try.ntmps209]; intro a hE
  have hE := hE.sub (L' := [(0, .slice orderA order.length orderC), (1, .int .i64 mask)]) ⟨rfl, rfl, trivial⟩
  refine c_seq ?_
  refine c_reg ?_
  refine q_step (v := .int .i64 0) hE (y_assign rfl) rfl rfl rfl ?_; intro a2 hE3; clear hE
  refine c_nil ?_
  have hE4 := hE3.sub (L' := [(0, .slice orderA order.length orderC), (1, .int .i64 mask)]) ⟨rfl, rfl, trivial⟩; clear hE3
  refine p_tn ?_
  refine c_seq ?_
  refine c_seq ?_
  refine c_reg ?_
  refine q_step (v := .int .i64 0) hE4 (y_assign rfl) rfl rfl rfl ?_; intro a5 hE6; clear hE4
  refine c_nil ?_
  have hE7 := hE6.sub (L' := [(0, .slice orderA order.length orderC), (1, .int .i64 mask), (5, .int .i64 0)]) ⟨rfl, rfl, rfl, trivial⟩; clear hE6
  refine p_tn ?_
  refine c_cut1 (fun a' w' => isOk (F_l18Low_L1 order mask (Int.toNat ((order.length : Int) - 0) + 1) 0) = true ∧ (0 ≤ (okD (F_l18Low_L1 order mask (Int.toNat ((order.length : Int) - 0) + 1) 0))) ∧ ((okD (F_l18Low_L1 order mask (Int.toNat ((order.length : Int) - 0) + 1) 0)) ≤ (order.length : Int)) ∧ E a' 25 [(0, .slice orderA order.length orderC), (1, .int .i64 mask), (5, .int .i64 (okD (F_l18Low_L1 order mask (Int.toNat ((order.length : Int) - 0) + 1) 0)))] ∧ St w w' [.rd 1 orderA order.length orderC order]) ?_ ?_
  ·
   refine wp_block ?_
   refine c_loop (fun r a' w' => ∃ x5 : Int, F_l18Low_L1 order mask r x5 = F_l18Low_L1 order mask (Int.toNat ((order.length : Int) - 0) + 1) 0 ∧ Int.toNat ((order.length : Int) - x5) < r ∧ (0 ≤ x5) ∧ (x5 ≤ (order.length : Int)) ∧ E a' 25 [(0, .slice orderA order.length orderC), (1, .int .i64 mask), (5, .int .i64 x5)] ∧ St w w' [.rd 1 orderA order.length orderC order]) (r := (Int.toNat ((order.length : Int) - 0) + 1)) ?_ ?_
   · exact ⟨0, rfl, Nat.lt_succ_self _, (by first | omega | (simp only [sS_len, sL_len]; omega) | (simp only [List.length_replicate, sI_len]; omega) | (simp only [List.length_append, List.length_cons, List.length_nil, sI_len, cond_true, cond_false]; omega) | (simp only [List.length_append, List.length_cons, List.length_nil, sI_len, cond_eq_ite, apply_ite List.length]; split <;> simp only [List.length_append, List.length_cons, List.length_nil, sI_len] <;> omega) | grind), (by first | omega | (simp only [sS_len, sL_len]; omega) | (simp only [List.length_replicate, sI_len]; omega) | (simp only [List.length_append, List.length_cons, List.length_nil, sI_len, cond_true, cond_false]; omega) | (simp only [List.length_append, List.length_cons, List.length_nil, sI_len, cond_eq_ite, apply_ite List.length]; split <;> simp only [List.length_append, List.length_cons, List.length_nil, sI_len] <;> omega) | grind), (hE7.sub (L' := [(0, .slice orderA order.length orderC), (1, .int .i64 mask), (5, .int .i64 0)]) ⟨rfl, rfl, rfl, trivial⟩), (St.pick (Γ' := [.rd 1 orderA order.length orderC order]) hS1 [0] (by decide) rfl)⟩
   ·
    clear hE7 hS1
    rintro r17 a9 w10 ⟨x5, hT13, hr14, hi15, hi16, hE11, hS12⟩
    obtain ⟨r17, rfl⟩ : ∃ r', r17 = r' + 1 := ⟨r17 - 1, by omega⟩
    refine c_seq ?_
    refine c_seq ?_
    refine c_reg ?_
    refine q_step (v := .int .i64 x5) hE11 (y_move rfl) rfl rfl rfl ?_; intro a18 hE19; clear hE11
    refine q_step (v := .slice orderA order.length orderC) hE19 (y_move rfl) rfl rfl rfl ?_; intro a20 hE21; clear hE19
    refine q_step (v := .int .i64 (order.length : Int)) hE21 (y_len (e := 2) (by kernel_rfl) rfl) rfl rfl rfl ?_; intro a22 hE23; clear hE21
    refine q_step (v := .bool (decide (x5 < (order.length : Int)))) hE23 (y_lss rfl rfl) rfl rfl rfl ?_; intro a24 hE25; clear hE23
    refine c_nil ?_
    have hE26 := hE25.sub (L' := [(0, .slice orderA order.length orderC), (1, .int .i64 mask), (5, .int .i64 x5), (9, .bool (decide (x5 < (order.length : Int))))]) ⟨rfl, rfl, rfl, rfl, trivial⟩; clear hE25
    refine p_tn ?_
    refine c_cond hE26 rfl (fun ht27 => ?_) (fun ht27 => ?_)
    ·
     have hp28 := of_decide_eq_true ht27
     have hE29 := hE26; rw [ht27] at hE29; clear hE26
     refine wp_skip ?_
     refine p_tn ?_
     refine c_seq ?_
     refine wp_block ?_
     refine c_seq ?_
     refine c_reg ?_
     refine q_step (v := .int .i64 mask) hE29 (y_move rfl) rfl rfl rfl ?_; intro a30 hE31; clear hE29
     refine q_step (v := .int .i64 x5) hE31 (y_move rfl) rfl rfl rfl ?_; intro a32 hE33; clear hE31
     refine l_step hE33 rfl (l_call (f := 179) (argv := [.int .i64 mask, .int .i64 x5]) hE33 (fun _ => cf_l01Bit _ _) rfl rfl (c_l01Bit mask x5 w10 (by omega) (by omega)) ?_)
     rintro _ _ ⟨rfl, rfl⟩ a36 hE37; clear hE33
     refine q_step (v := .bool (F_l01Bit mask x5)) hE37 (y_move rfl) rfl rfl rfl ?_; intro a40 hE41; clear hE37
     rcases Bool.eq_false_or_eq_true (F_l01Bit mask x5) with hb42 | hb42
     ·
      have hE43 := hE41; (try rw [hb42] at hE43); clear hE41
      refine q_step (v := .int .i64 mask) hE43 (y_move rfl) rfl rfl rfl ?_; intro a44 hE45; clear hE43
      refine q_step (v := .slice orderA order.length orderC) hE45 (y_move rfl) rfl rfl rfl ?_; intro a46 hE47; clear hE45
      refine q_step (v := .int .i64 x5) hE47 (y_move rfl) rfl rfl rfl ?_; intro a48 hE49; clear hE47
      refine q_step (v := .pointer (some (adr orderA (Int.toNat x5)))) hE49 (y_idx (by kernel_rfl) (fun _ => by kernel_rfl) rfl rfl (RdS.isS (m := x5) (St.rdR (i := 0) hS12 rfl) (by omega) (by omega)) (by omega) (by omega) (Nat.mul_one _).symm) rfl rfl rfl ?_; intro a50 hE51; clear hE49
      refine q_step (v := .int .i64 (gI order x5)) hE51 (y_load (fun _ => by kernel_rfl) rfl (RdS.elt (St.rdR (i := 0) hS12 rfl) (by omega) (by omega))) rfl rfl rfl ?_; intro a52 hE53; clear hE51
      refine q_step (v := .int .i64 (anI mask (gI order x5))) hE53 (y_andNot rfl rfl) rfl rfl rfl ?_; intro a54 hE55; clear hE53
      refine q_step (v := .bool (decide ((anI mask (gI order x5)) = 0))) hE55 (y_eql rfl rfl) rfl rfl rfl ?_; intro a56 hE57; clear hE55
      refine q_step (v := .bool (decide ((anI mask (gI order x5)) = 0))) hE57 (y_pick (b := true) rfl rfl) rfl rfl rfl ?_; intro a58 hE59; clear hE57
      refine c_nil ?_
      have hE60 := hE59.sub (L' := [(0, .slice orderA order.length orderC), (1, .int .i64 mask), (5, .int .i64 x5), (23, .bool (decide ((anI mask (gI order x5)) = 0)))]) ⟨rfl, rfl, rfl, rfl, trivial⟩; clear hE59
      refine p_tn ?_
      refine c_cond hE60 rfl (fun ht61 => ?_) (fun ht61 => ?_)
      ·
       have hp62 := of_decide_eq_true ht61
       have hE63 := hE60; rw [ht61] at hE63; clear hE60
       refine c_seq ?_
       refine c_reg ?_
       refine q_step (v := .int .i64 x5) hE63 (y_move rfl) rfl rfl rfl ?_; intro a64 hE65; clear hE63
       refine q_step (v := .int .i64 x5) hE65 (y_assign rfl) rfl rfl rfl ?_; intro a66 hE67; clear hE65
       refine c_nil ?_
       have hE68 := hE67.sub (L' := [(4, .int .i64 x5)]) ⟨rfl, trivial⟩; clear hE67
       refine p_tn ?_
       refine wp_ret ?_
       refine p_br ?_
       refine p_tr ?_
       have hX69 : F_l18Low_L1 order mask (Int.toNat ((order.length : Int) - 0) + 1) 0 = .error x5 := hT13.symm.trans (show F_l18Low_L1b order mask (F_l18Low_L1 order mask r17) x5 = .error x5 by unfold F_l18Low_L1b; rw [ht61, hb42, ht27]; first | done | rfl)
       refine p_tr (p_br (p_tr ?_))
       refine p_tr ?_
       have hF : F_l18Low order mask = x5 := by unfold F_l18Low; rw [hX69]; first | done | rfl
       refine c_ret1 hE68 rfl rfl ?_
       exact ⟨(by rw [hF]; first | done | (dsimp only; done) | rfl), hS12.ext⟩
      ·
       have hp70 := of_decide_eq_false ht61
       have hE71 := hE60; rw [ht61] at hE71; clear hE60
       refine wp_skip ?_
       refine p_bn ?_
       refine p_tn ?_
       refine c_reg ?_
       refine q_step (v := .int .i64 x5) hE71 (y_move rfl) rfl rfl rfl ?_; intro a72 hE73; clear hE71
       refine q_step (v := .int .i64 (x5 + 1)) hE73 (y_add rfl rfl ⟨(by omega), (by omega)⟩) rfl rfl rfl ?_; intro a74 hE75; clear hE73
       refine q_step (v := .int .i64 (x5 + 1)) hE75 (y_assign rfl) rfl rfl rfl ?_; intro a76 hE77; clear hE75
       refine c_nil ?_
       have hE78 := hE77.sub (L' := [(0, .slice orderA order.length orderC), (1, .int .i64 mask), (5, .int .i64 (x5 + 1))]) ⟨rfl, rfl, rfl, trivial⟩; clear hE77
       refine p_tn ⟨r17, Nat.lt_succ_self _, x5 + 1, (hT13.symm.trans (show F_l18Low_L1b order mask (F_l18Low_L1 order mask r17) x5 = F_l18Low_L1 order mask r17 (x5 + 1) by unfold F_l18Low_L1b; rw [ht61, hb42, ht27]; first | done | rfl)).symm, (by omega), (by first | omega | (simp only [sS_len, sL_len]; omega) | (simp only [List.length_replicate, sI_len]; omega) | (simp only [List.length_append, List.length_cons, List.length_nil, sI_len, cond_true, cond_false]; omega) | (simp only [List.length_append, List.length_cons, List.length_nil, sI_len, cond_eq_ite, apply_ite List.length]; split <;> simp only [List.length_append, List.length_cons, List.length_nil, sI_len] <;> omega) | grind), (by first | omega | (simp only [sS_len, sL_len]; omega) | (simp only [List.length_replicate, sI_len]; omega) | (simp only [List.length_append, List.length_cons, List.length_nil, sI_len, cond_true, cond_false]; omega) | (simp only [List.length_append, List.length_cons, List.length_nil, sI_len, cond_eq_ite, apply_ite List.length]; split <;> simp only [List.length_append, List.length_cons, List.length_nil, sI_len] <;> omega) | grind), (hE78.sub (L' := [(0, .slice orderA order.length orderC), (1, .int .i64 mask), (5, .int .i64 (x5 + 1))]) ⟨rfl, rfl, rfl, trivial⟩), (St.pick (Γ' := [.rd 1 orderA order.length orderC order]) hS12 [0] (by decide) rfl)⟩
     ·
      have hE79 := hE41; (try rw [hb42] at hE79); clear hE41
      refine q_skip hE79 rfl rfl rfl ?_; intro a80 hE81; clear hE79
      refine q_skip hE81 rfl rfl rfl ?_; intro a82 hE83; clear hE81
      refine q_skip hE83 rfl rfl rfl ?_; intro a84 hE85; clear hE83
      refine q_skip hE85 rfl rfl rfl ?_; intro a86 hE87; clear hE85
      refine q_skip hE87 rfl rfl rfl ?_; intro a88 hE89; clear hE87
      refine q_skip hE89 rfl rfl rfl ?_; intro a90 hE91; clear hE89
      refine q_skip hE91 rfl rfl rfl ?_; intro a92 hE93; clear hE91
      refine q_step (v := .bool false) hE93 (y_pick (b := false) rfl rfl) rfl rfl rfl ?_; intro a94 hE95; clear hE93
      refine c_nil ?_
      have hE96 := hE95.sub (L' := [(0, .slice orderA order.length orderC), (1, .int .i64 mask), (5, .int .i64 x5), (23, .bool false)]) ⟨rfl, rfl, rfl, rfl, trivial⟩; clear hE95
      refine p_tn ?_
      refine c_false hE96 rfl ?_
      refine wp_skip ?_
      refine p_bn ?_
      refine p_tn ?_
      refine c_reg ?_
      refine q_step (v := .int .i64 x5) hE96 (y_move rfl) rfl rfl rfl ?_; intro a97 hE98; clear hE96
      refine q_step (v := .int .i64 (x5 + 1)) hE98 (y_add rfl rfl ⟨(by omega), (by omega)⟩) rfl rfl rfl ?_; intro a99 hE100; clear hE98
      refine q_step (v := .int .i64 (x5 + 1)) hE100 (y_assign rfl) rfl rfl rfl ?_; intro a101 hE102; clear hE100
      refine c_nil ?_
      have hE103 := hE102.sub (L' := [(0, .slice orderA order.length orderC), (1, .int .i64 mask), (5, .int .i64 (x5 + 1))]) ⟨rfl, rfl, rfl, trivial⟩; clear hE102
      refine p_tn ⟨r17, Nat.lt_succ_self _, x5 + 1, (hT13.symm.trans (show F_l18Low_L1b order mask (F_l18Low_L1 order mask r17) x5 = F_l18Low_L1 order mask r17 (x5 + 1) by unfold F_l18Low_L1b; rw [hb42, ht27]; first | done | rfl)).symm, (by omega), (by first | omega | (simp only [sS_len, sL_len]; omega) | (simp only [List.length_replicate, sI_len]; omega) | (simp only [List.length_append, List.length_cons, List.length_nil, sI_len, cond_true, cond_false]; omega) | (simp only [List.length_append, List.length_cons, List.length_nil, sI_len, cond_eq_ite, apply_ite List.length]; split <;> simp only [List.length_append, List.length_cons, List.length_nil, sI_len] <;> omega) | grind), (by first | omega | (simp only [sS_len, sL_len]; omega) | (simp only [List.length_replicate, sI_len]; omega) | (simp only [List.length_append, List.length_cons, List.length_nil, sI_len, cond_true, cond_false]; omega) | (simp only [List.length_append, List.length_cons, List.length_nil, sI_len, cond_eq_ite, apply_ite List.length]; split <;> simp only [List.length_append, List.length_cons, List.length_nil, sI_len] <;> omega) | grind), (hE103.sub (L' := [(0, .slice orderA order.length orderC), (1, .int .i64 mask), (5, .int .i64 (x5 + 1))]) ⟨rfl, rfl, rfl, trivial⟩), (St.pick (Γ' := [.rd 1 orderA order.length orderC order]) hS12 [0] (by decide) rfl)⟩
    ·
     have hp104 := of_decide_eq_false ht27
     have hE105 := hE26; rw [ht27] at hE105; clear hE26
     refine wp_exit ?_
     refine p_te ?_
     have hX106 : F_l18Low_L1 order mask (Int.toNat ((order.length : Int) - 0) + 1) 0 = .ok x5 := hT13.symm.trans (show F_l18Low_L1b order mask (F_l18Low_L1 order mask r17) x5 = .ok x5 by unfold F_l18Low_L1b; rw [ht27]; first | done | rfl)
     refine p_te (p_be (p_tn ?_))
     exact ⟨(by rw [hX106]; rfl), (by rw [hX106]; exact (show 0 ≤ x5 from (by first | omega | (simp only [sS_len, sL_len]; omega) | (simp only [List.length_replicate, sI_len]; omega) | (simp only [List.length_append, List.length_cons, List.length_nil, sI_len, cond_true, cond_false]; omega) | (simp only [List.length_append, List.length_cons, List.length_nil, sI_len, cond_eq_ite, apply_ite List.length]; split <;> simp only [List.length_append, List.length_cons, List.length_nil, sI_len] <;> omega) | grind))), (by rw [hX106]; exact (show x5 ≤ (order.length : Int) from (by first | omega | (simp only [sS_len, sL_len]; omega) | (simp only [List.length_replicate, sI_len]; omega) | (simp only [List.length_append, List.length_cons, List.length_nil, sI_len, cond_true, cond_false]; omega) | (simp only [List.length_append, List.length_cons, List.length_nil, sI_len, cond_eq_ite, apply_ite List.length]; split <;> simp only [List.length_append, List.length_cons, List.length_nil, sI_len] <;> omega) | grind))), (by rw [hX106]; exact (hE105.sub (L' := [(0, .slice orderA order.length orderC), (1, .int .i64 mask), (5, .int .i64 x5)]) ⟨rfl, rfl, rfl, trivial⟩)), (St.pick (Γ' := [.rd 1 orderA order.length orderC order]) hS12 [0] (by decide) rfl)⟩
  ·
   rintro a107 w108 ⟨hO111, hi112, hi113, hE109, hS110⟩; clear hE7 hS1
   refine p_tn ?_
   refine c_seq ?_
   refine c_reg ?_
   refine q_step (v := .int .i64 (-1)) hE109 (y_assign rfl) rfl rfl rfl ?_; intro a114 hE115; clear hE109
   refine c_nil ?_
   have hE116 := hE115.sub (L' := [(4, .int .i64 (-1))]) ⟨rfl, trivial⟩; clear hE115
   refine p_tn ?_
   refine wp_ret ?_
   have hF : F_l18Low order mask = -1 := by unfold F_l18Low; rw [hO111]; first | done | rfl
   refine c_ret1 hE116 rfl rfl ?_
   exact ⟨(by rw [hF]; first | done | (dsimp only; done) | rfl), hS110.ext⟩
theorem l18Low_val (order : List Int) (mask : Int) : F_l18Low order mask = (match (List.range order.length).find? (fun (j : Nat) => F_l01Bit mask (j : Int) && decide (anI mask (gI order (j : Int)) = 0)) with | some j => (j : Int) | none => -1) := by
  unfold F_l18Low
  rw [findR (F_l18Low_L1 order mask) (fun i => i) (order.length : Int) (fun i => F_l01Bit mask i && decide (anI mask (gI order i) = 0)) (fun r i => by
    show F_l18Low_L1b order mask (F_l18Low_L1 order mask r) i = _
    unfold F_l18Low_L1b
    cases F_l01Bit mask i
    · rfl
    · rw [Bool.true_and, cond_true]), Int.toNat_natCast]
  generalize (List.range order.length).find? _ = o
  cases o with
  | none =>
    show (bif isOk (F_l18Low_L1b order mask (F_l18Low_L1 order mask 0) (order.length : Int)) then -1 else errD (F_l18Low_L1b order mask (F_l18Low_L1 order mask 0) (order.length : Int))) = -1
    unfold F_l18Low_L1b
    rw [decide_eq_false (by omega), cond_false]; rfl
  | some j => rfl
theorem l18Low_bd (order : List Int) (mask : Int) : -1 ≤ F_l18Low order mask ∧ (F_l18Low order mask < (order.length : Int) ∨ F_l18Low order mask = -1) := by
  rw [l18Low_val]
  cases h : (List.range order.length).find? (fun (j : Nat) => F_l01Bit mask (j : Int) && decide (anI mask (gI order (j : Int)) = 0)) with
  | none => exact ⟨Int.le_refl _, .inr rfl⟩
  | some j =>
    have := List.mem_range.1 (List.mem_of_find?_eq_some h)
    exact ⟨by show (-1 : Int) ≤ (j : Int); omega, .inl (by show (j : Int) < _; omega)⟩
def F_l18Partial_L2b (order : List Int) (x3 : Int) (rec : Int → Except (Bool) (Int)) (y4L2 : Int) : Except (Bool) (Int) :=
  bif (decide (y4L2 < x3)) then (bif (F_l01Bit (gI order x3) y4L2) then (bif (F_l01Bit (gI order y4L2) x3) then (.error false) else (rec (y4L2 + 1))) else (rec (y4L2 + 1))) else (.ok y4L2)
def F_l18Partial_L2 (order : List Int) (x3 : Int) : Nat → Int → Except (Bool) (Int)
  | 0, y4L2 => .ok y4L2
  | r + 1, y4L2 => F_l18Partial_L2b order x3 (F_l18Partial_L2 order x3 r) y4L2
def F_l18Partial_L1b (order : List Int) (rec : Int → Except (Bool) (Int)) (x3 : Int) : Except (Bool) (Int) :=
  bif (decide (x3 < (order.length : Int))) then (bif (!(F_l01Bit (gI order x3) x3)) then (.error false) else (bif (!decide ((F_l01Image order (gI order x3)) = (gI order x3))) then (.error false) else (bif (isOk (F_l18Partial_L2 order x3 (Int.toNat (x3 - 0) + 1) 0)) then (rec (x3 + 1)) else (.error (errD (F_l18Partial_L2 order x3 (Int.toNat (x3 - 0) + 1) 0)))))) else (.ok x3)
def F_l18Partial_L1 (order : List Int) : Nat → Int → Except (Bool) (Int)
  | 0, x3 => .ok x3
  | r + 1, x3 => F_l18Partial_L1b order (F_l18Partial_L1 order r) x3
def F_l18Partial (order : List Int) : Bool :=
  bif (isOk (F_l18Partial_L1 order (Int.toNat ((order.length : Int) - 0) + 1) 0)) then true else (errD (F_l18Partial_L1 order (Int.toNat ((order.length : Int) - 0) + 1) 0))
theorem cf_l18Partial (args : Array Value) (w : World) : (callFunc 207 args).run Try.prog w = .ok (.enter 207 args) w := by kernel_rfl
set_option maxRecDepth 100000 in
theorem c_l18Partial (orderA : Option Addr) (orderN orderC : Nat) (order : List Int) (w : World) (orderR : RdS w 1 orderA orderN orderC order) (hl : order.length ≤ 30) :
    Calls Try.prog 207 #[.slice orderA orderN orderC] w (Ret fun v w' => v = .bool (F_l18Partial order) ∧ Ext w w') := by
  obtain rfl : orderN = order.length := orderR.len1.symm
  have orderLe := orderR.le
  have hS := St.nil w
  have hS1 := St.rd0 hS rfl orderR; clear hS
  refine enter (args := [.slice orderA order.length orderC]) Try.func207 rfl rfl ?_
  rw [Try.ntmps207]; intro a hE
  have hE := hE.sub (L' := [(0, .slice orderA order.length orderC)]) ⟨rfl, trivial⟩
  refine c_seq ?_
  refine c_reg ?_
  refine q_step (v := .bool false) hE (y_assign rfl) rfl rfl rfl ?_; intro a2 hE3; clear hE
  refine c_nil ?_
  have hE4 := hE3.sub (L' := [(0, .slice orderA order.length orderC)]) ⟨rfl, trivial⟩; clear hE3
  refine p_tn ?_
  refine c_seq ?_
  refine c_seq ?_
  refine c_reg ?_
  refine q_step (v := .int .i64 0) hE4 (y_assign rfl) rfl rfl rfl ?_; intro a5 hE6; clear hE4
  refine c_nil ?_
  have hE7 := hE6.sub (L' := [(0, .slice orderA order.length orderC), (3, .int .i64 0)]) ⟨rfl, rfl, trivial⟩; clear hE6
  refine p_tn ?_
  refine c_cut1 (fun a' w' => isOk (F_l18Partial_L1 order (Int.toNat ((order.length : Int) - 0) + 1) 0) = true ∧ (0 ≤ (okD (F_l18Partial_L1 order (Int.toNat ((order.length : Int) - 0) + 1) 0))) ∧ ((okD (F_l18Partial_L1 order (Int.toNat ((order.length : Int) - 0) + 1) 0)) ≤ (order.length : Int)) ∧ E a' 50 [(0, .slice orderA order.length orderC), (3, .int .i64 (okD (F_l18Partial_L1 order (Int.toNat ((order.length : Int) - 0) + 1) 0)))] ∧ St w w' [.rd 1 orderA order.length orderC order]) ?_ ?_
  ·
   refine wp_block ?_
   refine c_loop (fun r a' w' => ∃ x3 : Int, F_l18Partial_L1 order r x3 = F_l18Partial_L1 order (Int.toNat ((order.length : Int) - 0) + 1) 0 ∧ Int.toNat ((order.length : Int) - x3) < r ∧ (0 ≤ x3) ∧ (x3 ≤ (order.length : Int)) ∧ E a' 50 [(0, .slice orderA order.length orderC), (3, .int .i64 x3)] ∧ St w w' [.rd 1 orderA order.length orderC order]) (r := (Int.toNat ((order.length : Int) - 0) + 1)) ?_ ?_
   · exact ⟨0, rfl, Nat.lt_succ_self _, (by first | omega | (simp only [sS_len, sL_len]; omega) | (simp only [List.length_replicate, sI_len]; omega) | (simp only [List.length_append, List.length_cons, List.length_nil, sI_len, cond_true, cond_false]; omega) | (simp only [List.length_append, List.length_cons, List.length_nil, sI_len, cond_eq_ite, apply_ite List.length]; split <;> simp only [List.length_append, List.length_cons, List.length_nil, sI_len] <;> omega) | grind), (by first | omega | (simp only [sS_len, sL_len]; omega) | (simp only [List.length_replicate, sI_len]; omega) | (simp only [List.length_append, List.length_cons, List.length_nil, sI_len, cond_true, cond_false]; omega) | (simp only [List.length_append, List.length_cons, List.length_nil, sI_len, cond_eq_ite, apply_ite List.length]; split <;> simp only [List.length_append, List.length_cons, List.length_nil, sI_len] <;> omega) | grind), (hE7.sub (L' := [(0, .slice orderA order.length orderC), (3, .int .i64 0)]) ⟨rfl, rfl, trivial⟩), (St.pick (Γ' := [.rd 1 orderA order.length orderC order]) hS1 [0] (by decide) rfl)⟩
   ·
    clear hE7 hS1
    rintro r17 a9 w10 ⟨x3, hT13, hr14, hi15, hi16, hE11, hS12⟩
    obtain ⟨r17, rfl⟩ : ∃ r', r17 = r' + 1 := ⟨r17 - 1, by omega⟩
    refine c_seq ?_
    refine c_seq ?_
    refine c_reg ?_
    refine q_step (v := .int .i64 x3) hE11 (y_move rfl) rfl rfl rfl ?_; intro a18 hE19; clear hE11
    refine q_step (v := .slice orderA order.length orderC) hE19 (y_move rfl) rfl rfl rfl ?_; intro a20 hE21; clear hE19
    refine q_step (v := .int .i64 (order.length : Int)) hE21 (y_len (e := 2) (by kernel_rfl) rfl) rfl rfl rfl ?_; intro a22 hE23; clear hE21
    refine q_step (v := .bool (decide (x3 < (order.length : Int)))) hE23 (y_lss rfl rfl) rfl rfl rfl ?_; intro a24 hE25; clear hE23
    refine c_nil ?_
    have hE26 := hE25.sub (L' := [(0, .slice orderA order.length orderC), (3, .int .i64 x3), (8, .bool (decide (x3 < (order.length : Int))))]) ⟨rfl, rfl, rfl, trivial⟩; clear hE25
    refine p_tn ?_
    refine c_cond hE26 rfl (fun ht27 => ?_) (fun ht27 => ?_)
    ·
     have hp28 := of_decide_eq_true ht27
     have hE29 := hE26; rw [ht27] at hE29; clear hE26
     refine wp_skip ?_
     refine p_tn ?_
     refine c_seq ?_
     refine wp_block ?_
     refine c_seq ?_
     refine c_seq ?_
     refine d_start (fun w w' => (fun w' => w'.cell? (adr orderA (Int.toNat x3)) = some (.int .i64 (gI order x3)) ∧ w'.cell? (adr orderA (Int.toNat x3)) = some (.int .i64 (gI order x3)) ∧ w'.cell? (adr orderA (Int.toNat x3)) = some (.int .i64 (gI order x3)) ∧ True) w → (fun w' => w'.cell? (adr orderA (Int.toNat x3)) = some (.int .i64 (gI order x3)) ∧ w'.cell? (adr orderA (Int.toNat x3)) = some (.int .i64 (gI order x3)) ∧ w'.cell? (adr orderA (Int.toNat x3)) = some (.int .i64 (gI order x3)) ∧ True) w') [3, 12, 17] 20 (by kernel_rfl) rfl ?_
     intro w30 he31; have hS32 := St.go hS12 he31; clear hS12
     refine d_pure (fun _ h => h) (v := .slice orderA order.length orderC) 0 rfl hE29 (y_move rfl) rfl (by kernel_rfl) (by kernel_rfl) (by kernel_rfl) rfl rfl (fun _ _ _ h => h) ?_; intro a33 hE34; clear hE29
     refine d_pure (fun _ h => h) (v := .int .i64 x3) 1 rfl hE34 (y_move rfl) rfl (by kernel_rfl) (by kernel_rfl) (by kernel_rfl) rfl rfl (fun _ _ _ h => h) ?_; intro a35 hE36; clear hE34
     refine d_pure (fun _ h => h) (v := .pointer (some (adr orderA (Int.toNat x3)))) 2 rfl hE36 (y_idx (by kernel_rfl) (fun _ => by kernel_rfl) rfl rfl (RdS.isS (m := x3) (St.rdR (i := 0) hS32 rfl) (by omega) (by omega)) (by omega) (by omega) (Nat.mul_one _).symm) rfl (by kernel_rfl) (by kernel_rfl) (by kernel_rfl) rfl rfl (fun _ _ _ h => h) ?_; intro a37 hE38; clear hE36
     refine d_take (fun _ h => h) (fun _ _ h k => h k) (v := .int .i64 (gI order x3)) 3 rfl hE38 (S := fun w' => w'.cell? (adr orderA (Int.toNat x3)) = some (.int .i64 (gI order x3)) ∧ w'.cell? (adr orderA (Int.toNat x3)) = some (.int .i64 (gI order x3)) ∧ w'.cell? (adr orderA (Int.toNat x3)) = some (.int .i64 (gI order x3)) ∧ True) ⟨(RdS.elt (St.rdR (i := 0) hS32 rfl) (by omega) (by omega) _ (Ext.refl _)), (RdS.elt (St.rdR (i := 0) hS32 rfl) (by omega) (by omega) _ (Ext.refl _)), (RdS.elt (St.rdR (i := 0) hS32 rfl) (by omega) (by omega) _ (Ext.refl _)), trivial⟩ (y_load (fun _ => by kernel_rfl) rfl (fun _ h => h.1)) rfl rfl (by kernel_rfl) (by kernel_rfl) (by kernel_rfl) (by kernel_rfl) rfl rfl (fun _ _ _ h => h) ?_; intro a39 hE40; clear hE38
     refine d_pure (fun _ h => h) (v := .int .i64 x3) 4 rfl hE40 (y_move rfl) rfl (by kernel_rfl) (by kernel_rfl) (by kernel_rfl) rfl rfl (fun _ _ _ h => h) ?_; intro a41 hE42; clear hE40
     refine d_only 5 (by kernel_rfl) rfl hE42 rfl (l_call (f := 179) (argv := [.int .i64 (gI order x3), .int .i64 x3]) hE42 (fun _ => cf_l01Bit _ _) rfl rfl (c_l01Bit (gI order x3) x3 w30 (by omega) (by omega)) ?_)
     rintro _ _ ⟨rfl, rfl⟩ a45 hE46; clear hE42
     refine ⟨fun _ _ => ⟨(RdS.elt (St.rdR (i := 0) hS32 rfl) (by omega) (by omega) _ (Ext.refl _)), (RdS.elt (St.rdR (i := 0) hS32 rfl) (by omega) (by omega) _ (Ext.refl _)), (RdS.elt (St.rdR (i := 0) hS32 rfl) (by omega) (by omega) _ (Ext.refl _)), trivial⟩, ?_⟩
     refine d_pure (fun _ h => h) (v := .bool (!(F_l01Bit (gI order x3) x3))) 6 rfl hE46 (y_not rfl) rfl (by kernel_rfl) (by kernel_rfl) (by kernel_rfl) rfl rfl (fun _ _ _ h => h) ?_; intro a49 hE50; clear hE46
     refine d_pure (fun _ h => h) (v := .bool (!(F_l01Bit (gI order x3) x3))) 7 rfl hE50 (y_move rfl) rfl (by kernel_rfl) (by kernel_rfl) (by kernel_rfl) rfl rfl (fun _ _ _ h => h) ?_; intro a51 hE52; clear hE50
     rcases Bool.eq_false_or_eq_true (!(F_l01Bit (gI order x3) x3)) with hb53 | hb53
     ·
      have hE54 := hE52; (try rw [hb53] at hE54); clear hE52
      have ht55 := bn_t hb53
      refine d_skip (fun _ h => h) 8 rfl hE54 rfl (by kernel_rfl) (by kernel_rfl) (by kernel_rfl) rfl rfl (fun _ _ _ h => h) ?_; intro a56 hE57; clear hE54
      refine d_skip (fun _ h => h) 9 rfl hE57 rfl (by kernel_rfl) (by kernel_rfl) (by kernel_rfl) rfl rfl (fun _ _ _ h => h) ?_; intro a58 hE59; clear hE57
      refine d_skip (fun _ h => h) 10 rfl hE59 rfl (by kernel_rfl) (by kernel_rfl) (by kernel_rfl) rfl rfl (fun _ _ _ h => h) ?_; intro a60 hE61; clear hE59
      refine d_skip (fun _ h => h) 11 rfl hE61 rfl (by kernel_rfl) (by kernel_rfl) (by kernel_rfl) rfl rfl (fun _ _ _ h => h) ?_; intro a62 hE63; clear hE61
      refine d_skip (fun _ h => h) 12 rfl hE63 rfl (by kernel_rfl) (by kernel_rfl) (by kernel_rfl) rfl rfl (fun _ _ _ h => h) ?_; intro a64 hE65; clear hE63
      refine d_skip (fun _ h => h) 13 rfl hE65 rfl (by kernel_rfl) (by kernel_rfl) (by kernel_rfl) rfl rfl (fun _ _ _ h => h) ?_; intro a66 hE67; clear hE65
      refine d_skip (fun _ h => h) 14 rfl hE67 rfl (by kernel_rfl) (by kernel_rfl) (by kernel_rfl) rfl rfl (fun _ _ _ h => h) ?_; intro a68 hE69; clear hE67
      refine d_skip (fun _ h => h) 15 rfl hE69 rfl (by kernel_rfl) (by kernel_rfl) (by kernel_rfl) rfl rfl (fun _ _ _ h => h) ?_; intro a70 hE71; clear hE69
      refine d_skip (fun _ h => h) 16 rfl hE71 rfl (by kernel_rfl) (by kernel_rfl) (by kernel_rfl) rfl rfl (fun _ _ _ h => h) ?_; intro a72 hE73; clear hE71
      refine d_skip (fun _ h => h) 17 rfl hE73 rfl (by kernel_rfl) (by kernel_rfl) (by kernel_rfl) rfl rfl (fun _ _ _ h => h) ?_; intro a74 hE75; clear hE73
      refine d_skip (fun _ h => h) 18 rfl hE75 rfl (by kernel_rfl) (by kernel_rfl) (by kernel_rfl) rfl rfl (fun _ _ _ h => h) ?_; intro a76 hE77; clear hE75
      refine d_pure (fun _ h => h) (v := .bool true) 19 rfl hE77 (y_pick (b := true) rfl rfl) rfl (by kernel_rfl) (by kernel_rfl) (by kernel_rfl) rfl rfl (fun _ _ _ h => h) ?_; intro a78 hE79; clear hE77
      refine d_done (by kernel_rfl) ?_
      have hE80 := hE79.sub (L' := [(0, .slice orderA order.length orderC), (3, .int .i64 x3), (30, .bool true)]) ⟨rfl, rfl, rfl, trivial⟩; clear hE79
      refine p_tn ?_
      refine c_true hE80 rfl ?_
      refine c_seq ?_
      refine c_reg ?_
      refine q_step (v := .bool false) hE80 (y_assign rfl) rfl rfl rfl ?_; intro a81 hE82; clear hE80
      refine c_nil ?_
      have hE83 := hE82.sub (L' := [(2, .bool false)]) ⟨rfl, trivial⟩; clear hE82
      refine p_tn ?_
      refine wp_ret ?_
      refine p_tr ?_
      refine p_br ?_
      refine p_tr ?_
      have hX84 : F_l18Partial_L1 order (Int.toNat ((order.length : Int) - 0) + 1) 0 = .error false := hT13.symm.trans (show F_l18Partial_L1b order (F_l18Partial_L1 order r17) x3 = .error false by unfold F_l18Partial_L1b; rw [hb53, ht27]; first | done | rfl)
      refine p_tr (p_br (p_tr ?_))
      refine p_tr ?_
      have hF : F_l18Partial order = false := by unfold F_l18Partial; rw [hX84]; first | done | rfl
      refine c_ret1 hE83 rfl rfl ?_
      exact ⟨(by rw [hF]; first | done | (dsimp only; done) | rfl), hS32.ext⟩
     ·
      have hE85 := hE52; (try rw [hb53] at hE85); clear hE52
      have ht86 := bn_f hb53
      refine d_pure (fun _ h => h) (v := .slice orderA order.length orderC) 8 rfl hE85 (y_move rfl) rfl (by kernel_rfl) (by kernel_rfl) (by kernel_rfl) rfl rfl (fun _ _ _ h => h) ?_; intro a87 hE88; clear hE85
      refine d_pure (fun _ h => h) (v := .slice orderA order.length orderC) 9 rfl hE88 (y_move rfl) rfl (by kernel_rfl) (by kernel_rfl) (by kernel_rfl) rfl rfl (fun _ _ _ h => h) ?_; intro a89 hE90; clear hE88
      refine d_pure (fun _ h => h) (v := .int .i64 x3) 10 rfl hE90 (y_move rfl) rfl (by kernel_rfl) (by kernel_rfl) (by kernel_rfl) rfl rfl (fun _ _ _ h => h) ?_; intro a91 hE92; clear hE90
      refine d_pure (fun _ h => h) (v := .pointer (some (adr orderA (Int.toNat x3)))) 11 rfl hE92 (y_idx (by kernel_rfl) (fun _ => by kernel_rfl) rfl rfl (RdS.isS (m := x3) (St.rdR (i := 0) hS32 rfl) (by omega) (by omega)) (by omega) (by omega) (Nat.mul_one _).symm) rfl (by kernel_rfl) (by kernel_rfl) (by kernel_rfl) rfl rfl (fun _ _ _ h => h) ?_; intro a93 hE94; clear hE92
      refine d_take (fun _ h => h) (fun _ _ h k => h k) (v := .int .i64 (gI order x3)) 12 rfl hE94 (S := fun w' => w'.cell? (adr orderA (Int.toNat x3)) = some (.int .i64 (gI order x3)) ∧ w'.cell? (adr orderA (Int.toNat x3)) = some (.int .i64 (gI order x3)) ∧ w'.cell? (adr orderA (Int.toNat x3)) = some (.int .i64 (gI order x3)) ∧ True) ⟨(RdS.elt (St.rdR (i := 0) hS32 rfl) (by omega) (by omega) _ (Ext.refl _)), (RdS.elt (St.rdR (i := 0) hS32 rfl) (by omega) (by omega) _ (Ext.refl _)), (RdS.elt (St.rdR (i := 0) hS32 rfl) (by omega) (by omega) _ (Ext.refl _)), trivial⟩ (y_load (fun _ => by kernel_rfl) rfl (fun _ h => h.2.1)) rfl rfl (by kernel_rfl) (by kernel_rfl) (by kernel_rfl) (by kernel_rfl) rfl rfl (fun _ _ _ h => h) ?_; intro a95 hE96; clear hE94
      refine d_pure (fun _ h => h) (v := .slice orderA order.length orderC) 14 rfl hE96 (y_move rfl) rfl (by kernel_rfl) (by kernel_rfl) (by kernel_rfl) rfl rfl (fun _ _ _ h => h) ?_; intro a97 hE98; clear hE96
      refine d_pure (fun _ h => h) (v := .int .i64 x3) 15 rfl hE98 (y_move rfl) rfl (by kernel_rfl) (by kernel_rfl) (by kernel_rfl) rfl rfl (fun _ _ _ h => h) ?_; intro a99 hE100; clear hE98
      refine d_pure (fun _ h => h) (v := .pointer (some (adr orderA (Int.toNat x3)))) 16 rfl hE100 (y_idx (by kernel_rfl) (fun _ => by kernel_rfl) rfl rfl (RdS.isS (m := x3) (St.rdR (i := 0) hS32 rfl) (by omega) (by omega)) (by omega) (by omega) (Nat.mul_one _).symm) rfl (by kernel_rfl) (by kernel_rfl) (by kernel_rfl) rfl rfl (fun _ _ _ h => h) ?_; intro a101 hE102; clear hE100
      refine d_take (fun _ h => h) (fun _ _ h k => h k) (v := .int .i64 (gI order x3)) 17 rfl hE102 (S := fun w' => w'.cell? (adr orderA (Int.toNat x3)) = some (.int .i64 (gI order x3)) ∧ w'.cell? (adr orderA (Int.toNat x3)) = some (.int .i64 (gI order x3)) ∧ w'.cell? (adr orderA (Int.toNat x3)) = some (.int .i64 (gI order x3)) ∧ True) ⟨(RdS.elt (St.rdR (i := 0) hS32 rfl) (by omega) (by omega) _ (Ext.refl _)), (RdS.elt (St.rdR (i := 0) hS32 rfl) (by omega) (by omega) _ (Ext.refl _)), (RdS.elt (St.rdR (i := 0) hS32 rfl) (by omega) (by omega) _ (Ext.refl _)), trivial⟩ (y_load (fun _ => by kernel_rfl) rfl (fun _ h => h.2.2.1)) rfl rfl (by kernel_rfl) (by kernel_rfl) (by kernel_rfl) (by kernel_rfl) rfl rfl (fun _ _ _ h => h) ?_; intro a103 hE104; clear hE102
      refine d_only 13 (by kernel_rfl) rfl hE104 rfl (l_call (f := 131) (argv := [.slice orderA order.length orderC, .int .i64 (gI order x3)]) hE104 (fun _ => cf_l01Image _ _) rfl rfl (c_l01Image orderA order.length orderC order (gI order x3) w30 (St.rdR (i := 0) hS32 rfl) (by omega)) ?_)
      rintro _ w106 ⟨rfl, he110⟩ a107 hE108; clear hE104
      have hS109 := St.go hS32 he110; clear hS32
      refine ⟨fun _ _ => ⟨(RdS.elt (St.rdR (i := 0) hS109 rfl) (by omega) (by omega) _ (Ext.refl _)), (RdS.elt (St.rdR (i := 0) hS109 rfl) (by omega) (by omega) _ (Ext.refl _)), (RdS.elt (St.rdR (i := 0) hS109 rfl) (by omega) (by omega) _ (Ext.refl _)), trivial⟩, ?_⟩
      refine d_pure (fun _ h => h) (v := .bool (!decide ((F_l01Image order (gI order x3)) = (gI order x3)))) 18 rfl hE108 (y_neq rfl rfl) rfl (by kernel_rfl) (by kernel_rfl) (by kernel_rfl) rfl rfl (fun _ _ _ h => h) ?_; intro a111 hE112; clear hE108
      refine d_pure (fun _ h => h) (v := .bool (!decide ((F_l01Image order (gI order x3)) = (gI order x3)))) 19 rfl hE112 (y_pick (b := false) rfl rfl) rfl (by kernel_rfl) (by kernel_rfl) (by kernel_rfl) rfl rfl (fun _ _ _ h => h) ?_; intro a113 hE114; clear hE112
      refine d_done (by kernel_rfl) ?_
      have hE115 := hE114.sub (L' := [(0, .slice orderA order.length orderC), (3, .int .i64 x3), (30, .bool (!decide ((F_l01Image order (gI order x3)) = (gI order x3))))]) ⟨rfl, rfl, rfl, trivial⟩; clear hE114
      refine p_tn ?_
      refine c_cond hE115 rfl (fun ht116 => ?_) (fun ht116 => ?_)
      ·
       have ht117 := bn_t ht116
       have hp118 := of_decide_eq_false ht117
       have hE119 := hE115; rw [ht116] at hE119; clear hE115
       refine c_seq ?_
       refine c_reg ?_
       refine q_step (v := .bool false) hE119 (y_assign rfl) rfl rfl rfl ?_; intro a120 hE121; clear hE119
       refine c_nil ?_
       have hE122 := hE121.sub (L' := [(2, .bool false)]) ⟨rfl, trivial⟩; clear hE121
       refine p_tn ?_
       refine wp_ret ?_
       refine p_tr ?_
       refine p_br ?_
       refine p_tr ?_
       have hX123 : F_l18Partial_L1 order (Int.toNat ((order.length : Int) - 0) + 1) 0 = .error false := hT13.symm.trans (show F_l18Partial_L1b order (F_l18Partial_L1 order r17) x3 = .error false by unfold F_l18Partial_L1b; rw [ht116, hb53, ht27]; first | done | rfl)
       refine p_tr (p_br (p_tr ?_))
       refine p_tr ?_
       have hF : F_l18Partial order = false := by unfold F_l18Partial; rw [hX123]; first | done | rfl
       refine c_ret1 hE122 rfl rfl ?_
       exact ⟨(by rw [hF]; first | done | (dsimp only; done) | rfl), hS109.ext⟩
      ·
       have ht124 := bn_f ht116
       have hp125 := of_decide_eq_true ht124
       have hE126 := hE115; rw [ht116] at hE126; clear hE115
       refine wp_skip ?_
       refine p_tn ?_
       refine c_seq ?_
       refine c_reg ?_
       refine q_step (v := .int .i64 0) hE126 (y_assign rfl) rfl rfl rfl ?_; intro a127 hE128; clear hE126
       refine c_nil ?_
       have hE129 := hE128.sub (L' := [(0, .slice orderA order.length orderC), (3, .int .i64 x3), (4, .int .i64 0)]) ⟨rfl, rfl, rfl, trivial⟩; clear hE128
       refine p_tn ?_
       refine c_cut1 (fun a' w' => isOk (F_l18Partial_L2 order x3 (Int.toNat (x3 - 0) + 1) 0) = true ∧ (0 ≤ (okD (F_l18Partial_L2 order x3 (Int.toNat (x3 - 0) + 1) 0))) ∧ E a' 50 [(0, .slice orderA order.length orderC), (3, .int .i64 x3), (4, .int .i64 (okD (F_l18Partial_L2 order x3 (Int.toNat (x3 - 0) + 1) 0)))] ∧ St w w' [.rd 1 orderA order.length orderC order]) ?_ ?_
       ·
        refine wp_block ?_
        refine c_loop (fun r a' w' => ∃ y4L2 : Int, F_l18Partial_L2 order x3 r y4L2 = F_l18Partial_L2 order x3 (Int.toNat (x3 - 0) + 1) 0 ∧ Int.toNat (x3 - y4L2) < r ∧ (0 ≤ y4L2) ∧ E a' 50 [(0, .slice orderA order.length orderC), (3, .int .i64 x3), (4, .int .i64 y4L2)] ∧ St w w' [.rd 1 orderA order.length orderC order]) (r := (Int.toNat (x3 - 0) + 1)) ?_ ?_
        · exact ⟨0, rfl, Nat.lt_succ_self _, (by first | omega | (simp only [sS_len, sL_len]; omega) | (simp only [List.length_replicate, sI_len]; omega) | (simp only [List.length_append, List.length_cons, List.length_nil, sI_len, cond_true, cond_false]; omega) | (simp only [List.length_append, List.length_cons, List.length_nil, sI_len, cond_eq_ite, apply_ite List.length]; split <;> simp only [List.length_append, List.length_cons, List.length_nil, sI_len] <;> omega) | grind), (hE129.sub (L' := [(0, .slice orderA order.length orderC), (3, .int .i64 x3), (4, .int .i64 0)]) ⟨rfl, rfl, rfl, trivial⟩), (St.pick (Γ' := [.rd 1 orderA order.length orderC order]) hS109 [0] (by decide) rfl)⟩
        ·
         clear hE129 hS109
         rintro r138 a131 w132 ⟨y4L2, hT135, hr136, hi137, hE133, hS134⟩
         obtain ⟨r138, rfl⟩ : ∃ r', r138 = r' + 1 := ⟨r138 - 1, by omega⟩
         refine c_seq ?_
         refine c_seq ?_
         refine c_reg ?_
         refine q_step (v := .int .i64 y4L2) hE133 (y_move rfl) rfl rfl rfl ?_; intro a139 hE140; clear hE133
         refine q_step (v := .int .i64 x3) hE140 (y_move rfl) rfl rfl rfl ?_; intro a141 hE142; clear hE140
         refine q_step (v := .bool (decide (y4L2 < x3))) hE142 (y_lss rfl rfl) rfl rfl rfl ?_; intro a143 hE144; clear hE142
         refine c_nil ?_
         have hE145 := hE144.sub (L' := [(0, .slice orderA order.length orderC), (3, .int .i64 x3), (4, .int .i64 y4L2), (33, .bool (decide (y4L2 < x3)))]) ⟨rfl, rfl, rfl, rfl, trivial⟩; clear hE144
         refine p_tn ?_
         refine c_cond hE145 rfl (fun ht146 => ?_) (fun ht146 => ?_)
         ·
          have hp147 := of_decide_eq_true ht146
          have hE148 := hE145; rw [ht146] at hE148; clear hE145
          refine wp_skip ?_
          refine p_tn ?_
          refine c_seq ?_
          refine wp_block ?_
          refine c_seq ?_
          refine c_reg ?_
          refine q_step (v := .slice orderA order.length orderC) hE148 (y_move rfl) rfl rfl rfl ?_; intro a149 hE150; clear hE148
          refine q_step (v := .int .i64 x3) hE150 (y_move rfl) rfl rfl rfl ?_; intro a151 hE152; clear hE150
          refine q_step (v := .pointer (some (adr orderA (Int.toNat x3)))) hE152 (y_idx (by kernel_rfl) (fun _ => by kernel_rfl) rfl rfl (RdS.isS (m := x3) (St.rdR (i := 0) hS134 rfl) (by omega) (by omega)) (by omega) (by omega) (Nat.mul_one _).symm) rfl rfl rfl ?_; intro a153 hE154; clear hE152
          refine q_step (v := .int .i64 (gI order x3)) hE154 (y_load (fun _ => by kernel_rfl) rfl (RdS.elt (St.rdR (i := 0) hS134 rfl) (by omega) (by omega))) rfl rfl rfl ?_; intro a155 hE156; clear hE154
          refine q_step (v := .int .i64 y4L2) hE156 (y_move rfl) rfl rfl rfl ?_; intro a157 hE158; clear hE156
          refine l_step hE158 rfl (l_call (f := 179) (argv := [.int .i64 (gI order x3), .int .i64 y4L2]) hE158 (fun _ => cf_l01Bit _ _) rfl rfl (c_l01Bit (gI order x3) y4L2 w132 (by omega) (by omega)) ?_)
          rintro _ _ ⟨rfl, rfl⟩ a161 hE162; clear hE158
          refine q_step (v := .bool (F_l01Bit (gI order x3) y4L2)) hE162 (y_move rfl) rfl rfl rfl ?_; intro a165 hE166; clear hE162
          rcases Bool.eq_false_or_eq_true (F_l01Bit (gI order x3) y4L2) with hb167 | hb167
          ·
           have hE168 := hE166; (try rw [hb167] at hE168); clear hE166
           refine q_step (v := .slice orderA order.length orderC) hE168 (y_move rfl) rfl rfl rfl ?_; intro a169 hE170; clear hE168
           refine q_step (v := .int .i64 y4L2) hE170 (y_move rfl) rfl rfl rfl ?_; intro a171 hE172; clear hE170
           refine q_step (v := .pointer (some (adr orderA (Int.toNat y4L2)))) hE172 (y_idx (by kernel_rfl) (fun _ => by kernel_rfl) rfl rfl (RdS.isS (m := y4L2) (St.rdR (i := 0) hS134 rfl) (by omega) (by omega)) (by omega) (by omega) (Nat.mul_one _).symm) rfl rfl rfl ?_; intro a173 hE174; clear hE172
           refine q_step (v := .int .i64 (gI order y4L2)) hE174 (y_load (fun _ => by kernel_rfl) rfl (RdS.elt (St.rdR (i := 0) hS134 rfl) (by omega) (by omega))) rfl rfl rfl ?_; intro a175 hE176; clear hE174
           refine q_step (v := .int .i64 x3) hE176 (y_move rfl) rfl rfl rfl ?_; intro a177 hE178; clear hE176
           refine l_step hE178 rfl (l_call (f := 179) (argv := [.int .i64 (gI order y4L2), .int .i64 x3]) hE178 (fun _ => cf_l01Bit _ _) rfl rfl (c_l01Bit (gI order y4L2) x3 w132 (by omega) (by omega)) ?_)
           rintro _ _ ⟨rfl, rfl⟩ a181 hE182; clear hE178
           refine q_step (v := .bool (F_l01Bit (gI order y4L2) x3)) hE182 (y_pick (b := true) rfl rfl) rfl rfl rfl ?_; intro a185 hE186; clear hE182
           refine c_nil ?_
           have hE187 := hE186.sub (L' := [(0, .slice orderA order.length orderC), (3, .int .i64 x3), (4, .int .i64 y4L2), (49, .bool (F_l01Bit (gI order y4L2) x3))]) ⟨rfl, rfl, rfl, rfl, trivial⟩; clear hE186
           refine p_tn ?_
           refine c_cond hE187 rfl (fun ht188 => ?_) (fun ht188 => ?_)
           ·
            have hE189 := hE187; rw [ht188] at hE189; clear hE187
            refine c_seq ?_
            refine c_reg ?_
            refine q_step (v := .bool false) hE189 (y_assign rfl) rfl rfl rfl ?_; intro a190 hE191; clear hE189
            refine c_nil ?_
            have hE192 := hE191.sub (L' := [(2, .bool false)]) ⟨rfl, trivial⟩; clear hE191
            refine p_tn ?_
            refine wp_ret ?_
            refine p_br ?_
            refine p_tr ?_
            have hX193 : F_l18Partial_L2 order x3 (Int.toNat (x3 - 0) + 1) 0 = .error false := hT135.symm.trans (show F_l18Partial_L2b order x3 (F_l18Partial_L2 order x3 r138) y4L2 = .error false by unfold F_l18Partial_L2b; rw [ht188, hb167, ht146]; first | done | rfl)
            refine p_tr (p_br (p_tr ?_))
            refine p_br ?_
            refine p_tr ?_
            have hX194 : F_l18Partial_L1 order (Int.toNat ((order.length : Int) - 0) + 1) 0 = .error false := hT13.symm.trans (show F_l18Partial_L1b order (F_l18Partial_L1 order r17) x3 = .error false by unfold F_l18Partial_L1b; rw [hX193, ht116, hb53, ht27]; first | done | rfl)
            refine p_tr (p_br (p_tr ?_))
            refine p_tr ?_
            have hF : F_l18Partial order = false := by unfold F_l18Partial; rw [hX194]; first | done | rfl
            refine c_ret1 hE192 rfl rfl ?_
            exact ⟨(by rw [hF]; first | done | (dsimp only; done) | rfl), hS134.ext⟩
           ·
            have hE195 := hE187; rw [ht188] at hE195; clear hE187
            refine wp_skip ?_
            refine p_bn ?_
            refine p_tn ?_
            refine c_reg ?_
            refine q_step (v := .int .i64 y4L2) hE195 (y_move rfl) rfl rfl rfl ?_; intro a196 hE197; clear hE195
            refine q_step (v := .int .i64 (y4L2 + 1)) hE197 (y_add rfl rfl ⟨(by omega), (by omega)⟩) rfl rfl rfl ?_; intro a198 hE199; clear hE197
            refine q_step (v := .int .i64 (y4L2 + 1)) hE199 (y_assign rfl) rfl rfl rfl ?_; intro a200 hE201; clear hE199
            refine c_nil ?_
            have hE202 := hE201.sub (L' := [(0, .slice orderA order.length orderC), (3, .int .i64 x3), (4, .int .i64 (y4L2 + 1))]) ⟨rfl, rfl, rfl, trivial⟩; clear hE201
            refine p_tn ⟨r138, Nat.lt_succ_self _, y4L2 + 1, (hT135.symm.trans (show F_l18Partial_L2b order x3 (F_l18Partial_L2 order x3 r138) y4L2 = F_l18Partial_L2 order x3 r138 (y4L2 + 1) by unfold F_l18Partial_L2b; rw [ht188, hb167, ht146]; first | done | rfl)).symm, (by omega), (by first | omega | (simp only [sS_len, sL_len]; omega) | (simp only [List.length_replicate, sI_len]; omega) | (simp only [List.length_append, List.length_cons, List.length_nil, sI_len, cond_true, cond_false]; omega) | (simp only [List.length_append, List.length_cons, List.length_nil, sI_len, cond_eq_ite, apply_ite List.length]; split <;> simp only [List.length_append, List.length_cons, List.length_nil, sI_len] <;> omega) | grind), (hE202.sub (L' := [(0, .slice orderA order.length orderC), (3, .int .i64 x3), (4, .int .i64 (y4L2 + 1))]) ⟨rfl, rfl, rfl, trivial⟩), (St.pick (Γ' := [.rd 1 orderA order.length orderC order]) hS134 [0] (by decide) rfl)⟩
          ·
           have hE203 := hE166; (try rw [hb167] at hE203); clear hE166
           refine q_skip hE203 rfl rfl rfl ?_; intro a204 hE205; clear hE203
           refine q_skip hE205 rfl rfl rfl ?_; intro a206 hE207; clear hE205
           refine q_skip hE207 rfl rfl rfl ?_; intro a208 hE209; clear hE207
           refine q_skip hE209 rfl rfl rfl ?_; intro a210 hE211; clear hE209
           refine q_skip hE211 rfl rfl rfl ?_; intro a212 hE213; clear hE211
           refine q_skip hE213 rfl rfl rfl ?_; intro a214 hE215; clear hE213
           refine q_step (v := .bool false) hE215 (y_pick (b := false) rfl rfl) rfl rfl rfl ?_; intro a216 hE217; clear hE215
           refine c_nil ?_
           have hE218 := hE217.sub (L' := [(0, .slice orderA order.length orderC), (3, .int .i64 x3), (4, .int .i64 y4L2), (49, .bool false)]) ⟨rfl, rfl, rfl, rfl, trivial⟩; clear hE217
           refine p_tn ?_
           refine c_false hE218 rfl ?_
           refine wp_skip ?_
           refine p_bn ?_
           refine p_tn ?_
           refine c_reg ?_
           refine q_step (v := .int .i64 y4L2) hE218 (y_move rfl) rfl rfl rfl ?_; intro a219 hE220; clear hE218
           refine q_step (v := .int .i64 (y4L2 + 1)) hE220 (y_add rfl rfl ⟨(by omega), (by omega)⟩) rfl rfl rfl ?_; intro a221 hE222; clear hE220
           refine q_step (v := .int .i64 (y4L2 + 1)) hE222 (y_assign rfl) rfl rfl rfl ?_; intro a223 hE224; clear hE222
           refine c_nil ?_
           have hE225 := hE224.sub (L' := [(0, .slice orderA order.length orderC), (3, .int .i64 x3), (4, .int .i64 (y4L2 + 1))]) ⟨rfl, rfl, rfl, trivial⟩; clear hE224
           refine p_tn ⟨r138, Nat.lt_succ_self _, y4L2 + 1, (hT135.symm.trans (show F_l18Partial_L2b order x3 (F_l18Partial_L2 order x3 r138) y4L2 = F_l18Partial_L2 order x3 r138 (y4L2 + 1) by unfold F_l18Partial_L2b; rw [hb167, ht146]; first | done | rfl)).symm, (by omega), (by first | omega | (simp only [sS_len, sL_len]; omega) | (simp only [List.length_replicate, sI_len]; omega) | (simp only [List.length_append, List.length_cons, List.length_nil, sI_len, cond_true, cond_false]; omega) | (simp only [List.length_append, List.length_cons, List.length_nil, sI_len, cond_eq_ite, apply_ite List.length]; split <;> simp only [List.length_append, List.length_cons, List.length_nil, sI_len] <;> omega) | grind), (hE225.sub (L' := [(0, .slice orderA order.length orderC), (3, .int .i64 x3), (4, .int .i64 (y4L2 + 1))]) ⟨rfl, rfl, rfl, trivial⟩), (St.pick (Γ' := [.rd 1 orderA order.length orderC order]) hS134 [0] (by decide) rfl)⟩
         ·
          have hp226 := of_decide_eq_false ht146
          have hE227 := hE145; rw [ht146] at hE227; clear hE145
          refine wp_exit ?_
          refine p_te ?_
          have hX228 : F_l18Partial_L2 order x3 (Int.toNat (x3 - 0) + 1) 0 = .ok y4L2 := hT135.symm.trans (show F_l18Partial_L2b order x3 (F_l18Partial_L2 order x3 r138) y4L2 = .ok y4L2 by unfold F_l18Partial_L2b; rw [ht146]; first | done | rfl)
          refine p_te (p_be (p_tn ?_))
          exact ⟨(by rw [hX228]; rfl), (by rw [hX228]; exact (show 0 ≤ y4L2 from (by first | omega | (simp only [sS_len, sL_len]; omega) | (simp only [List.length_replicate, sI_len]; omega) | (simp only [List.length_append, List.length_cons, List.length_nil, sI_len, cond_true, cond_false]; omega) | (simp only [List.length_append, List.length_cons, List.length_nil, sI_len, cond_eq_ite, apply_ite List.length]; split <;> simp only [List.length_append, List.length_cons, List.length_nil, sI_len] <;> omega) | grind))), (by rw [hX228]; exact (hE227.sub (L' := [(0, .slice orderA order.length orderC), (3, .int .i64 x3), (4, .int .i64 y4L2)]) ⟨rfl, rfl, rfl, trivial⟩)), (St.pick (Γ' := [.rd 1 orderA order.length orderC order]) hS134 [0] (by decide) rfl)⟩
       ·
        rintro a229 w230 ⟨hO233, hi234, hE231, hS232⟩; clear hE129 hS109
        refine p_bn ?_
        refine p_tn ?_
        refine c_reg ?_
        refine q_step (v := .int .i64 x3) hE231 (y_move rfl) rfl rfl rfl ?_; intro a235 hE236; clear hE231
        refine q_step (v := .int .i64 (x3 + 1)) hE236 (y_add rfl rfl ⟨(by omega), (by omega)⟩) rfl rfl rfl ?_; intro a237 hE238; clear hE236
        refine q_step (v := .int .i64 (x3 + 1)) hE238 (y_assign rfl) rfl rfl rfl ?_; intro a239 hE240; clear hE238
        refine c_nil ?_
        have hE241 := hE240.sub (L' := [(0, .slice orderA order.length orderC), (3, .int .i64 (x3 + 1))]) ⟨rfl, rfl, trivial⟩; clear hE240
        refine p_tn ⟨r17, Nat.lt_succ_self _, x3 + 1, (hT13.symm.trans (show F_l18Partial_L1b order (F_l18Partial_L1 order r17) x3 = F_l18Partial_L1 order r17 (x3 + 1) by unfold F_l18Partial_L1b; rw [hO233, ht116, hb53, ht27]; first | done | rfl)).symm, (by omega), (by first | omega | (simp only [sS_len, sL_len]; omega) | (simp only [List.length_replicate, sI_len]; omega) | (simp only [List.length_append, List.length_cons, List.length_nil, sI_len, cond_true, cond_false]; omega) | (simp only [List.length_append, List.length_cons, List.length_nil, sI_len, cond_eq_ite, apply_ite List.length]; split <;> simp only [List.length_append, List.length_cons, List.length_nil, sI_len] <;> omega) | grind), (by first | omega | (simp only [sS_len, sL_len]; omega) | (simp only [List.length_replicate, sI_len]; omega) | (simp only [List.length_append, List.length_cons, List.length_nil, sI_len, cond_true, cond_false]; omega) | (simp only [List.length_append, List.length_cons, List.length_nil, sI_len, cond_eq_ite, apply_ite List.length]; split <;> simp only [List.length_append, List.length_cons, List.length_nil, sI_len] <;> omega) | grind), (hE241.sub (L' := [(0, .slice orderA order.length orderC), (3, .int .i64 (x3 + 1))]) ⟨rfl, rfl, trivial⟩), (St.pick (Γ' := [.rd 1 orderA order.length orderC order]) hS232 [0] (by decide) rfl)⟩
    ·
     have hp242 := of_decide_eq_false ht27
     have hE243 := hE26; rw [ht27] at hE243; clear hE26
     refine wp_exit ?_
     refine p_te ?_
     have hX244 : F_l18Partial_L1 order (Int.toNat ((order.length : Int) - 0) + 1) 0 = .ok x3 := hT13.symm.trans (show F_l18Partial_L1b order (F_l18Partial_L1 order r17) x3 = .ok x3 by unfold F_l18Partial_L1b; rw [ht27]; first | done | rfl)
     refine p_te (p_be (p_tn ?_))
     exact ⟨(by rw [hX244]; rfl), (by rw [hX244]; exact (show 0 ≤ x3 from (by first | omega | (simp only [sS_len, sL_len]; omega) | (simp only [List.length_replicate, sI_len]; omega) | (simp only [List.length_append, List.length_cons, List.length_nil, sI_len, cond_true, cond_false]; omega) | (simp only [List.length_append, List.length_cons, List.length_nil, sI_len, cond_eq_ite, apply_ite List.length]; split <;> simp only [List.length_append, List.length_cons, List.length_nil, sI_len] <;> omega) | grind))), (by rw [hX244]; exact (show x3 ≤ (order.length : Int) from (by first | omega | (simp only [sS_len, sL_len]; omega) | (simp only [List.length_replicate, sI_len]; omega) | (simp only [List.length_append, List.length_cons, List.length_nil, sI_len, cond_true, cond_false]; omega) | (simp only [List.length_append, List.length_cons, List.length_nil, sI_len, cond_eq_ite, apply_ite List.length]; split <;> simp only [List.length_append, List.length_cons, List.length_nil, sI_len] <;> omega) | grind))), (by rw [hX244]; exact (hE243.sub (L' := [(0, .slice orderA order.length orderC), (3, .int .i64 x3)]) ⟨rfl, rfl, trivial⟩)), (St.pick (Γ' := [.rd 1 orderA order.length orderC order]) hS12 [0] (by decide) rfl)⟩
  ·
   rintro a245 w246 ⟨hO249, hi250, hi251, hE247, hS248⟩; clear hE7 hS1
   refine p_tn ?_
   refine c_seq ?_
   refine c_reg ?_
   refine q_step (v := .bool true) hE247 (y_assign rfl) rfl rfl rfl ?_; intro a252 hE253; clear hE247
   refine c_nil ?_
   have hE254 := hE253.sub (L' := [(2, .bool true)]) ⟨rfl, trivial⟩; clear hE253
   refine p_tn ?_
   refine wp_ret ?_
   have hF : F_l18Partial order = true := by unfold F_l18Partial; rw [hO249]; first | done | rfl
   refine c_ret1 hE254 rfl rfl ?_
   exact ⟨(by rw [hF]; first | done | (dsimp only; done) | rfl), hS248.ext⟩
end Go.Proofs.Ytkilkfhjfobcdaa
