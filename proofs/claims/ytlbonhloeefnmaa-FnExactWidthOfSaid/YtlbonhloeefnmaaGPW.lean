/- GPW: models and contracts, printed by wip/gen/gen.py -/
import Derived.Test.YtlbonhloeefnmaaGPK
set_option linter.unusedVariables false
set_option linter.unusedSimpArgs false
namespace Go.Proofs.Ytlbonhloeefnmaa
open Go.RowKit

def F_Poset_isAntichain_L1b (pp1 : List Int) (mask : Int) (rec : Int → Except (Bool) (Int)) (t10 : Int) : Except (Bool) (Int) :=
  bif (decide (t10 < ((F_membersOf mask).length : Int))) then (bif (!decide ((andI (gI pp1 (gI (F_membersOf mask) t10)) mask) = (shlI 1 (gI (F_membersOf mask) t10)))) then (.error false) else (rec (t10 + 1))) else (.ok t10)
def F_Poset_isAntichain_L1 (pp1 : List Int) (mask : Int) : Nat → Int → Except (Bool) (Int)
  | 0, t10 => .ok t10
  | r + 1, t10 => F_Poset_isAntichain_L1b pp1 mask (F_Poset_isAntichain_L1 pp1 mask r) t10
def F_Poset_isAntichain (pp0 : Int) (pp1 : List Int) (mask : Int) : Bool :=
  bif (isOk (F_Poset_isAntichain_L1 pp1 mask (Int.toNat (((F_membersOf mask).length : Int) - 0) + 1) 0)) then true else (errD (F_Poset_isAntichain_L1 pp1 mask (Int.toNat (((F_membersOf mask).length : Int) - 0) + 1) 0))
theorem cf_Poset_isAntichain (args : Array Value) (w : World) : (callFunc 178 args).run Try.prog w = .ok (.enter 178 args) w := by kernel_rfl
set_option maxRecDepth 100000 in
theorem c_Poset_isAntichain (pp0 : Int) (pp1A : Option Addr) (pp1N pp1C : Nat) (pp1 : List Int) (mask : Int) (w : World) (pp1R : RdS w 1 pp1A pp1N pp1C pp1) (h8pp : 0 ≤ pp0 ∧ pp0 ≤ 8) (hlpp : (pp1.length : Int) = pp0) (hmpp : ∀ m : Int, 0 ≤ m → m < (pp1.length : Int) → 0 ≤ gI pp1 m ∧ gI pp1 m ≤ fullI pp0) (h0 : 0 ≤ mask) (h1 : mask ≤ fullI pp0) :
    Calls Try.prog 178 #[.agg #[.int .i64 pp0, .slice pp1A pp1N pp1C], .int .i64 mask] w (Ret fun v w' => v = .bool (F_Poset_isAntichain pp0 pp1 mask) ∧ Ext w w') := by
  obtain rfl : pp1N = pp1.length := pp1R.len1.symm
  have pp1Le := pp1R.le
  have hf8 := full8 (n := pp0) (by omega) (by omega)
  have hml := members_len (mask := mask) (n := pp1.length) (by omega) h0 (by rw [hlpp]; omega)
  have hS := St.nil w
  have hS1 := St.rd0 hS rfl pp1R; clear hS
  refine enter (args := [.agg #[.int .i64 pp0, .slice pp1A pp1.length pp1C], .int .i64 mask]) Try.func178 rfl rfl ?_
  rw [Try.ntmps178]; intro a hE
  have hE := hE.sub (L' := [(0, .agg #[.int .i64 pp0, .slice pp1A pp1.length pp1C]), (1, .int .i64 mask)]) ⟨rfl, rfl, trivial⟩
  refine c_seq ?_
  refine c_reg ?_
  refine l_step hE rfl (l_box (v := .agg #[.int .i64 pp0, .slice pp1A pp1.length pp1C]) (cs := #[.int .i64 pp0, .slice pp1A pp1.length pp1C]) hS1 hE rfl rfl rfl ?_)
  intro b2 w3 hS6 he7 a4 hE5; clear hS1 hE
  refine q_step (v := .bool false) hE5 (y_assign rfl) rfl rfl rfl ?_; intro a8 hE9; clear hE5
  refine c_nil ?_
  have hE10 := hE9.sub (L' := [(1, .int .i64 mask), (2, .pointer (some ⟨b2, 0, none⟩))]) ⟨rfl, rfl, trivial⟩; clear hE9
  refine p_tn ?_
  refine c_seq ?_
  refine c_seq ?_
  refine c_reg ?_
  refine q_step (v := .int .i64 mask) hE10 (y_move rfl) rfl rfl rfl ?_; intro a11 hE12; clear hE10
  refine l_step hE12 rfl (l_call (f := 170) (argv := [.int .i64 mask]) hE12 (fun _ => cf_membersOf _ _) rfl rfl (c_membersOf mask w3 (by omega) (by omega)) ?_)
  rintro _ w14 ⟨b19, c20, rfl, ho21, he18⟩ a15 hE16; clear hE12
  have hS17 := St.own hS6 he18 ho21; clear hS6
  refine q_step (v := .int .i64 ((F_membersOf mask).length : Int)) hE16 (y_len (e := 2) (by kernel_rfl) rfl) rfl rfl rfl ?_; intro a22 hE23; clear hE16
  refine q_step (v := .int .i64 0) hE23 (y_move rfl) rfl rfl rfl ?_; intro a24 hE25; clear hE23
  refine c_nil ?_
  have hE26 := hE25.sub (L' := [(1, .int .i64 mask), (2, .pointer (some ⟨b2, 0, none⟩)), (8, .slice b19 ((F_membersOf mask).length) c20), (9, .int .i64 ((F_membersOf mask).length : Int)), (10, .int .i64 0)]) ⟨rfl, rfl, rfl, rfl, rfl, trivial⟩; clear hE25
  refine p_tn ?_
  refine c_cut1 (fun a' w' => isOk (F_Poset_isAntichain_L1 pp1 mask (Int.toNat (((F_membersOf mask).length : Int) - 0) + 1) 0) = true ∧ (0 ≤ (okD (F_Poset_isAntichain_L1 pp1 mask (Int.toNat (((F_membersOf mask).length : Int) - 0) + 1) 0))) ∧ ((okD (F_Poset_isAntichain_L1 pp1 mask (Int.toNat (((F_membersOf mask).length : Int) - 0) + 1) 0)) ≤ ((F_membersOf mask).length : Int)) ∧ E a' 25 [(1, .int .i64 mask), (2, .pointer (some ⟨b2, 0, none⟩)), (8, .slice b19 ((F_membersOf mask).length) c20), (9, .int .i64 ((F_membersOf mask).length : Int)), (10, .int .i64 (okD (F_Poset_isAntichain_L1 pp1 mask (Int.toNat (((F_membersOf mask).length : Int) - 0) + 1) 0)))] ∧ St w w' [.own 2 1 b19 ((F_membersOf mask).length) c20 (F_membersOf mask), .blk b2 #[.int .i64 pp0, .slice pp1A pp1.length pp1C] 54, .rd 1 pp1A pp1.length pp1C pp1]) ?_ ?_
  ·
   refine wp_block ?_
   refine c_loop (fun r a' w' => ∃ t10 : Int, F_Poset_isAntichain_L1 pp1 mask r t10 = F_Poset_isAntichain_L1 pp1 mask (Int.toNat (((F_membersOf mask).length : Int) - 0) + 1) 0 ∧ Int.toNat (((F_membersOf mask).length : Int) - t10) < r ∧ (0 ≤ t10) ∧ (t10 ≤ ((F_membersOf mask).length : Int)) ∧ E a' 25 [(1, .int .i64 mask), (2, .pointer (some ⟨b2, 0, none⟩)), (8, .slice b19 ((F_membersOf mask).length) c20), (9, .int .i64 ((F_membersOf mask).length : Int)), (10, .int .i64 t10)] ∧ St w w' [.own 2 1 b19 ((F_membersOf mask).length) c20 (F_membersOf mask), .blk b2 #[.int .i64 pp0, .slice pp1A pp1.length pp1C] 54, .rd 1 pp1A pp1.length pp1C pp1]) (r := (Int.toNat (((F_membersOf mask).length : Int) - 0) + 1)) ?_ ?_
   · exact ⟨0, rfl, Nat.lt_succ_self _, (by first | omega | (simp only [sS_len, sL_len]; omega) | (simp only [List.length_replicate, sI_len]; omega) | (simp only [List.length_append, List.length_cons, List.length_nil, sI_len, cond_true, cond_false]; omega) | (simp only [List.length_append, List.length_cons, List.length_nil, sI_len, cond_eq_ite, apply_ite List.length]; split <;> simp only [List.length_append, List.length_cons, List.length_nil, sI_len] <;> omega) | grind), (by first | omega | (simp only [sS_len, sL_len]; omega) | (simp only [List.length_replicate, sI_len]; omega) | (simp only [List.length_append, List.length_cons, List.length_nil, sI_len, cond_true, cond_false]; omega) | (simp only [List.length_append, List.length_cons, List.length_nil, sI_len, cond_eq_ite, apply_ite List.length]; split <;> simp only [List.length_append, List.length_cons, List.length_nil, sI_len] <;> omega) | grind), (hE26.sub (L' := [(1, .int .i64 mask), (2, .pointer (some ⟨b2, 0, none⟩)), (8, .slice b19 ((F_membersOf mask).length) c20), (9, .int .i64 ((F_membersOf mask).length : Int)), (10, .int .i64 0)]) ⟨rfl, rfl, rfl, rfl, rfl, trivial⟩), (St.pick (Γ' := [.own 2 1 b19 ((F_membersOf mask).length) c20 (F_membersOf mask), .blk b2 #[.int .i64 pp0, .slice pp1A pp1.length pp1C] 54, .rd 1 pp1A pp1.length pp1C pp1]) hS17 [0, 1, 2] (by decide) rfl)⟩
   ·
    clear hE26 hS17
    rintro r36 a28 w29 ⟨t10, hT32, hr33, hi34, hi35, hE30, hS31⟩
    obtain ⟨r36, rfl⟩ : ∃ r', r36 = r' + 1 := ⟨r36 - 1, by omega⟩
    refine c_seq ?_
    refine c_reg ?_
    refine q_step (v := .bool (decide (t10 < ((F_membersOf mask).length : Int)))) hE30 (y_lss rfl rfl) rfl rfl rfl ?_; intro a37 hE38; clear hE30
    refine c_nil ?_
    have hE39 := hE38.sub (L' := [(1, .int .i64 mask), (2, .pointer (some ⟨b2, 0, none⟩)), (8, .slice b19 ((F_membersOf mask).length) c20), (9, .int .i64 ((F_membersOf mask).length : Int)), (10, .int .i64 t10), (11, .bool (decide (t10 < ((F_membersOf mask).length : Int))))]) ⟨rfl, rfl, rfl, rfl, rfl, rfl, trivial⟩; clear hE38
    refine p_tn ?_
    refine c_seq ?_
    refine c_cond hE39 rfl (fun ht40 => ?_) (fun ht40 => ?_)
    ·
     have hp41 := of_decide_eq_true ht40
     have hE42 := hE39; rw [ht40] at hE42; clear hE39
     have hm2 := members_lt (mask := mask) (n := pp1.length) (by omega) h0 (by rw [hlpp]; omega) t10 (by omega) (by omega)
     refine wp_skip ?_
     refine p_tn ?_
     refine c_seq ?_
     refine wp_block ?_
     refine c_seq ?_
     refine c_reg ?_
     refine q_step (v := .pointer (some (adr b19 (Int.toNat t10)))) hE42 (y_idx (by kernel_rfl) (fun _ => by kernel_rfl) rfl rfl (RdS.isS (m := t10) (St.rdO (i := 0) hS31 rfl) (by omega) (by omega)) (by omega) (by omega) (Nat.mul_one _).symm) rfl rfl rfl ?_; intro a43 hE44; clear hE42
     refine q_step (v := .int .i64 (gI (F_membersOf mask) t10)) hE44 (y_load (fun _ => by kernel_rfl) rfl (RdS.elt (St.rdO (i := 0) hS31 rfl) (by omega) (by omega))) rfl rfl rfl ?_; intro a45 hE46; clear hE44
     refine q_step (v := .int .i64 (gI (F_membersOf mask) t10)) hE46 (y_assign rfl) rfl rfl rfl ?_; intro a47 hE48; clear hE46
     refine c_nil ?_
     have hE49 := hE48.sub (L' := [(1, .int .i64 mask), (2, .pointer (some ⟨b2, 0, none⟩)), (6, .int .i64 (gI (F_membersOf mask) t10)), (8, .slice b19 ((F_membersOf mask).length) c20), (9, .int .i64 ((F_membersOf mask).length : Int)), (10, .int .i64 t10)]) ⟨rfl, rfl, rfl, rfl, rfl, rfl, trivial⟩; clear hE48
     refine p_tn ?_
     refine c_seq ?_
     refine d_start (fun w w' => (fun w' => w'.cell? ⟨b2, 1, none⟩ = some (.slice pp1A pp1.length pp1C) ∧ w'.cell? (adr pp1A (Int.toNat (gI (F_membersOf mask) t10))) = some (.int .i64 (gI pp1 (gI (F_membersOf mask) t10))) ∧ True) w → (fun w' => w'.cell? ⟨b2, 1, none⟩ = some (.slice pp1A pp1.length pp1C) ∧ w'.cell? (adr pp1A (Int.toNat (gI (F_membersOf mask) t10))) = some (.int .i64 (gI pp1 (gI (F_membersOf mask) t10))) ∧ True) w') [1, 4] 10 (by kernel_rfl) rfl ?_
     intro w50 he51; have hS52 := St.go hS31 he51; clear hS31
     refine d_pure (fun _ h => h) (v := .pointer (some ⟨b2, 1, none⟩)) 0 rfl hE49 (y_field rfl (fun _ => by kernel_rfl)) rfl (by kernel_rfl) (by kernel_rfl) (by kernel_rfl) rfl rfl (fun _ _ _ h => h) ?_; intro a53 hE54; clear hE49
     refine d_take (fun _ h => h) (fun _ _ h k => h k) (v := .slice pp1A pp1.length pp1C) 1 rfl hE54 (S := fun w' => w'.cell? ⟨b2, 1, none⟩ = some (.slice pp1A pp1.length pp1C) ∧ w'.cell? (adr pp1A (Int.toNat (gI (F_membersOf mask) t10))) = some (.int .i64 (gI pp1 (gI (F_membersOf mask) t10))) ∧ True) ⟨(St.cell (i := 1) hS52 rfl rfl _ (Ext.refl _)), (RdS.elt (St.rdR (i := 2) hS52 rfl) (by omega) (by omega) _ (Ext.refl _)), trivial⟩ (y_load (fun _ => by kernel_rfl) rfl (fun _ h => h.1)) rfl rfl (by kernel_rfl) (by kernel_rfl) (by kernel_rfl) (by kernel_rfl) rfl rfl (fun _ _ _ h => h) ?_; intro a55 hE56; clear hE54
     refine d_pure (fun _ h => h) (v := .int .i64 (gI (F_membersOf mask) t10)) 2 rfl hE56 (y_move rfl) rfl (by kernel_rfl) (by kernel_rfl) (by kernel_rfl) rfl rfl (fun _ _ _ h => h) ?_; intro a57 hE58; clear hE56
     refine d_pure (fun _ h => h) (v := .pointer (some (adr pp1A (Int.toNat (gI (F_membersOf mask) t10))))) 3 rfl hE58 (y_idx (by kernel_rfl) (fun _ => by kernel_rfl) rfl rfl (RdS.isS (m := gI (F_membersOf mask) t10) (St.rdR (i := 2) hS52 rfl) (by omega) (by omega)) (by omega) (by omega) (Nat.mul_one _).symm) rfl (by kernel_rfl) (by kernel_rfl) (by kernel_rfl) rfl rfl (fun _ _ _ h => h) ?_; intro a59 hE60; clear hE58
     refine d_take (fun _ h => h) (fun _ _ h k => h k) (v := .int .i64 (gI pp1 (gI (F_membersOf mask) t10))) 4 rfl hE60 (S := fun w' => w'.cell? ⟨b2, 1, none⟩ = some (.slice pp1A pp1.length pp1C) ∧ w'.cell? (adr pp1A (Int.toNat (gI (F_membersOf mask) t10))) = some (.int .i64 (gI pp1 (gI (F_membersOf mask) t10))) ∧ True) ⟨(St.cell (i := 1) hS52 rfl rfl _ (Ext.refl _)), (RdS.elt (St.rdR (i := 2) hS52 rfl) (by omega) (by omega) _ (Ext.refl _)), trivial⟩ (y_load (fun _ => by kernel_rfl) rfl (fun _ h => h.2.1)) rfl rfl (by kernel_rfl) (by kernel_rfl) (by kernel_rfl) (by kernel_rfl) rfl rfl (fun _ _ _ h => h) ?_; intro a61 hE62; clear hE60
     refine d_pure (fun _ h => h) (v := .int .i64 mask) 5 rfl hE62 (y_move rfl) rfl (by kernel_rfl) (by kernel_rfl) (by kernel_rfl) rfl rfl (fun _ _ _ h => h) ?_; intro a63 hE64; clear hE62
     refine d_pure (fun _ h => h) (v := .int .i64 (andI (gI pp1 (gI (F_membersOf mask) t10)) mask)) 6 rfl hE64 (y_and rfl rfl) rfl (by kernel_rfl) (by kernel_rfl) (by kernel_rfl) rfl rfl (fun _ _ _ h => h) ?_; intro a65 hE66; clear hE64
     refine d_pure (fun _ h => h) (v := .int .i64 (gI (F_membersOf mask) t10)) 7 rfl hE66 (y_move rfl) rfl (by kernel_rfl) (by kernel_rfl) (by kernel_rfl) rfl rfl (fun _ _ _ h => h) ?_; intro a67 hE68; clear hE66
     refine d_pure (fun _ h => h) (v := .int .i64 (shlI 1 (gI (F_membersOf mask) t10))) 8 rfl hE68 (y_shl rfl rfl (by omega)) rfl (by kernel_rfl) (by kernel_rfl) (by kernel_rfl) rfl rfl (fun _ _ _ h => h) ?_; intro a69 hE70; clear hE68
     refine d_pure (fun _ h => h) (v := .bool (!decide ((andI (gI pp1 (gI (F_membersOf mask) t10)) mask) = (shlI 1 (gI (F_membersOf mask) t10))))) 9 rfl hE70 (y_neq rfl rfl) rfl (by kernel_rfl) (by kernel_rfl) (by kernel_rfl) rfl rfl (fun _ _ _ h => h) ?_; intro a71 hE72; clear hE70
     refine d_done (by kernel_rfl) ?_
     have hE73 := hE72.sub (L' := [(1, .int .i64 mask), (2, .pointer (some ⟨b2, 0, none⟩)), (8, .slice b19 ((F_membersOf mask).length) c20), (9, .int .i64 ((F_membersOf mask).length : Int)), (10, .int .i64 t10), (23, .bool (!decide ((andI (gI pp1 (gI (F_membersOf mask) t10)) mask) = (shlI 1 (gI (F_membersOf mask) t10)))))]) ⟨rfl, rfl, rfl, rfl, rfl, rfl, trivial⟩; clear hE72
     refine p_tn ?_
     refine c_cond hE73 rfl (fun ht74 => ?_) (fun ht74 => ?_)
     ·
      have ht75 := bn_t ht74
      have hp76 := of_decide_eq_false ht75
      have hE77 := hE73; rw [ht74] at hE77; clear hE73
      refine c_seq ?_
      refine c_reg ?_
      refine q_step (v := .bool false) hE77 (y_assign rfl) rfl rfl rfl ?_; intro a78 hE79; clear hE77
      refine c_nil ?_
      have hE80 := hE79.sub (L' := [(4, .bool false)]) ⟨rfl, trivial⟩; clear hE79
      refine p_tn ?_
      refine wp_ret ?_
      refine p_br ?_
      refine p_tr ?_
      have hX81 : F_Poset_isAntichain_L1 pp1 mask (Int.toNat (((F_membersOf mask).length : Int) - 0) + 1) 0 = .error false := hT32.symm.trans (show F_Poset_isAntichain_L1b pp1 mask (F_Poset_isAntichain_L1 pp1 mask r36) t10 = .error false by unfold F_Poset_isAntichain_L1b; rw [ht74, ht40]; first | done | rfl)
      refine p_tr (p_br (p_tr ?_))
      refine p_tr ?_
      have hF : F_Poset_isAntichain pp0 pp1 mask = false := by unfold F_Poset_isAntichain; rw [hX81]; first | done | rfl
      refine c_ret1 hE80 rfl rfl ?_
      exact ⟨(by rw [hF]; first | done | (dsimp only; done) | rfl), hS52.ext⟩
     ·
      have ht82 := bn_f ht74
      have hp83 := of_decide_eq_true ht82
      have hE84 := hE73; rw [ht74] at hE84; clear hE73
      refine wp_skip ?_
      refine p_bn ?_
      refine p_tn ?_
      refine c_reg ?_
      refine q_step (v := .int .i64 (t10 + 1)) hE84 (y_add rfl rfl ⟨(by omega), (by omega)⟩) rfl rfl rfl ?_; intro a85 hE86; clear hE84
      refine q_step (v := .int .i64 (t10 + 1)) hE86 (y_move rfl) rfl rfl rfl ?_; intro a87 hE88; clear hE86
      refine c_nil ?_
      have hE89 := hE88.sub (L' := [(1, .int .i64 mask), (2, .pointer (some ⟨b2, 0, none⟩)), (8, .slice b19 ((F_membersOf mask).length) c20), (9, .int .i64 ((F_membersOf mask).length : Int)), (10, .int .i64 (t10 + 1))]) ⟨rfl, rfl, rfl, rfl, rfl, trivial⟩; clear hE88
      refine p_tn ⟨r36, Nat.lt_succ_self _, t10 + 1, (hT32.symm.trans (show F_Poset_isAntichain_L1b pp1 mask (F_Poset_isAntichain_L1 pp1 mask r36) t10 = F_Poset_isAntichain_L1 pp1 mask r36 (t10 + 1) by unfold F_Poset_isAntichain_L1b; rw [ht74, ht40]; first | done | rfl)).symm, (by omega), (by first | omega | (simp only [sS_len, sL_len]; omega) | (simp only [List.length_replicate, sI_len]; omega) | (simp only [List.length_append, List.length_cons, List.length_nil, sI_len, cond_true, cond_false]; omega) | (simp only [List.length_append, List.length_cons, List.length_nil, sI_len, cond_eq_ite, apply_ite List.length]; split <;> simp only [List.length_append, List.length_cons, List.length_nil, sI_len] <;> omega) | grind), (by first | omega | (simp only [sS_len, sL_len]; omega) | (simp only [List.length_replicate, sI_len]; omega) | (simp only [List.length_append, List.length_cons, List.length_nil, sI_len, cond_true, cond_false]; omega) | (simp only [List.length_append, List.length_cons, List.length_nil, sI_len, cond_eq_ite, apply_ite List.length]; split <;> simp only [List.length_append, List.length_cons, List.length_nil, sI_len] <;> omega) | grind), (hE89.sub (L' := [(1, .int .i64 mask), (2, .pointer (some ⟨b2, 0, none⟩)), (8, .slice b19 ((F_membersOf mask).length) c20), (9, .int .i64 ((F_membersOf mask).length : Int)), (10, .int .i64 (t10 + 1))]) ⟨rfl, rfl, rfl, rfl, rfl, trivial⟩), (St.pick (Γ' := [.own 2 1 b19 ((F_membersOf mask).length) c20 (F_membersOf mask), .blk b2 #[.int .i64 pp0, .slice pp1A pp1.length pp1C] 54, .rd 1 pp1A pp1.length pp1C pp1]) hS52 [0, 1, 2] (by decide) rfl)⟩
    ·
     have hp90 := of_decide_eq_false ht40
     have hE91 := hE39; rw [ht40] at hE91; clear hE39
     refine wp_exit ?_
     refine p_te ?_
     have hX92 : F_Poset_isAntichain_L1 pp1 mask (Int.toNat (((F_membersOf mask).length : Int) - 0) + 1) 0 = .ok t10 := hT32.symm.trans (show F_Poset_isAntichain_L1b pp1 mask (F_Poset_isAntichain_L1 pp1 mask r36) t10 = .ok t10 by unfold F_Poset_isAntichain_L1b; rw [ht40]; first | done | rfl)
     refine p_te (p_be (p_tn ?_))
     exact ⟨(by rw [hX92]; rfl), (by rw [hX92]; exact (show 0 ≤ t10 from (by first | omega | (simp only [sS_len, sL_len]; omega) | (simp only [List.length_replicate, sI_len]; omega) | (simp only [List.length_append, List.length_cons, List.length_nil, sI_len, cond_true, cond_false]; omega) | (simp only [List.length_append, List.length_cons, List.length_nil, sI_len, cond_eq_ite, apply_ite List.length]; split <;> simp only [List.length_append, List.length_cons, List.length_nil, sI_len] <;> omega) | grind))), (by rw [hX92]; exact (show t10 ≤ ((F_membersOf mask).length : Int) from (by first | omega | (simp only [sS_len, sL_len]; omega) | (simp only [List.length_replicate, sI_len]; omega) | (simp only [List.length_append, List.length_cons, List.length_nil, sI_len, cond_true, cond_false]; omega) | (simp only [List.length_append, List.length_cons, List.length_nil, sI_len, cond_eq_ite, apply_ite List.length]; split <;> simp only [List.length_append, List.length_cons, List.length_nil, sI_len] <;> omega) | grind))), (by rw [hX92]; exact (hE91.sub (L' := [(1, .int .i64 mask), (2, .pointer (some ⟨b2, 0, none⟩)), (8, .slice b19 ((F_membersOf mask).length) c20), (9, .int .i64 ((F_membersOf mask).length : Int)), (10, .int .i64 t10)]) ⟨rfl, rfl, rfl, rfl, rfl, trivial⟩)), (St.pick (Γ' := [.own 2 1 b19 ((F_membersOf mask).length) c20 (F_membersOf mask), .blk b2 #[.int .i64 pp0, .slice pp1A pp1.length pp1C] 54, .rd 1 pp1A pp1.length pp1C pp1]) hS31 [0, 1, 2] (by decide) rfl)⟩
  ·
   rintro a93 w94 ⟨hO97, hi98, hi99, hE95, hS96⟩; clear hE26 hS17
   refine p_tn ?_
   refine c_seq ?_
   refine c_reg ?_
   refine q_step (v := .bool true) hE95 (y_assign rfl) rfl rfl rfl ?_; intro a100 hE101; clear hE95
   refine c_nil ?_
   have hE102 := hE101.sub (L' := [(4, .bool true)]) ⟨rfl, trivial⟩; clear hE101
   refine p_tn ?_
   refine wp_ret ?_
   have hF : F_Poset_isAntichain pp0 pp1 mask = true := by unfold F_Poset_isAntichain; rw [hO97]; first | done | rfl
   refine c_ret1 hE102 rfl rfl ?_
   exact ⟨(by rw [hF]; first | done | (dsimp only; done) | rfl), hS96.ext⟩


def F_Poset_width_L2b (pp0 : Int) (pp1 : List Int) (t11 : Int) (rec : Int → Int → Int × Int) (most3L2 : Int) (t18L2 : Int) : Int × Int :=
  bif (decide (t18L2 < ((F_subMasks (gI pp1 t11)).length : Int))) then (rec (bif (F_Poset_isAntichain pp0 pp1 (gI (F_subMasks (gI pp1 t11)) t18L2)) then max most3L2 (F_countMembers (gI (F_subMasks (gI pp1 t11)) t18L2)) else most3L2) (t18L2 + 1)) else (most3L2, t18L2)
def F_Poset_width_L2 (pp0 : Int) (pp1 : List Int) (t11 : Int) : Nat → Int → Int → Int × Int
  | 0, most3L2, t18L2 => (most3L2, t18L2)
  | r + 1, most3L2, t18L2 => F_Poset_width_L2b pp0 pp1 t11 (F_Poset_width_L2 pp0 pp1 t11 r) most3L2 t18L2
def F_Poset_width_L1b (pp0 : Int) (pp1 : List Int) (rec : Int → Int → Int × Int) (most3 : Int) (t11 : Int) : Int × Int :=
  bif (decide (t11 < (pp1.length : Int))) then (rec ((F_Poset_width_L2 pp0 pp1 t11 (Int.toNat (((F_subMasks (gI pp1 t11)).length : Int) - 0) + 1) most3 0).1) (t11 + 1)) else (most3, t11)
def F_Poset_width_L1 (pp0 : Int) (pp1 : List Int) : Nat → Int → Int → Int × Int
  | 0, most3, t11 => (most3, t11)
  | r + 1, most3, t11 => F_Poset_width_L1b pp0 pp1 (F_Poset_width_L1 pp0 pp1 r) most3 t11
def F_Poset_width (pp0 : Int) (pp1 : List Int) : Int :=
  (F_Poset_width_L1 pp0 pp1 (Int.toNat ((pp1.length : Int) - 0) + 1) 0 0).1
theorem cf_Poset_width (args : Array Value) (w : World) : (callFunc 101 args).run Try.prog w = .ok (.enter 101 args) w := by kernel_rfl
set_option maxRecDepth 100000 in
theorem c_Poset_width (pp0 : Int) (pp1A : Option Addr) (pp1N pp1C : Nat) (pp1 : List Int) (w : World) (pp1R : RdS w 1 pp1A pp1N pp1C pp1) (h8pp : 0 ≤ pp0 ∧ pp0 ≤ 8) (hlpp : (pp1.length : Int) = pp0) (hmpp : ∀ m : Int, 0 ≤ m → m < (pp1.length : Int) → 0 ≤ gI pp1 m ∧ gI pp1 m ≤ fullI pp0) :
    Calls Try.prog 101 #[.agg #[.int .i64 pp0, .slice pp1A pp1N pp1C]] w (Ret fun v w' => v = .int .i64 (F_Poset_width pp0 pp1) ∧ Ext w w') := by
  obtain rfl : pp1N = pp1.length := pp1R.len1.symm
  have pp1Le := pp1R.le
  have hf8 := full8 (n := pp0) (by omega) (by omega)
  have hS := St.nil w
  have hS1 := St.rd0 hS rfl pp1R; clear hS
  refine enter (args := [.agg #[.int .i64 pp0, .slice pp1A pp1.length pp1C]]) Try.func101 rfl rfl ?_
  rw [Try.ntmps101]; intro a hE
  have hE := hE.sub (L' := [(0, .agg #[.int .i64 pp0, .slice pp1A pp1.length pp1C])]) ⟨rfl, trivial⟩
  refine c_seq ?_
  refine c_reg ?_
  refine l_step hE rfl (l_box (v := .agg #[.int .i64 pp0, .slice pp1A pp1.length pp1C]) (cs := #[.int .i64 pp0, .slice pp1A pp1.length pp1C]) hS1 hE rfl rfl rfl ?_)
  intro b2 w3 hS6 he7 a4 hE5; clear hS1 hE
  refine q_step (v := .int .i64 0) hE5 (y_assign rfl) rfl rfl rfl ?_; intro a8 hE9; clear hE5
  refine c_nil ?_
  have hE10 := hE9.sub (L' := [(1, .pointer (some ⟨b2, 0, none⟩))]) ⟨rfl, trivial⟩; clear hE9
  refine p_tn ?_
  refine c_seq ?_
  refine c_reg ?_
  refine q_step (v := .int .i64 0) hE10 (y_assign rfl) rfl rfl rfl ?_; intro a11 hE12; clear hE10
  refine c_nil ?_
  have hE13 := hE12.sub (L' := [(1, .pointer (some ⟨b2, 0, none⟩)), (3, .int .i64 0)]) ⟨rfl, rfl, trivial⟩; clear hE12
  refine p_tn ?_
  refine c_seq ?_
  refine c_seq ?_
  refine c_reg ?_
  refine q_step (v := .pointer (some ⟨b2, 1, none⟩)) hE13 (y_field rfl (fun _ => by kernel_rfl)) rfl rfl rfl ?_; intro a14 hE15; clear hE13
  refine q_step (v := .slice pp1A pp1.length pp1C) hE15 (y_load (fun _ => by kernel_rfl) rfl (St.cell (i := 0) hS6 rfl rfl)) rfl rfl rfl ?_; intro a16 hE17; clear hE15
  refine q_step (v := .int .i64 (pp1.length : Int)) hE17 (y_len (e := 2) (by kernel_rfl) rfl) rfl rfl rfl ?_; intro a18 hE19; clear hE17
  refine q_step (v := .int .i64 0) hE19 (y_move rfl) rfl rfl rfl ?_; intro a20 hE21; clear hE19
  refine c_nil ?_
  have hE22 := hE21.sub (L' := [(1, .pointer (some ⟨b2, 0, none⟩)), (3, .int .i64 0), (9, .slice pp1A pp1.length pp1C), (10, .int .i64 (pp1.length : Int)), (11, .int .i64 0)]) ⟨rfl, rfl, rfl, rfl, rfl, trivial⟩; clear hE21
  refine p_tn ?_
  refine c_cut1 (fun a' w' => (0 ≤ ((F_Poset_width_L1 pp0 pp1 (Int.toNat ((pp1.length : Int) - 0) + 1) 0 0).2)) ∧ (((F_Poset_width_L1 pp0 pp1 (Int.toNat ((pp1.length : Int) - 0) + 1) 0 0).2) ≤ (pp1.length : Int)) ∧ E a' 32 [(1, .pointer (some ⟨b2, 0, none⟩)), (3, .int .i64 ((F_Poset_width_L1 pp0 pp1 (Int.toNat ((pp1.length : Int) - 0) + 1) 0 0).1)), (9, .slice pp1A pp1.length pp1C), (10, .int .i64 (pp1.length : Int)), (11, .int .i64 ((F_Poset_width_L1 pp0 pp1 (Int.toNat ((pp1.length : Int) - 0) + 1) 0 0).2))] ∧ St w w' [.blk b2 #[.int .i64 pp0, .slice pp1A pp1.length pp1C] 54, .rd 1 pp1A pp1.length pp1C pp1]) ?_ ?_
  ·
   refine wp_block ?_
   refine c_loop (fun r a' w' => ∃ most3 : Int, ∃ t11 : Int, F_Poset_width_L1 pp0 pp1 r most3 t11 = F_Poset_width_L1 pp0 pp1 (Int.toNat ((pp1.length : Int) - 0) + 1) 0 0 ∧ Int.toNat ((pp1.length : Int) - t11) < r ∧ (0 ≤ t11) ∧ (t11 ≤ (pp1.length : Int)) ∧ E a' 32 [(1, .pointer (some ⟨b2, 0, none⟩)), (3, .int .i64 most3), (9, .slice pp1A pp1.length pp1C), (10, .int .i64 (pp1.length : Int)), (11, .int .i64 t11)] ∧ St w w' [.blk b2 #[.int .i64 pp0, .slice pp1A pp1.length pp1C] 54, .rd 1 pp1A pp1.length pp1C pp1]) (r := (Int.toNat ((pp1.length : Int) - 0) + 1)) ?_ ?_
   · exact ⟨0, 0, rfl, Nat.lt_succ_self _, (by first | omega | (simp only [sS_len, sL_len]; omega) | (simp only [List.length_replicate, sI_len]; omega) | (simp only [List.length_append, List.length_cons, List.length_nil, sI_len, cond_true, cond_false]; omega) | (simp only [List.length_append, List.length_cons, List.length_nil, sI_len, cond_eq_ite, apply_ite List.length]; split <;> simp only [List.length_append, List.length_cons, List.length_nil, sI_len] <;> omega) | grind), (by first | omega | (simp only [sS_len, sL_len]; omega) | (simp only [List.length_replicate, sI_len]; omega) | (simp only [List.length_append, List.length_cons, List.length_nil, sI_len, cond_true, cond_false]; omega) | (simp only [List.length_append, List.length_cons, List.length_nil, sI_len, cond_eq_ite, apply_ite List.length]; split <;> simp only [List.length_append, List.length_cons, List.length_nil, sI_len] <;> omega) | grind), (hE22.sub (L' := [(1, .pointer (some ⟨b2, 0, none⟩)), (3, .int .i64 0), (9, .slice pp1A pp1.length pp1C), (10, .int .i64 (pp1.length : Int)), (11, .int .i64 0)]) ⟨rfl, rfl, rfl, rfl, rfl, trivial⟩), (St.pick (Γ' := [.blk b2 #[.int .i64 pp0, .slice pp1A pp1.length pp1C] 54, .rd 1 pp1A pp1.length pp1C pp1]) hS6 [0, 1] (by decide) rfl)⟩
   ·
    clear hE22 hS6
    rintro r32 a24 w25 ⟨most3, t11, hT28, hr29, hi30, hi31, hE26, hS27⟩
    obtain ⟨r32, rfl⟩ : ∃ r', r32 = r' + 1 := ⟨r32 - 1, by omega⟩
    refine c_seq ?_
    refine c_reg ?_
    refine q_step (v := .bool (decide (t11 < (pp1.length : Int)))) hE26 (y_lss rfl rfl) rfl rfl rfl ?_; intro a33 hE34; clear hE26
    refine c_nil ?_
    have hE35 := hE34.sub (L' := [(1, .pointer (some ⟨b2, 0, none⟩)), (3, .int .i64 most3), (9, .slice pp1A pp1.length pp1C), (10, .int .i64 (pp1.length : Int)), (11, .int .i64 t11), (12, .bool (decide (t11 < (pp1.length : Int))))]) ⟨rfl, rfl, rfl, rfl, rfl, rfl, trivial⟩; clear hE34
    refine p_tn ?_
    refine c_seq ?_
    refine c_cond hE35 rfl (fun ht36 => ?_) (fun ht36 => ?_)
    ·
     have hp37 := of_decide_eq_true ht36
     have hE38 := hE35; rw [ht36] at hE38; clear hE35
     have hr1 := hmpp t11 (by omega) (by omega)
     have hsl := subs_len (m := gI pp1 t11) (by omega) (by omega)
     refine wp_skip ?_
     refine p_tn ?_
     refine c_seq ?_
     refine wp_block ?_
     refine c_seq ?_
     refine c_reg ?_
     refine q_step (v := .pointer (some (adr pp1A (Int.toNat t11)))) hE38 (y_idx (by kernel_rfl) (fun _ => by kernel_rfl) rfl rfl (RdS.isS (m := t11) (St.rdR (i := 1) hS27 rfl) (by omega) (by omega)) (by omega) (by omega) (Nat.mul_one _).symm) rfl rfl rfl ?_; intro a39 hE40; clear hE38
     refine q_step (v := .int .i64 (gI pp1 t11)) hE40 (y_load (fun _ => by kernel_rfl) rfl (RdS.elt (St.rdR (i := 1) hS27 rfl) (by omega) (by omega))) rfl rfl rfl ?_; intro a41 hE42; clear hE40
     refine q_step (v := .int .i64 (gI pp1 t11)) hE42 (y_assign rfl) rfl rfl rfl ?_; intro a43 hE44; clear hE42
     refine c_nil ?_
     have hE45 := hE44.sub (L' := [(1, .pointer (some ⟨b2, 0, none⟩)), (3, .int .i64 most3), (5, .int .i64 (gI pp1 t11)), (9, .slice pp1A pp1.length pp1C), (10, .int .i64 (pp1.length : Int)), (11, .int .i64 t11)]) ⟨rfl, rfl, rfl, rfl, rfl, rfl, trivial⟩; clear hE44
     refine p_tn ?_
     refine c_seq ?_
     refine c_reg ?_
     refine q_step (v := .int .i64 (gI pp1 t11)) hE45 (y_move rfl) rfl rfl rfl ?_; intro a46 hE47; clear hE45
     refine l_step hE47 rfl (l_call (f := 177) (argv := [.int .i64 (gI pp1 t11)]) hE47 (fun _ => cf_subMasks _ _) rfl rfl (c_subMasks (gI pp1 t11) w25 (by omega) (by omega)) ?_)
     rintro _ w49 ⟨b54, c55, rfl, ho56, he53⟩ a50 hE51; clear hE47
     have hS52 := St.own hS27 he53 ho56; clear hS27
     refine q_step (v := .int .i64 ((F_subMasks (gI pp1 t11)).length : Int)) hE51 (y_len (e := 2) (by kernel_rfl) rfl) rfl rfl rfl ?_; intro a57 hE58; clear hE51
     refine q_step (v := .int .i64 0) hE58 (y_move rfl) rfl rfl rfl ?_; intro a59 hE60; clear hE58
     refine c_nil ?_
     have hE61 := hE60.sub (L' := [(1, .pointer (some ⟨b2, 0, none⟩)), (3, .int .i64 most3), (9, .slice pp1A pp1.length pp1C), (10, .int .i64 (pp1.length : Int)), (11, .int .i64 t11), (16, .slice b54 ((F_subMasks (gI pp1 t11)).length) c55), (17, .int .i64 ((F_subMasks (gI pp1 t11)).length : Int)), (18, .int .i64 0)]) ⟨rfl, rfl, rfl, rfl, rfl, rfl, rfl, rfl, trivial⟩; clear hE60
     refine p_tn ?_
     refine c_cut1 (fun a' w' => (0 ≤ ((F_Poset_width_L2 pp0 pp1 t11 (Int.toNat (((F_subMasks (gI pp1 t11)).length : Int) - 0) + 1) most3 0).2)) ∧ (((F_Poset_width_L2 pp0 pp1 t11 (Int.toNat (((F_subMasks (gI pp1 t11)).length : Int) - 0) + 1) most3 0).2) ≤ ((F_subMasks (gI pp1 t11)).length : Int)) ∧ E a' 32 [(1, .pointer (some ⟨b2, 0, none⟩)), (3, .int .i64 ((F_Poset_width_L2 pp0 pp1 t11 (Int.toNat (((F_subMasks (gI pp1 t11)).length : Int) - 0) + 1) most3 0).1)), (9, .slice pp1A pp1.length pp1C), (10, .int .i64 (pp1.length : Int)), (11, .int .i64 t11), (16, .slice b54 ((F_subMasks (gI pp1 t11)).length) c55), (17, .int .i64 ((F_subMasks (gI pp1 t11)).length : Int)), (18, .int .i64 ((F_Poset_width_L2 pp0 pp1 t11 (Int.toNat (((F_subMasks (gI pp1 t11)).length : Int) - 0) + 1) most3 0).2))] ∧ St w w' [.own 2 1 b54 ((F_subMasks (gI pp1 t11)).length) c55 (F_subMasks (gI pp1 t11)), .blk b2 #[.int .i64 pp0, .slice pp1A pp1.length pp1C] 54, .rd 1 pp1A pp1.length pp1C pp1]) ?_ ?_
     ·
      refine wp_block ?_
      refine c_loop (fun r a' w' => ∃ most3L2 : Int, ∃ t18L2 : Int, F_Poset_width_L2 pp0 pp1 t11 r most3L2 t18L2 = F_Poset_width_L2 pp0 pp1 t11 (Int.toNat (((F_subMasks (gI pp1 t11)).length : Int) - 0) + 1) most3 0 ∧ Int.toNat (((F_subMasks (gI pp1 t11)).length : Int) - t18L2) < r ∧ (0 ≤ t18L2) ∧ (t18L2 ≤ ((F_subMasks (gI pp1 t11)).length : Int)) ∧ E a' 32 [(1, .pointer (some ⟨b2, 0, none⟩)), (3, .int .i64 most3L2), (9, .slice pp1A pp1.length pp1C), (10, .int .i64 (pp1.length : Int)), (11, .int .i64 t11), (16, .slice b54 ((F_subMasks (gI pp1 t11)).length) c55), (17, .int .i64 ((F_subMasks (gI pp1 t11)).length : Int)), (18, .int .i64 t18L2)] ∧ St w w' [.own 2 1 b54 ((F_subMasks (gI pp1 t11)).length) c55 (F_subMasks (gI pp1 t11)), .blk b2 #[.int .i64 pp0, .slice pp1A pp1.length pp1C] 54, .rd 1 pp1A pp1.length pp1C pp1]) (r := (Int.toNat (((F_subMasks (gI pp1 t11)).length : Int) - 0) + 1)) ?_ ?_
      · exact ⟨most3, 0, rfl, Nat.lt_succ_self _, (by first | omega | (simp only [sS_len, sL_len]; omega) | (simp only [List.length_replicate, sI_len]; omega) | (simp only [List.length_append, List.length_cons, List.length_nil, sI_len, cond_true, cond_false]; omega) | (simp only [List.length_append, List.length_cons, List.length_nil, sI_len, cond_eq_ite, apply_ite List.length]; split <;> simp only [List.length_append, List.length_cons, List.length_nil, sI_len] <;> omega) | grind), (by first | omega | (simp only [sS_len, sL_len]; omega) | (simp only [List.length_replicate, sI_len]; omega) | (simp only [List.length_append, List.length_cons, List.length_nil, sI_len, cond_true, cond_false]; omega) | (simp only [List.length_append, List.length_cons, List.length_nil, sI_len, cond_eq_ite, apply_ite List.length]; split <;> simp only [List.length_append, List.length_cons, List.length_nil, sI_len] <;> omega) | grind), (hE61.sub (L' := [(1, .pointer (some ⟨b2, 0, none⟩)), (3, .int .i64 most3), (9, .slice pp1A pp1.length pp1C), (10, .int .i64 (pp1.length : Int)), (11, .int .i64 t11), (16, .slice b54 ((F_subMasks (gI pp1 t11)).length) c55), (17, .int .i64 ((F_subMasks (gI pp1 t11)).length : Int)), (18, .int .i64 0)]) ⟨rfl, rfl, rfl, rfl, rfl, rfl, rfl, rfl, trivial⟩), (St.pick (Γ' := [.own 2 1 b54 ((F_subMasks (gI pp1 t11)).length) c55 (F_subMasks (gI pp1 t11)), .blk b2 #[.int .i64 pp0, .slice pp1A pp1.length pp1C] 54, .rd 1 pp1A pp1.length pp1C pp1]) hS52 [0, 1, 2] (by decide) rfl)⟩
      ·
       clear hE61 hS52
       rintro r71 a63 w64 ⟨most3L2, t18L2, hT67, hr68, hi69, hi70, hE65, hS66⟩
       obtain ⟨r71, rfl⟩ : ∃ r', r71 = r' + 1 := ⟨r71 - 1, by omega⟩
       refine c_seq ?_
       refine c_reg ?_
       refine q_step (v := .bool (decide (t18L2 < ((F_subMasks (gI pp1 t11)).length : Int)))) hE65 (y_lss rfl rfl) rfl rfl rfl ?_; intro a72 hE73; clear hE65
       refine c_nil ?_
       have hE74 := hE73.sub (L' := [(1, .pointer (some ⟨b2, 0, none⟩)), (3, .int .i64 most3L2), (9, .slice pp1A pp1.length pp1C), (10, .int .i64 (pp1.length : Int)), (11, .int .i64 t11), (16, .slice b54 ((F_subMasks (gI pp1 t11)).length) c55), (17, .int .i64 ((F_subMasks (gI pp1 t11)).length : Int)), (18, .int .i64 t18L2), (19, .bool (decide (t18L2 < ((F_subMasks (gI pp1 t11)).length : Int))))]) ⟨rfl, rfl, rfl, rfl, rfl, rfl, rfl, rfl, rfl, trivial⟩; clear hE73
       refine p_tn ?_
       refine c_seq ?_
       refine c_cond hE74 rfl (fun ht75 => ?_) (fun ht75 => ?_)
       ·
        have hp76 := of_decide_eq_true ht75
        have hE77 := hE74; rw [ht75] at hE77; clear hE74
        have hms := (mem_subs (m := gI pp1 t11) (by omega) (by omega) _).1 (gI_mem (xs := F_subMasks (gI pp1 t11)) (t := t18L2) (by omega) (by omega))
        refine wp_skip ?_
        refine p_tn ?_
        refine c_cut (fun a' w' => E a' 32 [(1, .pointer (some ⟨b2, 0, none⟩)), (3, .int .i64 (bif (F_Poset_isAntichain pp0 pp1 (gI (F_subMasks (gI pp1 t11)) t18L2)) then max most3L2 (F_countMembers (gI (F_subMasks (gI pp1 t11)) t18L2)) else most3L2)), (9, .slice pp1A pp1.length pp1C), (10, .int .i64 (pp1.length : Int)), (11, .int .i64 t11), (16, .slice b54 ((F_subMasks (gI pp1 t11)).length) c55), (17, .int .i64 ((F_subMasks (gI pp1 t11)).length : Int)), (18, .int .i64 t18L2)] ∧ St w w' [.own 2 1 b54 ((F_subMasks (gI pp1 t11)).length) c55 (F_subMasks (gI pp1 t11)), .rd 1 pp1A pp1.length pp1C pp1, .blk b2 #[.int .i64 pp0, .slice pp1A pp1.length pp1C] 54]) ?_ ?_
        ·
         refine wp_block ?_
         refine c_seq ?_
         refine c_reg ?_
         refine q_step (v := .pointer (some (adr b54 (Int.toNat t18L2)))) hE77 (y_idx (by kernel_rfl) (fun _ => by kernel_rfl) rfl rfl (RdS.isS (m := t18L2) (St.rdO (i := 0) hS66 rfl) (by omega) (by omega)) (by omega) (by omega) (Nat.mul_one _).symm) rfl rfl rfl ?_; intro a78 hE79; clear hE77
         refine q_step (v := .int .i64 (gI (F_subMasks (gI pp1 t11)) t18L2)) hE79 (y_load (fun _ => by kernel_rfl) rfl (RdS.elt (St.rdO (i := 0) hS66 rfl) (by omega) (by omega))) rfl rfl rfl ?_; intro a80 hE81; clear hE79
         refine q_step (v := .int .i64 (gI (F_subMasks (gI pp1 t11)) t18L2)) hE81 (y_assign rfl) rfl rfl rfl ?_; intro a82 hE83; clear hE81
         refine c_nil ?_
         have hE84 := hE83.sub (L' := [(1, .pointer (some ⟨b2, 0, none⟩)), (3, .int .i64 most3L2), (7, .int .i64 (gI (F_subMasks (gI pp1 t11)) t18L2)), (9, .slice pp1A pp1.length pp1C), (10, .int .i64 (pp1.length : Int)), (11, .int .i64 t11), (16, .slice b54 ((F_subMasks (gI pp1 t11)).length) c55), (17, .int .i64 ((F_subMasks (gI pp1 t11)).length : Int)), (18, .int .i64 t18L2)]) ⟨rfl, rfl, rfl, rfl, rfl, rfl, rfl, rfl, rfl, trivial⟩; clear hE83
         refine p_tn ?_
         refine c_seq ?_
         refine c_reg ?_
         refine q_step (v := .agg #[.int .i64 pp0, .slice pp1A pp1.length pp1C]) hE84 (y_loadS Try.underlying54 rfl (by kernel_rfl) rfl (St.row (i := 1) hS66 rfl)) rfl rfl rfl ?_; intro a85 hE86; clear hE84
         refine q_step (v := .int .i64 (gI (F_subMasks (gI pp1 t11)) t18L2)) hE86 (y_move rfl) rfl rfl rfl ?_; intro a87 hE88; clear hE86
         refine l_step hE88 rfl (l_call (f := 178) (argv := [.agg #[.int .i64 pp0, .slice pp1A pp1.length pp1C], .int .i64 (gI (F_subMasks (gI pp1 t11)) t18L2)]) hE88 (fun _ => cf_Poset_isAntichain _ _) rfl rfl (c_Poset_isAntichain pp0 pp1A pp1.length pp1C pp1 (gI (F_subMasks (gI pp1 t11)) t18L2) w64 (St.rdR (i := 2) hS66 rfl) (by omega) (by omega) (by omega) (by omega) (by omega)) ?_)
         rintro _ w90 ⟨rfl, he94⟩ a91 hE92; clear hE88
         have hS93 := St.go hS66 he94; clear hS66
         refine c_nil ?_
         have hE95 := hE92.sub (L' := [(1, .pointer (some ⟨b2, 0, none⟩)), (3, .int .i64 most3L2), (7, .int .i64 (gI (F_subMasks (gI pp1 t11)) t18L2)), (9, .slice pp1A pp1.length pp1C), (10, .int .i64 (pp1.length : Int)), (11, .int .i64 t11), (16, .slice b54 ((F_subMasks (gI pp1 t11)).length) c55), (17, .int .i64 ((F_subMasks (gI pp1 t11)).length : Int)), (18, .int .i64 t18L2), (24, .bool (F_Poset_isAntichain pp0 pp1 (gI (F_subMasks (gI pp1 t11)) t18L2)))]) ⟨rfl, rfl, rfl, rfl, rfl, rfl, rfl, rfl, rfl, rfl, trivial⟩; clear hE92
         refine p_tn ?_
         refine c_cond hE95 rfl (fun ht96 => ?_) (fun ht96 => ?_)
         ·
          have hE97 := hE95; rw [ht96] at hE97; clear hE95
          refine c_reg ?_
          refine q_step (v := .int .i64 most3L2) hE97 (y_move rfl) rfl rfl rfl ?_; intro a98 hE99; clear hE97
          refine q_step (v := .int .i64 (gI (F_subMasks (gI pp1 t11)) t18L2)) hE99 (y_move rfl) rfl rfl rfl ?_; intro a100 hE101; clear hE99
          refine l_step hE101 rfl (l_call (f := 179) (argv := [.int .i64 (gI (F_subMasks (gI pp1 t11)) t18L2)]) hE101 (fun _ => cf_countMembers _ _) rfl rfl (c_countMembers (gI (F_subMasks (gI pp1 t11)) t18L2) w90) ?_)
          rintro _ _ ⟨rfl, rfl⟩ a104 hE105; clear hE101
          refine q_step (v := .int .i64 (max most3L2 (F_countMembers (gI (F_subMasks (gI pp1 t11)) t18L2)))) hE105 (y_max rfl rfl) rfl rfl rfl ?_; intro a108 hE109; clear hE105
          refine q_step (v := .int .i64 (max most3L2 (F_countMembers (gI (F_subMasks (gI pp1 t11)) t18L2)))) hE109 (y_assign rfl) rfl rfl rfl ?_; intro a110 hE111; clear hE109
          refine c_nil ?_
          have hE112 := hE111.sub (L' := [(1, .pointer (some ⟨b2, 0, none⟩)), (3, .int .i64 (max most3L2 (F_countMembers (gI (F_subMasks (gI pp1 t11)) t18L2)))), (9, .slice pp1A pp1.length pp1C), (10, .int .i64 (pp1.length : Int)), (11, .int .i64 t11), (16, .slice b54 ((F_subMasks (gI pp1 t11)).length) c55), (17, .int .i64 ((F_subMasks (gI pp1 t11)).length : Int)), (18, .int .i64 t18L2)]) ⟨rfl, rfl, rfl, rfl, rfl, rfl, rfl, rfl, trivial⟩; clear hE111
          refine p_bn ?_
          refine p_tn ?_
          have hE113 := hE112.sub (L' := [(1, .pointer (some ⟨b2, 0, none⟩)), (3, .int .i64 (max most3L2 (F_countMembers (gI (F_subMasks (gI pp1 t11)) t18L2)))), (9, .slice pp1A pp1.length pp1C), (10, .int .i64 (pp1.length : Int)), (11, .int .i64 t11), (16, .slice b54 ((F_subMasks (gI pp1 t11)).length) c55), (17, .int .i64 ((F_subMasks (gI pp1 t11)).length : Int)), (18, .int .i64 t18L2)]) ⟨rfl, rfl, rfl, rfl, rfl, rfl, rfl, rfl, trivial⟩
          have hS114 := (St.pick (Γ' := [.own 2 1 b54 ((F_subMasks (gI pp1 t11)).length) c55 (F_subMasks (gI pp1 t11)), .rd 1 pp1A pp1.length pp1C pp1, .blk b2 #[.int .i64 pp0, .slice pp1A pp1.length pp1C] 54]) hS93 [0, 2, 1] (by decide) rfl)
          exact ⟨(by rw [ht96]; exact hE113), hS114⟩
         ·
          have hE115 := hE95; rw [ht96] at hE115; clear hE95
          refine wp_skip ?_
          refine p_bn ?_
          refine p_tn ?_
          have hE116 := hE115.sub (L' := [(1, .pointer (some ⟨b2, 0, none⟩)), (3, .int .i64 most3L2), (9, .slice pp1A pp1.length pp1C), (10, .int .i64 (pp1.length : Int)), (11, .int .i64 t11), (16, .slice b54 ((F_subMasks (gI pp1 t11)).length) c55), (17, .int .i64 ((F_subMasks (gI pp1 t11)).length : Int)), (18, .int .i64 t18L2)]) ⟨rfl, rfl, rfl, rfl, rfl, rfl, rfl, rfl, trivial⟩
          have hS117 := (St.pick (Γ' := [.own 2 1 b54 ((F_subMasks (gI pp1 t11)).length) c55 (F_subMasks (gI pp1 t11)), .rd 1 pp1A pp1.length pp1C pp1, .blk b2 #[.int .i64 pp0, .slice pp1A pp1.length pp1C] 54]) hS93 [0, 2, 1] (by decide) rfl)
          exact ⟨(by rw [ht96]; exact hE116), hS117⟩
        ·
         rintro a118 w119 ⟨hE120, hS121⟩; clear hE77 hS66
         refine c_reg ?_
         refine q_step (v := .int .i64 (t18L2 + 1)) hE120 (y_add rfl rfl ⟨(by omega), (by omega)⟩) rfl rfl rfl ?_; intro a123 hE124; clear hE120
         refine q_step (v := .int .i64 (t18L2 + 1)) hE124 (y_move rfl) rfl rfl rfl ?_; intro a125 hE126; clear hE124
         refine c_nil ?_
         have hE127 := hE126.sub (L' := [(1, .pointer (some ⟨b2, 0, none⟩)), (3, .int .i64 (bif (F_Poset_isAntichain pp0 pp1 (gI (F_subMasks (gI pp1 t11)) t18L2)) then max most3L2 (F_countMembers (gI (F_subMasks (gI pp1 t11)) t18L2)) else most3L2)), (9, .slice pp1A pp1.length pp1C), (10, .int .i64 (pp1.length : Int)), (11, .int .i64 t11), (16, .slice b54 ((F_subMasks (gI pp1 t11)).length) c55), (17, .int .i64 ((F_subMasks (gI pp1 t11)).length : Int)), (18, .int .i64 (t18L2 + 1))]) ⟨rfl, rfl, rfl, rfl, rfl, rfl, rfl, rfl, trivial⟩; clear hE126
         refine p_tn ⟨r71, Nat.lt_succ_self _, bif (F_Poset_isAntichain pp0 pp1 (gI (F_subMasks (gI pp1 t11)) t18L2)) then max most3L2 (F_countMembers (gI (F_subMasks (gI pp1 t11)) t18L2)) else most3L2, t18L2 + 1, (hT67.symm.trans (show F_Poset_width_L2b pp0 pp1 t11 (F_Poset_width_L2 pp0 pp1 t11 r71) most3L2 t18L2 = F_Poset_width_L2 pp0 pp1 t11 r71 (bif (F_Poset_isAntichain pp0 pp1 (gI (F_subMasks (gI pp1 t11)) t18L2)) then max most3L2 (F_countMembers (gI (F_subMasks (gI pp1 t11)) t18L2)) else most3L2) (t18L2 + 1) by unfold F_Poset_width_L2b; rw [ht75]; first | done | rfl)).symm, (by omega), (by first | omega | (simp only [sS_len, sL_len]; omega) | (simp only [List.length_replicate, sI_len]; omega) | (simp only [List.length_append, List.length_cons, List.length_nil, sI_len, cond_true, cond_false]; omega) | (simp only [List.length_append, List.length_cons, List.length_nil, sI_len, cond_eq_ite, apply_ite List.length]; split <;> simp only [List.length_append, List.length_cons, List.length_nil, sI_len] <;> omega) | grind), (by first | omega | (simp only [sS_len, sL_len]; omega) | (simp only [List.length_replicate, sI_len]; omega) | (simp only [List.length_append, List.length_cons, List.length_nil, sI_len, cond_true, cond_false]; omega) | (simp only [List.length_append, List.length_cons, List.length_nil, sI_len, cond_eq_ite, apply_ite List.length]; split <;> simp only [List.length_append, List.length_cons, List.length_nil, sI_len] <;> omega) | grind), (hE127.sub (L' := [(1, .pointer (some ⟨b2, 0, none⟩)), (3, .int .i64 (bif (F_Poset_isAntichain pp0 pp1 (gI (F_subMasks (gI pp1 t11)) t18L2)) then max most3L2 (F_countMembers (gI (F_subMasks (gI pp1 t11)) t18L2)) else most3L2)), (9, .slice pp1A pp1.length pp1C), (10, .int .i64 (pp1.length : Int)), (11, .int .i64 t11), (16, .slice b54 ((F_subMasks (gI pp1 t11)).length) c55), (17, .int .i64 ((F_subMasks (gI pp1 t11)).length : Int)), (18, .int .i64 (t18L2 + 1))]) ⟨rfl, rfl, rfl, rfl, rfl, rfl, rfl, rfl, trivial⟩), (St.pick (Γ' := [.own 2 1 b54 ((F_subMasks (gI pp1 t11)).length) c55 (F_subMasks (gI pp1 t11)), .blk b2 #[.int .i64 pp0, .slice pp1A pp1.length pp1C] 54, .rd 1 pp1A pp1.length pp1C pp1]) hS121 [0, 2, 1] (by decide) rfl)⟩
       ·
        have hp128 := of_decide_eq_false ht75
        have hE129 := hE74; rw [ht75] at hE129; clear hE74
        refine wp_exit ?_
        refine p_te ?_
        have hX130 : F_Poset_width_L2 pp0 pp1 t11 (Int.toNat (((F_subMasks (gI pp1 t11)).length : Int) - 0) + 1) most3 0 = (most3L2, t18L2) := hT67.symm.trans (show F_Poset_width_L2b pp0 pp1 t11 (F_Poset_width_L2 pp0 pp1 t11 r71) most3L2 t18L2 = (most3L2, t18L2) by unfold F_Poset_width_L2b; rw [ht75]; first | done | rfl)
        refine p_te (p_be (p_tn ?_))
        exact ⟨(by rw [hX130]; exact (show 0 ≤ t18L2 from (by first | omega | (simp only [sS_len, sL_len]; omega) | (simp only [List.length_replicate, sI_len]; omega) | (simp only [List.length_append, List.length_cons, List.length_nil, sI_len, cond_true, cond_false]; omega) | (simp only [List.length_append, List.length_cons, List.length_nil, sI_len, cond_eq_ite, apply_ite List.length]; split <;> simp only [List.length_append, List.length_cons, List.length_nil, sI_len] <;> omega) | grind))), (by rw [hX130]; exact (show t18L2 ≤ ((F_subMasks (gI pp1 t11)).length : Int) from (by first | omega | (simp only [sS_len, sL_len]; omega) | (simp only [List.length_replicate, sI_len]; omega) | (simp only [List.length_append, List.length_cons, List.length_nil, sI_len, cond_true, cond_false]; omega) | (simp only [List.length_append, List.length_cons, List.length_nil, sI_len, cond_eq_ite, apply_ite List.length]; split <;> simp only [List.length_append, List.length_cons, List.length_nil, sI_len] <;> omega) | grind))), (by rw [hX130]; exact (hE129.sub (L' := [(1, .pointer (some ⟨b2, 0, none⟩)), (3, .int .i64 most3L2), (9, .slice pp1A pp1.length pp1C), (10, .int .i64 (pp1.length : Int)), (11, .int .i64 t11), (16, .slice b54 ((F_subMasks (gI pp1 t11)).length) c55), (17, .int .i64 ((F_subMasks (gI pp1 t11)).length : Int)), (18, .int .i64 t18L2)]) ⟨rfl, rfl, rfl, rfl, rfl, rfl, rfl, rfl, trivial⟩)), (St.pick (Γ' := [.own 2 1 b54 ((F_subMasks (gI pp1 t11)).length) c55 (F_subMasks (gI pp1 t11)), .blk b2 #[.int .i64 pp0, .slice pp1A pp1.length pp1C] 54, .rd 1 pp1A pp1.length pp1C pp1]) hS66 [0, 1, 2] (by decide) rfl)⟩
     ·
      rintro a131 w132 ⟨hi136, hi137, hE133, hS134⟩; clear hE61 hS52
      refine p_bn ?_
      refine p_tn ?_
      refine c_reg ?_
      refine q_step (v := .int .i64 (t11 + 1)) hE133 (y_add rfl rfl ⟨(by omega), (by omega)⟩) rfl rfl rfl ?_; intro a138 hE139; clear hE133
      refine q_step (v := .int .i64 (t11 + 1)) hE139 (y_move rfl) rfl rfl rfl ?_; intro a140 hE141; clear hE139
      refine c_nil ?_
      have hE142 := hE141.sub (L' := [(1, .pointer (some ⟨b2, 0, none⟩)), (3, .int .i64 ((F_Poset_width_L2 pp0 pp1 t11 (Int.toNat (((F_subMasks (gI pp1 t11)).length : Int) - 0) + 1) most3 0).1)), (9, .slice pp1A pp1.length pp1C), (10, .int .i64 (pp1.length : Int)), (11, .int .i64 (t11 + 1))]) ⟨rfl, rfl, rfl, rfl, rfl, trivial⟩; clear hE141
      refine p_tn ⟨r32, Nat.lt_succ_self _, (F_Poset_width_L2 pp0 pp1 t11 (Int.toNat (((F_subMasks (gI pp1 t11)).length : Int) - 0) + 1) most3 0).1, t11 + 1, (hT28.symm.trans (show F_Poset_width_L1b pp0 pp1 (F_Poset_width_L1 pp0 pp1 r32) most3 t11 = F_Poset_width_L1 pp0 pp1 r32 ((F_Poset_width_L2 pp0 pp1 t11 (Int.toNat (((F_subMasks (gI pp1 t11)).length : Int) - 0) + 1) most3 0).1) (t11 + 1) by unfold F_Poset_width_L1b; rw [ht36]; first | done | rfl)).symm, (by omega), (by first | omega | (simp only [sS_len, sL_len]; omega) | (simp only [List.length_replicate, sI_len]; omega) | (simp only [List.length_append, List.length_cons, List.length_nil, sI_len, cond_true, cond_false]; omega) | (simp only [List.length_append, List.length_cons, List.length_nil, sI_len, cond_eq_ite, apply_ite List.length]; split <;> simp only [List.length_append, List.length_cons, List.length_nil, sI_len] <;> omega) | grind), (by first | omega | (simp only [sS_len, sL_len]; omega) | (simp only [List.length_replicate, sI_len]; omega) | (simp only [List.length_append, List.length_cons, List.length_nil, sI_len, cond_true, cond_false]; omega) | (simp only [List.length_append, List.length_cons, List.length_nil, sI_len, cond_eq_ite, apply_ite List.length]; split <;> simp only [List.length_append, List.length_cons, List.length_nil, sI_len] <;> omega) | grind), (hE142.sub (L' := [(1, .pointer (some ⟨b2, 0, none⟩)), (3, .int .i64 ((F_Poset_width_L2 pp0 pp1 t11 (Int.toNat (((F_subMasks (gI pp1 t11)).length : Int) - 0) + 1) most3 0).1)), (9, .slice pp1A pp1.length pp1C), (10, .int .i64 (pp1.length : Int)), (11, .int .i64 (t11 + 1))]) ⟨rfl, rfl, rfl, rfl, rfl, trivial⟩), (St.pick (Γ' := [.blk b2 #[.int .i64 pp0, .slice pp1A pp1.length pp1C] 54, .rd 1 pp1A pp1.length pp1C pp1]) hS134 [1, 2] (by decide) rfl)⟩
    ·
     have hp143 := of_decide_eq_false ht36
     have hE144 := hE35; rw [ht36] at hE144; clear hE35
     refine wp_exit ?_
     refine p_te ?_
     have hX145 : F_Poset_width_L1 pp0 pp1 (Int.toNat ((pp1.length : Int) - 0) + 1) 0 0 = (most3, t11) := hT28.symm.trans (show F_Poset_width_L1b pp0 pp1 (F_Poset_width_L1 pp0 pp1 r32) most3 t11 = (most3, t11) by unfold F_Poset_width_L1b; rw [ht36]; first | done | rfl)
     refine p_te (p_be (p_tn ?_))
     exact ⟨(by rw [hX145]; exact (show 0 ≤ t11 from (by first | omega | (simp only [sS_len, sL_len]; omega) | (simp only [List.length_replicate, sI_len]; omega) | (simp only [List.length_append, List.length_cons, List.length_nil, sI_len, cond_true, cond_false]; omega) | (simp only [List.length_append, List.length_cons, List.length_nil, sI_len, cond_eq_ite, apply_ite List.length]; split <;> simp only [List.length_append, List.length_cons, List.length_nil, sI_len] <;> omega) | grind))), (by rw [hX145]; exact (show t11 ≤ (pp1.length : Int) from (by first | omega | (simp only [sS_len, sL_len]; omega) | (simp only [List.length_replicate, sI_len]; omega) | (simp only [List.length_append, List.length_cons, List.length_nil, sI_len, cond_true, cond_false]; omega) | (simp only [List.length_append, List.length_cons, List.length_nil, sI_len, cond_eq_ite, apply_ite List.length]; split <;> simp only [List.length_append, List.length_cons, List.length_nil, sI_len] <;> omega) | grind))), (by rw [hX145]; exact (hE144.sub (L' := [(1, .pointer (some ⟨b2, 0, none⟩)), (3, .int .i64 most3), (9, .slice pp1A pp1.length pp1C), (10, .int .i64 (pp1.length : Int)), (11, .int .i64 t11)]) ⟨rfl, rfl, rfl, rfl, rfl, trivial⟩)), (St.pick (Γ' := [.blk b2 #[.int .i64 pp0, .slice pp1A pp1.length pp1C] 54, .rd 1 pp1A pp1.length pp1C pp1]) hS27 [0, 1] (by decide) rfl)⟩
  ·
   rintro a146 w147 ⟨hi151, hi152, hE148, hS149⟩; clear hE22 hS6
   refine p_tn ?_
   refine c_seq ?_
   refine c_reg ?_
   refine q_step (v := .int .i64 ((F_Poset_width_L1 pp0 pp1 (Int.toNat ((pp1.length : Int) - 0) + 1) 0 0).1)) hE148 (y_move rfl) rfl rfl rfl ?_; intro a153 hE154; clear hE148
   refine q_step (v := .int .i64 ((F_Poset_width_L1 pp0 pp1 (Int.toNat ((pp1.length : Int) - 0) + 1) 0 0).1)) hE154 (y_assign rfl) rfl rfl rfl ?_; intro a155 hE156; clear hE154
   refine c_nil ?_
   have hE157 := hE156.sub (L' := [(2, .int .i64 ((F_Poset_width_L1 pp0 pp1 (Int.toNat ((pp1.length : Int) - 0) + 1) 0 0).1))]) ⟨rfl, trivial⟩; clear hE156
   refine p_tn ?_
   refine wp_ret ?_
   have hF : F_Poset_width pp0 pp1 = (F_Poset_width_L1 pp0 pp1 (Int.toNat ((pp1.length : Int) - 0) + 1) 0 0).1 := by unfold F_Poset_width; rfl
   refine c_ret1 hE157 rfl rfl ?_
   exact ⟨(by rw [hF]; first | done | (dsimp only; done) | rfl), hS149.ext⟩

def F_l16Antichain_L1b (pp0 : Int) (pp1 : List Int) (mask : Int) (rec : Int → Except (Bool) (Int)) (x5 : Int) : Except (Bool) (Int) :=
  bif (decide (x5 < pp0)) then (bif ((F_l01Bit mask x5) && (!decide ((andI (gI pp1 x5) mask) = (powI x5)))) then (.error false) else (rec (x5 + 1))) else (.ok x5)
def F_l16Antichain_L1 (pp0 : Int) (pp1 : List Int) (mask : Int) : Nat → Int → Except (Bool) (Int)
  | 0, x5 => .ok x5
  | r + 1, x5 => F_l16Antichain_L1b pp0 pp1 mask (F_l16Antichain_L1 pp0 pp1 mask r) x5
def F_l16Antichain (pp0 : Int) (pp1 : List Int) (mask : Int) : Bool :=
  bif (isOk (F_l16Antichain_L1 pp0 pp1 mask (Int.toNat (pp0 - 0) + 1) 0)) then true else (errD (F_l16Antichain_L1 pp0 pp1 mask (Int.toNat (pp0 - 0) + 1) 0))
theorem cf_l16Antichain (args : Array Value) (w : World) : (callFunc 174 args).run Try.prog w = .ok (.enter 174 args) w := by kernel_rfl
set_option maxRecDepth 100000 in
theorem c_l16Antichain (pp0 : Int) (pp1A : Option Addr) (pp1N pp1C : Nat) (pp1 : List Int) (mask : Int) (w : World) (pp1R : RdS w 1 pp1A pp1N pp1C pp1) (h8pp : 0 ≤ pp0 ∧ pp0 ≤ 8) (hlpp : (pp1.length : Int) = pp0) (hmpp : ∀ m : Int, 0 ≤ m → m < (pp1.length : Int) → 0 ≤ gI pp1 m ∧ gI pp1 m ≤ fullI pp0) :
    Calls Try.prog 174 #[.agg #[.int .i64 pp0, .slice pp1A pp1N pp1C], .int .i64 mask] w (Ret fun v w' => v = .bool (F_l16Antichain pp0 pp1 mask) ∧ Ext w w') := by
  obtain rfl : pp1N = pp1.length := pp1R.len1.symm
  have pp1Le := pp1R.le
  have hS := St.nil w
  have hS1 := St.rd0 hS rfl pp1R; clear hS
  refine enter (args := [.agg #[.int .i64 pp0, .slice pp1A pp1.length pp1C], .int .i64 mask]) Try.func174 rfl rfl ?_
  rw [Try.ntmps174]; intro a hE
  have hE := hE.sub (L' := [(0, .agg #[.int .i64 pp0, .slice pp1A pp1.length pp1C]), (1, .int .i64 mask)]) ⟨rfl, rfl, trivial⟩
  refine c_seq ?_
  refine c_reg ?_
  refine l_step hE rfl (l_box (v := .agg #[.int .i64 pp0, .slice pp1A pp1.length pp1C]) (cs := #[.int .i64 pp0, .slice pp1A pp1.length pp1C]) hS1 hE rfl rfl rfl ?_)
  intro b2 w3 hS6 he7 a4 hE5; clear hS1 hE
  refine q_step (v := .bool false) hE5 (y_assign rfl) rfl rfl rfl ?_; intro a8 hE9; clear hE5
  refine c_nil ?_
  have hE10 := hE9.sub (L' := [(1, .int .i64 mask), (2, .pointer (some ⟨b2, 0, none⟩))]) ⟨rfl, rfl, trivial⟩; clear hE9
  refine p_tn ?_
  refine c_seq ?_
  refine c_seq ?_
  refine c_reg ?_
  refine q_step (v := .int .i64 0) hE10 (y_assign rfl) rfl rfl rfl ?_; intro a11 hE12; clear hE10
  refine c_nil ?_
  have hE13 := hE12.sub (L' := [(1, .int .i64 mask), (2, .pointer (some ⟨b2, 0, none⟩)), (5, .int .i64 0)]) ⟨rfl, rfl, rfl, trivial⟩; clear hE12
  refine p_tn ?_
  refine c_cut1 (fun a' w' => isOk (F_l16Antichain_L1 pp0 pp1 mask (Int.toNat (pp0 - 0) + 1) 0) = true ∧ (0 ≤ (okD (F_l16Antichain_L1 pp0 pp1 mask (Int.toNat (pp0 - 0) + 1) 0))) ∧ E a' 27 [(1, .int .i64 mask), (2, .pointer (some ⟨b2, 0, none⟩)), (5, .int .i64 (okD (F_l16Antichain_L1 pp0 pp1 mask (Int.toNat (pp0 - 0) + 1) 0)))] ∧ St w w' [.blk b2 #[.int .i64 pp0, .slice pp1A pp1.length pp1C] 54, .rd 1 pp1A pp1.length pp1C pp1]) ?_ ?_
  ·
   refine wp_block ?_
   refine c_loop (fun r a' w' => ∃ x5 : Int, F_l16Antichain_L1 pp0 pp1 mask r x5 = F_l16Antichain_L1 pp0 pp1 mask (Int.toNat (pp0 - 0) + 1) 0 ∧ Int.toNat (pp0 - x5) < r ∧ (0 ≤ x5) ∧ E a' 27 [(1, .int .i64 mask), (2, .pointer (some ⟨b2, 0, none⟩)), (5, .int .i64 x5)] ∧ St w w' [.blk b2 #[.int .i64 pp0, .slice pp1A pp1.length pp1C] 54, .rd 1 pp1A pp1.length pp1C pp1]) (r := (Int.toNat (pp0 - 0) + 1)) ?_ ?_
   · exact ⟨0, rfl, Nat.lt_succ_self _, (by first | omega | (simp only [sS_len, sL_len]; omega) | (simp only [List.length_replicate, sI_len]; omega) | (simp only [List.length_append, List.length_cons, List.length_nil, sI_len, cond_true, cond_false]; omega) | (simp only [List.length_append, List.length_cons, List.length_nil, sI_len, cond_eq_ite, apply_ite List.length]; split <;> simp only [List.length_append, List.length_cons, List.length_nil, sI_len] <;> omega) | grind), (hE13.sub (L' := [(1, .int .i64 mask), (2, .pointer (some ⟨b2, 0, none⟩)), (5, .int .i64 0)]) ⟨rfl, rfl, rfl, trivial⟩), (St.pick (Γ' := [.blk b2 #[.int .i64 pp0, .slice pp1A pp1.length pp1C] 54, .rd 1 pp1A pp1.length pp1C pp1]) hS6 [0, 1] (by decide) rfl)⟩
   ·
    clear hE13 hS6
    rintro r22 a15 w16 ⟨x5, hT19, hr20, hi21, hE17, hS18⟩
    obtain ⟨r22, rfl⟩ : ∃ r', r22 = r' + 1 := ⟨r22 - 1, by omega⟩
    refine c_seq ?_
    refine c_seq ?_
    refine c_reg ?_
    refine q_step (v := .int .i64 x5) hE17 (y_move rfl) rfl rfl rfl ?_; intro a23 hE24; clear hE17
    refine q_step (v := .pointer (some ⟨b2, 0, none⟩)) hE24 (y_field rfl (fun _ => by kernel_rfl)) rfl rfl rfl ?_; intro a25 hE26; clear hE24
    refine q_step (v := .int .i64 pp0) hE26 (y_load (fun _ => by kernel_rfl) rfl (St.cell (i := 0) hS18 rfl rfl)) rfl rfl rfl ?_; intro a27 hE28; clear hE26
    refine q_step (v := .bool (decide (x5 < pp0))) hE28 (y_lss rfl rfl) rfl rfl rfl ?_; intro a29 hE30; clear hE28
    refine c_nil ?_
    have hE31 := hE30.sub (L' := [(1, .int .i64 mask), (2, .pointer (some ⟨b2, 0, none⟩)), (5, .int .i64 x5), (9, .bool (decide (x5 < pp0)))]) ⟨rfl, rfl, rfl, rfl, trivial⟩; clear hE30
    refine p_tn ?_
    refine c_cond hE31 rfl (fun ht32 => ?_) (fun ht32 => ?_)
    ·
     have hp33 := of_decide_eq_true ht32
     have hE34 := hE31; rw [ht32] at hE34; clear hE31
     refine wp_skip ?_
     refine p_tn ?_
     refine c_seq ?_
     refine wp_block ?_
     refine c_cut (fun a' w' => E a' 27 [(1, .int .i64 mask), (2, .pointer (some ⟨b2, 0, none⟩)), (5, .int .i64 x5), (26, .bool ((F_l01Bit mask x5) && (!decide ((andI (gI pp1 x5) mask) = (powI x5)))))] ∧ St w w' [.rd 1 pp1A pp1.length pp1C pp1, .blk b2 #[.int .i64 pp0, .slice pp1A pp1.length pp1C] 54]) ?_ ?_
     ·
      refine d_start (fun w w' => (fun w' => w'.cell? ⟨b2, 1, none⟩ = some (.slice pp1A pp1.length pp1C) ∧ w'.cell? (adr pp1A (Int.toNat x5)) = some (.int .i64 (gI pp1 x5)) ∧ True) w → (fun w' => w'.cell? ⟨b2, 1, none⟩ = some (.slice pp1A pp1.length pp1C) ∧ w'.cell? (adr pp1A (Int.toNat x5)) = some (.int .i64 (gI pp1 x5)) ∧ True) w') [5, 8] 15 (by kernel_rfl) rfl ?_
      intro w35 he36; have hS37 := St.go hS18 he36; clear hS18
      refine d_pure (fun _ h => h) (v := .int .i64 mask) 0 rfl hE34 (y_move rfl) rfl (by kernel_rfl) (by kernel_rfl) (by kernel_rfl) rfl rfl (fun _ _ _ h => h) ?_; intro a38 hE39; clear hE34
      refine d_pure (fun _ h => h) (v := .int .i64 x5) 1 rfl hE39 (y_move rfl) rfl (by kernel_rfl) (by kernel_rfl) (by kernel_rfl) rfl rfl (fun _ _ _ h => h) ?_; intro a40 hE41; clear hE39
      refine d_only 2 (by kernel_rfl) rfl hE41 rfl (l_call (f := 144) (argv := [.int .i64 mask, .int .i64 x5]) hE41 (fun _ => cf_l01Bit _ _) rfl rfl (c_l01Bit mask x5 w35 (by omega) (by omega)) ?_)
      rintro _ _ ⟨rfl, rfl⟩ a44 hE45; clear hE41
      refine ⟨fun _ _ => ⟨(St.cell (i := 0) hS37 rfl rfl _ (Ext.refl _)), (RdS.elt (St.rdR (i := 1) hS37 rfl) (by omega) (by omega) _ (Ext.refl _)), trivial⟩, ?_⟩
      refine d_pure (fun _ h => h) (v := .bool (F_l01Bit mask x5)) 3 rfl hE45 (y_move rfl) rfl (by kernel_rfl) (by kernel_rfl) (by kernel_rfl) rfl rfl (fun _ _ _ h => h) ?_; intro a48 hE49; clear hE45
      rcases Bool.eq_false_or_eq_true (F_l01Bit mask x5) with hb50 | hb50
      ·
       have hE51 := hE49; (try rw [hb50] at hE51); clear hE49
       refine d_pure (fun _ h => h) (v := .pointer (some ⟨b2, 1, none⟩)) 4 rfl hE51 (y_field rfl (fun _ => by kernel_rfl)) rfl (by kernel_rfl) (by kernel_rfl) (by kernel_rfl) rfl rfl (fun _ _ _ h => h) ?_; intro a52 hE53; clear hE51
       refine d_take (fun _ h => h) (fun _ _ h k => h k) (v := .slice pp1A pp1.length pp1C) 5 rfl hE53 (S := fun w' => w'.cell? ⟨b2, 1, none⟩ = some (.slice pp1A pp1.length pp1C) ∧ w'.cell? (adr pp1A (Int.toNat x5)) = some (.int .i64 (gI pp1 x5)) ∧ True) ⟨(St.cell (i := 0) hS37 rfl rfl _ (Ext.refl _)), (RdS.elt (St.rdR (i := 1) hS37 rfl) (by omega) (by omega) _ (Ext.refl _)), trivial⟩ (y_load (fun _ => by kernel_rfl) rfl (fun _ h => h.1)) rfl rfl (by kernel_rfl) (by kernel_rfl) (by kernel_rfl) (by kernel_rfl) rfl rfl (fun _ _ _ h => h) ?_; intro a54 hE55; clear hE53
       refine d_pure (fun _ h => h) (v := .int .i64 x5) 6 rfl hE55 (y_move rfl) rfl (by kernel_rfl) (by kernel_rfl) (by kernel_rfl) rfl rfl (fun _ _ _ h => h) ?_; intro a56 hE57; clear hE55
       refine d_pure (fun _ h => h) (v := .pointer (some (adr pp1A (Int.toNat x5)))) 7 rfl hE57 (y_idx (by kernel_rfl) (fun _ => by kernel_rfl) rfl rfl (RdS.isS (m := x5) (St.rdR (i := 1) hS37 rfl) (by omega) (by omega)) (by omega) (by omega) (Nat.mul_one _).symm) rfl (by kernel_rfl) (by kernel_rfl) (by kernel_rfl) rfl rfl (fun _ _ _ h => h) ?_; intro a58 hE59; clear hE57
       refine d_take (fun _ h => h) (fun _ _ h k => h k) (v := .int .i64 (gI pp1 x5)) 8 rfl hE59 (S := fun w' => w'.cell? ⟨b2, 1, none⟩ = some (.slice pp1A pp1.length pp1C) ∧ w'.cell? (adr pp1A (Int.toNat x5)) = some (.int .i64 (gI pp1 x5)) ∧ True) ⟨(St.cell (i := 0) hS37 rfl rfl _ (Ext.refl _)), (RdS.elt (St.rdR (i := 1) hS37 rfl) (by omega) (by omega) _ (Ext.refl _)), trivial⟩ (y_load (fun _ => by kernel_rfl) rfl (fun _ h => h.2.1)) rfl rfl (by kernel_rfl) (by kernel_rfl) (by kernel_rfl) (by kernel_rfl) rfl rfl (fun _ _ _ h => h) ?_; intro a60 hE61; clear hE59
       refine d_pure (fun _ h => h) (v := .int .i64 mask) 9 rfl hE61 (y_move rfl) rfl (by kernel_rfl) (by kernel_rfl) (by kernel_rfl) rfl rfl (fun _ _ _ h => h) ?_; intro a62 hE63; clear hE61
       refine d_pure (fun _ h => h) (v := .int .i64 (andI (gI pp1 x5) mask)) 10 rfl hE63 (y_and rfl rfl) rfl (by kernel_rfl) (by kernel_rfl) (by kernel_rfl) rfl rfl (fun _ _ _ h => h) ?_; intro a64 hE65; clear hE63
       refine d_pure (fun _ h => h) (v := .int .i64 x5) 11 rfl hE65 (y_move rfl) rfl (by kernel_rfl) (by kernel_rfl) (by kernel_rfl) rfl rfl (fun _ _ _ h => h) ?_; intro a66 hE67; clear hE65
       refine d_only 12 (by kernel_rfl) rfl hE67 rfl (l_call (f := 209) (argv := [.int .i64 x5]) hE67 (fun _ => cf_l01One _ _) rfl rfl (d_l01One x5 w35 (by omega) (by omega)) ?_)
       rintro _ _ ⟨rfl, rfl⟩ a70 hE71; clear hE67
       refine ⟨fun _ _ => ⟨(St.cell (i := 0) hS37 rfl rfl _ (Ext.refl _)), (RdS.elt (St.rdR (i := 1) hS37 rfl) (by omega) (by omega) _ (Ext.refl _)), trivial⟩, ?_⟩
       refine d_pure (fun _ h => h) (v := .bool (!decide ((andI (gI pp1 x5) mask) = (powI x5)))) 13 rfl hE71 (y_neq rfl rfl) rfl (by kernel_rfl) (by kernel_rfl) (by kernel_rfl) rfl rfl (fun _ _ _ h => h) ?_; intro a74 hE75; clear hE71
       refine d_pure (fun _ h => h) (v := .bool (!decide ((andI (gI pp1 x5) mask) = (powI x5)))) 14 rfl hE75 (y_pick (b := true) rfl rfl) rfl (by kernel_rfl) (by kernel_rfl) (by kernel_rfl) rfl rfl (fun _ _ _ h => h) ?_; intro a76 hE77; clear hE75
       refine d_done (by kernel_rfl) ?_
       have hE78 := hE77.sub (L' := [(1, .int .i64 mask), (2, .pointer (some ⟨b2, 0, none⟩)), (5, .int .i64 x5), (26, .bool (!decide ((andI (gI pp1 x5) mask) = (powI x5))))]) ⟨rfl, rfl, rfl, rfl, trivial⟩; clear hE77
       refine p_tn ?_
       have hE79 := hE78.sub (L' := [(1, .int .i64 mask), (2, .pointer (some ⟨b2, 0, none⟩)), (5, .int .i64 x5), (26, .bool (!decide ((andI (gI pp1 x5) mask) = (powI x5))))]) ⟨rfl, rfl, rfl, rfl, trivial⟩
       have hS80 := (St.pick (Γ' := [.rd 1 pp1A pp1.length pp1C pp1, .blk b2 #[.int .i64 pp0, .slice pp1A pp1.length pp1C] 54]) hS37 [1, 0] (by decide) rfl)
       exact ⟨(by rw [hb50]; exact hE79), hS80⟩
      ·
       have hE81 := hE49; (try rw [hb50] at hE81); clear hE49
       refine d_skip (fun _ h => h) 4 rfl hE81 rfl (by kernel_rfl) (by kernel_rfl) (by kernel_rfl) rfl rfl (fun _ _ _ h => h) ?_; intro a82 hE83; clear hE81
       refine d_skip (fun _ h => h) 5 rfl hE83 rfl (by kernel_rfl) (by kernel_rfl) (by kernel_rfl) rfl rfl (fun _ _ _ h => h) ?_; intro a84 hE85; clear hE83
       refine d_skip (fun _ h => h) 6 rfl hE85 rfl (by kernel_rfl) (by kernel_rfl) (by kernel_rfl) rfl rfl (fun _ _ _ h => h) ?_; intro a86 hE87; clear hE85
       refine d_skip (fun _ h => h) 7 rfl hE87 rfl (by kernel_rfl) (by kernel_rfl) (by kernel_rfl) rfl rfl (fun _ _ _ h => h) ?_; intro a88 hE89; clear hE87
       refine d_skip (fun _ h => h) 8 rfl hE89 rfl (by kernel_rfl) (by kernel_rfl) (by kernel_rfl) rfl rfl (fun _ _ _ h => h) ?_; intro a90 hE91; clear hE89
       refine d_skip (fun _ h => h) 9 rfl hE91 rfl (by kernel_rfl) (by kernel_rfl) (by kernel_rfl) rfl rfl (fun _ _ _ h => h) ?_; intro a92 hE93; clear hE91
       refine d_skip (fun _ h => h) 10 rfl hE93 rfl (by kernel_rfl) (by kernel_rfl) (by kernel_rfl) rfl rfl (fun _ _ _ h => h) ?_; intro a94 hE95; clear hE93
       refine d_skip (fun _ h => h) 11 rfl hE95 rfl (by kernel_rfl) (by kernel_rfl) (by kernel_rfl) rfl rfl (fun _ _ _ h => h) ?_; intro a96 hE97; clear hE95
       refine d_skip (fun _ h => h) 12 rfl hE97 rfl (by kernel_rfl) (by kernel_rfl) (by kernel_rfl) rfl rfl (fun _ _ _ h => h) ?_; intro a98 hE99; clear hE97
       refine d_skip (fun _ h => h) 13 rfl hE99 rfl (by kernel_rfl) (by kernel_rfl) (by kernel_rfl) rfl rfl (fun _ _ _ h => h) ?_; intro a100 hE101; clear hE99
       refine d_pure (fun _ h => h) (v := .bool false) 14 rfl hE101 (y_pick (b := false) rfl rfl) rfl (by kernel_rfl) (by kernel_rfl) (by kernel_rfl) rfl rfl (fun _ _ _ h => h) ?_; intro a102 hE103; clear hE101
       refine d_done (by kernel_rfl) ?_
       have hE104 := hE103.sub (L' := [(1, .int .i64 mask), (2, .pointer (some ⟨b2, 0, none⟩)), (5, .int .i64 x5), (26, .bool false)]) ⟨rfl, rfl, rfl, rfl, trivial⟩; clear hE103
       refine p_tn ?_
       have hE105 := hE104.sub (L' := [(1, .int .i64 mask), (2, .pointer (some ⟨b2, 0, none⟩)), (5, .int .i64 x5), (26, .bool false)]) ⟨rfl, rfl, rfl, rfl, trivial⟩
       have hS106 := (St.pick (Γ' := [.rd 1 pp1A pp1.length pp1C pp1, .blk b2 #[.int .i64 pp0, .slice pp1A pp1.length pp1C] 54]) hS37 [1, 0] (by decide) rfl)
       exact ⟨(by rw [hb50]; exact hE105), hS106⟩
     ·
      rintro a107 w108 ⟨hE109, hS110⟩; clear hE34 hS18
      refine c_cond hE109 rfl (fun ht112 => ?_) (fun ht112 => ?_)
      ·
       obtain ⟨ht113, ht114⟩ := band_t ht112
       have ht115 := bn_t ht114
       have hp116 := of_decide_eq_false ht115
       have hE117 := hE109; rw [ht112] at hE117; clear hE109
       refine c_seq ?_
       refine c_reg ?_
       refine q_step (v := .bool false) hE117 (y_assign rfl) rfl rfl rfl ?_; intro a118 hE119; clear hE117
       refine c_nil ?_
       have hE120 := hE119.sub (L' := [(4, .bool false)]) ⟨rfl, trivial⟩; clear hE119
       refine p_tn ?_
       refine wp_ret ?_
       refine p_br ?_
       refine p_tr ?_
       have hX121 : F_l16Antichain_L1 pp0 pp1 mask (Int.toNat (pp0 - 0) + 1) 0 = .error false := hT19.symm.trans (show F_l16Antichain_L1b pp0 pp1 mask (F_l16Antichain_L1 pp0 pp1 mask r22) x5 = .error false by unfold F_l16Antichain_L1b; rw [ht112, ht32]; first | done | rfl)
       refine p_tr (p_br (p_tr ?_))
       refine p_tr ?_
       have hF : F_l16Antichain pp0 pp1 mask = false := by unfold F_l16Antichain; rw [hX121]; first | done | rfl
       refine c_ret1 hE120 rfl rfl ?_
       exact ⟨(by rw [hF]; first | done | (dsimp only; done) | rfl), hS110.ext⟩
      ·
       have hE122 := hE109; rw [ht112] at hE122; clear hE109
       refine wp_skip ?_
       refine p_bn ?_
       refine p_tn ?_
       refine c_reg ?_
       refine q_step (v := .int .i64 x5) hE122 (y_move rfl) rfl rfl rfl ?_; intro a123 hE124; clear hE122
       refine q_step (v := .int .i64 (x5 + 1)) hE124 (y_add rfl rfl ⟨(by omega), (by omega)⟩) rfl rfl rfl ?_; intro a125 hE126; clear hE124
       refine q_step (v := .int .i64 (x5 + 1)) hE126 (y_assign rfl) rfl rfl rfl ?_; intro a127 hE128; clear hE126
       refine c_nil ?_
       have hE129 := hE128.sub (L' := [(1, .int .i64 mask), (2, .pointer (some ⟨b2, 0, none⟩)), (5, .int .i64 (x5 + 1))]) ⟨rfl, rfl, rfl, trivial⟩; clear hE128
       refine p_tn ⟨r22, Nat.lt_succ_self _, x5 + 1, (hT19.symm.trans (show F_l16Antichain_L1b pp0 pp1 mask (F_l16Antichain_L1 pp0 pp1 mask r22) x5 = F_l16Antichain_L1 pp0 pp1 mask r22 (x5 + 1) by unfold F_l16Antichain_L1b; rw [ht112, ht32]; first | done | rfl)).symm, (by omega), (by first | omega | (simp only [sS_len, sL_len]; omega) | (simp only [List.length_replicate, sI_len]; omega) | (simp only [List.length_append, List.length_cons, List.length_nil, sI_len, cond_true, cond_false]; omega) | (simp only [List.length_append, List.length_cons, List.length_nil, sI_len, cond_eq_ite, apply_ite List.length]; split <;> simp only [List.length_append, List.length_cons, List.length_nil, sI_len] <;> omega) | grind), (hE129.sub (L' := [(1, .int .i64 mask), (2, .pointer (some ⟨b2, 0, none⟩)), (5, .int .i64 (x5 + 1))]) ⟨rfl, rfl, rfl, trivial⟩), (St.pick (Γ' := [.blk b2 #[.int .i64 pp0, .slice pp1A pp1.length pp1C] 54, .rd 1 pp1A pp1.length pp1C pp1]) hS110 [1, 0] (by decide) rfl)⟩
    ·
     have hp130 := of_decide_eq_false ht32
     have hE131 := hE31; rw [ht32] at hE131; clear hE31
     refine wp_exit ?_
     refine p_te ?_
     have hX132 : F_l16Antichain_L1 pp0 pp1 mask (Int.toNat (pp0 - 0) + 1) 0 = .ok x5 := hT19.symm.trans (show F_l16Antichain_L1b pp0 pp1 mask (F_l16Antichain_L1 pp0 pp1 mask r22) x5 = .ok x5 by unfold F_l16Antichain_L1b; rw [ht32]; first | done | rfl)
     refine p_te (p_be (p_tn ?_))
     exact ⟨(by rw [hX132]; rfl), (by rw [hX132]; exact (show 0 ≤ x5 from (by first | omega | (simp only [sS_len, sL_len]; omega) | (simp only [List.length_replicate, sI_len]; omega) | (simp only [List.length_append, List.length_cons, List.length_nil, sI_len, cond_true, cond_false]; omega) | (simp only [List.length_append, List.length_cons, List.length_nil, sI_len, cond_eq_ite, apply_ite List.length]; split <;> simp only [List.length_append, List.length_cons, List.length_nil, sI_len] <;> omega) | grind))), (by rw [hX132]; exact (hE131.sub (L' := [(1, .int .i64 mask), (2, .pointer (some ⟨b2, 0, none⟩)), (5, .int .i64 x5)]) ⟨rfl, rfl, rfl, trivial⟩)), (St.pick (Γ' := [.blk b2 #[.int .i64 pp0, .slice pp1A pp1.length pp1C] 54, .rd 1 pp1A pp1.length pp1C pp1]) hS18 [0, 1] (by decide) rfl)⟩
  ·
   rintro a133 w134 ⟨hO137, hi138, hE135, hS136⟩; clear hE13 hS6
   refine p_tn ?_
   refine c_seq ?_
   refine c_reg ?_
   refine q_step (v := .bool true) hE135 (y_assign rfl) rfl rfl rfl ?_; intro a139 hE140; clear hE135
   refine c_nil ?_
   have hE141 := hE140.sub (L' := [(4, .bool true)]) ⟨rfl, trivial⟩; clear hE140
   refine p_tn ?_
   refine wp_ret ?_
   have hF : F_l16Antichain pp0 pp1 mask = true := by unfold F_l16Antichain; rw [hO137]; first | done | rfl
   refine c_ret1 hE141 rfl rfl ?_
   exact ⟨(by rw [hF]; first | done | (dsimp only; done) | rfl), hS136.ext⟩


def F_l16Width_L2b (pp0 : Int) (pp1 : List Int) (mask4 : Int) (rec : Int → Int → Int × Int) (best3L2 : Int) (x5L2 : Int) : Int × Int :=
  bif (decide (x5L2 < pp0)) then (rec (bif (decide ((anI mask4 (gI pp1 x5L2)) = 0)) then F_l01Bits mask4 else best3L2) (x5L2 + 1)) else (best3L2, x5L2)
def F_l16Width_L2 (pp0 : Int) (pp1 : List Int) (mask4 : Int) : Nat → Int → Int → Int × Int
  | 0, best3L2, x5L2 => (best3L2, x5L2)
  | r + 1, best3L2, x5L2 => F_l16Width_L2b pp0 pp1 mask4 (F_l16Width_L2 pp0 pp1 mask4 r) best3L2 x5L2
def F_l16Width_L1b (pp0 : Int) (pp1 : List Int) (rec : Int → Int → Int × Int) (best3 : Int) (mask4 : Int) : Int × Int :=
  bif (decide (mask4 ≤ (fullI pp0))) then (rec (bif ((decide ((F_l01Bits mask4) ≤ best3)) || (!(F_l16Antichain pp0 pp1 mask4))) then best3 else (F_l16Width_L2 pp0 pp1 mask4 (Int.toNat (pp0 - 0) + 1) best3 0).1) (mask4 + 1)) else (best3, mask4)
def F_l16Width_L1 (pp0 : Int) (pp1 : List Int) : Nat → Int → Int → Int × Int
  | 0, best3, mask4 => (best3, mask4)
  | r + 1, best3, mask4 => F_l16Width_L1b pp0 pp1 (F_l16Width_L1 pp0 pp1 r) best3 mask4
def F_l16Width (pp0 : Int) (pp1 : List Int) : Int :=
  (F_l16Width_L1 pp0 pp1 (Int.toNat ((fullI pp0) + 1 - 1) + 1) 0 1).1
theorem cf_l16Width (args : Array Value) (w : World) : (callFunc 99 args).run Try.prog w = .ok (.enter 99 args) w := by kernel_rfl
set_option maxRecDepth 100000 in
theorem c_l16Width (pp0 : Int) (pp1A : Option Addr) (pp1N pp1C : Nat) (pp1 : List Int) (w : World) (pp1R : RdS w 1 pp1A pp1N pp1C pp1) (h8pp : 0 ≤ pp0 ∧ pp0 ≤ 8) (hlpp : (pp1.length : Int) = pp0) (hmpp : ∀ m : Int, 0 ≤ m → m < (pp1.length : Int) → 0 ≤ gI pp1 m ∧ gI pp1 m ≤ fullI pp0) :
    Calls Try.prog 99 #[.agg #[.int .i64 pp0, .slice pp1A pp1N pp1C]] w (Ret fun v w' => v = .int .i64 (F_l16Width pp0 pp1) ∧ Ext w w') := by
  obtain rfl : pp1N = pp1.length := pp1R.len1.symm
  have pp1Le := pp1R.le
  have hf8 := full8 (n := pp0) (by omega) (by omega)
  have hS := St.nil w
  have hS1 := St.rd0 hS rfl pp1R; clear hS
  refine enter (args := [.agg #[.int .i64 pp0, .slice pp1A pp1.length pp1C]]) Try.func99 rfl rfl ?_
  rw [Try.ntmps99]; intro a hE
  have hE := hE.sub (L' := [(0, .agg #[.int .i64 pp0, .slice pp1A pp1.length pp1C])]) ⟨rfl, trivial⟩
  refine c_seq ?_
  refine c_reg ?_
  refine l_step hE rfl (l_box (v := .agg #[.int .i64 pp0, .slice pp1A pp1.length pp1C]) (cs := #[.int .i64 pp0, .slice pp1A pp1.length pp1C]) hS1 hE rfl rfl rfl ?_)
  intro b2 w3 hS6 he7 a4 hE5; clear hS1 hE
  refine q_step (v := .int .i64 0) hE5 (y_assign rfl) rfl rfl rfl ?_; intro a8 hE9; clear hE5
  refine c_nil ?_
  have hE10 := hE9.sub (L' := [(1, .pointer (some ⟨b2, 0, none⟩))]) ⟨rfl, trivial⟩; clear hE9
  refine p_tn ?_
  refine c_seq ?_
  refine c_reg ?_
  refine q_step (v := .int .i64 0) hE10 (y_assign rfl) rfl rfl rfl ?_; intro a11 hE12; clear hE10
  refine c_nil ?_
  have hE13 := hE12.sub (L' := [(1, .pointer (some ⟨b2, 0, none⟩)), (3, .int .i64 0)]) ⟨rfl, rfl, trivial⟩; clear hE12
  refine p_tn ?_
  refine c_seq ?_
  refine c_seq ?_
  refine c_reg ?_
  refine q_step (v := .int .i64 1) hE13 (y_assign rfl) rfl rfl rfl ?_; intro a14 hE15; clear hE13
  refine c_nil ?_
  have hE16 := hE15.sub (L' := [(1, .pointer (some ⟨b2, 0, none⟩)), (3, .int .i64 0), (4, .int .i64 1)]) ⟨rfl, rfl, rfl, trivial⟩; clear hE15
  refine p_tn ?_
  refine c_cut1 (fun a' w' => (0 ≤ ((F_l16Width_L1 pp0 pp1 (Int.toNat ((fullI pp0) + 1 - 1) + 1) 0 1).2)) ∧ (1 ≤ ((F_l16Width_L1 pp0 pp1 (Int.toNat ((fullI pp0) + 1 - 1) + 1) 0 1).2)) ∧ (((F_l16Width_L1 pp0 pp1 (Int.toNat ((fullI pp0) + 1 - 1) + 1) 0 1).2) ≤ fullI pp0 + 1) ∧ E a' 40 [(1, .pointer (some ⟨b2, 0, none⟩)), (3, .int .i64 ((F_l16Width_L1 pp0 pp1 (Int.toNat ((fullI pp0) + 1 - 1) + 1) 0 1).1)), (4, .int .i64 ((F_l16Width_L1 pp0 pp1 (Int.toNat ((fullI pp0) + 1 - 1) + 1) 0 1).2))] ∧ St w w' [.blk b2 #[.int .i64 pp0, .slice pp1A pp1.length pp1C] 54, .rd 1 pp1A pp1.length pp1C pp1]) ?_ ?_
  ·
   refine wp_block ?_
   refine c_loop (fun r a' w' => ∃ best3 : Int, ∃ mask4 : Int, F_l16Width_L1 pp0 pp1 r best3 mask4 = F_l16Width_L1 pp0 pp1 (Int.toNat ((fullI pp0) + 1 - 1) + 1) 0 1 ∧ Int.toNat ((fullI pp0) + 1 - mask4) < r ∧ (0 ≤ mask4) ∧ (1 ≤ mask4) ∧ (mask4 ≤ fullI pp0 + 1) ∧ E a' 40 [(1, .pointer (some ⟨b2, 0, none⟩)), (3, .int .i64 best3), (4, .int .i64 mask4)] ∧ St w w' [.blk b2 #[.int .i64 pp0, .slice pp1A pp1.length pp1C] 54, .rd 1 pp1A pp1.length pp1C pp1]) (r := (Int.toNat ((fullI pp0) + 1 - 1) + 1)) ?_ ?_
   · exact ⟨0, 1, rfl, Nat.lt_succ_self _, (by first | omega | (simp only [sS_len, sL_len]; omega) | (simp only [List.length_replicate, sI_len]; omega) | (simp only [List.length_append, List.length_cons, List.length_nil, sI_len, cond_true, cond_false]; omega) | (simp only [List.length_append, List.length_cons, List.length_nil, sI_len, cond_eq_ite, apply_ite List.length]; split <;> simp only [List.length_append, List.length_cons, List.length_nil, sI_len] <;> omega) | grind), (by first | omega | (simp only [sS_len, sL_len]; omega) | (simp only [List.length_replicate, sI_len]; omega) | (simp only [List.length_append, List.length_cons, List.length_nil, sI_len, cond_true, cond_false]; omega) | (simp only [List.length_append, List.length_cons, List.length_nil, sI_len, cond_eq_ite, apply_ite List.length]; split <;> simp only [List.length_append, List.length_cons, List.length_nil, sI_len] <;> omega) | grind), (by first | omega | (simp only [sS_len, sL_len]; omega) | (simp only [List.length_replicate, sI_len]; omega) | (simp only [List.length_append, List.length_cons, List.length_nil, sI_len, cond_true, cond_false]; omega) | (simp only [List.length_append, List.length_cons, List.length_nil, sI_len, cond_eq_ite, apply_ite List.length]; split <;> simp only [List.length_append, List.length_cons, List.length_nil, sI_len] <;> omega) | grind), (hE16.sub (L' := [(1, .pointer (some ⟨b2, 0, none⟩)), (3, .int .i64 0), (4, .int .i64 1)]) ⟨rfl, rfl, rfl, trivial⟩), (St.pick (Γ' := [.blk b2 #[.int .i64 pp0, .slice pp1A pp1.length pp1C] 54, .rd 1 pp1A pp1.length pp1C pp1]) hS6 [0, 1] (by decide) rfl)⟩
   ·
    clear hE16 hS6
    rintro r27 a18 w19 ⟨best3, mask4, hT22, hr23, hi24, hi25, hi26, hE20, hS21⟩
    obtain ⟨r27, rfl⟩ : ∃ r', r27 = r' + 1 := ⟨r27 - 1, by omega⟩
    refine c_seq ?_
    refine c_seq ?_
    refine c_reg ?_
    refine q_step (v := .int .i64 mask4) hE20 (y_move rfl) rfl rfl rfl ?_; intro a28 hE29; clear hE20
    refine q_step (v := .pointer (some ⟨b2, 0, none⟩)) hE29 (y_field rfl (fun _ => by kernel_rfl)) rfl rfl rfl ?_; intro a30 hE31; clear hE29
    refine q_step (v := .int .i64 pp0) hE31 (y_load (fun _ => by kernel_rfl) rfl (St.cell (i := 0) hS21 rfl rfl)) rfl rfl rfl ?_; intro a32 hE33; clear hE31
    refine l_step hE33 rfl (l_call (f := 172) (argv := [.int .i64 pp0]) hE33 (fun _ => cf_l01Full _ _) rfl rfl (d_l01Full pp0 w19 (by omega) (by omega)) ?_)
    rintro _ _ ⟨rfl, rfl⟩ a36 hE37; clear hE33
    refine q_step (v := .bool (decide (mask4 ≤ (fullI pp0)))) hE37 (y_leq rfl rfl) rfl rfl rfl ?_; intro a40 hE41; clear hE37
    refine c_nil ?_
    have hE42 := hE41.sub (L' := [(1, .pointer (some ⟨b2, 0, none⟩)), (3, .int .i64 best3), (4, .int .i64 mask4), (10, .bool (decide (mask4 ≤ (fullI pp0))))]) ⟨rfl, rfl, rfl, rfl, trivial⟩; clear hE41
    refine p_tn ?_
    refine c_cond hE42 rfl (fun ht43 => ?_) (fun ht43 => ?_)
    ·
     have hp44 := of_decide_eq_true ht43
     have hE45 := hE42; rw [ht43] at hE45; clear hE42
     refine wp_skip ?_
     refine p_tn ?_
     refine c_cut (fun a' w' => E a' 40 [(1, .pointer (some ⟨b2, 0, none⟩)), (3, .int .i64 (bif ((decide ((F_l01Bits mask4) ≤ best3)) || (!(F_l16Antichain pp0 pp1 mask4))) then best3 else (F_l16Width_L2 pp0 pp1 mask4 (Int.toNat (pp0 - 0) + 1) best3 0).1)), (4, .int .i64 mask4)] ∧ St w w' [.rd 1 pp1A pp1.length pp1C pp1, .blk b2 #[.int .i64 pp0, .slice pp1A pp1.length pp1C] 54]) ?_ ?_
     ·
      refine wp_block ?_
      refine c_seq ?_
      refine c_cut (fun a' w' => E a' 40 [(1, .pointer (some ⟨b2, 0, none⟩)), (3, .int .i64 best3), (4, .int .i64 mask4), (22, .bool ((decide ((F_l01Bits mask4) ≤ best3)) || (!(F_l16Antichain pp0 pp1 mask4))))] ∧ St w w' [.rd 1 pp1A pp1.length pp1C pp1, .blk b2 #[.int .i64 pp0, .slice pp1A pp1.length pp1C] 54]) ?_ ?_
      ·
       refine c_reg ?_
       refine q_step (v := .int .i64 mask4) hE45 (y_move rfl) rfl rfl rfl ?_; intro a46 hE47; clear hE45
       refine l_step hE47 rfl (l_call (f := 173) (argv := [.int .i64 mask4]) hE47 (fun _ => cf_l01Bits _ _) rfl rfl (c_l01Bits mask4 w19 (by omega) (by omega)) ?_)
       rintro _ w49 ⟨rfl, he53⟩ a50 hE51; clear hE47
       have hS52 := St.go hS21 he53; clear hS21
       refine q_step (v := .int .i64 best3) hE51 (y_move rfl) rfl rfl rfl ?_; intro a54 hE55; clear hE51
       refine q_step (v := .bool (decide ((F_l01Bits mask4) ≤ best3))) hE55 (y_leq rfl rfl) rfl rfl rfl ?_; intro a56 hE57; clear hE55
       refine q_step (v := .bool (decide ((F_l01Bits mask4) ≤ best3))) hE57 (y_move rfl) rfl rfl rfl ?_; intro a58 hE59; clear hE57
       rcases Bool.eq_false_or_eq_true (decide ((F_l01Bits mask4) ≤ best3)) with hb60 | hb60
       ·
        have hE61 := hE59; (try rw [hb60] at hE61); clear hE59
        have hp62 := of_decide_eq_true hb60
        refine q_skip hE61 rfl rfl rfl ?_; intro a63 hE64; clear hE61
        refine q_skip hE64 rfl rfl rfl ?_; intro a65 hE66; clear hE64
        refine q_skip hE66 rfl rfl rfl ?_; intro a67 hE68; clear hE66
        refine q_skip hE68 rfl rfl rfl ?_; intro a69 hE70; clear hE68
        refine q_step (v := .bool true) hE70 (y_pick (b := true) rfl rfl) rfl rfl rfl ?_; intro a71 hE72; clear hE70
        refine c_nil ?_
        have hE73 := hE72.sub (L' := [(1, .pointer (some ⟨b2, 0, none⟩)), (3, .int .i64 best3), (4, .int .i64 mask4), (22, .bool true)]) ⟨rfl, rfl, rfl, rfl, trivial⟩; clear hE72
        refine p_tn ?_
        have hE74 := hE73.sub (L' := [(1, .pointer (some ⟨b2, 0, none⟩)), (3, .int .i64 best3), (4, .int .i64 mask4), (22, .bool true)]) ⟨rfl, rfl, rfl, rfl, trivial⟩
        have hS75 := (St.pick (Γ' := [.rd 1 pp1A pp1.length pp1C pp1, .blk b2 #[.int .i64 pp0, .slice pp1A pp1.length pp1C] 54]) hS52 [1, 0] (by decide) rfl)
        exact ⟨(by rw [hb60]; exact hE74), hS75⟩
       ·
        have hE76 := hE59; (try rw [hb60] at hE76); clear hE59
        have hp77 := of_decide_eq_false hb60
        refine q_step (v := .agg #[.int .i64 pp0, .slice pp1A pp1.length pp1C]) hE76 (y_loadS Try.underlying54 rfl (by kernel_rfl) rfl (St.row (i := 0) hS52 rfl)) rfl rfl rfl ?_; intro a78 hE79; clear hE76
        refine q_step (v := .int .i64 mask4) hE79 (y_move rfl) rfl rfl rfl ?_; intro a80 hE81; clear hE79
        refine l_step hE81 rfl (l_call (f := 174) (argv := [.agg #[.int .i64 pp0, .slice pp1A pp1.length pp1C], .int .i64 mask4]) hE81 (fun _ => cf_l16Antichain _ _) rfl rfl (c_l16Antichain pp0 pp1A pp1.length pp1C pp1 mask4 w49 (St.rdR (i := 1) hS52 rfl) (by omega) (by omega) (by omega)) ?_)
        rintro _ w83 ⟨rfl, he87⟩ a84 hE85; clear hE81
        have hS86 := St.go hS52 he87; clear hS52
        refine q_step (v := .bool (!(F_l16Antichain pp0 pp1 mask4))) hE85 (y_not rfl) rfl rfl rfl ?_; intro a88 hE89; clear hE85
        refine q_step (v := .bool (!(F_l16Antichain pp0 pp1 mask4))) hE89 (y_pick (b := false) rfl rfl) rfl rfl rfl ?_; intro a90 hE91; clear hE89
        refine c_nil ?_
        have hE92 := hE91.sub (L' := [(1, .pointer (some ⟨b2, 0, none⟩)), (3, .int .i64 best3), (4, .int .i64 mask4), (22, .bool (!(F_l16Antichain pp0 pp1 mask4)))]) ⟨rfl, rfl, rfl, rfl, trivial⟩; clear hE91
        refine p_tn ?_
        have hE93 := hE92.sub (L' := [(1, .pointer (some ⟨b2, 0, none⟩)), (3, .int .i64 best3), (4, .int .i64 mask4), (22, .bool (!(F_l16Antichain pp0 pp1 mask4)))]) ⟨rfl, rfl, rfl, rfl, trivial⟩
        have hS94 := (St.pick (Γ' := [.rd 1 pp1A pp1.length pp1C pp1, .blk b2 #[.int .i64 pp0, .slice pp1A pp1.length pp1C] 54]) hS86 [1, 0] (by decide) rfl)
        exact ⟨(by rw [hb60]; exact hE93), hS94⟩
      ·
       rintro a95 w96 ⟨hE97, hS98⟩; clear hE45 hS21
       refine c_cond hE97 rfl (fun ht100 => ?_) (fun ht100 => ?_)
       ·
        have hE101 := hE97; rw [ht100] at hE101; clear hE97
        refine wp_exit ?_
        refine p_te ?_
        refine p_be ?_
        refine p_tn ?_
        have hE102 := hE101.sub (L' := [(1, .pointer (some ⟨b2, 0, none⟩)), (3, .int .i64 best3), (4, .int .i64 mask4)]) ⟨rfl, rfl, rfl, trivial⟩
        have hS103 := (St.pick (Γ' := [.rd 1 pp1A pp1.length pp1C pp1, .blk b2 #[.int .i64 pp0, .slice pp1A pp1.length pp1C] 54]) hS98 [0, 1] (by decide) rfl)
        exact ⟨(by rw [ht100]; exact hE102), hS103⟩
       ·
        obtain ⟨ht104, ht105⟩ := bor_f ht100
        have hp106 := of_decide_eq_false ht104
        have ht107 := bn_f ht105
        have hE108 := hE97; rw [ht100] at hE108; clear hE97
        refine wp_skip ?_
        refine p_tn ?_
        refine c_seq ?_
        refine c_reg ?_
        refine q_step (v := .int .i64 0) hE108 (y_assign rfl) rfl rfl rfl ?_; intro a109 hE110; clear hE108
        refine c_nil ?_
        have hE111 := hE110.sub (L' := [(1, .pointer (some ⟨b2, 0, none⟩)), (3, .int .i64 best3), (4, .int .i64 mask4), (5, .int .i64 0)]) ⟨rfl, rfl, rfl, rfl, trivial⟩; clear hE110
        refine p_tn ?_
        refine c_cut1 (fun a' w' => (0 ≤ ((F_l16Width_L2 pp0 pp1 mask4 (Int.toNat (pp0 - 0) + 1) best3 0).2)) ∧ E a' 40 [(1, .pointer (some ⟨b2, 0, none⟩)), (3, .int .i64 ((F_l16Width_L2 pp0 pp1 mask4 (Int.toNat (pp0 - 0) + 1) best3 0).1)), (4, .int .i64 mask4), (5, .int .i64 ((F_l16Width_L2 pp0 pp1 mask4 (Int.toNat (pp0 - 0) + 1) best3 0).2))] ∧ St w w' [.rd 1 pp1A pp1.length pp1C pp1, .blk b2 #[.int .i64 pp0, .slice pp1A pp1.length pp1C] 54]) ?_ ?_
        ·
         refine wp_block ?_
         refine c_loop (fun r a' w' => ∃ best3L2 : Int, ∃ x5L2 : Int, F_l16Width_L2 pp0 pp1 mask4 r best3L2 x5L2 = F_l16Width_L2 pp0 pp1 mask4 (Int.toNat (pp0 - 0) + 1) best3 0 ∧ Int.toNat (pp0 - x5L2) < r ∧ (0 ≤ x5L2) ∧ E a' 40 [(1, .pointer (some ⟨b2, 0, none⟩)), (3, .int .i64 best3L2), (4, .int .i64 mask4), (5, .int .i64 x5L2)] ∧ St w w' [.rd 1 pp1A pp1.length pp1C pp1, .blk b2 #[.int .i64 pp0, .slice pp1A pp1.length pp1C] 54]) (r := (Int.toNat (pp0 - 0) + 1)) ?_ ?_
         · exact ⟨best3, 0, rfl, Nat.lt_succ_self _, (by first | omega | (simp only [sS_len, sL_len]; omega) | (simp only [List.length_replicate, sI_len]; omega) | (simp only [List.length_append, List.length_cons, List.length_nil, sI_len, cond_true, cond_false]; omega) | (simp only [List.length_append, List.length_cons, List.length_nil, sI_len, cond_eq_ite, apply_ite List.length]; split <;> simp only [List.length_append, List.length_cons, List.length_nil, sI_len] <;> omega) | grind), (hE111.sub (L' := [(1, .pointer (some ⟨b2, 0, none⟩)), (3, .int .i64 best3), (4, .int .i64 mask4), (5, .int .i64 0)]) ⟨rfl, rfl, rfl, rfl, trivial⟩), (St.pick (Γ' := [.rd 1 pp1A pp1.length pp1C pp1, .blk b2 #[.int .i64 pp0, .slice pp1A pp1.length pp1C] 54]) hS98 [0, 1] (by decide) rfl)⟩
         ·
          clear hE111 hS98
          rintro r120 a113 w114 ⟨best3L2, x5L2, hT117, hr118, hi119, hE115, hS116⟩
          obtain ⟨r120, rfl⟩ : ∃ r', r120 = r' + 1 := ⟨r120 - 1, by omega⟩
          refine c_seq ?_
          refine c_seq ?_
          refine c_reg ?_
          refine q_step (v := .int .i64 x5L2) hE115 (y_move rfl) rfl rfl rfl ?_; intro a121 hE122; clear hE115
          refine q_step (v := .pointer (some ⟨b2, 0, none⟩)) hE122 (y_field rfl (fun _ => by kernel_rfl)) rfl rfl rfl ?_; intro a123 hE124; clear hE122
          refine q_step (v := .int .i64 pp0) hE124 (y_load (fun _ => by kernel_rfl) rfl (St.cell (i := 1) hS116 rfl rfl)) rfl rfl rfl ?_; intro a125 hE126; clear hE124
          refine q_step (v := .bool (decide (x5L2 < pp0))) hE126 (y_lss rfl rfl) rfl rfl rfl ?_; intro a127 hE128; clear hE126
          refine c_nil ?_
          have hE129 := hE128.sub (L' := [(1, .pointer (some ⟨b2, 0, none⟩)), (3, .int .i64 best3L2), (4, .int .i64 mask4), (5, .int .i64 x5L2), (26, .bool (decide (x5L2 < pp0)))]) ⟨rfl, rfl, rfl, rfl, rfl, trivial⟩; clear hE128
          refine p_tn ?_
          refine c_cond hE129 rfl (fun ht130 => ?_) (fun ht130 => ?_)
          ·
           have hp131 := of_decide_eq_true ht130
           have hE132 := hE129; rw [ht130] at hE132; clear hE129
           refine wp_skip ?_
           refine p_tn ?_
           refine c_cut (fun a' w' => E a' 40 [(1, .pointer (some ⟨b2, 0, none⟩)), (3, .int .i64 (bif (decide ((anI mask4 (gI pp1 x5L2)) = 0)) then F_l01Bits mask4 else best3L2)), (4, .int .i64 mask4), (5, .int .i64 x5L2)] ∧ St w w' [.rd 1 pp1A pp1.length pp1C pp1, .blk b2 #[.int .i64 pp0, .slice pp1A pp1.length pp1C] 54]) ?_ ?_
           ·
            refine wp_block ?_
            refine c_seq ?_
            refine c_reg ?_
            refine q_step (v := .int .i64 mask4) hE132 (y_move rfl) rfl rfl rfl ?_; intro a133 hE134; clear hE132
            refine q_step (v := .pointer (some ⟨b2, 1, none⟩)) hE134 (y_field rfl (fun _ => by kernel_rfl)) rfl rfl rfl ?_; intro a135 hE136; clear hE134
            refine q_step (v := .slice pp1A pp1.length pp1C) hE136 (y_load (fun _ => by kernel_rfl) rfl (St.cell (i := 1) hS116 rfl rfl)) rfl rfl rfl ?_; intro a137 hE138; clear hE136
            refine q_step (v := .int .i64 x5L2) hE138 (y_move rfl) rfl rfl rfl ?_; intro a139 hE140; clear hE138
            refine q_step (v := .pointer (some (adr pp1A (Int.toNat x5L2)))) hE140 (y_idx (by kernel_rfl) (fun _ => by kernel_rfl) rfl rfl (RdS.isS (m := x5L2) (St.rdR (i := 0) hS116 rfl) (by omega) (by omega)) (by omega) (by omega) (Nat.mul_one _).symm) rfl rfl rfl ?_; intro a141 hE142; clear hE140
            refine q_step (v := .int .i64 (gI pp1 x5L2)) hE142 (y_load (fun _ => by kernel_rfl) rfl (RdS.elt (St.rdR (i := 0) hS116 rfl) (by omega) (by omega))) rfl rfl rfl ?_; intro a143 hE144; clear hE142
            refine q_step (v := .int .i64 (anI mask4 (gI pp1 x5L2))) hE144 (y_andNot rfl rfl) rfl rfl rfl ?_; intro a145 hE146; clear hE144
            refine q_step (v := .bool (decide ((anI mask4 (gI pp1 x5L2)) = 0))) hE146 (y_eql rfl rfl) rfl rfl rfl ?_; intro a147 hE148; clear hE146
            refine c_nil ?_
            have hE149 := hE148.sub (L' := [(1, .pointer (some ⟨b2, 0, none⟩)), (3, .int .i64 best3L2), (4, .int .i64 mask4), (5, .int .i64 x5L2), (36, .bool (decide ((anI mask4 (gI pp1 x5L2)) = 0)))]) ⟨rfl, rfl, rfl, rfl, rfl, trivial⟩; clear hE148
            refine p_tn ?_
            refine c_cond hE149 rfl (fun ht150 => ?_) (fun ht150 => ?_)
            ·
             have hp151 := of_decide_eq_true ht150
             have hE152 := hE149; rw [ht150] at hE152; clear hE149
             refine c_reg ?_
             refine q_step (v := .int .i64 mask4) hE152 (y_move rfl) rfl rfl rfl ?_; intro a153 hE154; clear hE152
             refine l_step hE154 rfl (l_call (f := 173) (argv := [.int .i64 mask4]) hE154 (fun _ => cf_l01Bits _ _) rfl rfl (c_l01Bits mask4 w114 (by omega) (by omega)) ?_)
             rintro _ w156 ⟨rfl, he160⟩ a157 hE158; clear hE154
             have hS159 := St.go hS116 he160; clear hS116
             refine q_step (v := .int .i64 (F_l01Bits mask4)) hE158 (y_assign rfl) rfl rfl rfl ?_; intro a161 hE162; clear hE158
             refine c_nil ?_
             have hE163 := hE162.sub (L' := [(1, .pointer (some ⟨b2, 0, none⟩)), (3, .int .i64 (F_l01Bits mask4)), (4, .int .i64 mask4), (5, .int .i64 x5L2)]) ⟨rfl, rfl, rfl, rfl, trivial⟩; clear hE162
             refine p_bn ?_
             refine p_tn ?_
             have hE164 := hE163.sub (L' := [(1, .pointer (some ⟨b2, 0, none⟩)), (3, .int .i64 (F_l01Bits mask4)), (4, .int .i64 mask4), (5, .int .i64 x5L2)]) ⟨rfl, rfl, rfl, rfl, trivial⟩
             have hS165 := (St.pick (Γ' := [.rd 1 pp1A pp1.length pp1C pp1, .blk b2 #[.int .i64 pp0, .slice pp1A pp1.length pp1C] 54]) hS159 [0, 1] (by decide) rfl)
             exact ⟨(by rw [ht150]; exact hE164), hS165⟩
            ·
             have hp166 := of_decide_eq_false ht150
             have hE167 := hE149; rw [ht150] at hE167; clear hE149
             refine wp_skip ?_
             refine p_bn ?_
             refine p_tn ?_
             have hE168 := hE167.sub (L' := [(1, .pointer (some ⟨b2, 0, none⟩)), (3, .int .i64 best3L2), (4, .int .i64 mask4), (5, .int .i64 x5L2)]) ⟨rfl, rfl, rfl, rfl, trivial⟩
             have hS169 := (St.pick (Γ' := [.rd 1 pp1A pp1.length pp1C pp1, .blk b2 #[.int .i64 pp0, .slice pp1A pp1.length pp1C] 54]) hS116 [0, 1] (by decide) rfl)
             exact ⟨(by rw [ht150]; exact hE168), hS169⟩
           ·
            rintro a170 w171 ⟨hE172, hS173⟩; clear hE132 hS116
            refine c_reg ?_
            refine q_step (v := .int .i64 x5L2) hE172 (y_move rfl) rfl rfl rfl ?_; intro a175 hE176; clear hE172
            refine q_step (v := .int .i64 (x5L2 + 1)) hE176 (y_add rfl rfl ⟨(by omega), (by omega)⟩) rfl rfl rfl ?_; intro a177 hE178; clear hE176
            refine q_step (v := .int .i64 (x5L2 + 1)) hE178 (y_assign rfl) rfl rfl rfl ?_; intro a179 hE180; clear hE178
            refine c_nil ?_
            have hE181 := hE180.sub (L' := [(1, .pointer (some ⟨b2, 0, none⟩)), (3, .int .i64 (bif (decide ((anI mask4 (gI pp1 x5L2)) = 0)) then F_l01Bits mask4 else best3L2)), (4, .int .i64 mask4), (5, .int .i64 (x5L2 + 1))]) ⟨rfl, rfl, rfl, rfl, trivial⟩; clear hE180
            refine p_tn ⟨r120, Nat.lt_succ_self _, bif (decide ((anI mask4 (gI pp1 x5L2)) = 0)) then F_l01Bits mask4 else best3L2, x5L2 + 1, (hT117.symm.trans (show F_l16Width_L2b pp0 pp1 mask4 (F_l16Width_L2 pp0 pp1 mask4 r120) best3L2 x5L2 = F_l16Width_L2 pp0 pp1 mask4 r120 (bif (decide ((anI mask4 (gI pp1 x5L2)) = 0)) then F_l01Bits mask4 else best3L2) (x5L2 + 1) by unfold F_l16Width_L2b; rw [ht130]; first | done | rfl)).symm, (by omega), (by first | omega | (simp only [sS_len, sL_len]; omega) | (simp only [List.length_replicate, sI_len]; omega) | (simp only [List.length_append, List.length_cons, List.length_nil, sI_len, cond_true, cond_false]; omega) | (simp only [List.length_append, List.length_cons, List.length_nil, sI_len, cond_eq_ite, apply_ite List.length]; split <;> simp only [List.length_append, List.length_cons, List.length_nil, sI_len] <;> omega) | grind), (hE181.sub (L' := [(1, .pointer (some ⟨b2, 0, none⟩)), (3, .int .i64 (bif (decide ((anI mask4 (gI pp1 x5L2)) = 0)) then F_l01Bits mask4 else best3L2)), (4, .int .i64 mask4), (5, .int .i64 (x5L2 + 1))]) ⟨rfl, rfl, rfl, rfl, trivial⟩), (St.pick (Γ' := [.rd 1 pp1A pp1.length pp1C pp1, .blk b2 #[.int .i64 pp0, .slice pp1A pp1.length pp1C] 54]) hS173 [0, 1] (by decide) rfl)⟩
          ·
           have hp182 := of_decide_eq_false ht130
           have hE183 := hE129; rw [ht130] at hE183; clear hE129
           refine wp_exit ?_
           refine p_te ?_
           have hX184 : F_l16Width_L2 pp0 pp1 mask4 (Int.toNat (pp0 - 0) + 1) best3 0 = (best3L2, x5L2) := hT117.symm.trans (show F_l16Width_L2b pp0 pp1 mask4 (F_l16Width_L2 pp0 pp1 mask4 r120) best3L2 x5L2 = (best3L2, x5L2) by unfold F_l16Width_L2b; rw [ht130]; first | done | rfl)
           refine p_te (p_be (p_tn ?_))
           exact ⟨(by rw [hX184]; exact (show 0 ≤ x5L2 from (by first | omega | (simp only [sS_len, sL_len]; omega) | (simp only [List.length_replicate, sI_len]; omega) | (simp only [List.length_append, List.length_cons, List.length_nil, sI_len, cond_true, cond_false]; omega) | (simp only [List.length_append, List.length_cons, List.length_nil, sI_len, cond_eq_ite, apply_ite List.length]; split <;> simp only [List.length_append, List.length_cons, List.length_nil, sI_len] <;> omega) | grind))), (by rw [hX184]; exact (hE183.sub (L' := [(1, .pointer (some ⟨b2, 0, none⟩)), (3, .int .i64 best3L2), (4, .int .i64 mask4), (5, .int .i64 x5L2)]) ⟨rfl, rfl, rfl, rfl, trivial⟩)), (St.pick (Γ' := [.rd 1 pp1A pp1.length pp1C pp1, .blk b2 #[.int .i64 pp0, .slice pp1A pp1.length pp1C] 54]) hS116 [0, 1] (by decide) rfl)⟩
        ·
         rintro a185 w186 ⟨hi190, hE187, hS188⟩; clear hE111 hS98
         refine p_bn ?_
         refine p_tn ?_
         have hE191 := hE187.sub (L' := [(1, .pointer (some ⟨b2, 0, none⟩)), (3, .int .i64 ((F_l16Width_L2 pp0 pp1 mask4 (Int.toNat (pp0 - 0) + 1) best3 0).1)), (4, .int .i64 mask4)]) ⟨rfl, rfl, rfl, trivial⟩
         have hS192 := (St.pick (Γ' := [.rd 1 pp1A pp1.length pp1C pp1, .blk b2 #[.int .i64 pp0, .slice pp1A pp1.length pp1C] 54]) hS188 [0, 1] (by decide) rfl)
         exact ⟨(by rw [ht100]; exact hE191), hS192⟩
     ·
      rintro a193 w194 ⟨hE195, hS196⟩; clear hE45 hS21
      refine c_reg ?_
      refine q_step (v := .int .i64 mask4) hE195 (y_move rfl) rfl rfl rfl ?_; intro a198 hE199; clear hE195
      refine q_step (v := .int .i64 (mask4 + 1)) hE199 (y_add rfl rfl ⟨(by omega), (by omega)⟩) rfl rfl rfl ?_; intro a200 hE201; clear hE199
      refine q_step (v := .int .i64 (mask4 + 1)) hE201 (y_assign rfl) rfl rfl rfl ?_; intro a202 hE203; clear hE201
      refine c_nil ?_
      have hE204 := hE203.sub (L' := [(1, .pointer (some ⟨b2, 0, none⟩)), (3, .int .i64 (bif ((decide ((F_l01Bits mask4) ≤ best3)) || (!(F_l16Antichain pp0 pp1 mask4))) then best3 else (F_l16Width_L2 pp0 pp1 mask4 (Int.toNat (pp0 - 0) + 1) best3 0).1)), (4, .int .i64 (mask4 + 1))]) ⟨rfl, rfl, rfl, trivial⟩; clear hE203
      refine p_tn ⟨r27, Nat.lt_succ_self _, bif ((decide ((F_l01Bits mask4) ≤ best3)) || (!(F_l16Antichain pp0 pp1 mask4))) then best3 else (F_l16Width_L2 pp0 pp1 mask4 (Int.toNat (pp0 - 0) + 1) best3 0).1, mask4 + 1, (hT22.symm.trans (show F_l16Width_L1b pp0 pp1 (F_l16Width_L1 pp0 pp1 r27) best3 mask4 = F_l16Width_L1 pp0 pp1 r27 (bif ((decide ((F_l01Bits mask4) ≤ best3)) || (!(F_l16Antichain pp0 pp1 mask4))) then best3 else (F_l16Width_L2 pp0 pp1 mask4 (Int.toNat (pp0 - 0) + 1) best3 0).1) (mask4 + 1) by unfold F_l16Width_L1b; rw [ht43]; first | done | rfl)).symm, (by omega), (by first | omega | (simp only [sS_len, sL_len]; omega) | (simp only [List.length_replicate, sI_len]; omega) | (simp only [List.length_append, List.length_cons, List.length_nil, sI_len, cond_true, cond_false]; omega) | (simp only [List.length_append, List.length_cons, List.length_nil, sI_len, cond_eq_ite, apply_ite List.length]; split <;> simp only [List.length_append, List.length_cons, List.length_nil, sI_len] <;> omega) | grind), (by first | omega | (simp only [sS_len, sL_len]; omega) | (simp only [List.length_replicate, sI_len]; omega) | (simp only [List.length_append, List.length_cons, List.length_nil, sI_len, cond_true, cond_false]; omega) | (simp only [List.length_append, List.length_cons, List.length_nil, sI_len, cond_eq_ite, apply_ite List.length]; split <;> simp only [List.length_append, List.length_cons, List.length_nil, sI_len] <;> omega) | grind), (by first | omega | (simp only [sS_len, sL_len]; omega) | (simp only [List.length_replicate, sI_len]; omega) | (simp only [List.length_append, List.length_cons, List.length_nil, sI_len, cond_true, cond_false]; omega) | (simp only [List.length_append, List.length_cons, List.length_nil, sI_len, cond_eq_ite, apply_ite List.length]; split <;> simp only [List.length_append, List.length_cons, List.length_nil, sI_len] <;> omega) | grind), (hE204.sub (L' := [(1, .pointer (some ⟨b2, 0, none⟩)), (3, .int .i64 (bif ((decide ((F_l01Bits mask4) ≤ best3)) || (!(F_l16Antichain pp0 pp1 mask4))) then best3 else (F_l16Width_L2 pp0 pp1 mask4 (Int.toNat (pp0 - 0) + 1) best3 0).1)), (4, .int .i64 (mask4 + 1))]) ⟨rfl, rfl, rfl, trivial⟩), (St.pick (Γ' := [.blk b2 #[.int .i64 pp0, .slice pp1A pp1.length pp1C] 54, .rd 1 pp1A pp1.length pp1C pp1]) hS196 [1, 0] (by decide) rfl)⟩
    ·
     have hp205 := of_decide_eq_false ht43
     have hE206 := hE42; rw [ht43] at hE206; clear hE42
     refine wp_exit ?_
     refine p_te ?_
     have hX207 : F_l16Width_L1 pp0 pp1 (Int.toNat ((fullI pp0) + 1 - 1) + 1) 0 1 = (best3, mask4) := hT22.symm.trans (show F_l16Width_L1b pp0 pp1 (F_l16Width_L1 pp0 pp1 r27) best3 mask4 = (best3, mask4) by unfold F_l16Width_L1b; rw [ht43]; first | done | rfl)
     refine p_te (p_be (p_tn ?_))
     exact ⟨(by rw [hX207]; exact (show 0 ≤ mask4 from (by first | omega | (simp only [sS_len, sL_len]; omega) | (simp only [List.length_replicate, sI_len]; omega) | (simp only [List.length_append, List.length_cons, List.length_nil, sI_len, cond_true, cond_false]; omega) | (simp only [List.length_append, List.length_cons, List.length_nil, sI_len, cond_eq_ite, apply_ite List.length]; split <;> simp only [List.length_append, List.length_cons, List.length_nil, sI_len] <;> omega) | grind))), (by rw [hX207]; exact (show 1 ≤ mask4 from (by first | omega | (simp only [sS_len, sL_len]; omega) | (simp only [List.length_replicate, sI_len]; omega) | (simp only [List.length_append, List.length_cons, List.length_nil, sI_len, cond_true, cond_false]; omega) | (simp only [List.length_append, List.length_cons, List.length_nil, sI_len, cond_eq_ite, apply_ite List.length]; split <;> simp only [List.length_append, List.length_cons, List.length_nil, sI_len] <;> omega) | grind))), (by rw [hX207]; exact (show mask4 ≤ fullI pp0 + 1 from (by first | omega | (simp only [sS_len, sL_len]; omega) | (simp only [List.length_replicate, sI_len]; omega) | (simp only [List.length_append, List.length_cons, List.length_nil, sI_len, cond_true, cond_false]; omega) | (simp only [List.length_append, List.length_cons, List.length_nil, sI_len, cond_eq_ite, apply_ite List.length]; split <;> simp only [List.length_append, List.length_cons, List.length_nil, sI_len] <;> omega) | grind))), (by rw [hX207]; exact (hE206.sub (L' := [(1, .pointer (some ⟨b2, 0, none⟩)), (3, .int .i64 best3), (4, .int .i64 mask4)]) ⟨rfl, rfl, rfl, trivial⟩)), (St.pick (Γ' := [.blk b2 #[.int .i64 pp0, .slice pp1A pp1.length pp1C] 54, .rd 1 pp1A pp1.length pp1C pp1]) hS21 [0, 1] (by decide) rfl)⟩
  ·
   rintro a208 w209 ⟨hi213, hi214, hi215, hE210, hS211⟩; clear hE16 hS6
   refine p_tn ?_
   refine c_seq ?_
   refine c_reg ?_
   refine q_step (v := .int .i64 ((F_l16Width_L1 pp0 pp1 (Int.toNat ((fullI pp0) + 1 - 1) + 1) 0 1).1)) hE210 (y_move rfl) rfl rfl rfl ?_; intro a216 hE217; clear hE210
   refine q_step (v := .int .i64 ((F_l16Width_L1 pp0 pp1 (Int.toNat ((fullI pp0) + 1 - 1) + 1) 0 1).1)) hE217 (y_assign rfl) rfl rfl rfl ?_; intro a218 hE219; clear hE217
   refine c_nil ?_
   have hE220 := hE219.sub (L' := [(2, .int .i64 ((F_l16Width_L1 pp0 pp1 (Int.toNat ((fullI pp0) + 1 - 1) + 1) 0 1).1))]) ⟨rfl, trivial⟩; clear hE219
   refine p_tn ?_
   refine wp_ret ?_
   have hF : F_l16Width pp0 pp1 = (F_l16Width_L1 pp0 pp1 (Int.toNat ((fullI pp0) + 1 - 1) + 1) 0 1).1 := by unfold F_l16Width; rfl
   refine c_ret1 hE220 rfl rfl ?_
   exact ⟨(by rw [hF]; first | done | (dsimp only; done) | rfl), hS211.ext⟩

def F_s_WidthOf (pp0 : Int) (pp1 : List Int) : (Int) × (Int) :=
  bif (!(F_l16Is pp0 pp1)) then (0, 1) else (F_l16Width pp0 pp1, 0)
theorem cf_s_WidthOf (args : Array Value) (w : World) : (callFunc 35 args).run Try.prog w = .ok (.enter 35 args) w := by kernel_rfl
set_option maxRecDepth 100000 in
theorem c_s_WidthOf (pp0 : Int) (pp1A : Option Addr) (pp1N pp1C : Nat) (pp1 : List Int) (w : World) (pp1R : RdS w 1 pp1A pp1N pp1C pp1) :
    Calls Try.prog 35 #[.agg #[.int .i64 pp0, .slice pp1A pp1N pp1C]] w (Ret fun v w' => v = .tuple #[.int .i64 ((F_s_WidthOf pp0 pp1).1), .int .i64 ((F_s_WidthOf pp0 pp1).2)] ∧ Ext w w') := by
  obtain rfl : pp1N = pp1.length := pp1R.len1.symm
  have pp1Le := pp1R.le
  have hS := St.nil w
  have hS1 := St.rd0 hS rfl pp1R; clear hS
  refine enter (args := [.agg #[.int .i64 pp0, .slice pp1A pp1.length pp1C]]) Try.func35 rfl rfl ?_
  rw [Try.ntmps35]; intro a hE
  have hE := hE.sub (L' := [(0, .agg #[.int .i64 pp0, .slice pp1A pp1.length pp1C])]) ⟨rfl, trivial⟩
  refine c_seq ?_
  refine c_reg ?_
  refine l_step hE rfl (l_box (v := .agg #[.int .i64 pp0, .slice pp1A pp1.length pp1C]) (cs := #[.int .i64 pp0, .slice pp1A pp1.length pp1C]) hS1 hE rfl rfl rfl ?_)
  intro b2 w3 hS6 he7 a4 hE5; clear hS1 hE
  refine q_step (v := .int .i64 0) hE5 (y_assign rfl) rfl rfl rfl ?_; intro a8 hE9; clear hE5
  refine q_step (v := .int .i64 0) hE9 (y_assign rfl) rfl rfl rfl ?_; intro a10 hE11; clear hE9
  refine c_nil ?_
  have hE12 := hE11.sub (L' := [(1, .pointer (some ⟨b2, 0, none⟩))]) ⟨rfl, trivial⟩; clear hE11
  refine p_tn ?_
  refine c_seq ?_
  refine c_seq ?_
  refine c_reg ?_
  refine q_step (v := .agg #[.int .i64 pp0, .slice pp1A pp1.length pp1C]) hE12 (y_loadS Try.underlying54 rfl (by kernel_rfl) rfl (St.row (i := 0) hS6 rfl)) rfl rfl rfl ?_; intro a13 hE14; clear hE12
  refine l_step hE14 rfl (l_call (f := 98) (argv := [.agg #[.int .i64 pp0, .slice pp1A pp1.length pp1C]]) hE14 (fun _ => cf_l16Is _ _) rfl rfl (c_l16Is pp0 pp1A pp1.length pp1C pp1 w3 (St.rdR (i := 1) hS6 rfl)) ?_)
  rintro _ w16 ⟨rfl, he20⟩ a17 hE18; clear hE14
  have hS19 := St.go hS6 he20; clear hS6
  refine q_step (v := .bool (!(F_l16Is pp0 pp1))) hE18 (y_not rfl) rfl rfl rfl ?_; intro a21 hE22; clear hE18
  refine c_nil ?_
  have hE23 := hE22.sub (L' := [(1, .pointer (some ⟨b2, 0, none⟩)), (6, .bool (!(F_l16Is pp0 pp1)))]) ⟨rfl, rfl, trivial⟩; clear hE22
  refine p_tn ?_
  refine c_cond hE23 rfl (fun ht24 => ?_) (fun ht24 => ?_)
  ·
   have ht25 := bn_t ht24
   have hE26 := hE23; rw [ht24] at hE26; clear hE23
   refine c_seq ?_
   refine c_reg ?_
   refine q_step (v := .int .i64 0) hE26 (y_assign rfl) rfl rfl rfl ?_; intro a27 hE28; clear hE26
   refine q_step (v := .int .i64 1) hE28 (y_assign rfl) rfl rfl rfl ?_; intro a29 hE30; clear hE28
   refine c_nil ?_
   have hE31 := hE30.sub (L' := [(2, .int .i64 0), (3, .int .i64 1)]) ⟨rfl, rfl, trivial⟩; clear hE30
   refine p_tn ?_
   refine wp_ret ?_
   refine p_tr ?_
   have hF : F_s_WidthOf pp0 pp1 = (0, 1) := by unfold F_s_WidthOf; rw [ht24]; first | done | rfl
   refine c_ret2 hE31 rfl rfl rfl ?_
   exact ⟨(by rw [hF]; first | done | (dsimp only; done) | rfl), hS19.ext⟩
  ·
   have ht32 := bn_f ht24
   have hp33 := l16Is_t ht32
   have hE34 := hE23; rw [ht24] at hE34; clear hE23
   refine wp_skip ?_
   refine p_tn ?_
   refine c_seq ?_
   refine c_reg ?_
   refine q_step (v := .agg #[.int .i64 pp0, .slice pp1A pp1.length pp1C]) hE34 (y_loadS Try.underlying54 rfl (by kernel_rfl) rfl (St.row (i := 0) hS19 rfl)) rfl rfl rfl ?_; intro a35 hE36; clear hE34
   refine l_step hE36 rfl (l_call (f := 99) (argv := [.agg #[.int .i64 pp0, .slice pp1A pp1.length pp1C]]) hE36 (fun _ => cf_l16Width _ _) rfl rfl (c_l16Width pp0 pp1A pp1.length pp1C pp1 w16 (St.rdR (i := 1) hS19 rfl) (by omega) (by omega) (l16Is_t (by assumption)).2.2) ?_)
   rintro _ w38 ⟨rfl, he42⟩ a39 hE40; clear hE36
   have hS41 := St.go hS19 he42; clear hS19
   refine q_step (v := .int .i64 (F_l16Width pp0 pp1)) hE40 (y_assign rfl) rfl rfl rfl ?_; intro a43 hE44; clear hE40
   refine q_step (v := .int .i64 0) hE44 (y_assign rfl) rfl rfl rfl ?_; intro a45 hE46; clear hE44
   refine c_nil ?_
   have hE47 := hE46.sub (L' := [(2, .int .i64 (F_l16Width pp0 pp1)), (3, .int .i64 0)]) ⟨rfl, rfl, trivial⟩; clear hE46
   refine p_tn ?_
   refine wp_ret ?_
   have hF : F_s_WidthOf pp0 pp1 = (F_l16Width pp0 pp1, 0) := by unfold F_s_WidthOf; rw [ht24]; first | done | rfl
   refine c_ret2 hE47 rfl rfl rfl ?_
   exact ⟨(by rw [hF]; first | done | (dsimp only; done) | rfl), hS41.ext⟩

def F_WidthOf (pp0 : Int) (pp1 : List Int) : (Int) × (Int) :=
  bif (!(F_isPoset pp0 pp1)) then (0, 1) else (F_Poset_width pp0 pp1, 0)
theorem cf_WidthOf (args : Array Value) (w : World) : (callFunc 37 args).run Try.prog w = .ok (.enter 37 args) w := by kernel_rfl
set_option maxRecDepth 100000 in
theorem c_WidthOf (pp0 : Int) (pp1A : Option Addr) (pp1N pp1C : Nat) (pp1 : List Int) (w : World) (pp1R : RdS w 1 pp1A pp1N pp1C pp1) :
    Calls Try.prog 37 #[.agg #[.int .i64 pp0, .slice pp1A pp1N pp1C]] w (Ret fun v w' => v = .tuple #[.int .i64 ((F_WidthOf pp0 pp1).1), .int .i64 ((F_WidthOf pp0 pp1).2)] ∧ Ext w w') := by
  obtain rfl : pp1N = pp1.length := pp1R.len1.symm
  have pp1Le := pp1R.le
  have hS := St.nil w
  have hS1 := St.rd0 hS rfl pp1R; clear hS
  refine enter (args := [.agg #[.int .i64 pp0, .slice pp1A pp1.length pp1C]]) Try.func37 rfl rfl ?_
  rw [Try.ntmps37]; intro a hE
  have hE := hE.sub (L' := [(0, .agg #[.int .i64 pp0, .slice pp1A pp1.length pp1C])]) ⟨rfl, trivial⟩
  refine c_seq ?_
  refine c_reg ?_
  refine l_step hE rfl (l_box (v := .agg #[.int .i64 pp0, .slice pp1A pp1.length pp1C]) (cs := #[.int .i64 pp0, .slice pp1A pp1.length pp1C]) hS1 hE rfl rfl rfl ?_)
  intro b2 w3 hS6 he7 a4 hE5; clear hS1 hE
  refine q_step (v := .int .i64 0) hE5 (y_assign rfl) rfl rfl rfl ?_; intro a8 hE9; clear hE5
  refine q_step (v := .int .i64 0) hE9 (y_assign rfl) rfl rfl rfl ?_; intro a10 hE11; clear hE9
  refine c_nil ?_
  have hE12 := hE11.sub (L' := [(1, .pointer (some ⟨b2, 0, none⟩))]) ⟨rfl, trivial⟩; clear hE11
  refine p_tn ?_
  refine c_seq ?_
  refine c_seq ?_
  refine c_reg ?_
  refine q_step (v := .agg #[.int .i64 pp0, .slice pp1A pp1.length pp1C]) hE12 (y_loadS Try.underlying54 rfl (by kernel_rfl) rfl (St.row (i := 0) hS6 rfl)) rfl rfl rfl ?_; intro a13 hE14; clear hE12
  refine l_step hE14 rfl (l_call (f := 100) (argv := [.agg #[.int .i64 pp0, .slice pp1A pp1.length pp1C]]) hE14 (fun _ => cf_isPoset _ _) rfl rfl (c_isPoset pp0 pp1A pp1.length pp1C pp1 w3 (St.rdR (i := 1) hS6 rfl)) ?_)
  rintro _ w16 ⟨rfl, he20⟩ a17 hE18; clear hE14
  have hS19 := St.go hS6 he20; clear hS6
  refine q_step (v := .bool (!(F_isPoset pp0 pp1))) hE18 (y_not rfl) rfl rfl rfl ?_; intro a21 hE22; clear hE18
  refine c_nil ?_
  have hE23 := hE22.sub (L' := [(1, .pointer (some ⟨b2, 0, none⟩)), (6, .bool (!(F_isPoset pp0 pp1)))]) ⟨rfl, rfl, trivial⟩; clear hE22
  refine p_tn ?_
  refine c_cond hE23 rfl (fun ht24 => ?_) (fun ht24 => ?_)
  ·
   have ht25 := bn_t ht24
   have hE26 := hE23; rw [ht24] at hE26; clear hE23
   refine c_seq ?_
   refine c_reg ?_
   refine q_step (v := .int .i64 0) hE26 (y_assign rfl) rfl rfl rfl ?_; intro a27 hE28; clear hE26
   refine q_step (v := .int .i64 1) hE28 (y_assign rfl) rfl rfl rfl ?_; intro a29 hE30; clear hE28
   refine c_nil ?_
   have hE31 := hE30.sub (L' := [(2, .int .i64 0), (3, .int .i64 1)]) ⟨rfl, rfl, trivial⟩; clear hE30
   refine p_tn ?_
   refine wp_ret ?_
   refine p_tr ?_
   have hF : F_WidthOf pp0 pp1 = (0, 1) := by unfold F_WidthOf; rw [ht24]; first | done | rfl
   refine c_ret2 hE31 rfl rfl rfl ?_
   exact ⟨(by rw [hF]; first | done | (dsimp only; done) | rfl), hS19.ext⟩
  ·
   have ht32 := bn_f ht24
   have hp33 := isPoset_t ht32
   have hE34 := hE23; rw [ht24] at hE34; clear hE23
   refine wp_skip ?_
   refine p_tn ?_
   refine c_seq ?_
   refine c_reg ?_
   refine q_step (v := .agg #[.int .i64 pp0, .slice pp1A pp1.length pp1C]) hE34 (y_loadS Try.underlying54 rfl (by kernel_rfl) rfl (St.row (i := 0) hS19 rfl)) rfl rfl rfl ?_; intro a35 hE36; clear hE34
   refine l_step hE36 rfl (l_call (f := 101) (argv := [.agg #[.int .i64 pp0, .slice pp1A pp1.length pp1C]]) hE36 (fun _ => cf_Poset_width _ _) rfl rfl (c_Poset_width pp0 pp1A pp1.length pp1C pp1 w16 (St.rdR (i := 1) hS19 rfl) (by omega) (by omega) (isPoset_t (by assumption)).2.2) ?_)
   rintro _ w38 ⟨rfl, he42⟩ a39 hE40; clear hE36
   have hS41 := St.go hS19 he42; clear hS19
   refine q_step (v := .int .i64 (F_Poset_width pp0 pp1)) hE40 (y_assign rfl) rfl rfl rfl ?_; intro a43 hE44; clear hE40
   refine q_step (v := .int .i64 0) hE44 (y_assign rfl) rfl rfl rfl ?_; intro a45 hE46; clear hE44
   refine c_nil ?_
   have hE47 := hE46.sub (L' := [(2, .int .i64 (F_Poset_width pp0 pp1)), (3, .int .i64 0)]) ⟨rfl, rfl, trivial⟩; clear hE46
   refine p_tn ?_
   refine wp_ret ?_
   have hF : F_WidthOf pp0 pp1 = (F_Poset_width pp0 pp1, 0) := by unfold F_WidthOf; rw [ht24]; first | done | rfl
   refine c_ret2 hE47 rfl rfl rfl ?_
   exact ⟨(by rw [hF]; first | done | (dsimp only; done) | rfl), hS41.ext⟩

/-- The greatest value. -/
theorem maxfold {α : Type} (c : α → Bool) (v : α → Int) : ∀ (l : List α) (o : Int), o ≤ l.foldl (fun o a => bif c a then max o (v a) else o) o ∧ (∀ a ∈ l, c a = true → v a ≤ l.foldl (fun o a => bif c a then max o (v a) else o) o) ∧ (l.foldl (fun o a => bif c a then max o (v a) else o) o = o ∨ ∃ a ∈ l, c a = true ∧ v a = l.foldl (fun o a => bif c a then max o (v a) else o) o)
  | [], o => ⟨Int.le_refl _, (fun a h => by cases h), .inl rfl⟩
  | b :: l, o => by
    simp only [List.foldl_cons]
    obtain ⟨h1, h2, h3⟩ := maxfold c v l (bif c b then max o (v b) else o)
    have hb : o ≤ (bif c b then max o (v b) else o) ∧ (c b = true → v b ≤ (bif c b then max o (v b) else o)) ∧ ((bif c b then max o (v b) else o) = o ∨ (c b = true ∧ v b = (bif c b then max o (v b) else o))) := by
      cases hc : c b
      · exact ⟨Int.le_refl _, (fun h => by cases h), .inl rfl⟩
      · simp only [cond_true]
        refine ⟨by omega, fun _ => by omega, ?_⟩
        by_cases hm : v b ≤ o
        · exact .inl (by omega)
        · exact .inr ⟨trivial, by omega⟩
    refine ⟨by omega, fun a ha hca => ?_, ?_⟩
    · rcases List.mem_cons.1 ha with rfl | ha
      · have := hb.2.1 hca; omega
      · exact h2 a ha hca
    · rcases h3 with h3 | ⟨a, ha, hca, h3⟩
      · rcases hb.2.2 with h4 | ⟨h4, h5⟩
        · exact .inl (by omega)
        · exact .inr ⟨b, List.mem_cons_self .., h4, by omega⟩
      · exact .inr ⟨a, List.mem_cons_of_mem _ ha, hca, h3⟩
theorem isAnti_eq {p0 : Int} {p1 : List Int} (h0 : 0 ≤ p0 ∧ p0 ≤ 8) (hl : (p1.length : Int) = p0) {mask : Int} (hm0 : 0 ≤ mask) (hm : mask ≤ fullI p0) : F_Poset_isAntichain p0 p1 mask = F_l16Antichain p0 p1 mask := by
  have e1 : F_Poset_isAntichain p0 p1 mask = (F_membersOf mask).all fun x => decide (andI (gI p1 x) mask = shlI 1 x) := by
    unfold F_Poset_isAntichain
    rw [allE (F_Poset_isAntichain_L1 p1 mask) false ((F_membersOf mask).length : Int) (fun t => !decide ((andI (gI p1 (gI (F_membersOf mask) t)) mask) = (shlI 1 (gI (F_membersOf mask) t)))) (by omega) (fun _ _ _ _ => rfl), isOk_bif, errD_bif, bif_tf, Int.toNat_natCast]
    rw [← all_gI (F_membersOf mask) (fun x => decide (andI (gI p1 x) mask = shlI 1 x))]
    simp only [Bool.not_not]
  have e2 : F_l16Antichain p0 p1 mask = (List.range p0.toNat).all fun (x : Nat) => !(F_l01Bit mask (x : Int) && !decide (andI (gI p1 (x : Int)) mask = powI (x : Int))) := by
    unfold F_l16Antichain
    rw [allE (F_l16Antichain_L1 p0 p1 mask) false p0 (fun t => F_l01Bit mask t && !decide ((andI (gI p1 t) mask) = powI t)) (by omega) (fun _ _ _ _ => rfl), isOk_bif, errD_bif, bif_tf]
  rw [e1, e2, members_eq (n := p0.toNat) (by omega) hm0 (by rw [Int.toNat_of_nonneg h0.1]; exact hm), List.all_map]
  rw [Bool.eq_iff_iff, List.all_eq_true, List.all_eq_true]
  constructor
  · intro h x hx
    cases hb : F_l01Bit mask (x : Int)
    · rfl
    · have := h x (List.mem_filter.2 ⟨hx, hb⟩)
      have hx := List.mem_range.1 hx
      simp only [Function.comp_def] at this
      rw [pow_shl (by omega) (by omega)] at this
      rw [this]; rfl
  · intro h x hx
    obtain ⟨hx, hb⟩ := List.mem_filter.1 hx
    have := h x hx
    rw [show F_l01Bit mask (x : Int) = true from hb, Bool.true_and, Bool.not_not] at this
    have hx := List.mem_range.1 hx
    simp only [Function.comp_def]
    rw [pow_shl (by omega) (by omega)]
    exact this
/-- A set of a poset that counts. -/
def goodW (p0 : Int) (p1 : List Int) (m : Int) : Prop := 0 ≤ m ∧ m ≤ fullI p0 ∧ F_l16Antichain p0 p1 m = true ∧ ∃ x : Int, 0 ≤ x ∧ x < p0 ∧ anI m (gI p1 x) = 0
def isW (p0 : Int) (p1 : List Int) (r : Int) : Prop := 0 ≤ r ∧ (∀ m, goodW p0 p1 m → F_l01Bits m ≤ r) ∧ (r = 0 ∨ ∃ m, goodW p0 p1 m ∧ F_l01Bits m = r)
theorem isW.uniq {p0 : Int} {p1 : List Int} {r s : Int} (h : isW p0 p1 r) (k : isW p0 p1 s) : r = s := by
  have a : r ≤ s := by
    rcases h.2.2 with e | ⟨m, hm, e⟩
    · have := k.1; omega
    · have := k.2.1 m hm; omega
  have b : s ≤ r := by
    rcases k.2.2 with e | ⟨m, hm, e⟩
    · have := h.1; omega
    · have := h.2.1 m hm; omega
  omega
theorem width_isW {p0 : Int} {p1 : List Int} (h0 : 0 ≤ p0 ∧ p0 ≤ 8) (hl : (p1.length : Int) = p0) (hm : ∀ m : Int, 0 ≤ m → m < (p1.length : Int) → 0 ≤ gI p1 m ∧ gI p1 m ≤ fullI p0) (hf : fullI p0 ≤ 255) : isW p0 p1 (F_Poset_width p0 p1) := by
  have e : F_Poset_width p0 p1 = ((List.range p1.length).flatMap fun (x : Nat) => F_subMasks (gI p1 (x : Int))).foldl (fun o m => bif F_Poset_isAntichain p0 p1 m then max o (F_countMembers m) else o) 0 := by
    unfold F_Poset_width
    rw [rangeLoop0 (p1.length : Int) (by omega) (fun o t => (F_Poset_width_L2 p0 p1 t (Int.toNat (((F_subMasks (gI p1 t)).length : Int) - 0) + 1) o 0).1) (F_Poset_width_L1 p0 p1) (fun _ _ _ => rfl), Int.toNat_natCast, List.foldl_flatMap]
    congr 1; funext o x
    rw [listLoop (F_subMasks (gI p1 (x : Int))) (fun o m => bif F_Poset_isAntichain p0 p1 m then max o (F_countMembers m) else o) (F_Poset_width_L2 p0 p1 (x : Int)) (fun _ _ _ => rfl)]
  obtain ⟨a1, a2, a3⟩ := maxfold (fun m => F_Poset_isAntichain p0 p1 m) (fun m => F_countMembers m) ((List.range p1.length).flatMap fun (x : Nat) => F_subMasks (gI p1 (x : Int))) 0
  rw [← e] at a1 a2 a3
  have mem : ∀ m : Int, m ∈ ((List.range p1.length).flatMap fun (x : Nat) => F_subMasks (gI p1 (x : Int))) ↔ ∃ x : Int, 0 ≤ x ∧ x < p0 ∧ 0 ≤ m ∧ m ≤ gI p1 x ∧ anI m (gI p1 x) = 0 := fun m => by
    rw [List.mem_flatMap]
    constructor
    · rintro ⟨x, hx, h⟩
      have hx := List.mem_range.1 hx
      have hb := hm (x : Int) (by omega) (by omega)
      obtain ⟨c1, c2, c3⟩ := (mem_subs hb.1 (by omega) m).1 h
      exact ⟨x, by omega, by omega, c1, c2, c3⟩
    · rintro ⟨x, h1, h2, h3, h4, h5⟩
      have hb := hm x h1 (by omega)
      refine ⟨x.toNat, List.mem_range.2 (by omega), ?_⟩
      rw [show ((x.toNat : Nat) : Int) = x by omega]
      exact (mem_subs hb.1 (by omega) m).2 ⟨h3, h4, h5⟩
  refine ⟨a1, fun m hg => ?_, ?_⟩
  · obtain ⟨g1, g2, g3, x, g4, g5, g6⟩ := hg
    have hb := hm x g4 (by omega)
    have hle : m ≤ gI p1 x := by
      obtain ⟨b1, b2, b3⟩ := anI_testBit (m := m) (k := gI p1 x) g1 (by omega) hb.1 (by omega)
      have : m.toNat ≤ (gI p1 x).toNat := by
        refine Nat.le_of_testBit fun i hi => ?_
        have := b3 i
        rw [g6, hi] at this
        simpa using this
      omega
    have := a2 m ((mem m).2 ⟨x, g4, g5, g1, hle, g6⟩) (by rw [isAnti_eq h0 hl g1 g2]; exact g3)
    rw [l01Bits_eq g1 (by omega)]; exact this
  · rcases a3 with a3 | ⟨m, hmm, c1, c2⟩
    · exact .inl a3
    · obtain ⟨x, g1, g2, g3, g4, g5⟩ := (mem m).1 hmm
      have hb := hm x g1 (by omega)
      refine .inr ⟨m, ⟨g3, by omega, by rw [← isAnti_eq h0 hl g3 (by omega)]; exact c1, x, g1, g2, g5⟩, ?_⟩
      rw [l01Bits_eq g3 (by omega)]; exact c2
theorem l16Width_isW {p0 : Int} {p1 : List Int} (h0 : 0 ≤ p0 ∧ p0 ≤ 8) (hf : fullI p0 ≤ 255) (hf0 : 0 ≤ fullI p0) : isW p0 p1 (F_l16Width p0 p1) := by
  have inner : ∀ (m b : Int), (F_l16Width_L2 p0 p1 m (Int.toNat (p0 - 0) + 1) b 0).1 = bif (List.range p0.toNat).any (fun (x : Nat) => decide (anI m (gI p1 (x : Int)) = 0)) then F_l01Bits m else b := fun m b => by
    rw [rangeLoop0 p0 h0.1 (fun o x => bif decide (anI m (gI p1 x) = 0) then F_l01Bits m else o) (F_l16Width_L2 p0 p1 m) (fun _ _ _ => rfl)]
    generalize p0.toNat = k
    induction k with
    | zero => rfl
    | succ k ih =>
      rw [List.range_succ, List.foldl_append, List.any_append, ih]
      simp only [List.foldl_cons, List.foldl_nil, List.any_cons, List.any_nil, Bool.or_false]
      cases decide (anI m (gI p1 (k : Int)) = 0) <;> cases (List.range k).any (fun (x : Nat) => decide (anI m (gI p1 (x : Int)) = 0)) <;> rfl
  have e : F_l16Width p0 p1 = (List.range (fullI p0).toNat).foldl (fun o (j : Nat) => bif (F_l16Antichain p0 p1 (1 + (j : Int)) && (List.range p0.toNat).any (fun (x : Nat) => decide (anI (1 + (j : Int)) (gI p1 (x : Int)) = 0))) then max o (F_l01Bits (1 + (j : Int))) else o) 0 := by
    unfold F_l16Width
    rw [show Int.toNat (fullI p0 + 1 - 1) = (fullI p0).toNat by omega]
    rw [rangeLoop (fullI p0 + 1) (fun o m => bif (F_l16Antichain p0 p1 m && (List.range p0.toNat).any (fun (x : Nat) => decide (anI m (gI p1 (x : Int)) = 0))) then max o (F_l01Bits m) else o) (F_l16Width_L1 p0 p1) (fun r o t => ?_) (fullI p0).toNat 1 0 (by omega)]
    show F_l16Width_L1b p0 p1 _ o t = _
    unfold F_l16Width_L1b
    rw [inner, show decide (t ≤ fullI p0) = decide (t < fullI p0 + 1) from decide_eq_decide.2 (by omega)]
    congr 2
    cases F_l16Antichain p0 p1 t <;> cases (List.range p0.toNat).any (fun (x : Nat) => decide (anI t (gI p1 (x : Int)) = 0)) <;> by_cases hb : F_l01Bits t ≤ o <;> simp [hb] <;> omega
  obtain ⟨a1, a2, a3⟩ := maxfold (fun (j : Nat) => F_l16Antichain p0 p1 (1 + (j : Int)) && (List.range p0.toNat).any (fun (x : Nat) => decide (anI (1 + (j : Int)) (gI p1 (x : Int)) = 0))) (fun (j : Nat) => F_l01Bits (1 + (j : Int))) (List.range (fullI p0).toNat) 0
  rw [← e] at a1 a2 a3
  refine ⟨a1, fun m hg => ?_, ?_⟩
  · obtain ⟨g1, g2, g3, x, g4, g5, g6⟩ := hg
    by_cases hz : m = 0
    · subst hz
      rw [l01Bits_eq (by omega) (by omega)]
      exact Int.le_trans (show F_countMembers 0 ≤ 0 from by decide) a1
    · have := a2 (m - 1).toNat (List.mem_range.2 (by omega)) (by
        rw [show 1 + (((m - 1).toNat : Nat) : Int) = m by omega, g3, Bool.true_and, List.any_eq_true]
        refine ⟨x.toNat, List.mem_range.2 (by omega), ?_⟩
        rw [show ((x.toNat : Nat) : Int) = x by omega]
        exact decide_eq_true g6)
      rw [show 1 + (((m - 1).toNat : Nat) : Int) = m by omega] at this
      exact this
  · rcases a3 with a3 | ⟨j, hj, c1, c2⟩
    · exact .inl a3
    · have hj := List.mem_range.1 hj
      rw [Bool.and_eq_true, List.any_eq_true] at c1
      obtain ⟨c3, x, hx, c4⟩ := c1
      have hx := List.mem_range.1 hx
      exact .inr ⟨1 + (j : Int), ⟨by omega, by omega, c3, x, by omega, by omega, of_decide_eq_true c4⟩, c2⟩
theorem WidthOf_eq (p0 : Int) (p1 : List Int) : F_WidthOf p0 p1 = F_s_WidthOf p0 p1 := by
  unfold F_WidthOf F_s_WidthOf
  rw [isPoset_eq]
  cases h : F_l16Is p0 p1
  · rfl
  · have ht := l16Is_t h
    have hf := full8 (n := p0) (by omega) (by omega)
    simp only [Bool.not_true, cond_false]
    rw [(width_isW ht.1 ht.2.1 ht.2.2 hf.2).uniq (l16Width_isW ht.1 hf.2 hf.1)]


end Go.Proofs.Ytlbonhloeefnmaa
