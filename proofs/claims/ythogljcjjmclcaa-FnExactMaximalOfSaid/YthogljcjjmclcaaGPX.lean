/- GPX: models and contracts, printed by wip/gen/gen.py -/
import Derived.Test.YthogljcjjmclcaaGPO
set_option linter.unusedVariables false
set_option linter.unusedSimpArgs false
namespace Go.Proofs.Ythogljcjjmclcaa
open Go.RowKit

def F_l16Maximal_L1b (pp0 : Int) (pp1 : List Int) (rec : Int → Int → Int × Int) (out3 : Int) (x4 : Int) : Int × Int :=
  bif (decide (x4 < pp0)) then (rec (bif (decide ((gI pp1 x4) = (powI x4))) then orI out3 (powI x4) else out3) (x4 + 1)) else (out3, x4)
def F_l16Maximal_L1 (pp0 : Int) (pp1 : List Int) : Nat → Int → Int → Int × Int
  | 0, out3, x4 => (out3, x4)
  | r + 1, out3, x4 => F_l16Maximal_L1b pp0 pp1 (F_l16Maximal_L1 pp0 pp1 r) out3 x4
def F_l16Maximal (pp0 : Int) (pp1 : List Int) : Int :=
  (F_l16Maximal_L1 pp0 pp1 (Int.toNat (pp0 - 0) + 1) 0 0).1
theorem cf_l16Maximal (args : Array Value) (w : World) : (callFunc 52 args).run Try.prog w = .ok (.enter 52 args) w := by kernel_rfl
set_option maxRecDepth 100000 in
theorem c_l16Maximal (pp0 : Int) (pp1A : Option Addr) (pp1N pp1C : Nat) (pp1 : List Int) (w : World) (pp1R : RdS w 1 pp1A pp1N pp1C pp1) (h8pp : 0 ≤ pp0 ∧ pp0 ≤ 8) (hlpp : (pp1.length : Int) = pp0) (hmpp : ∀ m : Int, 0 ≤ m → m < (pp1.length : Int) → 0 ≤ gI pp1 m ∧ gI pp1 m ≤ fullI pp0) :
    Calls Try.prog 52 #[.agg #[.int .i64 pp0, .slice pp1A pp1N pp1C]] w (Ret fun v w' => v = .int .i64 (F_l16Maximal pp0 pp1) ∧ Ext w w') := by
  obtain rfl : pp1N = pp1.length := pp1R.len1.symm
  have pp1Le := pp1R.le
  have hS := St.nil w
  have hS1 := St.rd0 hS rfl pp1R; clear hS
  refine enter (args := [.agg #[.int .i64 pp0, .slice pp1A pp1.length pp1C]]) Try.func52 rfl rfl ?_
  rw [Try.ntmps52]; intro a hE
  have hE := hE.sub (L' := [(0, .agg #[.int .i64 pp0, .slice pp1A pp1.length pp1C])]) ⟨rfl, trivial⟩
  refine c_seq ?_
  refine c_reg ?_
  refine l_step hE rfl (l_box (v := .agg #[.int .i64 pp0, .slice pp1A pp1.length pp1C]) (cs := #[.int .i64 pp0, .slice pp1A pp1.length pp1C]) hS1 hE rfl rfl rfl ?_)
  intro b2 w3 hS6 he7 a4 hE5; clear hS1 hE
  refine q_step (v := .int .i64 0) hE5 (y_assign rfl) rfl rfl rfl ?_; intro a8 hE9; clear hE5
  refine c_nil ?_
  have hE10 := hE9.sub (L' := [(1, .pointer (some ⟨b2, 0, none⟩))]) ⟨rfl, trivial⟩; clear hE9
  refine p_tn ?_
  refine c_seq ?_
  refine c_reg ?_
  refine q_step (v := .int .i64 0) hE10 (y_assign rfl) rfl rfl rfl ?_; intro a11 hE12; clear hE10
  refine c_nil ?_
  have hE13 := hE12.sub (L' := [(1, .pointer (some ⟨b2, 0, none⟩)), (3, .int .i64 0)]) ⟨rfl, rfl, trivial⟩; clear hE12
  refine p_tn ?_
  refine c_seq ?_
  refine c_seq ?_
  refine c_reg ?_
  refine q_step (v := .int .i64 0) hE13 (y_assign rfl) rfl rfl rfl ?_; intro a14 hE15; clear hE13
  refine c_nil ?_
  have hE16 := hE15.sub (L' := [(1, .pointer (some ⟨b2, 0, none⟩)), (3, .int .i64 0), (4, .int .i64 0)]) ⟨rfl, rfl, rfl, trivial⟩; clear hE15
  refine p_tn ?_
  refine c_cut1 (fun a' w' => (0 ≤ ((F_l16Maximal_L1 pp0 pp1 (Int.toNat (pp0 - 0) + 1) 0 0).2)) ∧ E a' 24 [(1, .pointer (some ⟨b2, 0, none⟩)), (3, .int .i64 ((F_l16Maximal_L1 pp0 pp1 (Int.toNat (pp0 - 0) + 1) 0 0).1)), (4, .int .i64 ((F_l16Maximal_L1 pp0 pp1 (Int.toNat (pp0 - 0) + 1) 0 0).2))] ∧ St w w' [.blk b2 #[.int .i64 pp0, .slice pp1A pp1.length pp1C] 27, .rd 1 pp1A pp1.length pp1C pp1]) ?_ ?_
  ·
    refine wp_block ?_
    refine c_loop (fun r a' w' => ∃ out3 : Int, ∃ x4 : Int, F_l16Maximal_L1 pp0 pp1 r out3 x4 = F_l16Maximal_L1 pp0 pp1 (Int.toNat (pp0 - 0) + 1) 0 0 ∧ Int.toNat (pp0 - x4) < r ∧ (0 ≤ x4) ∧ E a' 24 [(1, .pointer (some ⟨b2, 0, none⟩)), (3, .int .i64 out3), (4, .int .i64 x4)] ∧ St w w' [.blk b2 #[.int .i64 pp0, .slice pp1A pp1.length pp1C] 27, .rd 1 pp1A pp1.length pp1C pp1]) (r := (Int.toNat (pp0 - 0) + 1)) ?_ ?_
    · exact ⟨0, 0, rfl, Nat.lt_succ_self _, (by first | omega | (simp only [List.length_replicate, sI_len]; omega) | (simp only [List.length_append, List.length_cons, List.length_nil, sI_len, cond_true, cond_false]; omega) | (simp only [List.length_append, List.length_cons, List.length_nil, sI_len, cond_eq_ite, apply_ite List.length]; split <;> simp only [List.length_append, List.length_cons, List.length_nil, sI_len] <;> omega) | grind), (hE16.sub (L' := [(1, .pointer (some ⟨b2, 0, none⟩)), (3, .int .i64 0), (4, .int .i64 0)]) ⟨rfl, rfl, rfl, trivial⟩), (St.pick (Γ' := [.blk b2 #[.int .i64 pp0, .slice pp1A pp1.length pp1C] 27, .rd 1 pp1A pp1.length pp1C pp1]) hS6 [0, 1] (by decide) rfl)⟩
    ·
      clear hE16 hS6
      rintro r25 a18 w19 ⟨out3, x4, hT22, hr23, hi24, hE20, hS21⟩
      obtain ⟨r25, rfl⟩ : ∃ r', r25 = r' + 1 := ⟨r25 - 1, by omega⟩
      refine c_seq ?_
      refine c_seq ?_
      refine c_reg ?_
      refine q_step (v := .int .i64 x4) hE20 (y_move rfl) rfl rfl rfl ?_; intro a26 hE27; clear hE20
      refine q_step (v := .pointer (some ⟨b2, 0, none⟩)) hE27 (y_field rfl (fun _ => by kernel_rfl)) rfl rfl rfl ?_; intro a28 hE29; clear hE27
      refine q_step (v := .int .i64 pp0) hE29 (y_load (fun _ => by kernel_rfl) rfl (St.cell (i := 0) hS21 rfl rfl)) rfl rfl rfl ?_; intro a30 hE31; clear hE29
      refine q_step (v := .bool (decide (x4 < pp0))) hE31 (y_lss rfl rfl) rfl rfl rfl ?_; intro a32 hE33; clear hE31
      refine c_nil ?_
      have hE34 := hE33.sub (L' := [(1, .pointer (some ⟨b2, 0, none⟩)), (3, .int .i64 out3), (4, .int .i64 x4), (8, .bool (decide (x4 < pp0)))]) ⟨rfl, rfl, rfl, rfl, trivial⟩; clear hE33
      refine p_tn ?_
      refine c_cond hE34 rfl (fun ht35 => ?_) (fun ht35 => ?_)
      ·
        have hp36 := of_decide_eq_true ht35
        have hE37 := hE34; rw [ht35] at hE37; clear hE34
        refine wp_skip ?_
        refine p_tn ?_
        refine c_cut (fun a' w' => E a' 24 [(1, .pointer (some ⟨b2, 0, none⟩)), (3, .int .i64 (bif (decide ((gI pp1 x4) = (powI x4))) then orI out3 (powI x4) else out3)), (4, .int .i64 x4)] ∧ St w w' [.rd 1 pp1A pp1.length pp1C pp1, .blk b2 #[.int .i64 pp0, .slice pp1A pp1.length pp1C] 27]) ?_ ?_
        ·
          refine wp_block ?_
          refine c_seq ?_
          refine d_start (fun w w' => (fun w' => w'.cell? ⟨b2, 1, none⟩ = some (.slice pp1A pp1.length pp1C) ∧ w'.cell? (adr pp1A (Int.toNat x4)) = some (.int .i64 (gI pp1 x4)) ∧ True) w → (fun w' => w'.cell? ⟨b2, 1, none⟩ = some (.slice pp1A pp1.length pp1C) ∧ w'.cell? (adr pp1A (Int.toNat x4)) = some (.int .i64 (gI pp1 x4)) ∧ True) w') [1, 4] 8 (by kernel_rfl) rfl ?_
          intro w38 he39; have hS40 := St.go hS21 he39; clear hS21
          refine d_pure (fun _ h => h) (v := .pointer (some ⟨b2, 1, none⟩)) 0 rfl hE37 (y_field rfl (fun _ => by kernel_rfl)) rfl (by kernel_rfl) (by kernel_rfl) (by kernel_rfl) rfl rfl (fun _ _ _ h => h) ?_; intro a41 hE42; clear hE37
          refine d_take (fun _ h => h) (fun _ _ h k => h k) (v := .slice pp1A pp1.length pp1C) 1 rfl hE42 (S := fun w' => w'.cell? ⟨b2, 1, none⟩ = some (.slice pp1A pp1.length pp1C) ∧ w'.cell? (adr pp1A (Int.toNat x4)) = some (.int .i64 (gI pp1 x4)) ∧ True) ⟨(St.cell (i := 0) hS40 rfl rfl _ (Ext.refl _)), (RdS.elt (St.rdR (i := 1) hS40 rfl) (by omega) (by omega) _ (Ext.refl _)), trivial⟩ (y_load (fun _ => by kernel_rfl) rfl (fun _ h => h.1)) rfl rfl (by kernel_rfl) (by kernel_rfl) (by kernel_rfl) (by kernel_rfl) rfl rfl (fun _ _ _ h => h) ?_; intro a43 hE44; clear hE42
          refine d_pure (fun _ h => h) (v := .int .i64 x4) 2 rfl hE44 (y_move rfl) rfl (by kernel_rfl) (by kernel_rfl) (by kernel_rfl) rfl rfl (fun _ _ _ h => h) ?_; intro a45 hE46; clear hE44
          refine d_pure (fun _ h => h) (v := .pointer (some (adr pp1A (Int.toNat x4)))) 3 rfl hE46 (y_idx (by kernel_rfl) (fun _ => by kernel_rfl) rfl rfl (RdS.isS (m := x4) (St.rdR (i := 1) hS40 rfl) (by omega) (by omega)) (by omega) (by omega) (Nat.mul_one _).symm) rfl (by kernel_rfl) (by kernel_rfl) (by kernel_rfl) rfl rfl (fun _ _ _ h => h) ?_; intro a47 hE48; clear hE46
          refine d_take (fun _ h => h) (fun _ _ h k => h k) (v := .int .i64 (gI pp1 x4)) 4 rfl hE48 (S := fun w' => w'.cell? ⟨b2, 1, none⟩ = some (.slice pp1A pp1.length pp1C) ∧ w'.cell? (adr pp1A (Int.toNat x4)) = some (.int .i64 (gI pp1 x4)) ∧ True) ⟨(St.cell (i := 0) hS40 rfl rfl _ (Ext.refl _)), (RdS.elt (St.rdR (i := 1) hS40 rfl) (by omega) (by omega) _ (Ext.refl _)), trivial⟩ (y_load (fun _ => by kernel_rfl) rfl (fun _ h => h.2.1)) rfl rfl (by kernel_rfl) (by kernel_rfl) (by kernel_rfl) (by kernel_rfl) rfl rfl (fun _ _ _ h => h) ?_; intro a49 hE50; clear hE48
          refine d_pure (fun _ h => h) (v := .int .i64 x4) 5 rfl hE50 (y_move rfl) rfl (by kernel_rfl) (by kernel_rfl) (by kernel_rfl) rfl rfl (fun _ _ _ h => h) ?_; intro a51 hE52; clear hE50
          refine d_only 6 (by kernel_rfl) rfl hE52 rfl (l_call (f := 88) (argv := [.int .i64 x4]) hE52 (fun _ => cf_l01One _ _) rfl rfl (d_l01One x4 w38 (by omega) (by omega)) ?_)
          rintro _ _ ⟨rfl, rfl⟩ a55 hE56; clear hE52
          refine ⟨fun _ _ => ⟨(St.cell (i := 0) hS40 rfl rfl _ (Ext.refl _)), (RdS.elt (St.rdR (i := 1) hS40 rfl) (by omega) (by omega) _ (Ext.refl _)), trivial⟩, ?_⟩
          refine d_pure (fun _ h => h) (v := .bool (decide ((gI pp1 x4) = (powI x4)))) 7 rfl hE56 (y_eql rfl rfl) rfl (by kernel_rfl) (by kernel_rfl) (by kernel_rfl) rfl rfl (fun _ _ _ h => h) ?_; intro a59 hE60; clear hE56
          refine d_done (by kernel_rfl) ?_
          have hE61 := hE60.sub (L' := [(1, .pointer (some ⟨b2, 0, none⟩)), (3, .int .i64 out3), (4, .int .i64 x4), (18, .bool (decide ((gI pp1 x4) = (powI x4))))]) ⟨rfl, rfl, rfl, rfl, trivial⟩; clear hE60
          refine p_tn ?_
          refine c_cond hE61 rfl (fun ht62 => ?_) (fun ht62 => ?_)
          ·
            have hp63 := of_decide_eq_true ht62
            have hE64 := hE61; rw [ht62] at hE64; clear hE61
            refine c_reg ?_
            refine q_step (v := .int .i64 out3) hE64 (y_move rfl) rfl rfl rfl ?_; intro a65 hE66; clear hE64
            refine q_step (v := .int .i64 x4) hE66 (y_move rfl) rfl rfl rfl ?_; intro a67 hE68; clear hE66
            refine l_step hE68 rfl (l_call (f := 88) (argv := [.int .i64 x4]) hE68 (fun _ => cf_l01One _ _) rfl rfl (d_l01One x4 w38 (by omega) (by omega)) ?_)
            rintro _ _ ⟨rfl, rfl⟩ a71 hE72; clear hE68
            refine q_step (v := .int .i64 (orI out3 (powI x4))) hE72 (y_or rfl rfl) rfl rfl rfl ?_; intro a75 hE76; clear hE72
            refine q_step (v := .int .i64 (orI out3 (powI x4))) hE76 (y_assign rfl) rfl rfl rfl ?_; intro a77 hE78; clear hE76
            refine c_nil ?_
            have hE79 := hE78.sub (L' := [(1, .pointer (some ⟨b2, 0, none⟩)), (3, .int .i64 (orI out3 (powI x4))), (4, .int .i64 x4)]) ⟨rfl, rfl, rfl, trivial⟩; clear hE78
            refine p_bn ?_
            refine p_tn ?_
            have hE80 := hE79.sub (L' := [(1, .pointer (some ⟨b2, 0, none⟩)), (3, .int .i64 (orI out3 (powI x4))), (4, .int .i64 x4)]) ⟨rfl, rfl, rfl, trivial⟩
            have hS81 := (St.pick (Γ' := [.rd 1 pp1A pp1.length pp1C pp1, .blk b2 #[.int .i64 pp0, .slice pp1A pp1.length pp1C] 27]) hS40 [1, 0] (by decide) rfl)
            exact ⟨(by rw [ht62]; exact hE80), hS81⟩
          ·
            have hp82 := of_decide_eq_false ht62
            have hE83 := hE61; rw [ht62] at hE83; clear hE61
            refine wp_skip ?_
            refine p_bn ?_
            refine p_tn ?_
            have hE84 := hE83.sub (L' := [(1, .pointer (some ⟨b2, 0, none⟩)), (3, .int .i64 out3), (4, .int .i64 x4)]) ⟨rfl, rfl, rfl, trivial⟩
            have hS85 := (St.pick (Γ' := [.rd 1 pp1A pp1.length pp1C pp1, .blk b2 #[.int .i64 pp0, .slice pp1A pp1.length pp1C] 27]) hS40 [1, 0] (by decide) rfl)
            exact ⟨(by rw [ht62]; exact hE84), hS85⟩
        ·
          rintro a86 w87 ⟨hE88, hS89⟩; clear hE37 hS21
          refine c_reg ?_
          refine q_step (v := .int .i64 x4) hE88 (y_move rfl) rfl rfl rfl ?_; intro a91 hE92; clear hE88
          refine q_step (v := .int .i64 (x4 + 1)) hE92 (y_add rfl rfl ⟨(by omega), (by omega)⟩) rfl rfl rfl ?_; intro a93 hE94; clear hE92
          refine q_step (v := .int .i64 (x4 + 1)) hE94 (y_assign rfl) rfl rfl rfl ?_; intro a95 hE96; clear hE94
          refine c_nil ?_
          have hE97 := hE96.sub (L' := [(1, .pointer (some ⟨b2, 0, none⟩)), (3, .int .i64 (bif (decide ((gI pp1 x4) = (powI x4))) then orI out3 (powI x4) else out3)), (4, .int .i64 (x4 + 1))]) ⟨rfl, rfl, rfl, trivial⟩; clear hE96
          refine p_tn ⟨r25, Nat.lt_succ_self _, bif (decide ((gI pp1 x4) = (powI x4))) then orI out3 (powI x4) else out3, x4 + 1, (hT22.symm.trans (show F_l16Maximal_L1b pp0 pp1 (F_l16Maximal_L1 pp0 pp1 r25) out3 x4 = F_l16Maximal_L1 pp0 pp1 r25 (bif (decide ((gI pp1 x4) = (powI x4))) then orI out3 (powI x4) else out3) (x4 + 1) by unfold F_l16Maximal_L1b; rw [ht35]; first | done | rfl)).symm, (by omega), (by first | omega | (simp only [List.length_replicate, sI_len]; omega) | (simp only [List.length_append, List.length_cons, List.length_nil, sI_len, cond_true, cond_false]; omega) | (simp only [List.length_append, List.length_cons, List.length_nil, sI_len, cond_eq_ite, apply_ite List.length]; split <;> simp only [List.length_append, List.length_cons, List.length_nil, sI_len] <;> omega) | grind), (hE97.sub (L' := [(1, .pointer (some ⟨b2, 0, none⟩)), (3, .int .i64 (bif (decide ((gI pp1 x4) = (powI x4))) then orI out3 (powI x4) else out3)), (4, .int .i64 (x4 + 1))]) ⟨rfl, rfl, rfl, trivial⟩), (St.pick (Γ' := [.blk b2 #[.int .i64 pp0, .slice pp1A pp1.length pp1C] 27, .rd 1 pp1A pp1.length pp1C pp1]) hS89 [1, 0] (by decide) rfl)⟩
      ·
        have hp98 := of_decide_eq_false ht35
        have hE99 := hE34; rw [ht35] at hE99; clear hE34
        refine wp_exit ?_
        refine p_te ?_
        have hX100 : F_l16Maximal_L1 pp0 pp1 (Int.toNat (pp0 - 0) + 1) 0 0 = (out3, x4) := hT22.symm.trans (show F_l16Maximal_L1b pp0 pp1 (F_l16Maximal_L1 pp0 pp1 r25) out3 x4 = (out3, x4) by unfold F_l16Maximal_L1b; rw [ht35]; first | done | rfl)
        refine p_te (p_be (p_tn ?_))
        exact ⟨(by rw [hX100]; exact (show 0 ≤ x4 from (by first | omega | (simp only [List.length_replicate, sI_len]; omega) | (simp only [List.length_append, List.length_cons, List.length_nil, sI_len, cond_true, cond_false]; omega) | (simp only [List.length_append, List.length_cons, List.length_nil, sI_len, cond_eq_ite, apply_ite List.length]; split <;> simp only [List.length_append, List.length_cons, List.length_nil, sI_len] <;> omega) | grind))), (by rw [hX100]; exact (hE99.sub (L' := [(1, .pointer (some ⟨b2, 0, none⟩)), (3, .int .i64 out3), (4, .int .i64 x4)]) ⟨rfl, rfl, rfl, trivial⟩)), (St.pick (Γ' := [.blk b2 #[.int .i64 pp0, .slice pp1A pp1.length pp1C] 27, .rd 1 pp1A pp1.length pp1C pp1]) hS21 [0, 1] (by decide) rfl)⟩
  ·
    rintro a101 w102 ⟨hi106, hE103, hS104⟩; clear hE16 hS6
    refine p_tn ?_
    refine c_seq ?_
    refine c_reg ?_
    refine q_step (v := .int .i64 ((F_l16Maximal_L1 pp0 pp1 (Int.toNat (pp0 - 0) + 1) 0 0).1)) hE103 (y_move rfl) rfl rfl rfl ?_; intro a107 hE108; clear hE103
    refine q_step (v := .int .i64 ((F_l16Maximal_L1 pp0 pp1 (Int.toNat (pp0 - 0) + 1) 0 0).1)) hE108 (y_assign rfl) rfl rfl rfl ?_; intro a109 hE110; clear hE108
    refine c_nil ?_
    have hE111 := hE110.sub (L' := [(2, .int .i64 ((F_l16Maximal_L1 pp0 pp1 (Int.toNat (pp0 - 0) + 1) 0 0).1))]) ⟨rfl, trivial⟩; clear hE110
    refine p_tn ?_
    refine wp_ret ?_
    have hF : F_l16Maximal pp0 pp1 = (F_l16Maximal_L1 pp0 pp1 (Int.toNat (pp0 - 0) + 1) 0 0).1 := by unfold F_l16Maximal; rfl
    refine c_ret1 hE111 rfl rfl ?_
    exact ⟨(by rw [hF]; first | done | rfl), hS104.ext⟩

def F_s_MaximalOf (pp0 : Int) (pp1 : List Int) : (Int) × (Int) :=
  bif (!(F_l16Is pp0 pp1)) then (0, 1) else (F_l16Maximal pp0 pp1, 0)
theorem cf_s_MaximalOf (args : Array Value) (w : World) : (callFunc 19 args).run Try.prog w = .ok (.enter 19 args) w := by kernel_rfl
set_option maxRecDepth 100000 in
theorem c_s_MaximalOf (pp0 : Int) (pp1A : Option Addr) (pp1N pp1C : Nat) (pp1 : List Int) (w : World) (pp1R : RdS w 1 pp1A pp1N pp1C pp1) :
    Calls Try.prog 19 #[.agg #[.int .i64 pp0, .slice pp1A pp1N pp1C]] w (Ret fun v w' => v = .tuple #[.int .i64 ((F_s_MaximalOf pp0 pp1).1), .int .i64 ((F_s_MaximalOf pp0 pp1).2)] ∧ Ext w w') := by
  obtain rfl : pp1N = pp1.length := pp1R.len1.symm
  have pp1Le := pp1R.le
  have hS := St.nil w
  have hS1 := St.rd0 hS rfl pp1R; clear hS
  refine enter (args := [.agg #[.int .i64 pp0, .slice pp1A pp1.length pp1C]]) Try.func19 rfl rfl ?_
  rw [Try.ntmps19]; intro a hE
  have hE := hE.sub (L' := [(0, .agg #[.int .i64 pp0, .slice pp1A pp1.length pp1C])]) ⟨rfl, trivial⟩
  refine c_seq ?_
  refine c_reg ?_
  refine l_step hE rfl (l_box (v := .agg #[.int .i64 pp0, .slice pp1A pp1.length pp1C]) (cs := #[.int .i64 pp0, .slice pp1A pp1.length pp1C]) hS1 hE rfl rfl rfl ?_)
  intro b2 w3 hS6 he7 a4 hE5; clear hS1 hE
  refine q_step (v := .int .i64 0) hE5 (y_assign rfl) rfl rfl rfl ?_; intro a8 hE9; clear hE5
  refine q_step (v := .int .i64 0) hE9 (y_assign rfl) rfl rfl rfl ?_; intro a10 hE11; clear hE9
  refine c_nil ?_
  have hE12 := hE11.sub (L' := [(1, .pointer (some ⟨b2, 0, none⟩))]) ⟨rfl, trivial⟩; clear hE11
  refine p_tn ?_
  refine c_seq ?_
  refine c_seq ?_
  refine c_reg ?_
  refine q_step (v := .agg #[.int .i64 pp0, .slice pp1A pp1.length pp1C]) hE12 (y_loadS Try.underlying27 rfl (by kernel_rfl) rfl (St.row (i := 0) hS6 rfl)) rfl rfl rfl ?_; intro a13 hE14; clear hE12
  refine l_step hE14 rfl (l_call (f := 50) (argv := [.agg #[.int .i64 pp0, .slice pp1A pp1.length pp1C]]) hE14 (fun _ => cf_l16Is _ _) rfl rfl (c_l16Is pp0 pp1A pp1.length pp1C pp1 w3 (St.rdR (i := 1) hS6 rfl)) ?_)
  rintro _ w16 ⟨rfl, he20⟩ a17 hE18; clear hE14
  have hS19 := St.go hS6 he20; clear hS6
  refine q_step (v := .bool (!(F_l16Is pp0 pp1))) hE18 (y_not rfl) rfl rfl rfl ?_; intro a21 hE22; clear hE18
  refine c_nil ?_
  have hE23 := hE22.sub (L' := [(1, .pointer (some ⟨b2, 0, none⟩)), (6, .bool (!(F_l16Is pp0 pp1)))]) ⟨rfl, rfl, trivial⟩; clear hE22
  refine p_tn ?_
  refine c_cond hE23 rfl (fun ht24 => ?_) (fun ht24 => ?_)
  ·
    have ht25 := bn_t ht24
    have hE26 := hE23; rw [ht24] at hE26; clear hE23
    refine c_seq ?_
    refine c_reg ?_
    refine q_step (v := .int .i64 0) hE26 (y_assign rfl) rfl rfl rfl ?_; intro a27 hE28; clear hE26
    refine q_step (v := .int .i64 1) hE28 (y_assign rfl) rfl rfl rfl ?_; intro a29 hE30; clear hE28
    refine c_nil ?_
    have hE31 := hE30.sub (L' := [(2, .int .i64 0), (3, .int .i64 1)]) ⟨rfl, rfl, trivial⟩; clear hE30
    refine p_tn ?_
    refine wp_ret ?_
    refine p_tr ?_
    have hF : F_s_MaximalOf pp0 pp1 = (0, 1) := by unfold F_s_MaximalOf; rw [ht24]; first | done | rfl
    refine c_ret2 hE31 rfl rfl rfl ?_
    exact ⟨(by rw [hF]; first | done | rfl), hS19.ext⟩
  ·
    have ht32 := bn_f ht24
    have hp33 := l16Is_t ht32
    have hE34 := hE23; rw [ht24] at hE34; clear hE23
    refine wp_skip ?_
    refine p_tn ?_
    refine c_seq ?_
    refine c_reg ?_
    refine q_step (v := .agg #[.int .i64 pp0, .slice pp1A pp1.length pp1C]) hE34 (y_loadS Try.underlying27 rfl (by kernel_rfl) rfl (St.row (i := 0) hS19 rfl)) rfl rfl rfl ?_; intro a35 hE36; clear hE34
    refine l_step hE36 rfl (l_call (f := 52) (argv := [.agg #[.int .i64 pp0, .slice pp1A pp1.length pp1C]]) hE36 (fun _ => cf_l16Maximal _ _) rfl rfl (c_l16Maximal pp0 pp1A pp1.length pp1C pp1 w16 (St.rdR (i := 1) hS19 rfl) (by omega) (by omega) (l16Is_t (by assumption)).2.2) ?_)
    rintro _ w38 ⟨rfl, he42⟩ a39 hE40; clear hE36
    have hS41 := St.go hS19 he42; clear hS19
    refine q_step (v := .int .i64 (F_l16Maximal pp0 pp1)) hE40 (y_assign rfl) rfl rfl rfl ?_; intro a43 hE44; clear hE40
    refine q_step (v := .int .i64 0) hE44 (y_assign rfl) rfl rfl rfl ?_; intro a45 hE46; clear hE44
    refine c_nil ?_
    have hE47 := hE46.sub (L' := [(2, .int .i64 (F_l16Maximal pp0 pp1)), (3, .int .i64 0)]) ⟨rfl, rfl, trivial⟩; clear hE46
    refine p_tn ?_
    refine wp_ret ?_
    have hF : F_s_MaximalOf pp0 pp1 = (F_l16Maximal pp0 pp1, 0) := by unfold F_s_MaximalOf; rw [ht24]; first | done | rfl
    refine c_ret2 hE47 rfl rfl rfl ?_
    exact ⟨(by rw [hF]; first | done | rfl), hS41.ext⟩

def F_Poset_maximal_L1b (pp1 : List Int) (rec : Int → Int → Int × Int) (out3 : Int) (t9 : Int) : Int × Int :=
  bif (decide (t9 < (pp1.length : Int))) then (rec (bif (decide ((gI pp1 t9) = (shlI 1 t9))) then orI out3 (gI pp1 t9) else out3) (t9 + 1)) else (out3, t9)
def F_Poset_maximal_L1 (pp1 : List Int) : Nat → Int → Int → Int × Int
  | 0, out3, t9 => (out3, t9)
  | r + 1, out3, t9 => F_Poset_maximal_L1b pp1 (F_Poset_maximal_L1 pp1 r) out3 t9
def F_Poset_maximal (pp0 : Int) (pp1 : List Int) : Int :=
  (F_Poset_maximal_L1 pp1 (Int.toNat ((pp1.length : Int) - 0) + 1) 0 0).1
theorem cf_Poset_maximal (args : Array Value) (w : World) : (callFunc 53 args).run Try.prog w = .ok (.enter 53 args) w := by kernel_rfl
set_option maxRecDepth 100000 in
theorem c_Poset_maximal (pp0 : Int) (pp1A : Option Addr) (pp1N pp1C : Nat) (pp1 : List Int) (w : World) (pp1R : RdS w 1 pp1A pp1N pp1C pp1) (h8pp : 0 ≤ pp0 ∧ pp0 ≤ 8) (hlpp : (pp1.length : Int) = pp0) (hmpp : ∀ m : Int, 0 ≤ m → m < (pp1.length : Int) → 0 ≤ gI pp1 m ∧ gI pp1 m ≤ fullI pp0) :
    Calls Try.prog 53 #[.agg #[.int .i64 pp0, .slice pp1A pp1N pp1C]] w (Ret fun v w' => v = .int .i64 (F_Poset_maximal pp0 pp1) ∧ Ext w w') := by
  obtain rfl : pp1N = pp1.length := pp1R.len1.symm
  have pp1Le := pp1R.le
  have hS := St.nil w
  have hS1 := St.rd0 hS rfl pp1R; clear hS
  refine enter (args := [.agg #[.int .i64 pp0, .slice pp1A pp1.length pp1C]]) Try.func53 rfl rfl ?_
  rw [Try.ntmps53]; intro a hE
  have hE := hE.sub (L' := [(0, .agg #[.int .i64 pp0, .slice pp1A pp1.length pp1C])]) ⟨rfl, trivial⟩
  refine c_seq ?_
  refine c_reg ?_
  refine l_step hE rfl (l_box (v := .agg #[.int .i64 pp0, .slice pp1A pp1.length pp1C]) (cs := #[.int .i64 pp0, .slice pp1A pp1.length pp1C]) hS1 hE rfl rfl rfl ?_)
  intro b2 w3 hS6 he7 a4 hE5; clear hS1 hE
  refine q_step (v := .int .i64 0) hE5 (y_assign rfl) rfl rfl rfl ?_; intro a8 hE9; clear hE5
  refine c_nil ?_
  have hE10 := hE9.sub (L' := [(1, .pointer (some ⟨b2, 0, none⟩))]) ⟨rfl, trivial⟩; clear hE9
  refine p_tn ?_
  refine c_seq ?_
  refine c_reg ?_
  refine q_step (v := .int .i64 0) hE10 (y_assign rfl) rfl rfl rfl ?_; intro a11 hE12; clear hE10
  refine c_nil ?_
  have hE13 := hE12.sub (L' := [(1, .pointer (some ⟨b2, 0, none⟩)), (3, .int .i64 0)]) ⟨rfl, rfl, trivial⟩; clear hE12
  refine p_tn ?_
  refine c_seq ?_
  refine c_seq ?_
  refine c_reg ?_
  refine q_step (v := .pointer (some ⟨b2, 1, none⟩)) hE13 (y_field rfl (fun _ => by kernel_rfl)) rfl rfl rfl ?_; intro a14 hE15; clear hE13
  refine q_step (v := .slice pp1A pp1.length pp1C) hE15 (y_load (fun _ => by kernel_rfl) rfl (St.cell (i := 0) hS6 rfl rfl)) rfl rfl rfl ?_; intro a16 hE17; clear hE15
  refine q_step (v := .int .i64 (pp1.length : Int)) hE17 (y_len (e := 2) (by kernel_rfl) rfl) rfl rfl rfl ?_; intro a18 hE19; clear hE17
  refine q_step (v := .int .i64 0) hE19 (y_move rfl) rfl rfl rfl ?_; intro a20 hE21; clear hE19
  refine c_nil ?_
  have hE22 := hE21.sub (L' := [(3, .int .i64 0), (7, .slice pp1A pp1.length pp1C), (8, .int .i64 (pp1.length : Int)), (9, .int .i64 0)]) ⟨rfl, rfl, rfl, rfl, trivial⟩; clear hE21
  refine p_tn ?_
  refine c_cut1 (fun a' w' => (0 ≤ ((F_Poset_maximal_L1 pp1 (Int.toNat ((pp1.length : Int) - 0) + 1) 0 0).2)) ∧ (((F_Poset_maximal_L1 pp1 (Int.toNat ((pp1.length : Int) - 0) + 1) 0 0).2) ≤ (pp1.length : Int)) ∧ E a' 23 [(3, .int .i64 ((F_Poset_maximal_L1 pp1 (Int.toNat ((pp1.length : Int) - 0) + 1) 0 0).1)), (7, .slice pp1A pp1.length pp1C), (8, .int .i64 (pp1.length : Int)), (9, .int .i64 ((F_Poset_maximal_L1 pp1 (Int.toNat ((pp1.length : Int) - 0) + 1) 0 0).2))] ∧ St w w' [.blk b2 #[.int .i64 pp0, .slice pp1A pp1.length pp1C] 27, .rd 1 pp1A pp1.length pp1C pp1]) ?_ ?_
  ·
    refine wp_block ?_
    refine c_loop (fun r a' w' => ∃ out3 : Int, ∃ t9 : Int, F_Poset_maximal_L1 pp1 r out3 t9 = F_Poset_maximal_L1 pp1 (Int.toNat ((pp1.length : Int) - 0) + 1) 0 0 ∧ Int.toNat ((pp1.length : Int) - t9) < r ∧ (0 ≤ t9) ∧ (t9 ≤ (pp1.length : Int)) ∧ E a' 23 [(3, .int .i64 out3), (7, .slice pp1A pp1.length pp1C), (8, .int .i64 (pp1.length : Int)), (9, .int .i64 t9)] ∧ St w w' [.blk b2 #[.int .i64 pp0, .slice pp1A pp1.length pp1C] 27, .rd 1 pp1A pp1.length pp1C pp1]) (r := (Int.toNat ((pp1.length : Int) - 0) + 1)) ?_ ?_
    · exact ⟨0, 0, rfl, Nat.lt_succ_self _, (by first | omega | (simp only [List.length_replicate, sI_len]; omega) | (simp only [List.length_append, List.length_cons, List.length_nil, sI_len, cond_true, cond_false]; omega) | (simp only [List.length_append, List.length_cons, List.length_nil, sI_len, cond_eq_ite, apply_ite List.length]; split <;> simp only [List.length_append, List.length_cons, List.length_nil, sI_len] <;> omega) | grind), (by first | omega | (simp only [List.length_replicate, sI_len]; omega) | (simp only [List.length_append, List.length_cons, List.length_nil, sI_len, cond_true, cond_false]; omega) | (simp only [List.length_append, List.length_cons, List.length_nil, sI_len, cond_eq_ite, apply_ite List.length]; split <;> simp only [List.length_append, List.length_cons, List.length_nil, sI_len] <;> omega) | grind), (hE22.sub (L' := [(3, .int .i64 0), (7, .slice pp1A pp1.length pp1C), (8, .int .i64 (pp1.length : Int)), (9, .int .i64 0)]) ⟨rfl, rfl, rfl, rfl, trivial⟩), (St.pick (Γ' := [.blk b2 #[.int .i64 pp0, .slice pp1A pp1.length pp1C] 27, .rd 1 pp1A pp1.length pp1C pp1]) hS6 [0, 1] (by decide) rfl)⟩
    ·
      clear hE22 hS6
      rintro r32 a24 w25 ⟨out3, t9, hT28, hr29, hi30, hi31, hE26, hS27⟩
      obtain ⟨r32, rfl⟩ : ∃ r', r32 = r' + 1 := ⟨r32 - 1, by omega⟩
      refine c_seq ?_
      refine c_reg ?_
      refine q_step (v := .bool (decide (t9 < (pp1.length : Int)))) hE26 (y_lss rfl rfl) rfl rfl rfl ?_; intro a33 hE34; clear hE26
      refine c_nil ?_
      have hE35 := hE34.sub (L' := [(3, .int .i64 out3), (7, .slice pp1A pp1.length pp1C), (8, .int .i64 (pp1.length : Int)), (9, .int .i64 t9), (10, .bool (decide (t9 < (pp1.length : Int))))]) ⟨rfl, rfl, rfl, rfl, rfl, trivial⟩; clear hE34
      refine p_tn ?_
      refine c_seq ?_
      refine c_cond hE35 rfl (fun ht36 => ?_) (fun ht36 => ?_)
      ·
        have hp37 := of_decide_eq_true ht36
        have hE38 := hE35; rw [ht36] at hE38; clear hE35
        refine wp_skip ?_
        refine p_tn ?_
        refine c_cut (fun a' w' => E a' 23 [(3, .int .i64 (bif (decide ((gI pp1 t9) = (shlI 1 t9))) then orI out3 (gI pp1 t9) else out3)), (7, .slice pp1A pp1.length pp1C), (8, .int .i64 (pp1.length : Int)), (9, .int .i64 t9)] ∧ St w w' [.rd 1 pp1A pp1.length pp1C pp1, .blk b2 #[.int .i64 pp0, .slice pp1A pp1.length pp1C] 27]) ?_ ?_
        ·
          refine wp_block ?_
          refine c_seq ?_
          refine c_reg ?_
          refine q_step (v := .int .i64 t9) hE38 (y_move rfl) rfl rfl rfl ?_; intro a39 hE40; clear hE38
          refine q_step (v := .pointer (some (adr pp1A (Int.toNat t9)))) hE40 (y_idx (by kernel_rfl) (fun _ => by kernel_rfl) rfl rfl (RdS.isS (m := t9) (St.rdR (i := 1) hS27 rfl) (by omega) (by omega)) (by omega) (by omega) (Nat.mul_one _).symm) rfl rfl rfl ?_; intro a41 hE42; clear hE40
          refine q_step (v := .int .i64 (gI pp1 t9)) hE42 (y_load (fun _ => by kernel_rfl) rfl (RdS.elt (St.rdR (i := 1) hS27 rfl) (by omega) (by omega))) rfl rfl rfl ?_; intro a43 hE44; clear hE42
          refine q_step (v := .int .i64 t9) hE44 (y_assign rfl) rfl rfl rfl ?_; intro a45 hE46; clear hE44
          refine q_step (v := .int .i64 (gI pp1 t9)) hE46 (y_assign rfl) rfl rfl rfl ?_; intro a47 hE48; clear hE46
          refine c_nil ?_
          have hE49 := hE48.sub (L' := [(3, .int .i64 out3), (4, .int .i64 t9), (5, .int .i64 (gI pp1 t9)), (7, .slice pp1A pp1.length pp1C), (8, .int .i64 (pp1.length : Int)), (9, .int .i64 t9)]) ⟨rfl, rfl, rfl, rfl, rfl, rfl, trivial⟩; clear hE48
          refine p_tn ?_
          refine c_seq ?_
          refine c_reg ?_
          refine q_step (v := .int .i64 (gI pp1 t9)) hE49 (y_move rfl) rfl rfl rfl ?_; intro a50 hE51; clear hE49
          refine q_step (v := .int .i64 t9) hE51 (y_move rfl) rfl rfl rfl ?_; intro a52 hE53; clear hE51
          refine q_step (v := .int .i64 (shlI 1 t9)) hE53 (y_shl rfl rfl (by omega)) rfl rfl rfl ?_; intro a54 hE55; clear hE53
          refine q_step (v := .bool (decide ((gI pp1 t9) = (shlI 1 t9)))) hE55 (y_eql rfl rfl) rfl rfl rfl ?_; intro a56 hE57; clear hE55
          refine c_nil ?_
          have hE58 := hE57.sub (L' := [(3, .int .i64 out3), (5, .int .i64 (gI pp1 t9)), (7, .slice pp1A pp1.length pp1C), (8, .int .i64 (pp1.length : Int)), (9, .int .i64 t9), (17, .bool (decide ((gI pp1 t9) = (shlI 1 t9))))]) ⟨rfl, rfl, rfl, rfl, rfl, rfl, trivial⟩; clear hE57
          refine p_tn ?_
          refine c_cond hE58 rfl (fun ht59 => ?_) (fun ht59 => ?_)
          ·
            have hp60 := of_decide_eq_true ht59
            have hE61 := hE58; rw [ht59] at hE61; clear hE58
            refine c_reg ?_
            refine q_step (v := .int .i64 out3) hE61 (y_move rfl) rfl rfl rfl ?_; intro a62 hE63; clear hE61
            refine q_step (v := .int .i64 (gI pp1 t9)) hE63 (y_move rfl) rfl rfl rfl ?_; intro a64 hE65; clear hE63
            refine q_step (v := .int .i64 (orI out3 (gI pp1 t9))) hE65 (y_or rfl rfl) rfl rfl rfl ?_; intro a66 hE67; clear hE65
            refine q_step (v := .int .i64 (orI out3 (gI pp1 t9))) hE67 (y_assign rfl) rfl rfl rfl ?_; intro a68 hE69; clear hE67
            refine c_nil ?_
            have hE70 := hE69.sub (L' := [(3, .int .i64 (orI out3 (gI pp1 t9))), (7, .slice pp1A pp1.length pp1C), (8, .int .i64 (pp1.length : Int)), (9, .int .i64 t9)]) ⟨rfl, rfl, rfl, rfl, trivial⟩; clear hE69
            refine p_bn ?_
            refine p_tn ?_
            have hE71 := hE70.sub (L' := [(3, .int .i64 (orI out3 (gI pp1 t9))), (7, .slice pp1A pp1.length pp1C), (8, .int .i64 (pp1.length : Int)), (9, .int .i64 t9)]) ⟨rfl, rfl, rfl, rfl, trivial⟩
            have hS72 := (St.pick (Γ' := [.rd 1 pp1A pp1.length pp1C pp1, .blk b2 #[.int .i64 pp0, .slice pp1A pp1.length pp1C] 27]) hS27 [1, 0] (by decide) rfl)
            exact ⟨(by rw [ht59]; exact hE71), hS72⟩
          ·
            have hp73 := of_decide_eq_false ht59
            have hE74 := hE58; rw [ht59] at hE74; clear hE58
            refine wp_skip ?_
            refine p_bn ?_
            refine p_tn ?_
            have hE75 := hE74.sub (L' := [(3, .int .i64 out3), (7, .slice pp1A pp1.length pp1C), (8, .int .i64 (pp1.length : Int)), (9, .int .i64 t9)]) ⟨rfl, rfl, rfl, rfl, trivial⟩
            have hS76 := (St.pick (Γ' := [.rd 1 pp1A pp1.length pp1C pp1, .blk b2 #[.int .i64 pp0, .slice pp1A pp1.length pp1C] 27]) hS27 [1, 0] (by decide) rfl)
            exact ⟨(by rw [ht59]; exact hE75), hS76⟩
        ·
          rintro a77 w78 ⟨hE79, hS80⟩; clear hE38 hS27
          refine c_reg ?_
          refine q_step (v := .int .i64 (t9 + 1)) hE79 (y_add rfl rfl ⟨(by omega), (by omega)⟩) rfl rfl rfl ?_; intro a82 hE83; clear hE79
          refine q_step (v := .int .i64 (t9 + 1)) hE83 (y_move rfl) rfl rfl rfl ?_; intro a84 hE85; clear hE83
          refine c_nil ?_
          have hE86 := hE85.sub (L' := [(3, .int .i64 (bif (decide ((gI pp1 t9) = (shlI 1 t9))) then orI out3 (gI pp1 t9) else out3)), (7, .slice pp1A pp1.length pp1C), (8, .int .i64 (pp1.length : Int)), (9, .int .i64 (t9 + 1))]) ⟨rfl, rfl, rfl, rfl, trivial⟩; clear hE85
          refine p_tn ⟨r32, Nat.lt_succ_self _, bif (decide ((gI pp1 t9) = (shlI 1 t9))) then orI out3 (gI pp1 t9) else out3, t9 + 1, (hT28.symm.trans (show F_Poset_maximal_L1b pp1 (F_Poset_maximal_L1 pp1 r32) out3 t9 = F_Poset_maximal_L1 pp1 r32 (bif (decide ((gI pp1 t9) = (shlI 1 t9))) then orI out3 (gI pp1 t9) else out3) (t9 + 1) by unfold F_Poset_maximal_L1b; rw [ht36]; first | done | rfl)).symm, (by omega), (by first | omega | (simp only [List.length_replicate, sI_len]; omega) | (simp only [List.length_append, List.length_cons, List.length_nil, sI_len, cond_true, cond_false]; omega) | (simp only [List.length_append, List.length_cons, List.length_nil, sI_len, cond_eq_ite, apply_ite List.length]; split <;> simp only [List.length_append, List.length_cons, List.length_nil, sI_len] <;> omega) | grind), (by first | omega | (simp only [List.length_replicate, sI_len]; omega) | (simp only [List.length_append, List.length_cons, List.length_nil, sI_len, cond_true, cond_false]; omega) | (simp only [List.length_append, List.length_cons, List.length_nil, sI_len, cond_eq_ite, apply_ite List.length]; split <;> simp only [List.length_append, List.length_cons, List.length_nil, sI_len] <;> omega) | grind), (hE86.sub (L' := [(3, .int .i64 (bif (decide ((gI pp1 t9) = (shlI 1 t9))) then orI out3 (gI pp1 t9) else out3)), (7, .slice pp1A pp1.length pp1C), (8, .int .i64 (pp1.length : Int)), (9, .int .i64 (t9 + 1))]) ⟨rfl, rfl, rfl, rfl, trivial⟩), (St.pick (Γ' := [.blk b2 #[.int .i64 pp0, .slice pp1A pp1.length pp1C] 27, .rd 1 pp1A pp1.length pp1C pp1]) hS80 [1, 0] (by decide) rfl)⟩
      ·
        have hp87 := of_decide_eq_false ht36
        have hE88 := hE35; rw [ht36] at hE88; clear hE35
        refine wp_exit ?_
        refine p_te ?_
        have hX89 : F_Poset_maximal_L1 pp1 (Int.toNat ((pp1.length : Int) - 0) + 1) 0 0 = (out3, t9) := hT28.symm.trans (show F_Poset_maximal_L1b pp1 (F_Poset_maximal_L1 pp1 r32) out3 t9 = (out3, t9) by unfold F_Poset_maximal_L1b; rw [ht36]; first | done | rfl)
        refine p_te (p_be (p_tn ?_))
        exact ⟨(by rw [hX89]; exact (show 0 ≤ t9 from (by first | omega | (simp only [List.length_replicate, sI_len]; omega) | (simp only [List.length_append, List.length_cons, List.length_nil, sI_len, cond_true, cond_false]; omega) | (simp only [List.length_append, List.length_cons, List.length_nil, sI_len, cond_eq_ite, apply_ite List.length]; split <;> simp only [List.length_append, List.length_cons, List.length_nil, sI_len] <;> omega) | grind))), (by rw [hX89]; exact (show t9 ≤ (pp1.length : Int) from (by first | omega | (simp only [List.length_replicate, sI_len]; omega) | (simp only [List.length_append, List.length_cons, List.length_nil, sI_len, cond_true, cond_false]; omega) | (simp only [List.length_append, List.length_cons, List.length_nil, sI_len, cond_eq_ite, apply_ite List.length]; split <;> simp only [List.length_append, List.length_cons, List.length_nil, sI_len] <;> omega) | grind))), (by rw [hX89]; exact (hE88.sub (L' := [(3, .int .i64 out3), (7, .slice pp1A pp1.length pp1C), (8, .int .i64 (pp1.length : Int)), (9, .int .i64 t9)]) ⟨rfl, rfl, rfl, rfl, trivial⟩)), (St.pick (Γ' := [.blk b2 #[.int .i64 pp0, .slice pp1A pp1.length pp1C] 27, .rd 1 pp1A pp1.length pp1C pp1]) hS27 [0, 1] (by decide) rfl)⟩
  ·
    rintro a90 w91 ⟨hi95, hi96, hE92, hS93⟩; clear hE22 hS6
    refine p_tn ?_
    refine c_seq ?_
    refine c_reg ?_
    refine q_step (v := .int .i64 ((F_Poset_maximal_L1 pp1 (Int.toNat ((pp1.length : Int) - 0) + 1) 0 0).1)) hE92 (y_move rfl) rfl rfl rfl ?_; intro a97 hE98; clear hE92
    refine q_step (v := .int .i64 ((F_Poset_maximal_L1 pp1 (Int.toNat ((pp1.length : Int) - 0) + 1) 0 0).1)) hE98 (y_assign rfl) rfl rfl rfl ?_; intro a99 hE100; clear hE98
    refine c_nil ?_
    have hE101 := hE100.sub (L' := [(2, .int .i64 ((F_Poset_maximal_L1 pp1 (Int.toNat ((pp1.length : Int) - 0) + 1) 0 0).1))]) ⟨rfl, trivial⟩; clear hE100
    refine p_tn ?_
    refine wp_ret ?_
    have hF : F_Poset_maximal pp0 pp1 = (F_Poset_maximal_L1 pp1 (Int.toNat ((pp1.length : Int) - 0) + 1) 0 0).1 := by unfold F_Poset_maximal; rfl
    refine c_ret1 hE101 rfl rfl ?_
    exact ⟨(by rw [hF]; first | done | rfl), hS93.ext⟩

def F_MaximalOf (pp0 : Int) (pp1 : List Int) : (Int) × (Int) :=
  bif (!(F_isPoset pp0 pp1)) then (0, 1) else (F_Poset_maximal pp0 pp1, 0)
theorem cf_MaximalOf (args : Array Value) (w : World) : (callFunc 20 args).run Try.prog w = .ok (.enter 20 args) w := by kernel_rfl
set_option maxRecDepth 100000 in
theorem c_MaximalOf (pp0 : Int) (pp1A : Option Addr) (pp1N pp1C : Nat) (pp1 : List Int) (w : World) (pp1R : RdS w 1 pp1A pp1N pp1C pp1) :
    Calls Try.prog 20 #[.agg #[.int .i64 pp0, .slice pp1A pp1N pp1C]] w (Ret fun v w' => v = .tuple #[.int .i64 ((F_MaximalOf pp0 pp1).1), .int .i64 ((F_MaximalOf pp0 pp1).2)] ∧ Ext w w') := by
  obtain rfl : pp1N = pp1.length := pp1R.len1.symm
  have pp1Le := pp1R.le
  have hS := St.nil w
  have hS1 := St.rd0 hS rfl pp1R; clear hS
  refine enter (args := [.agg #[.int .i64 pp0, .slice pp1A pp1.length pp1C]]) Try.func20 rfl rfl ?_
  rw [Try.ntmps20]; intro a hE
  have hE := hE.sub (L' := [(0, .agg #[.int .i64 pp0, .slice pp1A pp1.length pp1C])]) ⟨rfl, trivial⟩
  refine c_seq ?_
  refine c_reg ?_
  refine l_step hE rfl (l_box (v := .agg #[.int .i64 pp0, .slice pp1A pp1.length pp1C]) (cs := #[.int .i64 pp0, .slice pp1A pp1.length pp1C]) hS1 hE rfl rfl rfl ?_)
  intro b2 w3 hS6 he7 a4 hE5; clear hS1 hE
  refine q_step (v := .int .i64 0) hE5 (y_assign rfl) rfl rfl rfl ?_; intro a8 hE9; clear hE5
  refine q_step (v := .int .i64 0) hE9 (y_assign rfl) rfl rfl rfl ?_; intro a10 hE11; clear hE9
  refine c_nil ?_
  have hE12 := hE11.sub (L' := [(1, .pointer (some ⟨b2, 0, none⟩))]) ⟨rfl, trivial⟩; clear hE11
  refine p_tn ?_
  refine c_seq ?_
  refine c_seq ?_
  refine c_reg ?_
  refine q_step (v := .agg #[.int .i64 pp0, .slice pp1A pp1.length pp1C]) hE12 (y_loadS Try.underlying27 rfl (by kernel_rfl) rfl (St.row (i := 0) hS6 rfl)) rfl rfl rfl ?_; intro a13 hE14; clear hE12
  refine l_step hE14 rfl (l_call (f := 51) (argv := [.agg #[.int .i64 pp0, .slice pp1A pp1.length pp1C]]) hE14 (fun _ => cf_isPoset _ _) rfl rfl (c_isPoset pp0 pp1A pp1.length pp1C pp1 w3 (St.rdR (i := 1) hS6 rfl)) ?_)
  rintro _ w16 ⟨rfl, he20⟩ a17 hE18; clear hE14
  have hS19 := St.go hS6 he20; clear hS6
  refine q_step (v := .bool (!(F_isPoset pp0 pp1))) hE18 (y_not rfl) rfl rfl rfl ?_; intro a21 hE22; clear hE18
  refine c_nil ?_
  have hE23 := hE22.sub (L' := [(1, .pointer (some ⟨b2, 0, none⟩)), (6, .bool (!(F_isPoset pp0 pp1)))]) ⟨rfl, rfl, trivial⟩; clear hE22
  refine p_tn ?_
  refine c_cond hE23 rfl (fun ht24 => ?_) (fun ht24 => ?_)
  ·
    have ht25 := bn_t ht24
    have hE26 := hE23; rw [ht24] at hE26; clear hE23
    refine c_seq ?_
    refine c_reg ?_
    refine q_step (v := .int .i64 0) hE26 (y_assign rfl) rfl rfl rfl ?_; intro a27 hE28; clear hE26
    refine q_step (v := .int .i64 1) hE28 (y_assign rfl) rfl rfl rfl ?_; intro a29 hE30; clear hE28
    refine c_nil ?_
    have hE31 := hE30.sub (L' := [(2, .int .i64 0), (3, .int .i64 1)]) ⟨rfl, rfl, trivial⟩; clear hE30
    refine p_tn ?_
    refine wp_ret ?_
    refine p_tr ?_
    have hF : F_MaximalOf pp0 pp1 = (0, 1) := by unfold F_MaximalOf; rw [ht24]; first | done | rfl
    refine c_ret2 hE31 rfl rfl rfl ?_
    exact ⟨(by rw [hF]; first | done | rfl), hS19.ext⟩
  ·
    have ht32 := bn_f ht24
    have hp33 := isPoset_t ht32
    have hE34 := hE23; rw [ht24] at hE34; clear hE23
    refine wp_skip ?_
    refine p_tn ?_
    refine c_seq ?_
    refine c_reg ?_
    refine q_step (v := .agg #[.int .i64 pp0, .slice pp1A pp1.length pp1C]) hE34 (y_loadS Try.underlying27 rfl (by kernel_rfl) rfl (St.row (i := 0) hS19 rfl)) rfl rfl rfl ?_; intro a35 hE36; clear hE34
    refine l_step hE36 rfl (l_call (f := 53) (argv := [.agg #[.int .i64 pp0, .slice pp1A pp1.length pp1C]]) hE36 (fun _ => cf_Poset_maximal _ _) rfl rfl (c_Poset_maximal pp0 pp1A pp1.length pp1C pp1 w16 (St.rdR (i := 1) hS19 rfl) (by omega) (by omega) (isPoset_t (by assumption)).2.2) ?_)
    rintro _ w38 ⟨rfl, he42⟩ a39 hE40; clear hE36
    have hS41 := St.go hS19 he42; clear hS19
    refine q_step (v := .int .i64 (F_Poset_maximal pp0 pp1)) hE40 (y_assign rfl) rfl rfl rfl ?_; intro a43 hE44; clear hE40
    refine q_step (v := .int .i64 0) hE44 (y_assign rfl) rfl rfl rfl ?_; intro a45 hE46; clear hE44
    refine c_nil ?_
    have hE47 := hE46.sub (L' := [(2, .int .i64 (F_Poset_maximal pp0 pp1)), (3, .int .i64 0)]) ⟨rfl, rfl, trivial⟩; clear hE46
    refine p_tn ?_
    refine wp_ret ?_
    have hF : F_MaximalOf pp0 pp1 = (F_Poset_maximal pp0 pp1, 0) := by unfold F_MaximalOf; rw [ht24]; first | done | rfl
    refine c_ret2 hE47 rfl rfl rfl ?_
    exact ⟨(by rw [hF]; first | done | rfl), hS41.ext⟩

theorem MaximalOf_eq (p0 : Int) (p1 : List Int) : F_MaximalOf p0 p1 = F_s_MaximalOf p0 p1 := by
  unfold F_MaximalOf F_s_MaximalOf
  rw [isPoset_eq]
  cases h : F_l16Is p0 p1
  · rw [Bool.not_false, cond_true, cond_true]
  · have hp := l16Is_t h
    have e : F_Poset_maximal p0 p1 = F_l16Maximal p0 p1 := by
      unfold F_Poset_maximal F_l16Maximal
      rw [rangeLoop0 (p1.length : Int) (by omega) (fun o t => bif decide (gI p1 t = shlI 1 t) then orI o (gI p1 t) else o) (F_Poset_maximal_L1 p1) (fun _ _ _ => rfl),
        rangeLoop0 p0 hp.1.1 (fun o x => bif decide (gI p1 x = powI x) then orI o (powI x) else o) (F_l16Maximal_L1 p0 p1) (fun _ _ _ => rfl), show (p1.length : Int).toNat = p0.toNat by omega]
      apply foldl_ext'
      intro x hx o
      have hx := List.mem_range.1 hx
      rw [pow_shl (by omega) (by omega)]
      by_cases e : gI p1 (x : Int) = powI (x : Int)
      · rw [decide_eq_true e, cond_true, cond_true, e]
      · rw [decide_eq_false e, cond_false, cond_false]
    rw [e]

end Go.Proofs.Ythogljcjjmclcaa
