/- GPL: models and contracts, printed by wip/gen/gen.py -/
import Derived.Test.YthogljcjjmclcaaGPO
set_option linter.unusedVariables false
set_option linter.unusedSimpArgs false
namespace Go.Proofs.Ythogljcjjmclcaa
open Go.RowKit

theorem isMask_t {np mask : Int} (h : F_isMask np mask = true) : (0 ≤ np ∧ np ≤ 30) ∧ 0 ≤ mask ∧ mask ≤ fullI np := by
  unfold F_isMask at h
  rw [Bool.and_eq_true] at h
  have h1 := F_inRange_t h.1
  have h2 := F_inRange_t h.2
  rw [full_wI h1.1 (by omega)] at h2
  exact ⟨h1, h2⟩

theorem mask_sm {f0 mask : Int} (h0 : 0 ≤ f0 ∧ f0 ≤ 8) (h : mask ≤ fullI f0) : mask < 4611686018427387904 := by
  have := fullI_bd (n := f0) (by omega) (by omega); omega

def F_l17Is_L1b (pp1 : List Int) (vals : List Int) (rec : Int → Except (Bool) (Int)) (v5 : Int) : Except (Bool) (Int) :=
  bif (decide (v5 < (vals.length : Int))) then (bif (!decide ((F_l01Image pp1 (gI vals v5)) = (gI vals v5))) then (.error false) else (rec (v5 + 1))) else (.ok v5)
def F_l17Is_L1 (pp1 : List Int) (vals : List Int) : Nat → Int → Except (Bool) (Int)
  | 0, v5 => .ok v5
  | r + 1, v5 => F_l17Is_L1b pp1 vals (F_l17Is_L1 pp1 vals r) v5
def F_l17Is (pp0 : Int) (pp1 : List Int) (vals : List Int) : Bool :=
  bif ((!decide ((vals.length : Int) = 6)) || (!(F_l01Masks pp0 vals))) then false else (bif (isOk (F_l17Is_L1 pp1 vals (Int.toNat ((vals.length : Int) - 0) + 1) 0)) then true else (errD (F_l17Is_L1 pp1 vals (Int.toNat ((vals.length : Int) - 0) + 1) 0)))
theorem cf_l17Is (args : Array Value) (w : World) : (callFunc 76 args).run Try.prog w = .ok (.enter 76 args) w := by kernel_rfl
set_option maxRecDepth 100000 in
theorem c_l17Is (pp0 : Int) (pp1A : Option Addr) (pp1N pp1C : Nat) (pp1 : List Int) (valsA : Option Addr) (valsN valsC : Nat) (vals : List Int) (w : World) (pp1R : RdS w 1 pp1A pp1N pp1C pp1) (valsR : RdS w 1 valsA valsN valsC vals) (h8pp : 0 ≤ pp0 ∧ pp0 ≤ 8) (hlpp : (pp1.length : Int) = pp0) (hmpp : ∀ m : Int, 0 ≤ m → m < (pp1.length : Int) → 0 ≤ gI pp1 m ∧ gI pp1 m ≤ fullI pp0) :
    Calls Try.prog 76 #[.agg #[.int .i64 pp0, .slice pp1A pp1N pp1C], .slice valsA valsN valsC] w (Ret fun v w' => v = .bool (F_l17Is pp0 pp1 vals) ∧ Ext w w') := by
  obtain rfl : pp1N = pp1.length := pp1R.len1.symm
  have pp1Le := pp1R.le
  obtain rfl : valsN = vals.length := valsR.len1.symm
  have valsLe := valsR.le
  have hS := St.nil w
  have hS1 := St.rd0 hS rfl pp1R; clear hS
  have hS2 := St.rd0 hS1 rfl valsR; clear hS1
  refine enter (args := [.agg #[.int .i64 pp0, .slice pp1A pp1.length pp1C], .slice valsA vals.length valsC]) Try.func76 rfl rfl ?_
  rw [Try.ntmps76]; intro a hE
  have hE := hE.sub (L' := [(0, .agg #[.int .i64 pp0, .slice pp1A pp1.length pp1C]), (1, .slice valsA vals.length valsC)]) ⟨rfl, rfl, trivial⟩
  refine c_seq ?_
  refine c_reg ?_
  refine l_step hE rfl (l_box (v := .agg #[.int .i64 pp0, .slice pp1A pp1.length pp1C]) (cs := #[.int .i64 pp0, .slice pp1A pp1.length pp1C]) hS2 hE rfl rfl rfl ?_)
  intro b3 w4 hS7 he8 a5 hE6; clear hS2 hE
  refine q_step (v := .bool false) hE6 (y_assign rfl) rfl rfl rfl ?_; intro a9 hE10; clear hE6
  refine c_nil ?_
  have hE11 := hE10.sub (L' := [(1, .slice valsA vals.length valsC), (2, .pointer (some ⟨b3, 0, none⟩))]) ⟨rfl, rfl, trivial⟩; clear hE10
  refine p_tn ?_
  refine c_seq ?_
  refine c_cut (fun a' w' => E a' 34 [(1, .slice valsA vals.length valsC), (2, .pointer (some ⟨b3, 0, none⟩)), (15, .bool ((!decide ((vals.length : Int) = 6)) || (!(F_l01Masks pp0 vals))))] ∧ St w w' [.rd 1 pp1A pp1.length pp1C pp1, .blk b3 #[.int .i64 pp0, .slice pp1A pp1.length pp1C] 27, .rd 1 valsA vals.length valsC vals]) ?_ ?_
  ·
    refine c_reg ?_
    refine q_step (v := .slice valsA vals.length valsC) hE11 (y_move rfl) rfl rfl rfl ?_; intro a12 hE13; clear hE11
    refine q_step (v := .int .i64 (vals.length : Int)) hE13 (y_len (e := 2) (by kernel_rfl) rfl) rfl rfl rfl ?_; intro a14 hE15; clear hE13
    refine q_step (v := .bool (!decide ((vals.length : Int) = 6))) hE15 (y_neq rfl rfl) rfl rfl rfl ?_; intro a16 hE17; clear hE15
    refine q_step (v := .bool (!decide ((vals.length : Int) = 6))) hE17 (y_move rfl) rfl rfl rfl ?_; intro a18 hE19; clear hE17
    rcases Bool.eq_false_or_eq_true (!decide ((vals.length : Int) = 6)) with hb20 | hb20
    ·
      have hE21 := hE19; rw [hb20] at hE21; clear hE19
      have ht22 := bn_t hb20
      have hp23 := of_decide_eq_false ht22
      refine q_skip hE21 rfl rfl rfl ?_; intro a24 hE25; clear hE21
      refine q_skip hE25 rfl rfl rfl ?_; intro a26 hE27; clear hE25
      refine q_skip hE27 rfl rfl rfl ?_; intro a28 hE29; clear hE27
      refine q_skip hE29 rfl rfl rfl ?_; intro a30 hE31; clear hE29
      refine q_skip hE31 rfl rfl rfl ?_; intro a32 hE33; clear hE31
      refine q_step (v := .bool true) hE33 (y_pick (b := true) rfl rfl) rfl rfl rfl ?_; intro a34 hE35; clear hE33
      refine c_nil ?_
      have hE36 := hE35.sub (L' := [(1, .slice valsA vals.length valsC), (2, .pointer (some ⟨b3, 0, none⟩)), (15, .bool true)]) ⟨rfl, rfl, rfl, trivial⟩; clear hE35
      refine p_tn ?_
      have hE37 := hE36.sub (L' := [(1, .slice valsA vals.length valsC), (2, .pointer (some ⟨b3, 0, none⟩)), (15, .bool true)]) ⟨rfl, rfl, rfl, trivial⟩
      have hS38 := (St.pick (Γ' := [.rd 1 pp1A pp1.length pp1C pp1, .blk b3 #[.int .i64 pp0, .slice pp1A pp1.length pp1C] 27, .rd 1 valsA vals.length valsC vals]) hS7 [2, 0, 1] (by decide) rfl)
      exact ⟨(by rw [hb20]; exact hE37), hS38⟩
    ·
      have hE39 := hE19; rw [hb20] at hE39; clear hE19
      have ht40 := bn_f hb20
      have hp41 := of_decide_eq_true ht40
      refine q_step (v := .pointer (some ⟨b3, 0, none⟩)) hE39 (y_field rfl (fun _ => by kernel_rfl)) rfl rfl rfl ?_; intro a42 hE43; clear hE39
      refine q_step (v := .int .i64 pp0) hE43 (y_load (fun _ => by kernel_rfl) rfl (St.cell (i := 0) hS7 rfl rfl)) rfl rfl rfl ?_; intro a44 hE45; clear hE43
      refine q_step (v := .slice valsA vals.length valsC) hE45 (y_move rfl) rfl rfl rfl ?_; intro a46 hE47; clear hE45
      refine l_step hE47 rfl (l_call (f := 64) (argv := [.int .i64 pp0, .slice valsA vals.length valsC]) hE47 (fun _ => cf_l01Masks _ _) rfl rfl (c_l01Masks pp0 valsA vals.length valsC vals w4 (St.rdR (i := 1) hS7 rfl) (by omega) (by omega)) ?_)
      rintro _ w49 ⟨rfl, he53⟩ a50 hE51; clear hE47
      have hS52 := St.go hS7 he53; clear hS7
      refine q_step (v := .bool (!(F_l01Masks pp0 vals))) hE51 (y_not rfl) rfl rfl rfl ?_; intro a54 hE55; clear hE51
      refine q_step (v := .bool (!(F_l01Masks pp0 vals))) hE55 (y_pick (b := false) rfl rfl) rfl rfl rfl ?_; intro a56 hE57; clear hE55
      refine c_nil ?_
      have hE58 := hE57.sub (L' := [(1, .slice valsA vals.length valsC), (2, .pointer (some ⟨b3, 0, none⟩)), (15, .bool (!(F_l01Masks pp0 vals)))]) ⟨rfl, rfl, rfl, trivial⟩; clear hE57
      refine p_tn ?_
      have hE59 := hE58.sub (L' := [(1, .slice valsA vals.length valsC), (2, .pointer (some ⟨b3, 0, none⟩)), (15, .bool (!(F_l01Masks pp0 vals)))]) ⟨rfl, rfl, rfl, trivial⟩
      have hS60 := (St.pick (Γ' := [.rd 1 pp1A pp1.length pp1C pp1, .blk b3 #[.int .i64 pp0, .slice pp1A pp1.length pp1C] 27, .rd 1 valsA vals.length valsC vals]) hS52 [2, 0, 1] (by decide) rfl)
      exact ⟨(by rw [hb20]; exact hE59), hS60⟩
  ·
    rintro a61 w62 ⟨hE63, hS64⟩; clear hE11 hS7
    refine c_cond hE63 rfl (fun ht66 => ?_) (fun ht66 => ?_)
    ·
      have hE67 := hE63; rw [ht66] at hE67; clear hE63
      refine c_seq ?_
      refine c_reg ?_
      refine q_step (v := .bool false) hE67 (y_assign rfl) rfl rfl rfl ?_; intro a68 hE69; clear hE67
      refine c_nil ?_
      have hE70 := hE69.sub (L' := [(4, .bool false)]) ⟨rfl, trivial⟩; clear hE69
      refine p_tn ?_
      refine wp_ret ?_
      refine p_tr ?_
      have hF : F_l17Is pp0 pp1 vals = false := by unfold F_l17Is; rw [ht66]; first | done | rfl
      refine c_ret1 hE70 rfl rfl ?_
      exact ⟨(by rw [hF]; first | done | rfl), hS64.ext⟩
    ·
      obtain ⟨ht71, ht72⟩ := bor_f ht66
      have ht73 := bn_f ht71
      have hp74 := of_decide_eq_true ht73
      have ht75 := bn_f ht72
      have hE76 := hE63; rw [ht66] at hE76; clear hE63
      refine wp_skip ?_
      refine p_tn ?_
      refine c_seq ?_
      refine c_seq ?_
      refine c_reg ?_
      refine q_step (v := .int .i64 0) hE76 (y_assign rfl) rfl rfl rfl ?_; intro a77 hE78; clear hE76
      refine c_nil ?_
      have hE79 := hE78.sub (L' := [(1, .slice valsA vals.length valsC), (2, .pointer (some ⟨b3, 0, none⟩)), (5, .int .i64 0)]) ⟨rfl, rfl, rfl, trivial⟩; clear hE78
      refine p_tn ?_
      refine c_cut1 (fun a' w' => isOk (F_l17Is_L1 pp1 vals (Int.toNat ((vals.length : Int) - 0) + 1) 0) = true ∧ (0 ≤ (okD (F_l17Is_L1 pp1 vals (Int.toNat ((vals.length : Int) - 0) + 1) 0))) ∧ ((okD (F_l17Is_L1 pp1 vals (Int.toNat ((vals.length : Int) - 0) + 1) 0)) ≤ (vals.length : Int)) ∧ E a' 34 [(1, .slice valsA vals.length valsC), (2, .pointer (some ⟨b3, 0, none⟩)), (5, .int .i64 (okD (F_l17Is_L1 pp1 vals (Int.toNat ((vals.length : Int) - 0) + 1) 0)))] ∧ St w w' [.rd 1 pp1A pp1.length pp1C pp1, .blk b3 #[.int .i64 pp0, .slice pp1A pp1.length pp1C] 27, .rd 1 valsA vals.length valsC vals]) ?_ ?_
      ·
        refine wp_block ?_
        refine c_loop (fun r a' w' => ∃ v5 : Int, F_l17Is_L1 pp1 vals r v5 = F_l17Is_L1 pp1 vals (Int.toNat ((vals.length : Int) - 0) + 1) 0 ∧ Int.toNat ((vals.length : Int) - v5) < r ∧ (0 ≤ v5) ∧ (v5 ≤ (vals.length : Int)) ∧ E a' 34 [(1, .slice valsA vals.length valsC), (2, .pointer (some ⟨b3, 0, none⟩)), (5, .int .i64 v5)] ∧ St w w' [.rd 1 pp1A pp1.length pp1C pp1, .blk b3 #[.int .i64 pp0, .slice pp1A pp1.length pp1C] 27, .rd 1 valsA vals.length valsC vals]) (r := (Int.toNat ((vals.length : Int) - 0) + 1)) ?_ ?_
        · exact ⟨0, rfl, Nat.lt_succ_self _, (by first | omega | (simp only [List.length_replicate, sI_len]; omega) | (simp only [List.length_append, List.length_cons, List.length_nil, sI_len, cond_true, cond_false]; omega) | (simp only [List.length_append, List.length_cons, List.length_nil, sI_len, cond_eq_ite, apply_ite List.length]; split <;> simp only [List.length_append, List.length_cons, List.length_nil, sI_len] <;> omega) | grind), (by first | omega | (simp only [List.length_replicate, sI_len]; omega) | (simp only [List.length_append, List.length_cons, List.length_nil, sI_len, cond_true, cond_false]; omega) | (simp only [List.length_append, List.length_cons, List.length_nil, sI_len, cond_eq_ite, apply_ite List.length]; split <;> simp only [List.length_append, List.length_cons, List.length_nil, sI_len] <;> omega) | grind), (hE79.sub (L' := [(1, .slice valsA vals.length valsC), (2, .pointer (some ⟨b3, 0, none⟩)), (5, .int .i64 0)]) ⟨rfl, rfl, rfl, trivial⟩), (St.pick (Γ' := [.rd 1 pp1A pp1.length pp1C pp1, .blk b3 #[.int .i64 pp0, .slice pp1A pp1.length pp1C] 27, .rd 1 valsA vals.length valsC vals]) hS64 [0, 1, 2] (by decide) rfl)⟩
        ·
          clear hE79 hS64
          rintro r89 a81 w82 ⟨v5, hT85, hr86, hi87, hi88, hE83, hS84⟩
          obtain ⟨r89, rfl⟩ : ∃ r', r89 = r' + 1 := ⟨r89 - 1, by omega⟩
          refine c_seq ?_
          refine c_seq ?_
          refine c_reg ?_
          refine q_step (v := .int .i64 v5) hE83 (y_move rfl) rfl rfl rfl ?_; intro a90 hE91; clear hE83
          refine q_step (v := .slice valsA vals.length valsC) hE91 (y_move rfl) rfl rfl rfl ?_; intro a92 hE93; clear hE91
          refine q_step (v := .int .i64 (vals.length : Int)) hE93 (y_len (e := 2) (by kernel_rfl) rfl) rfl rfl rfl ?_; intro a94 hE95; clear hE93
          refine q_step (v := .bool (decide (v5 < (vals.length : Int)))) hE95 (y_lss rfl rfl) rfl rfl rfl ?_; intro a96 hE97; clear hE95
          refine c_nil ?_
          have hE98 := hE97.sub (L' := [(1, .slice valsA vals.length valsC), (2, .pointer (some ⟨b3, 0, none⟩)), (5, .int .i64 v5), (19, .bool (decide (v5 < (vals.length : Int))))]) ⟨rfl, rfl, rfl, rfl, trivial⟩; clear hE97
          refine p_tn ?_
          refine c_cond hE98 rfl (fun ht99 => ?_) (fun ht99 => ?_)
          ·
            have hp100 := of_decide_eq_true ht99
            have hE101 := hE98; rw [ht99] at hE101; clear hE98
            refine wp_skip ?_
            refine p_tn ?_
            refine c_seq ?_
            refine wp_block ?_
            refine c_seq ?_
            refine d_start (fun w w' => (fun w' => w'.cell? ⟨b3, 1, none⟩ = some (.slice pp1A pp1.length pp1C) ∧ w'.cell? (adr valsA (Int.toNat v5)) = some (.int .i64 (gI vals v5)) ∧ w'.cell? (adr valsA (Int.toNat v5)) = some (.int .i64 (gI vals v5)) ∧ True) w → (fun w' => w'.cell? ⟨b3, 1, none⟩ = some (.slice pp1A pp1.length pp1C) ∧ w'.cell? (adr valsA (Int.toNat v5)) = some (.int .i64 (gI vals v5)) ∧ w'.cell? (adr valsA (Int.toNat v5)) = some (.int .i64 (gI vals v5)) ∧ True) w') [1, 5, 10] 12 (by kernel_rfl) rfl ?_
            intro w102 he103; have hS104 := St.go hS84 he103; clear hS84
            refine d_pure (fun _ h => h) (v := .pointer (some ⟨b3, 1, none⟩)) 0 rfl hE101 (y_field rfl (fun _ => by kernel_rfl)) rfl (by kernel_rfl) (by kernel_rfl) (by kernel_rfl) rfl rfl (fun _ _ _ h => h) ?_; intro a105 hE106; clear hE101
            refine d_take (fun _ h => h) (fun _ _ h k => h k) (v := .slice pp1A pp1.length pp1C) 1 rfl hE106 (S := fun w' => w'.cell? ⟨b3, 1, none⟩ = some (.slice pp1A pp1.length pp1C) ∧ w'.cell? (adr valsA (Int.toNat v5)) = some (.int .i64 (gI vals v5)) ∧ w'.cell? (adr valsA (Int.toNat v5)) = some (.int .i64 (gI vals v5)) ∧ True) ⟨(St.cell (i := 1) hS104 rfl rfl _ (Ext.refl _)), (RdS.elt (St.rdR (i := 2) hS104 rfl) (by omega) (by omega) _ (Ext.refl _)), (RdS.elt (St.rdR (i := 2) hS104 rfl) (by omega) (by omega) _ (Ext.refl _)), trivial⟩ (y_load (fun _ => by kernel_rfl) rfl (fun _ h => h.1)) rfl rfl (by kernel_rfl) (by kernel_rfl) (by kernel_rfl) (by kernel_rfl) rfl rfl (fun _ _ _ h => h) ?_; intro a107 hE108; clear hE106
            refine d_pure (fun _ h => h) (v := .slice valsA vals.length valsC) 2 rfl hE108 (y_move rfl) rfl (by kernel_rfl) (by kernel_rfl) (by kernel_rfl) rfl rfl (fun _ _ _ h => h) ?_; intro a109 hE110; clear hE108
            refine d_pure (fun _ h => h) (v := .int .i64 v5) 3 rfl hE110 (y_move rfl) rfl (by kernel_rfl) (by kernel_rfl) (by kernel_rfl) rfl rfl (fun _ _ _ h => h) ?_; intro a111 hE112; clear hE110
            refine d_pure (fun _ h => h) (v := .pointer (some (adr valsA (Int.toNat v5)))) 4 rfl hE112 (y_idx (by kernel_rfl) (fun _ => by kernel_rfl) rfl rfl (RdS.isS (m := v5) (St.rdR (i := 2) hS104 rfl) (by omega) (by omega)) (by omega) (by omega) (Nat.mul_one _).symm) rfl (by kernel_rfl) (by kernel_rfl) (by kernel_rfl) rfl rfl (fun _ _ _ h => h) ?_; intro a113 hE114; clear hE112
            refine d_take (fun _ h => h) (fun _ _ h k => h k) (v := .int .i64 (gI vals v5)) 5 rfl hE114 (S := fun w' => w'.cell? ⟨b3, 1, none⟩ = some (.slice pp1A pp1.length pp1C) ∧ w'.cell? (adr valsA (Int.toNat v5)) = some (.int .i64 (gI vals v5)) ∧ w'.cell? (adr valsA (Int.toNat v5)) = some (.int .i64 (gI vals v5)) ∧ True) ⟨(St.cell (i := 1) hS104 rfl rfl _ (Ext.refl _)), (RdS.elt (St.rdR (i := 2) hS104 rfl) (by omega) (by omega) _ (Ext.refl _)), (RdS.elt (St.rdR (i := 2) hS104 rfl) (by omega) (by omega) _ (Ext.refl _)), trivial⟩ (y_load (fun _ => by kernel_rfl) rfl (fun _ h => h.2.1)) rfl rfl (by kernel_rfl) (by kernel_rfl) (by kernel_rfl) (by kernel_rfl) rfl rfl (fun _ _ _ h => h) ?_; intro a115 hE116; clear hE114
            refine d_pure (fun _ h => h) (v := .slice valsA vals.length valsC) 7 rfl hE116 (y_move rfl) rfl (by kernel_rfl) (by kernel_rfl) (by kernel_rfl) rfl rfl (fun _ _ _ h => h) ?_; intro a117 hE118; clear hE116
            refine d_pure (fun _ h => h) (v := .int .i64 v5) 8 rfl hE118 (y_move rfl) rfl (by kernel_rfl) (by kernel_rfl) (by kernel_rfl) rfl rfl (fun _ _ _ h => h) ?_; intro a119 hE120; clear hE118
            refine d_pure (fun _ h => h) (v := .pointer (some (adr valsA (Int.toNat v5)))) 9 rfl hE120 (y_idx (by kernel_rfl) (fun _ => by kernel_rfl) rfl rfl (RdS.isS (m := v5) (St.rdR (i := 2) hS104 rfl) (by omega) (by omega)) (by omega) (by omega) (Nat.mul_one _).symm) rfl (by kernel_rfl) (by kernel_rfl) (by kernel_rfl) rfl rfl (fun _ _ _ h => h) ?_; intro a121 hE122; clear hE120
            refine d_take (fun _ h => h) (fun _ _ h k => h k) (v := .int .i64 (gI vals v5)) 10 rfl hE122 (S := fun w' => w'.cell? ⟨b3, 1, none⟩ = some (.slice pp1A pp1.length pp1C) ∧ w'.cell? (adr valsA (Int.toNat v5)) = some (.int .i64 (gI vals v5)) ∧ w'.cell? (adr valsA (Int.toNat v5)) = some (.int .i64 (gI vals v5)) ∧ True) ⟨(St.cell (i := 1) hS104 rfl rfl _ (Ext.refl _)), (RdS.elt (St.rdR (i := 2) hS104 rfl) (by omega) (by omega) _ (Ext.refl _)), (RdS.elt (St.rdR (i := 2) hS104 rfl) (by omega) (by omega) _ (Ext.refl _)), trivial⟩ (y_load (fun _ => by kernel_rfl) rfl (fun _ h => h.2.2.1)) rfl rfl (by kernel_rfl) (by kernel_rfl) (by kernel_rfl) (by kernel_rfl) rfl rfl (fun _ _ _ h => h) ?_; intro a123 hE124; clear hE122
            refine d_only 6 (by kernel_rfl) rfl hE124 rfl (l_call (f := 55) (argv := [.slice pp1A pp1.length pp1C, .int .i64 (gI vals v5)]) hE124 (fun _ => cf_l01Image _ _) rfl rfl (c_l01Image pp1A pp1.length pp1C pp1 (gI vals v5) w102 (St.rdR (i := 0) hS104 rfl) (by omega)) ?_)
            rintro _ w126 ⟨rfl, he130⟩ a127 hE128; clear hE124
            have hS129 := St.go hS104 he130; clear hS104
            refine ⟨fun _ _ => ⟨(St.cell (i := 1) hS129 rfl rfl _ (Ext.refl _)), (RdS.elt (St.rdR (i := 2) hS129 rfl) (by omega) (by omega) _ (Ext.refl _)), (RdS.elt (St.rdR (i := 2) hS129 rfl) (by omega) (by omega) _ (Ext.refl _)), trivial⟩, ?_⟩
            refine d_pure (fun _ h => h) (v := .bool (!decide ((F_l01Image pp1 (gI vals v5)) = (gI vals v5)))) 11 rfl hE128 (y_neq rfl rfl) rfl (by kernel_rfl) (by kernel_rfl) (by kernel_rfl) rfl rfl (fun _ _ _ h => h) ?_; intro a131 hE132; clear hE128
            refine d_done (by kernel_rfl) ?_
            have hE133 := hE132.sub (L' := [(1, .slice valsA vals.length valsC), (2, .pointer (some ⟨b3, 0, none⟩)), (5, .int .i64 v5), (33, .bool (!decide ((F_l01Image pp1 (gI vals v5)) = (gI vals v5))))]) ⟨rfl, rfl, rfl, rfl, trivial⟩; clear hE132
            refine p_tn ?_
            refine c_cond hE133 rfl (fun ht134 => ?_) (fun ht134 => ?_)
            ·
              have ht135 := bn_t ht134
              have hp136 := of_decide_eq_false ht135
              have hE137 := hE133; rw [ht134] at hE137; clear hE133
              refine c_seq ?_
              refine c_reg ?_
              refine q_step (v := .bool false) hE137 (y_assign rfl) rfl rfl rfl ?_; intro a138 hE139; clear hE137
              refine c_nil ?_
              have hE140 := hE139.sub (L' := [(4, .bool false)]) ⟨rfl, trivial⟩; clear hE139
              refine p_tn ?_
              refine wp_ret ?_
              refine p_br ?_
              refine p_tr ?_
              have hX141 : F_l17Is_L1 pp1 vals (Int.toNat ((vals.length : Int) - 0) + 1) 0 = .error false := hT85.symm.trans (show F_l17Is_L1b pp1 vals (F_l17Is_L1 pp1 vals r89) v5 = .error false by unfold F_l17Is_L1b; rw [ht134, ht99]; first | done | rfl)
              refine p_tr (p_br (p_tr ?_))
              refine p_tr ?_
              have hF : F_l17Is pp0 pp1 vals = false := by unfold F_l17Is; rw [hX141, ht66]; first | done | rfl
              refine c_ret1 hE140 rfl rfl ?_
              exact ⟨(by rw [hF]; first | done | rfl), hS129.ext⟩
            ·
              have ht142 := bn_f ht134
              have hp143 := of_decide_eq_true ht142
              have hE144 := hE133; rw [ht134] at hE144; clear hE133
              refine wp_skip ?_
              refine p_bn ?_
              refine p_tn ?_
              refine c_reg ?_
              refine q_step (v := .int .i64 v5) hE144 (y_move rfl) rfl rfl rfl ?_; intro a145 hE146; clear hE144
              refine q_step (v := .int .i64 (v5 + 1)) hE146 (y_add rfl rfl ⟨(by omega), (by omega)⟩) rfl rfl rfl ?_; intro a147 hE148; clear hE146
              refine q_step (v := .int .i64 (v5 + 1)) hE148 (y_assign rfl) rfl rfl rfl ?_; intro a149 hE150; clear hE148
              refine c_nil ?_
              have hE151 := hE150.sub (L' := [(1, .slice valsA vals.length valsC), (2, .pointer (some ⟨b3, 0, none⟩)), (5, .int .i64 (v5 + 1))]) ⟨rfl, rfl, rfl, trivial⟩; clear hE150
              refine p_tn ⟨r89, Nat.lt_succ_self _, v5 + 1, (hT85.symm.trans (show F_l17Is_L1b pp1 vals (F_l17Is_L1 pp1 vals r89) v5 = F_l17Is_L1 pp1 vals r89 (v5 + 1) by unfold F_l17Is_L1b; rw [ht134, ht99]; first | done | rfl)).symm, (by omega), (by first | omega | (simp only [List.length_replicate, sI_len]; omega) | (simp only [List.length_append, List.length_cons, List.length_nil, sI_len, cond_true, cond_false]; omega) | (simp only [List.length_append, List.length_cons, List.length_nil, sI_len, cond_eq_ite, apply_ite List.length]; split <;> simp only [List.length_append, List.length_cons, List.length_nil, sI_len] <;> omega) | grind), (by first | omega | (simp only [List.length_replicate, sI_len]; omega) | (simp only [List.length_append, List.length_cons, List.length_nil, sI_len, cond_true, cond_false]; omega) | (simp only [List.length_append, List.length_cons, List.length_nil, sI_len, cond_eq_ite, apply_ite List.length]; split <;> simp only [List.length_append, List.length_cons, List.length_nil, sI_len] <;> omega) | grind), (hE151.sub (L' := [(1, .slice valsA vals.length valsC), (2, .pointer (some ⟨b3, 0, none⟩)), (5, .int .i64 (v5 + 1))]) ⟨rfl, rfl, rfl, trivial⟩), (St.pick (Γ' := [.rd 1 pp1A pp1.length pp1C pp1, .blk b3 #[.int .i64 pp0, .slice pp1A pp1.length pp1C] 27, .rd 1 valsA vals.length valsC vals]) hS129 [0, 1, 2] (by decide) rfl)⟩
          ·
            have hp152 := of_decide_eq_false ht99
            have hE153 := hE98; rw [ht99] at hE153; clear hE98
            refine wp_exit ?_
            refine p_te ?_
            have hX154 : F_l17Is_L1 pp1 vals (Int.toNat ((vals.length : Int) - 0) + 1) 0 = .ok v5 := hT85.symm.trans (show F_l17Is_L1b pp1 vals (F_l17Is_L1 pp1 vals r89) v5 = .ok v5 by unfold F_l17Is_L1b; rw [ht99]; first | done | rfl)
            refine p_te (p_be (p_tn ?_))
            exact ⟨(by rw [hX154]; rfl), (by rw [hX154]; exact (show 0 ≤ v5 from (by first | omega | (simp only [List.length_replicate, sI_len]; omega) | (simp only [List.length_append, List.length_cons, List.length_nil, sI_len, cond_true, cond_false]; omega) | (simp only [List.length_append, List.length_cons, List.length_nil, sI_len, cond_eq_ite, apply_ite List.length]; split <;> simp only [List.length_append, List.length_cons, List.length_nil, sI_len] <;> omega) | grind))), (by rw [hX154]; exact (show v5 ≤ (vals.length : Int) from (by first | omega | (simp only [List.length_replicate, sI_len]; omega) | (simp only [List.length_append, List.length_cons, List.length_nil, sI_len, cond_true, cond_false]; omega) | (simp only [List.length_append, List.length_cons, List.length_nil, sI_len, cond_eq_ite, apply_ite List.length]; split <;> simp only [List.length_append, List.length_cons, List.length_nil, sI_len] <;> omega) | grind))), (by rw [hX154]; exact (hE153.sub (L' := [(1, .slice valsA vals.length valsC), (2, .pointer (some ⟨b3, 0, none⟩)), (5, .int .i64 v5)]) ⟨rfl, rfl, rfl, trivial⟩)), (St.pick (Γ' := [.rd 1 pp1A pp1.length pp1C pp1, .blk b3 #[.int .i64 pp0, .slice pp1A pp1.length pp1C] 27, .rd 1 valsA vals.length valsC vals]) hS84 [0, 1, 2] (by decide) rfl)⟩
      ·
        rintro a155 w156 ⟨hO159, hi160, hi161, hE157, hS158⟩; clear hE79 hS64
        refine p_tn ?_
        refine c_seq ?_
        refine c_reg ?_
        refine q_step (v := .bool true) hE157 (y_assign rfl) rfl rfl rfl ?_; intro a162 hE163; clear hE157
        refine c_nil ?_
        have hE164 := hE163.sub (L' := [(4, .bool true)]) ⟨rfl, trivial⟩; clear hE163
        refine p_tn ?_
        refine wp_ret ?_
        have hF : F_l17Is pp0 pp1 vals = true := by unfold F_l17Is; rw [hO159, ht66]; first | done | rfl
        refine c_ret1 hE164 rfl rfl ?_
        exact ⟨(by rw [hF]; first | done | rfl), hS158.ext⟩

def F_s_IsValuation (pp0 : Int) (pp1 : List Int) (vals : List Int) : Bool :=
  ((F_l16Is pp0 pp1) && (F_l17Is pp0 pp1 vals))
theorem cf_s_IsValuation (args : Array Value) (w : World) : (callFunc 41 args).run Try.prog w = .ok (.enter 41 args) w := by kernel_rfl
set_option maxRecDepth 100000 in
theorem c_s_IsValuation (pp0 : Int) (pp1A : Option Addr) (pp1N pp1C : Nat) (pp1 : List Int) (valsA : Option Addr) (valsN valsC : Nat) (vals : List Int) (w : World) (pp1R : RdS w 1 pp1A pp1N pp1C pp1) (valsR : RdS w 1 valsA valsN valsC vals) :
    Calls Try.prog 41 #[.agg #[.int .i64 pp0, .slice pp1A pp1N pp1C], .slice valsA valsN valsC] w (Ret fun v w' => v = .bool (F_s_IsValuation pp0 pp1 vals) ∧ Ext w w') := by
  obtain rfl : pp1N = pp1.length := pp1R.len1.symm
  have pp1Le := pp1R.le
  obtain rfl : valsN = vals.length := valsR.len1.symm
  have valsLe := valsR.le
  have hS := St.nil w
  have hS1 := St.rd0 hS rfl pp1R; clear hS
  have hS2 := St.rd0 hS1 rfl valsR; clear hS1
  refine enter (args := [.agg #[.int .i64 pp0, .slice pp1A pp1.length pp1C], .slice valsA vals.length valsC]) Try.func41 rfl rfl ?_
  rw [Try.ntmps41]; intro a hE
  have hE := hE.sub (L' := [(0, .agg #[.int .i64 pp0, .slice pp1A pp1.length pp1C]), (1, .slice valsA vals.length valsC)]) ⟨rfl, rfl, trivial⟩
  refine c_seq ?_
  refine c_reg ?_
  refine l_step hE rfl (l_box (v := .agg #[.int .i64 pp0, .slice pp1A pp1.length pp1C]) (cs := #[.int .i64 pp0, .slice pp1A pp1.length pp1C]) hS2 hE rfl rfl rfl ?_)
  intro b3 w4 hS7 he8 a5 hE6; clear hS2 hE
  refine q_step (v := .bool false) hE6 (y_assign rfl) rfl rfl rfl ?_; intro a9 hE10; clear hE6
  refine c_nil ?_
  have hE11 := hE10.sub (L' := [(1, .slice valsA vals.length valsC), (2, .pointer (some ⟨b3, 0, none⟩))]) ⟨rfl, rfl, trivial⟩; clear hE10
  refine p_tn ?_
  refine c_cut (fun a' w' => E a' 12 [(4, .bool ((F_l16Is pp0 pp1) && (F_l17Is pp0 pp1 vals)))] ∧ St w w' [.rd 1 pp1A pp1.length pp1C pp1, .blk b3 #[.int .i64 pp0, .slice pp1A pp1.length pp1C] 27, .rd 1 valsA vals.length valsC vals]) ?_ ?_
  ·
    refine c_reg ?_
    refine q_step (v := .agg #[.int .i64 pp0, .slice pp1A pp1.length pp1C]) hE11 (y_loadS Try.underlying27 rfl (by kernel_rfl) rfl (St.row (i := 0) hS7 rfl)) rfl rfl rfl ?_; intro a12 hE13; clear hE11
    refine l_step hE13 rfl (l_call (f := 50) (argv := [.agg #[.int .i64 pp0, .slice pp1A pp1.length pp1C]]) hE13 (fun _ => cf_l16Is _ _) rfl rfl (c_l16Is pp0 pp1A pp1.length pp1C pp1 w4 (St.rdR (i := 2) hS7 rfl)) ?_)
    rintro _ w15 ⟨rfl, he19⟩ a16 hE17; clear hE13
    have hS18 := St.go hS7 he19; clear hS7
    refine q_step (v := .bool (F_l16Is pp0 pp1)) hE17 (y_move rfl) rfl rfl rfl ?_; intro a20 hE21; clear hE17
    rcases Bool.eq_false_or_eq_true (F_l16Is pp0 pp1) with hb22 | hb22
    ·
      have hE23 := hE21; rw [hb22] at hE23; clear hE21
      have hp24 := l16Is_t hb22
      refine q_step (v := .agg #[.int .i64 pp0, .slice pp1A pp1.length pp1C]) hE23 (y_loadS Try.underlying27 rfl (by kernel_rfl) rfl (St.row (i := 0) hS18 rfl)) rfl rfl rfl ?_; intro a25 hE26; clear hE23
      refine q_step (v := .slice valsA vals.length valsC) hE26 (y_move rfl) rfl rfl rfl ?_; intro a27 hE28; clear hE26
      refine l_step hE28 rfl (l_call (f := 76) (argv := [.agg #[.int .i64 pp0, .slice pp1A pp1.length pp1C], .slice valsA vals.length valsC]) hE28 (fun _ => cf_l17Is _ _) rfl rfl (c_l17Is pp0 pp1A pp1.length pp1C pp1 valsA vals.length valsC vals w15 (St.rdR (i := 2) hS18 rfl) (St.rdR (i := 1) hS18 rfl) (by omega) (by omega) (l16Is_t (by assumption)).2.2) ?_)
      rintro _ w30 ⟨rfl, he34⟩ a31 hE32; clear hE28
      have hS33 := St.go hS18 he34; clear hS18
      refine q_step (v := .bool (F_l17Is pp0 pp1 vals)) hE32 (y_pick (b := true) rfl rfl) rfl rfl rfl ?_; intro a35 hE36; clear hE32
      refine q_step (v := .bool (F_l17Is pp0 pp1 vals)) hE36 (y_assign rfl) rfl rfl rfl ?_; intro a37 hE38; clear hE36
      refine c_nil ?_
      have hE39 := hE38.sub (L' := [(4, .bool (F_l17Is pp0 pp1 vals))]) ⟨rfl, trivial⟩; clear hE38
      refine p_tn ?_
      have hE40 := hE39.sub (L' := [(4, .bool (F_l17Is pp0 pp1 vals))]) ⟨rfl, trivial⟩
      have hS41 := (St.pick (Γ' := [.rd 1 pp1A pp1.length pp1C pp1, .blk b3 #[.int .i64 pp0, .slice pp1A pp1.length pp1C] 27, .rd 1 valsA vals.length valsC vals]) hS33 [2, 0, 1] (by decide) rfl)
      exact ⟨(by rw [hb22]; exact hE40), hS41⟩
    ·
      have hE42 := hE21; rw [hb22] at hE42; clear hE21
      refine q_skip hE42 rfl rfl rfl ?_; intro a43 hE44; clear hE42
      refine q_skip hE44 rfl rfl rfl ?_; intro a45 hE46; clear hE44
      refine q_skip hE46 rfl rfl rfl ?_; intro a47 hE48; clear hE46
      refine q_step (v := .bool false) hE48 (y_pick (b := false) rfl rfl) rfl rfl rfl ?_; intro a49 hE50; clear hE48
      refine q_step (v := .bool false) hE50 (y_assign rfl) rfl rfl rfl ?_; intro a51 hE52; clear hE50
      refine c_nil ?_
      have hE53 := hE52.sub (L' := [(4, .bool false)]) ⟨rfl, trivial⟩; clear hE52
      refine p_tn ?_
      have hE54 := hE53.sub (L' := [(4, .bool false)]) ⟨rfl, trivial⟩
      have hS55 := (St.pick (Γ' := [.rd 1 pp1A pp1.length pp1C pp1, .blk b3 #[.int .i64 pp0, .slice pp1A pp1.length pp1C] 27, .rd 1 valsA vals.length valsC vals]) hS18 [2, 0, 1] (by decide) rfl)
      exact ⟨(by rw [hb22]; exact hE54), hS55⟩
  ·
    rintro a56 w57 ⟨hE58, hS59⟩; clear hE11 hS7
    refine wp_ret ?_
    have hF : F_s_IsValuation pp0 pp1 vals = ((F_l16Is pp0 pp1) && (F_l17Is pp0 pp1 vals)) := by unfold F_s_IsValuation; rfl
    refine c_ret1 hE58 rfl rfl ?_
    exact ⟨(by rw [hF]; first | done | rfl), hS59.ext⟩

def F_Poset_isUpset (pp0 : Int) (pp1 : List Int) (mask : Int) : Bool :=
  ((F_isMask pp0 mask) && (decide ((F_image pp1 mask) = mask)))
theorem cf_Poset_isUpset (args : Array Value) (w : World) : (callFunc 107 args).run Try.prog w = .ok (.enter 107 args) w := by kernel_rfl
set_option maxRecDepth 100000 in
theorem c_Poset_isUpset (pp0 : Int) (pp1A : Option Addr) (pp1N pp1C : Nat) (pp1 : List Int) (mask : Int) (w : World) (pp1R : RdS w 1 pp1A pp1N pp1C pp1) (h8pp : 0 ≤ pp0 ∧ pp0 ≤ 8) (hlpp : (pp1.length : Int) = pp0) (hmpp : ∀ m : Int, 0 ≤ m → m < (pp1.length : Int) → 0 ≤ gI pp1 m ∧ gI pp1 m ≤ fullI pp0) :
    Calls Try.prog 107 #[.agg #[.int .i64 pp0, .slice pp1A pp1N pp1C], .int .i64 mask] w (Ret fun v w' => v = .bool (F_Poset_isUpset pp0 pp1 mask) ∧ Ext w w') := by
  obtain rfl : pp1N = pp1.length := pp1R.len1.symm
  have pp1Le := pp1R.le
  have hS := St.nil w
  have hS1 := St.rd0 hS rfl pp1R; clear hS
  refine enter (args := [.agg #[.int .i64 pp0, .slice pp1A pp1.length pp1C], .int .i64 mask]) Try.func107 rfl rfl ?_
  rw [Try.ntmps107]; intro a hE
  have hE := hE.sub (L' := [(0, .agg #[.int .i64 pp0, .slice pp1A pp1.length pp1C]), (1, .int .i64 mask)]) ⟨rfl, rfl, trivial⟩
  refine c_seq ?_
  refine c_reg ?_
  refine l_step hE rfl (l_box (v := .agg #[.int .i64 pp0, .slice pp1A pp1.length pp1C]) (cs := #[.int .i64 pp0, .slice pp1A pp1.length pp1C]) hS1 hE rfl rfl rfl ?_)
  intro b2 w3 hS6 he7 a4 hE5; clear hS1 hE
  refine q_step (v := .bool false) hE5 (y_assign rfl) rfl rfl rfl ?_; intro a8 hE9; clear hE5
  refine c_nil ?_
  have hE10 := hE9.sub (L' := [(1, .int .i64 mask), (2, .pointer (some ⟨b2, 0, none⟩))]) ⟨rfl, rfl, trivial⟩; clear hE9
  refine p_tn ?_
  refine c_cut (fun a' w' => E a' 17 [(4, .bool ((F_isMask pp0 mask) && (decide ((F_image pp1 mask) = mask))))] ∧ St w w' [.rd 1 pp1A pp1.length pp1C pp1, .blk b2 #[.int .i64 pp0, .slice pp1A pp1.length pp1C] 27]) ?_ ?_
  ·
    refine c_reg ?_
    refine q_step (v := .pointer (some ⟨b2, 0, none⟩)) hE10 (y_field rfl (fun _ => by kernel_rfl)) rfl rfl rfl ?_; intro a11 hE12; clear hE10
    refine q_step (v := .int .i64 pp0) hE12 (y_load (fun _ => by kernel_rfl) rfl (St.cell (i := 0) hS6 rfl rfl)) rfl rfl rfl ?_; intro a13 hE14; clear hE12
    refine q_step (v := .int .i64 mask) hE14 (y_move rfl) rfl rfl rfl ?_; intro a15 hE16; clear hE14
    refine l_step hE16 rfl (l_call (f := 91) (argv := [.int .i64 pp0, .int .i64 mask]) hE16 (fun _ => cf_isMask _ _) rfl rfl (c_isMask pp0 mask w3) ?_)
    rintro _ _ ⟨rfl, rfl⟩ a19 hE20; clear hE16
    refine q_step (v := .bool (F_isMask pp0 mask)) hE20 (y_move rfl) rfl rfl rfl ?_; intro a23 hE24; clear hE20
    rcases Bool.eq_false_or_eq_true (F_isMask pp0 mask) with hb25 | hb25
    ·
      have hE26 := hE24; rw [hb25] at hE26; clear hE24
      have hp27 := isMask_t hb25
      refine q_step (v := .pointer (some ⟨b2, 1, none⟩)) hE26 (y_field rfl (fun _ => by kernel_rfl)) rfl rfl rfl ?_; intro a28 hE29; clear hE26
      refine q_step (v := .slice pp1A pp1.length pp1C) hE29 (y_load (fun _ => by kernel_rfl) rfl (St.cell (i := 0) hS6 rfl rfl)) rfl rfl rfl ?_; intro a30 hE31; clear hE29
      refine q_step (v := .int .i64 mask) hE31 (y_move rfl) rfl rfl rfl ?_; intro a32 hE33; clear hE31
      refine l_step hE33 rfl (l_call (f := 57) (argv := [.slice pp1A pp1.length pp1C, .int .i64 mask]) hE33 (fun _ => cf_image _ _) rfl rfl (c_image pp1A pp1.length pp1C pp1 mask w3 (St.rdR (i := 1) hS6 rfl) (by omega) (by omega) (by rw [hlpp]; omega) (mask_sm (f0 := pp0) (by omega) (by omega))) ?_)
      rintro _ w35 ⟨rfl, he39⟩ a36 hE37; clear hE33
      have hS38 := St.go hS6 he39; clear hS6
      refine q_step (v := .int .i64 mask) hE37 (y_move rfl) rfl rfl rfl ?_; intro a40 hE41; clear hE37
      refine q_step (v := .bool (decide ((F_image pp1 mask) = mask))) hE41 (y_eql rfl rfl) rfl rfl rfl ?_; intro a42 hE43; clear hE41
      refine q_step (v := .bool (decide ((F_image pp1 mask) = mask))) hE43 (y_pick (b := true) rfl rfl) rfl rfl rfl ?_; intro a44 hE45; clear hE43
      refine q_step (v := .bool (decide ((F_image pp1 mask) = mask))) hE45 (y_assign rfl) rfl rfl rfl ?_; intro a46 hE47; clear hE45
      refine c_nil ?_
      have hE48 := hE47.sub (L' := [(4, .bool (decide ((F_image pp1 mask) = mask)))]) ⟨rfl, trivial⟩; clear hE47
      refine p_tn ?_
      have hE49 := hE48.sub (L' := [(4, .bool (decide ((F_image pp1 mask) = mask)))]) ⟨rfl, trivial⟩
      have hS50 := (St.pick (Γ' := [.rd 1 pp1A pp1.length pp1C pp1, .blk b2 #[.int .i64 pp0, .slice pp1A pp1.length pp1C] 27]) hS38 [1, 0] (by decide) rfl)
      exact ⟨(by rw [hb25]; exact hE49), hS50⟩
    ·
      have hE51 := hE24; rw [hb25] at hE51; clear hE24
      refine q_skip hE51 rfl rfl rfl ?_; intro a52 hE53; clear hE51
      refine q_skip hE53 rfl rfl rfl ?_; intro a54 hE55; clear hE53
      refine q_skip hE55 rfl rfl rfl ?_; intro a56 hE57; clear hE55
      refine q_skip hE57 rfl rfl rfl ?_; intro a58 hE59; clear hE57
      refine q_skip hE59 rfl rfl rfl ?_; intro a60 hE61; clear hE59
      refine q_skip hE61 rfl rfl rfl ?_; intro a62 hE63; clear hE61
      refine q_step (v := .bool false) hE63 (y_pick (b := false) rfl rfl) rfl rfl rfl ?_; intro a64 hE65; clear hE63
      refine q_step (v := .bool false) hE65 (y_assign rfl) rfl rfl rfl ?_; intro a66 hE67; clear hE65
      refine c_nil ?_
      have hE68 := hE67.sub (L' := [(4, .bool false)]) ⟨rfl, trivial⟩; clear hE67
      refine p_tn ?_
      have hE69 := hE68.sub (L' := [(4, .bool false)]) ⟨rfl, trivial⟩
      have hS70 := (St.pick (Γ' := [.rd 1 pp1A pp1.length pp1C pp1, .blk b2 #[.int .i64 pp0, .slice pp1A pp1.length pp1C] 27]) hS6 [1, 0] (by decide) rfl)
      exact ⟨(by rw [hb25]; exact hE69), hS70⟩
  ·
    rintro a71 w72 ⟨hE73, hS74⟩; clear hE10 hS6
    refine wp_ret ?_
    have hF : F_Poset_isUpset pp0 pp1 mask = ((F_isMask pp0 mask) && (decide ((F_image pp1 mask) = mask))) := by unfold F_Poset_isUpset; rfl
    refine c_ret1 hE73 rfl rfl ?_
    exact ⟨(by rw [hF]; first | done | rfl), hS74.ext⟩

def F_isValuation_k1 (mask : Int) (cap00 : Int) (cap01 : List Int) : Bool :=
  (!(F_Poset_isUpset cap00 cap01 mask))
theorem cf_isValuation_k1 (args : Array Value) (w : World) : (callFunc 106 args).run Try.prog w = .ok (.enter 106 args) w := by kernel_rfl
set_option maxRecDepth 100000 in
theorem c_isValuation_k1 (mask : Int) (cap0B : Nat) (cap00 : Int) (cap01A : Option Addr) (cap01N cap01C : Nat) (cap01 : List Int) (w : World) (cap01R : RdS w 1 cap01A cap01N cap01C cap01) (cap0H : w.heap[cap0B]? = some (.cells #[.int .i64 cap00, .slice cap01A cap01N cap01C] 27 (0, 0))) (h8 : 0 ≤ cap00 ∧ cap00 ≤ 8) (hl : (cap01.length : Int) = cap00) (hm : ∀ m : Int, 0 ≤ m → m < (cap01.length : Int) → 0 ≤ gI cap01 m ∧ gI cap01 m ≤ fullI cap00) :
    Calls Try.prog 106 #[.int .i64 mask, .pointer (some ⟨cap0B, 0, none⟩)] w (Ret fun v w' => v = .bool (F_isValuation_k1 mask cap00 cap01) ∧ Ext w w') := by
  obtain rfl : cap01N = cap01.length := cap01R.len1.symm
  have cap01Le := cap01R.le
  have hS := St.nil w
  have hS1 := St.rd0 hS rfl cap01R; clear hS
  have hS2 := St.rb0 hS1 rfl cap0H; clear hS1
  refine enter (args := [.int .i64 mask, .pointer (some ⟨cap0B, 0, none⟩)]) Try.func106 rfl rfl ?_
  rw [Try.ntmps106]; intro a hE
  have hE := hE.sub (L' := [(0, .int .i64 mask), (1, .pointer (some ⟨cap0B, 0, none⟩))]) ⟨rfl, rfl, trivial⟩
  refine c_seq ?_
  refine c_reg ?_
  refine q_step (v := .bool false) hE (y_assign rfl) rfl rfl rfl ?_; intro a3 hE4; clear hE
  refine c_nil ?_
  have hE5 := hE4.sub (L' := [(0, .int .i64 mask), (1, .pointer (some ⟨cap0B, 0, none⟩))]) ⟨rfl, rfl, trivial⟩; clear hE4
  refine p_tn ?_
  refine c_seq ?_
  refine c_reg ?_
  refine q_step (v := .agg #[.int .i64 cap00, .slice cap01A cap01.length cap01C]) hE5 (y_loadS Try.underlying27 rfl (by kernel_rfl) rfl (St.rowR (i := 0) hS2 rfl)) rfl rfl rfl ?_; intro a6 hE7; clear hE5
  refine q_step (v := .int .i64 mask) hE7 (y_move rfl) rfl rfl rfl ?_; intro a8 hE9; clear hE7
  refine l_step hE9 rfl (l_call (f := 107) (argv := [.agg #[.int .i64 cap00, .slice cap01A cap01.length cap01C], .int .i64 mask]) hE9 (fun _ => cf_Poset_isUpset _ _) rfl rfl (c_Poset_isUpset cap00 cap01A cap01.length cap01C cap01 mask w (St.rdR (i := 1) hS2 rfl) (by omega) (by omega) (by omega)) ?_)
  rintro _ w11 ⟨rfl, he15⟩ a12 hE13; clear hE9
  have hS14 := St.go hS2 he15; clear hS2
  refine q_step (v := .bool (!(F_Poset_isUpset cap00 cap01 mask))) hE13 (y_not rfl) rfl rfl rfl ?_; intro a16 hE17; clear hE13
  refine q_step (v := .bool (!(F_Poset_isUpset cap00 cap01 mask))) hE17 (y_assign rfl) rfl rfl rfl ?_; intro a18 hE19; clear hE17
  refine c_nil ?_
  have hE20 := hE19.sub (L' := [(3, .bool (!(F_Poset_isUpset cap00 cap01 mask)))]) ⟨rfl, trivial⟩; clear hE19
  refine p_tn ?_
  refine wp_ret ?_
  have hF : F_isValuation_k1 mask cap00 cap01 = (!(F_Poset_isUpset cap00 cap01 mask)) := by unfold F_isValuation_k1; rfl
  refine c_ret1 hE20 rfl rfl ?_
  exact ⟨(by rw [hF]; first | done | rfl), hS14.ext⟩

def F_isValuation (pp0 : Int) (pp1 : List Int) (vals : List Int) : Bool :=
  ((F_isPoset pp0 pp1) && ((decide ((vals.length : Int) = 6)) && (!(F_z_ContainsFunc vals (fun x0 => F_isValuation_k1 x0 pp0 pp1)))))
theorem cf_isValuation (args : Array Value) (w : World) : (callFunc 77 args).run Try.prog w = .ok (.enter 77 args) w := by kernel_rfl
set_option maxRecDepth 100000 in
theorem c_isValuation (pp0 : Int) (pp1A : Option Addr) (pp1N pp1C : Nat) (pp1 : List Int) (valsA : Option Addr) (valsN valsC : Nat) (vals : List Int) (w : World) (pp1R : RdS w 1 pp1A pp1N pp1C pp1) (valsR : RdS w 1 valsA valsN valsC vals) :
    Calls Try.prog 77 #[.agg #[.int .i64 pp0, .slice pp1A pp1N pp1C], .slice valsA valsN valsC] w (Ret fun v w' => v = .bool (F_isValuation pp0 pp1 vals) ∧ Ext w w') := by
  obtain rfl : pp1N = pp1.length := pp1R.len1.symm
  have pp1Le := pp1R.le
  obtain rfl : valsN = vals.length := valsR.len1.symm
  have valsLe := valsR.le
  have hS := St.nil w
  have hS1 := St.rd0 hS rfl pp1R; clear hS
  have hS2 := St.rd0 hS1 rfl valsR; clear hS1
  refine enter (args := [.agg #[.int .i64 pp0, .slice pp1A pp1.length pp1C], .slice valsA vals.length valsC]) Try.func77 rfl rfl ?_
  rw [Try.ntmps77]; intro a hE
  have hE := hE.sub (L' := [(0, .agg #[.int .i64 pp0, .slice pp1A pp1.length pp1C]), (1, .slice valsA vals.length valsC)]) ⟨rfl, rfl, trivial⟩
  refine c_seq ?_
  refine c_reg ?_
  refine l_step hE rfl (l_box (v := .agg #[.int .i64 pp0, .slice pp1A pp1.length pp1C]) (cs := #[.int .i64 pp0, .slice pp1A pp1.length pp1C]) hS2 hE rfl rfl rfl ?_)
  intro b3 w4 hS7 he8 a5 hE6; clear hS2 hE
  refine q_step (v := .bool false) hE6 (y_assign rfl) rfl rfl rfl ?_; intro a9 hE10; clear hE6
  refine c_nil ?_
  have hE11 := hE10.sub (L' := [(1, .slice valsA vals.length valsC), (2, .pointer (some ⟨b3, 0, none⟩))]) ⟨rfl, rfl, trivial⟩; clear hE10
  refine p_tn ?_
  refine c_cut (fun a' w' => E a' 18 [(4, .bool ((F_isPoset pp0 pp1) && ((decide ((vals.length : Int) = 6)) && (!(F_z_ContainsFunc vals (fun x0 => F_isValuation_k1 x0 pp0 pp1))))))] ∧ St w w' [.rd 1 pp1A pp1.length pp1C pp1, .blk b3 #[.int .i64 pp0, .slice pp1A pp1.length pp1C] 27, .rd 1 valsA vals.length valsC vals]) ?_ ?_
  ·
    refine c_reg ?_
    refine q_step (v := .agg #[.int .i64 pp0, .slice pp1A pp1.length pp1C]) hE11 (y_loadS Try.underlying27 rfl (by kernel_rfl) rfl (St.row (i := 0) hS7 rfl)) rfl rfl rfl ?_; intro a12 hE13; clear hE11
    refine l_step hE13 rfl (l_call (f := 51) (argv := [.agg #[.int .i64 pp0, .slice pp1A pp1.length pp1C]]) hE13 (fun _ => cf_isPoset _ _) rfl rfl (c_isPoset pp0 pp1A pp1.length pp1C pp1 w4 (St.rdR (i := 2) hS7 rfl)) ?_)
    rintro _ w15 ⟨rfl, he19⟩ a16 hE17; clear hE13
    have hS18 := St.go hS7 he19; clear hS7
    refine q_step (v := .bool (F_isPoset pp0 pp1)) hE17 (y_move rfl) rfl rfl rfl ?_; intro a20 hE21; clear hE17
    rcases Bool.eq_false_or_eq_true (F_isPoset pp0 pp1) with hb22 | hb22
    ·
      have hE23 := hE21; rw [hb22] at hE23; clear hE21
      have hp24 := isPoset_t hb22
      refine q_step (v := .slice valsA vals.length valsC) hE23 (y_move rfl) rfl rfl rfl ?_; intro a25 hE26; clear hE23
      refine q_step (v := .int .i64 (vals.length : Int)) hE26 (y_len (e := 2) (by kernel_rfl) rfl) rfl rfl rfl ?_; intro a27 hE28; clear hE26
      refine q_step (v := .bool (decide ((vals.length : Int) = 6))) hE28 (y_eql rfl rfl) rfl rfl rfl ?_; intro a29 hE30; clear hE28
      refine q_step (v := .bool (decide ((vals.length : Int) = 6))) hE30 (y_pick (b := true) rfl rfl) rfl rfl rfl ?_; intro a31 hE32; clear hE30
      refine q_step (v := .bool (decide ((vals.length : Int) = 6))) hE32 (y_move rfl) rfl rfl rfl ?_; intro a33 hE34; clear hE32
      rcases Bool.eq_false_or_eq_true (decide ((vals.length : Int) = 6)) with hb35 | hb35
      ·
        have hE36 := hE34; rw [hb35] at hE36; clear hE34
        have hp37 := of_decide_eq_true hb35
        refine q_step (v := .slice valsA vals.length valsC) hE36 (y_move rfl) rfl rfl rfl ?_; intro a38 hE39; clear hE36
        refine q_step (v := .func (.func 106) #[] #[.pointer (some ⟨b3, 0, none⟩)]) hE39 (y_makeFunc (vs := [.pointer (some ⟨b3, 0, none⟩)]) rfl) rfl rfl rfl ?_; intro a40 hE41; clear hE39
        refine l_step hE41 rfl (l_call (f := 95) (argv := [.slice valsA vals.length valsC, .func (.func 106) #[] #[.pointer (some ⟨b3, 0, none⟩)]]) hE41 (fun _ => cf_z_ContainsFunc _ _) rfl rfl (c_z_ContainsFunc valsA vals.length valsC vals 106 [.pointer (some ⟨b3, 0, none⟩)] (fun x0 => F_isValuation_k1 x0 pp0 pp1) (fun _ => True) w15 (St.rdR (i := 1) hS18 rfl) (fun _ _ => cf_isValuation_k1 _ _) (fun x0 w' hx he => c_isValuation_k1 x0 b3 pp0 pp1A pp1.length pp1C pp1 w' (RdS.ext (St.rdR (i := 2) hS18 rfl) he) (St.row (i := 0) hS18 rfl w' he) (by omega) (by omega) (isPoset_t (by assumption)).2.2) (fun _ _ _ => trivial)) ?_)
        rintro _ w43 ⟨rfl, he47⟩ a44 hE45; clear hE41
        have hS46 := St.go hS18 he47; clear hS18
        refine q_step (v := .bool (!(F_z_ContainsFunc vals (fun x0 => F_isValuation_k1 x0 pp0 pp1)))) hE45 (y_not rfl) rfl rfl rfl ?_; intro a48 hE49; clear hE45
        refine q_step (v := .bool (!(F_z_ContainsFunc vals (fun x0 => F_isValuation_k1 x0 pp0 pp1)))) hE49 (y_pick (b := true) rfl rfl) rfl rfl rfl ?_; intro a50 hE51; clear hE49
        refine q_step (v := .bool (!(F_z_ContainsFunc vals (fun x0 => F_isValuation_k1 x0 pp0 pp1)))) hE51 (y_assign rfl) rfl rfl rfl ?_; intro a52 hE53; clear hE51
        refine c_nil ?_
        have hE54 := hE53.sub (L' := [(4, .bool (!(F_z_ContainsFunc vals (fun x0 => F_isValuation_k1 x0 pp0 pp1))))]) ⟨rfl, trivial⟩; clear hE53
        refine p_tn ?_
        have hE55 := hE54.sub (L' := [(4, .bool (!(F_z_ContainsFunc vals (fun x0 => F_isValuation_k1 x0 pp0 pp1))))]) ⟨rfl, trivial⟩
        have hS56 := (St.pick (Γ' := [.rd 1 pp1A pp1.length pp1C pp1, .blk b3 #[.int .i64 pp0, .slice pp1A pp1.length pp1C] 27, .rd 1 valsA vals.length valsC vals]) hS46 [2, 0, 1] (by decide) rfl)
        exact ⟨(by rw [hb35, hb22]; exact hE55), hS56⟩
      ·
        have hE57 := hE34; rw [hb35] at hE57; clear hE34
        have hp58 := of_decide_eq_false hb35
        refine q_skip hE57 rfl rfl rfl ?_; intro a59 hE60; clear hE57
        refine q_skip hE60 rfl rfl rfl ?_; intro a61 hE62; clear hE60
        refine q_skip hE62 rfl rfl rfl ?_; intro a63 hE64; clear hE62
        refine q_skip hE64 rfl rfl rfl ?_; intro a65 hE66; clear hE64
        refine q_step (v := .bool false) hE66 (y_pick (b := false) rfl rfl) rfl rfl rfl ?_; intro a67 hE68; clear hE66
        refine q_step (v := .bool false) hE68 (y_assign rfl) rfl rfl rfl ?_; intro a69 hE70; clear hE68
        refine c_nil ?_
        have hE71 := hE70.sub (L' := [(4, .bool false)]) ⟨rfl, trivial⟩; clear hE70
        refine p_tn ?_
        have hE72 := hE71.sub (L' := [(4, .bool false)]) ⟨rfl, trivial⟩
        have hS73 := (St.pick (Γ' := [.rd 1 pp1A pp1.length pp1C pp1, .blk b3 #[.int .i64 pp0, .slice pp1A pp1.length pp1C] 27, .rd 1 valsA vals.length valsC vals]) hS18 [2, 0, 1] (by decide) rfl)
        exact ⟨(by rw [hb35, hb22]; exact hE72), hS73⟩
    ·
      have hE74 := hE21; rw [hb22] at hE74; clear hE21
      refine q_skip hE74 rfl rfl rfl ?_; intro a75 hE76; clear hE74
      refine q_skip hE76 rfl rfl rfl ?_; intro a77 hE78; clear hE76
      refine q_skip hE78 rfl rfl rfl ?_; intro a79 hE80; clear hE78
      refine q_step (v := .bool false) hE80 (y_pick (b := false) rfl rfl) rfl rfl rfl ?_; intro a81 hE82; clear hE80
      refine q_step (v := .bool false) hE82 (y_move rfl) rfl rfl rfl ?_; intro a83 hE84; clear hE82
      refine q_skip hE84 rfl rfl rfl ?_; intro a85 hE86; clear hE84
      refine q_skip hE86 rfl rfl rfl ?_; intro a87 hE88; clear hE86
      refine q_skip hE88 rfl rfl rfl ?_; intro a89 hE90; clear hE88
      refine q_skip hE90 rfl rfl rfl ?_; intro a91 hE92; clear hE90
      refine q_step (v := .bool false) hE92 (y_pick (b := false) rfl rfl) rfl rfl rfl ?_; intro a93 hE94; clear hE92
      refine q_step (v := .bool false) hE94 (y_assign rfl) rfl rfl rfl ?_; intro a95 hE96; clear hE94
      refine c_nil ?_
      have hE97 := hE96.sub (L' := [(4, .bool false)]) ⟨rfl, trivial⟩; clear hE96
      refine p_tn ?_
      have hE98 := hE97.sub (L' := [(4, .bool false)]) ⟨rfl, trivial⟩
      have hS99 := (St.pick (Γ' := [.rd 1 pp1A pp1.length pp1C pp1, .blk b3 #[.int .i64 pp0, .slice pp1A pp1.length pp1C] 27, .rd 1 valsA vals.length valsC vals]) hS18 [2, 0, 1] (by decide) rfl)
      exact ⟨(by rw [hb22]; exact hE98), hS99⟩
  ·
    rintro a100 w101 ⟨hE102, hS103⟩; clear hE11 hS7
    refine wp_ret ?_
    have hF : F_isValuation pp0 pp1 vals = ((F_isPoset pp0 pp1) && ((decide ((vals.length : Int) = 6)) && (!(F_z_ContainsFunc vals (fun x0 => F_isValuation_k1 x0 pp0 pp1))))) := by unfold F_isValuation; rfl
    refine c_ret1 hE102 rfl rfl ?_
    exact ⟨(by rw [hF]; first | done | rfl), hS103.ext⟩

def F_IsValuation (pp0 : Int) (pp1 : List Int) (vals : List Int) : Bool :=
  F_isValuation pp0 pp1 vals
theorem cf_IsValuation (args : Array Value) (w : World) : (callFunc 42 args).run Try.prog w = .ok (.enter 42 args) w := by kernel_rfl
set_option maxRecDepth 100000 in
theorem c_IsValuation (pp0 : Int) (pp1A : Option Addr) (pp1N pp1C : Nat) (pp1 : List Int) (valsA : Option Addr) (valsN valsC : Nat) (vals : List Int) (w : World) (pp1R : RdS w 1 pp1A pp1N pp1C pp1) (valsR : RdS w 1 valsA valsN valsC vals) :
    Calls Try.prog 42 #[.agg #[.int .i64 pp0, .slice pp1A pp1N pp1C], .slice valsA valsN valsC] w (Ret fun v w' => v = .bool (F_IsValuation pp0 pp1 vals) ∧ Ext w w') := by
  obtain rfl : pp1N = pp1.length := pp1R.len1.symm
  have pp1Le := pp1R.le
  obtain rfl : valsN = vals.length := valsR.len1.symm
  have valsLe := valsR.le
  have hS := St.nil w
  have hS1 := St.rd0 hS rfl pp1R; clear hS
  have hS2 := St.rd0 hS1 rfl valsR; clear hS1
  refine enter (args := [.agg #[.int .i64 pp0, .slice pp1A pp1.length pp1C], .slice valsA vals.length valsC]) Try.func42 rfl rfl ?_
  rw [Try.ntmps42]; intro a hE
  have hE := hE.sub (L' := [(0, .agg #[.int .i64 pp0, .slice pp1A pp1.length pp1C]), (1, .slice valsA vals.length valsC)]) ⟨rfl, rfl, trivial⟩
  refine c_seq ?_
  refine c_reg ?_
  refine l_step hE rfl (l_box (v := .agg #[.int .i64 pp0, .slice pp1A pp1.length pp1C]) (cs := #[.int .i64 pp0, .slice pp1A pp1.length pp1C]) hS2 hE rfl rfl rfl ?_)
  intro b3 w4 hS7 he8 a5 hE6; clear hS2 hE
  refine q_step (v := .bool false) hE6 (y_assign rfl) rfl rfl rfl ?_; intro a9 hE10; clear hE6
  refine c_nil ?_
  have hE11 := hE10.sub (L' := [(1, .slice valsA vals.length valsC), (2, .pointer (some ⟨b3, 0, none⟩))]) ⟨rfl, rfl, trivial⟩; clear hE10
  refine p_tn ?_
  refine c_seq ?_
  refine c_reg ?_
  refine q_step (v := .agg #[.int .i64 pp0, .slice pp1A pp1.length pp1C]) hE11 (y_loadS Try.underlying27 rfl (by kernel_rfl) rfl (St.row (i := 0) hS7 rfl)) rfl rfl rfl ?_; intro a12 hE13; clear hE11
  refine q_step (v := .slice valsA vals.length valsC) hE13 (y_move rfl) rfl rfl rfl ?_; intro a14 hE15; clear hE13
  refine l_step hE15 rfl (l_call (f := 77) (argv := [.agg #[.int .i64 pp0, .slice pp1A pp1.length pp1C], .slice valsA vals.length valsC]) hE15 (fun _ => cf_isValuation _ _) rfl rfl (c_isValuation pp0 pp1A pp1.length pp1C pp1 valsA vals.length valsC vals w4 (St.rdR (i := 2) hS7 rfl) (St.rdR (i := 1) hS7 rfl)) ?_)
  rintro _ w17 ⟨rfl, he21⟩ a18 hE19; clear hE15
  have hS20 := St.go hS7 he21; clear hS7
  refine q_step (v := .bool (F_isValuation pp0 pp1 vals)) hE19 (y_assign rfl) rfl rfl rfl ?_; intro a22 hE23; clear hE19
  refine c_nil ?_
  have hE24 := hE23.sub (L' := [(4, .bool (F_isValuation pp0 pp1 vals))]) ⟨rfl, trivial⟩; clear hE23
  refine p_tn ?_
  refine wp_ret ?_
  have hF : F_IsValuation pp0 pp1 vals = F_isValuation pp0 pp1 vals := by unfold F_IsValuation; rfl
  refine c_ret1 hE24 rfl rfl ?_
  exact ⟨(by rw [hF]; first | done | rfl), hS20.ext⟩

theorem IsValuation_eq (p0 : Int) (p1 vals : List Int) : F_IsValuation p0 p1 vals = F_s_IsValuation p0 p1 vals := by
  unfold F_IsValuation F_s_IsValuation F_isValuation F_l17Is
  rw [isPoset_eq]
  cases h : F_l16Is p0 p1
  · simp only [Bool.false_and]
  · obtain ⟨hR, hn⟩ := l16_rl h
    have hp := l16Is_t h
    have hP : ((p0.toNat : Nat) : Int) = p0 := by omega
    rw [show Int.toNat ((vals.length : Int) - 0) = vals.length by omega, allLoop (F_l17Is_L1 p1 vals) vals.length (fun i => !decide (F_l01Image p1 (gI vals i) = gI vals i)) (fun _ _ => rfl) vals.length 0 (by omega),
      show (fun j : Nat => !(!decide (F_l01Image p1 (gI vals (0 + (j : Int))) = gI vals (0 + (j : Int))))) = (fun j : Nat => (fun x => !(!decide (F_l01Image p1 x = x))) (gI vals (0 + (j : Int)))) from rfl, range_all_gI vals (fun x => !(!decide (F_l01Image p1 x = x))), contains_eq, masks_eq]
    by_cases hl : (vals.length : Int) = 6
    · rw [decide_eq_true hl]
      simp only [Bool.true_and, Bool.not_true, Bool.false_or, Bool.not_not]
      rw [List.any_eq_not_all_not, Bool.not_not]
      have e : ∀ x, (!(F_isValuation_k1 x p0 p1)) = (F_l01In x 0 (fullI p0) && decide (F_l01Image p1 x = x)) := fun x => by
        unfold F_isValuation_k1 F_Poset_isUpset
        rw [Bool.not_not, isMask_eq hp.1.1 (by omega)]
        cases hx : F_l01In x 0 (fullI p0)
        · rfl
        · have hx' := F_l01In_t hx
          rw [image_eq (n := p0.toNat) (by omega) hR.1 ⟨hx'.1, by rw [hP]; exact hx'.2⟩]
      simp only [e]
      rw [Bool.eq_iff_iff]
      cases hm : vals.all (fun x => F_l01In x 0 (fullI p0))
      · simp only [Bool.not_false, cond_true]
        constructor
        · intro a
          have : vals.all (fun x => F_l01In x 0 (fullI p0)) = true := List.all_eq_true.2 fun x hx => (Bool.and_eq_true _ _ ▸ List.all_eq_true.1 a x hx).1
          rw [hm] at this; cases this
        · intro a; cases a
      · simp only [Bool.not_true, cond_false]
        rw [List.all_eq_true, List.all_eq_true]
        constructor
        · intro a x hx; have := a x hx; rw [Bool.and_eq_true] at this; exact this.2
        · intro a x hx; rw [Bool.and_eq_true]; exact ⟨List.all_eq_true.1 hm x hx, a x hx⟩
    · rw [decide_eq_false hl]
      simp only [Bool.false_and, Bool.true_and, Bool.not_false, Bool.true_or, cond_true]

end Go.Proofs.Ythogljcjjmclcaa
