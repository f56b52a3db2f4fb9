/- GDR: models and contracts, printed by wip/gen/gen.py -/
import Derived.Test.YtlbonhloeefnmaaGC
import Derived.Test.YtlbonhloeefnmaaByte
set_option linter.unusedVariables false
set_option linter.unusedSimpArgs false
namespace Go.Proofs.Ytlbonhloeefnmaa
open Go.RowKit

def F_l_big (code : List Int) : Bool :=
  decide (4096 < (code.length : Int))
theorem cf_l_big (args : Array Value) (w : World) : (callFunc 49 args).run Try.prog w = .ok (.enter 49 args) w := by kernel_rfl
set_option maxRecDepth 100000 in
theorem c_l_big (codeA : Option Addr) (codeN codeC : Nat) (code : List Int) (w : World) (codeR : RdB w codeA codeN codeC code) :
    Calls Try.prog 49 #[.slice codeA code.length codeC] w (Ret fun v w' => v = .bool (F_l_big code) ∧ w = w') := by
  obtain rfl : codeN = code.length := codeR.len
  have codeLe := codeR.le
  have hS := St.nil w
  refine enter (args := [.slice codeA code.length codeC]) Try.func49 rfl rfl ?_
  rw [Try.ntmps49]; intro a hE
  have hE := hE.sub (L' := [(0, .slice codeA code.length codeC)]) ⟨rfl, trivial⟩
  refine c_seq ?_
  refine c_reg ?_
  refine q_step (v := .bool false) hE (y_assign rfl) rfl rfl rfl ?_; intro a1 hE2; clear hE
  refine c_nil ?_
  have hE3 := hE2.sub (L' := [(0, .slice codeA code.length codeC)]) ⟨rfl, trivial⟩; clear hE2
  refine p_tn ?_
  refine c_seq ?_
  refine c_reg ?_
  refine q_step (v := .slice codeA code.length codeC) hE3 (y_move rfl) rfl rfl rfl ?_; intro a4 hE5; clear hE3
  refine q_step (v := .int .i64 (code.length : Int)) hE5 (y_len (e := 5) (by kernel_rfl) rfl) rfl rfl rfl ?_; intro a6 hE7; clear hE5
  refine q_step (v := .bool (decide (4096 < (code.length : Int)))) hE7 (y_gtr rfl rfl) rfl rfl rfl ?_; intro a8 hE9; clear hE7
  refine q_step (v := .bool (decide (4096 < (code.length : Int)))) hE9 (y_assign rfl) rfl rfl rfl ?_; intro a10 hE11; clear hE9
  refine c_nil ?_
  have hE12 := hE11.sub (L' := [(2, .bool (decide (4096 < (code.length : Int))))]) ⟨rfl, trivial⟩; clear hE11
  refine p_tn ?_
  refine wp_ret ?_
  have hF : F_l_big code = decide (4096 < (code.length : Int)) := by unfold F_l_big; rfl
  refine c_ret1 hE12 rfl rfl ?_
  exact ⟨(by rw [hF]; first | done | (dsimp only; done) | rfl), rfl⟩

def F_l01From_L1b (code : List Int) (rec : Int → Int → Int × Int) (i4 : Int) (q1_2 : Int) : Int × Int :=
  bif ((decide (i4 < (code.length : Int))) && (decide (i4 < 4096))) then (rec (i4 + 1) (wrU ((wrU ((wrU (q1_2 * 1099511628211)) + (gI code i4))) + 11))) else (i4, q1_2)
def F_l01From_L1 (code : List Int) : Nat → Int → Int → Int × Int
  | 0, i4, q1_2 => (i4, q1_2)
  | r + 1, i4, q1_2 => F_l01From_L1b code (F_l01From_L1 code r) i4 q1_2
def F_l01From (code : List Int) : Nat × Int :=
  (0, (F_l01From_L1 code (Int.toNat ((code.length : Int) - 0) + 1) 0 (wrU (7129 + (code.length : Int)))).2)
theorem cf_l01From (args : Array Value) (w : World) : (callFunc 128 args).run Try.prog w = .ok (.enter 128 args) w := by kernel_rfl
set_option maxRecDepth 100000 in
theorem c_l01From (codeA : Option Addr) (codeN codeC : Nat) (code : List Int) (w : World) (codeR : RdB w codeA codeN codeC code) :
    Calls Try.prog 128 #[.slice codeA code.length codeC] w (Ret fun v w' => ∃ pB : Nat, v = .pointer (some ⟨pB, 0, none⟩) ∧ St w w' [.blk pB #[.slice codeA codeN codeC, .int .i64 (((F_l01From code).1 : Nat) : Int), .int .u64 (F_l01From code).2] 156]) := by
  obtain rfl : codeN = code.length := codeR.len
  have codeLe := codeR.le
  have hS := St.nil w
  refine enter (args := [.slice codeA code.length codeC]) Try.func128 rfl rfl ?_
  rw [Try.ntmps128]; intro a hE
  have hE := hE.sub (L' := [(0, .slice codeA code.length codeC)]) ⟨rfl, trivial⟩
  refine c_seq ?_
  refine c_reg ?_
  refine q_step (v := .pointer none) hE (y_assign rfl) rfl rfl rfl ?_; intro a1 hE2; clear hE
  refine c_nil ?_
  have hE3 := hE2.sub (L' := [(0, .slice codeA code.length codeC)]) ⟨rfl, trivial⟩; clear hE2
  refine p_tn ?_
  refine c_seq ?_
  refine c_reg ?_
  refine q_step (v := .slice codeA code.length codeC) hE3 (y_move rfl) rfl rfl rfl ?_; intro a4 hE5; clear hE3
  refine q_step (v := .slice codeA code.length codeC) hE5 (y_move rfl) rfl rfl rfl ?_; intro a6 hE7; clear hE5
  refine q_step (v := .int .i64 (code.length : Int)) hE7 (y_len (e := 5) (by kernel_rfl) rfl) rfl rfl rfl ?_; intro a8 hE9; clear hE7
  refine q_step (v := .int .u64 (code.length : Int)) hE9 (y_conv (ds := .int .i64) (by kernel_rfl) (by kernel_rfl) rfl (wU64 (by omega) (by omega))) rfl rfl rfl ?_; intro a10 hE11; clear hE9
  refine q_step (v := .int .u64 (wrU (7129 + (code.length : Int)))) hE11 (y_addU rfl rfl) rfl rfl rfl ?_; intro a12 hE13; clear hE11
  refine q_step (v := .agg #[.slice codeA code.length codeC, .int .i64 0, .int .u64 (wrU (7129 + (code.length : Int)))]) hE13 (y_build (vs := #[(0, .slice codeA code.length codeC), (2, .int .u64 (wrU (7129 + (code.length : Int))))]) (fun a n hE => by simp only [hE.eval (x := .tmp 5) (v := .slice codeA code.length codeC) rfl, hE.eval (x := .tmp 9) (v := .int .u64 (wrU (7129 + (code.length : Int)))) rfl, List.map_toArray, List.map_cons, List.map_nil]) (fun _ => by kernel_rfl)) rfl rfl rfl ?_; intro a14 hE15; clear hE13
  refine l_step hE15 rfl (l_box (v := .agg #[.slice codeA code.length codeC, .int .i64 0, .int .u64 (wrU (7129 + (code.length : Int)))]) (cs := #[.slice codeA code.length codeC, .int .i64 0, .int .u64 (wrU (7129 + (code.length : Int)))]) hS hE15 rfl rfl rfl ?_)
  intro b16 w17 hS20 he21 a18 hE19; clear hS hE15
  refine q_step (v := .pointer (some ⟨b16, 0, none⟩)) hE19 (y_assign rfl) rfl rfl rfl ?_; intro a22 hE23; clear hE19
  refine c_nil ?_
  have hE24 := hE23.sub (L' := [(0, .slice codeA code.length codeC), (3, .pointer (some ⟨b16, 0, none⟩))]) ⟨rfl, rfl, trivial⟩; clear hE23
  refine p_tn ?_
  refine c_seq ?_
  refine c_seq ?_
  refine c_reg ?_
  refine q_step (v := .int .i64 0) hE24 (y_assign rfl) rfl rfl rfl ?_; intro a25 hE26; clear hE24
  refine c_nil ?_
  have hE27 := hE26.sub (L' := [(0, .slice codeA code.length codeC), (3, .pointer (some ⟨b16, 0, none⟩)), (4, .int .i64 0)]) ⟨rfl, rfl, rfl, trivial⟩; clear hE26
  refine p_tn ?_
  refine c_cut1 (fun a' w' => (0 ≤ ((F_l01From_L1 code (Int.toNat ((code.length : Int) - 0) + 1) 0 (wrU (7129 + (code.length : Int)))).1)) ∧ E a' 38 [(0, .slice codeA code.length codeC), (3, .pointer (some ⟨b16, 0, none⟩)), (4, .int .i64 ((F_l01From_L1 code (Int.toNat ((code.length : Int) - 0) + 1) 0 (wrU (7129 + (code.length : Int)))).1))] ∧ St w w' [.blk b16 #[.slice codeA code.length codeC, .int .i64 0, .int .u64 ((F_l01From_L1 code (Int.toNat ((code.length : Int) - 0) + 1) 0 (wrU (7129 + (code.length : Int)))).2)] 156]) ?_ ?_
  ·
   refine wp_block ?_
   refine c_loop (fun r a' w' => ∃ i4 : Int, ∃ q1_2 : Int, F_l01From_L1 code r i4 q1_2 = F_l01From_L1 code (Int.toNat ((code.length : Int) - 0) + 1) 0 (wrU (7129 + (code.length : Int))) ∧ Int.toNat ((code.length : Int) - i4) < r ∧ (0 ≤ i4) ∧ E a' 38 [(0, .slice codeA code.length codeC), (3, .pointer (some ⟨b16, 0, none⟩)), (4, .int .i64 i4)] ∧ St w w' [.blk b16 #[.slice codeA code.length codeC, .int .i64 0, .int .u64 q1_2] 156]) (r := (Int.toNat ((code.length : Int) - 0) + 1)) ?_ ?_
   · exact ⟨0, wrU (7129 + (code.length : Int)), rfl, Nat.lt_succ_self _, (by first | omega | (simp only [sS_len, sL_len]; omega) | (simp only [List.length_replicate, sI_len]; omega) | (simp only [List.length_append, List.length_cons, List.length_nil, sI_len, cond_true, cond_false]; omega) | (simp only [List.length_append, List.length_cons, List.length_nil, sI_len, cond_eq_ite, apply_ite List.length]; split <;> simp only [List.length_append, List.length_cons, List.length_nil, sI_len] <;> omega) | grind), (hE27.sub (L' := [(0, .slice codeA code.length codeC), (3, .pointer (some ⟨b16, 0, none⟩)), (4, .int .i64 0)]) ⟨rfl, rfl, rfl, trivial⟩), (St.pick (Γ' := [.blk b16 #[.slice codeA code.length codeC, .int .i64 0, .int .u64 (wrU (7129 + (code.length : Int)))] 156]) hS20 [0] (by decide) rfl)⟩
   ·
    clear hE27 hS20
    rintro r36 a29 w30 ⟨i4, q1_2, hT33, hr34, hi35, hE31, hS32⟩
    obtain ⟨r36, rfl⟩ : ∃ r', r36 = r' + 1 := ⟨r36 - 1, by omega⟩
    refine c_seq ?_
    refine c_cut (fun a' w' => E a' 38 [(0, .slice codeA code.length codeC), (3, .pointer (some ⟨b16, 0, none⟩)), (4, .int .i64 i4), (19, .bool ((decide (i4 < (code.length : Int))) && (decide (i4 < 4096))))] ∧ St w w' [.blk b16 #[.slice codeA code.length codeC, .int .i64 0, .int .u64 q1_2] 156]) ?_ ?_
    ·
     refine c_reg ?_
     refine q_step (v := .int .i64 i4) hE31 (y_move rfl) rfl rfl rfl ?_; intro a37 hE38; clear hE31
     refine q_step (v := .slice codeA code.length codeC) hE38 (y_move rfl) rfl rfl rfl ?_; intro a39 hE40; clear hE38
     refine q_step (v := .int .i64 (code.length : Int)) hE40 (y_len (e := 5) (by kernel_rfl) rfl) rfl rfl rfl ?_; intro a41 hE42; clear hE40
     refine q_step (v := .bool (decide (i4 < (code.length : Int)))) hE42 (y_lss rfl rfl) rfl rfl rfl ?_; intro a43 hE44; clear hE42
     refine q_step (v := .bool (decide (i4 < (code.length : Int)))) hE44 (y_move rfl) rfl rfl rfl ?_; intro a45 hE46; clear hE44
     rcases Bool.eq_false_or_eq_true (decide (i4 < (code.length : Int))) with hb47 | hb47
     ·
      have hE48 := hE46; (try rw [hb47] at hE48); clear hE46
      have hp49 := of_decide_eq_true hb47
      refine q_step (v := .int .i64 i4) hE48 (y_move rfl) rfl rfl rfl ?_; intro a50 hE51; clear hE48
      refine q_step (v := .bool (decide (i4 < 4096))) hE51 (y_lss rfl rfl) rfl rfl rfl ?_; intro a52 hE53; clear hE51
      refine q_step (v := .bool (decide (i4 < 4096))) hE53 (y_pick (b := true) rfl rfl) rfl rfl rfl ?_; intro a54 hE55; clear hE53
      refine c_nil ?_
      have hE56 := hE55.sub (L' := [(0, .slice codeA code.length codeC), (3, .pointer (some ⟨b16, 0, none⟩)), (4, .int .i64 i4), (19, .bool (decide (i4 < 4096)))]) ⟨rfl, rfl, rfl, rfl, trivial⟩; clear hE55
      refine p_tn ?_
      have hE57 := hE56.sub (L' := [(0, .slice codeA code.length codeC), (3, .pointer (some ⟨b16, 0, none⟩)), (4, .int .i64 i4), (19, .bool (decide (i4 < 4096)))]) ⟨rfl, rfl, rfl, rfl, trivial⟩
      have hS58 := (St.pick (Γ' := [.blk b16 #[.slice codeA code.length codeC, .int .i64 0, .int .u64 q1_2] 156]) hS32 [0] (by decide) rfl)
      exact ⟨(by rw [hb47]; exact hE57), hS58⟩
     ·
      have hE59 := hE46; (try rw [hb47] at hE59); clear hE46
      have hp60 := of_decide_eq_false hb47
      refine q_skip hE59 rfl rfl rfl ?_; intro a61 hE62; clear hE59
      refine q_skip hE62 rfl rfl rfl ?_; intro a63 hE64; clear hE62
      refine q_step (v := .bool false) hE64 (y_pick (b := false) rfl rfl) rfl rfl rfl ?_; intro a65 hE66; clear hE64
      refine c_nil ?_
      have hE67 := hE66.sub (L' := [(0, .slice codeA code.length codeC), (3, .pointer (some ⟨b16, 0, none⟩)), (4, .int .i64 i4), (19, .bool false)]) ⟨rfl, rfl, rfl, rfl, trivial⟩; clear hE66
      refine p_tn ?_
      have hE68 := hE67.sub (L' := [(0, .slice codeA code.length codeC), (3, .pointer (some ⟨b16, 0, none⟩)), (4, .int .i64 i4), (19, .bool false)]) ⟨rfl, rfl, rfl, rfl, trivial⟩
      have hS69 := (St.pick (Γ' := [.blk b16 #[.slice codeA code.length codeC, .int .i64 0, .int .u64 q1_2] 156]) hS32 [0] (by decide) rfl)
      exact ⟨(by rw [hb47]; exact hE68), hS69⟩
    ·
     rintro a70 w71 ⟨hE72, hS73⟩; clear hE31 hS32
     refine c_cond hE72 rfl (fun ht75 => ?_) (fun ht75 => ?_)
     ·
      obtain ⟨ht76, ht77⟩ := band_t ht75
      have hp78 := of_decide_eq_true ht76
      have hp79 := of_decide_eq_true ht77
      have hE80 := hE72; rw [ht75] at hE80; clear hE72
      refine wp_skip ?_
      refine p_tn ?_
      refine c_seq ?_
      refine wp_block ?_
      refine d_start (fun w w' => (fun w' => w'.cell? ⟨b16, 2, none⟩ = some (.int .u64 q1_2) ∧ w'.cell? (adr codeA (Int.toNat i4)) = some (.int .u8 (gI code i4)) ∧ True) w → (fun w' => w'.cell? ⟨b16, 2, none⟩ = some (.int .u64 q1_2) ∧ w'.cell? (adr codeA (Int.toNat i4)) = some (.int .u8 (gI code i4)) ∧ True) w') [4, 9] 16 (by kernel_rfl) rfl ?_
      intro w81 he82; have hS83 := St.go hS73 he82; clear hS73
      refine d_pure (fun _ h => h) (v := .pointer (some ⟨b16, 0, none⟩)) 0 rfl hE80 (y_move rfl) rfl (by kernel_rfl) (by kernel_rfl) (by kernel_rfl) rfl rfl (fun _ _ _ h => h) ?_; intro a84 hE85; clear hE80
      refine d_pure (fun _ h => h) (v := .pointer (some ⟨b16, 0, none⟩)) 1 rfl hE85 (y_move rfl) rfl (by kernel_rfl) (by kernel_rfl) (by kernel_rfl) rfl rfl (fun _ _ _ h => h) ?_; intro a86 hE87; clear hE85
      refine d_pure (fun _ h => h) (v := .pointer (some ⟨b16, 0, none⟩)) 2 rfl hE87 (y_nilCheck rfl) rfl (by kernel_rfl) (by kernel_rfl) (by kernel_rfl) rfl rfl (fun _ _ _ h => h) ?_; intro a88 hE89; clear hE87
      refine d_pure (fun _ h => h) (v := .pointer (some ⟨b16, 2, none⟩)) 3 rfl hE89 (y_field rfl (fun _ => by kernel_rfl)) rfl (by kernel_rfl) (by kernel_rfl) (by kernel_rfl) rfl rfl (fun _ _ _ h => h) ?_; intro a90 hE91; clear hE89
      refine d_take (fun _ h => h) (fun _ _ h k => h k) (v := .int .u64 q1_2) 4 rfl hE91 (S := fun w' => w'.cell? ⟨b16, 2, none⟩ = some (.int .u64 q1_2) ∧ w'.cell? (adr codeA (Int.toNat i4)) = some (.int .u8 (gI code i4)) ∧ True) ⟨(St.cell (i := 0) hS83 rfl rfl _ (Ext.refl _)), (RdB.elt (codeR.ext hS83.ext) (by omega) (by omega) _ (Ext.refl _)), trivial⟩ (y_load (fun _ => by kernel_rfl) rfl (fun _ h => h.1)) rfl rfl (by kernel_rfl) (by kernel_rfl) (by kernel_rfl) (by kernel_rfl) rfl rfl (fun _ _ _ h => h) ?_; intro a92 hE93; clear hE91
      refine d_pure (fun _ h => h) (v := .int .u64 (wrU (q1_2 * 1099511628211))) 5 rfl hE93 (y_mulU rfl rfl) rfl (by kernel_rfl) (by kernel_rfl) (by kernel_rfl) rfl rfl (fun _ _ _ h => h) ?_; intro a94 hE95; clear hE93
      refine d_pure (fun _ h => h) (v := .slice codeA code.length codeC) 6 rfl hE95 (y_move rfl) rfl (by kernel_rfl) (by kernel_rfl) (by kernel_rfl) rfl rfl (fun _ _ _ h => h) ?_; intro a96 hE97; clear hE95
      refine d_pure (fun _ h => h) (v := .int .i64 i4) 7 rfl hE97 (y_move rfl) rfl (by kernel_rfl) (by kernel_rfl) (by kernel_rfl) rfl rfl (fun _ _ _ h => h) ?_; intro a98 hE99; clear hE97
      refine d_pure (fun _ h => h) (v := .pointer (some (adr codeA (Int.toNat i4)))) 8 rfl hE99 (y_idx (by kernel_rfl) (fun _ => by kernel_rfl) rfl rfl (RdB.isS (m := i4) (codeR.ext hS83.ext) (by omega) (by omega)) (by omega) (by omega) (Nat.mul_one _).symm) rfl (by kernel_rfl) (by kernel_rfl) (by kernel_rfl) rfl rfl (fun _ _ _ h => h) ?_; intro a100 hE101; clear hE99
      have hv102 := RdB.bd (codeR.ext hS83.ext) i4
      refine d_take (fun _ h => h) (fun _ _ h k => h k) (v := .int .u8 (gI code i4)) 9 rfl hE101 (S := fun w' => w'.cell? ⟨b16, 2, none⟩ = some (.int .u64 q1_2) ∧ w'.cell? (adr codeA (Int.toNat i4)) = some (.int .u8 (gI code i4)) ∧ True) ⟨(St.cell (i := 0) hS83 rfl rfl _ (Ext.refl _)), (RdB.elt (codeR.ext hS83.ext) (by omega) (by omega) _ (Ext.refl _)), trivial⟩ (y_load (fun _ => by kernel_rfl) rfl (fun _ h => h.2.1)) rfl rfl (by kernel_rfl) (by kernel_rfl) (by kernel_rfl) (by kernel_rfl) rfl rfl (fun _ _ _ h => h) ?_; intro a103 hE104; clear hE101
      refine d_pure (fun _ h => h) (v := .int .u64 (gI code i4)) 10 rfl hE104 (y_conv (ds := .int .u8) (by kernel_rfl) (by kernel_rfl) rfl (wU64 (by omega) (by omega))) rfl (by kernel_rfl) (by kernel_rfl) (by kernel_rfl) rfl rfl (fun _ _ _ h => h) ?_; intro a105 hE106; clear hE104
      refine d_pure (fun _ h => h) (v := .int .u64 (wrU ((wrU (q1_2 * 1099511628211)) + (gI code i4)))) 11 rfl hE106 (y_addU rfl rfl) rfl (by kernel_rfl) (by kernel_rfl) (by kernel_rfl) rfl rfl (fun _ _ _ h => h) ?_; intro a107 hE108; clear hE106
      refine d_pure (fun _ h => h) (v := .int .u64 (wrU ((wrU ((wrU (q1_2 * 1099511628211)) + (gI code i4))) + 11))) 12 rfl hE108 (y_addU rfl rfl) rfl (by kernel_rfl) (by kernel_rfl) (by kernel_rfl) rfl rfl (fun _ _ _ h => h) ?_; intro a109 hE110; clear hE108
      refine d_pure (fun _ h => h) (v := .pointer (some ⟨b16, 0, none⟩)) 13 rfl hE110 (y_nilCheck rfl) rfl (by kernel_rfl) (by kernel_rfl) (by kernel_rfl) rfl rfl (fun _ _ _ h => h) ?_; intro a111 hE112; clear hE110
      refine d_pure (fun _ h => h) (v := .pointer (some ⟨b16, 2, none⟩)) 14 rfl hE112 (y_field rfl (fun _ => by kernel_rfl)) rfl (by kernel_rfl) (by kernel_rfl) (by kernel_rfl) rfl rfl (fun _ _ _ h => h) ?_; intro a113 hE114; clear hE112
      refine d_only 15 (by kernel_rfl) rfl hE114 rfl (l_storeB (k := 0) (cs' := #[.slice codeA code.length codeC, .int .i64 0, .int .u64 (wrU ((wrU ((wrU (q1_2 * 1099511628211)) + (gI code i4))) + 11))]) hS83 hE114 (fun _ => by kernel_rfl) rfl rfl rfl rfl rfl rfl rfl ?_)
      intro w116 hS119 a117 hE118; clear hS83 hE114
      refine ⟨fun h => Bool.noConfusion (h.symm.trans (show exm _ _ _ = true by kernel_rfl)), ?_⟩
      refine d_done (by kernel_rfl) ?_
      have hE121 := hE118.sub (L' := [(0, .slice codeA code.length codeC), (3, .pointer (some ⟨b16, 0, none⟩)), (4, .int .i64 i4)]) ⟨rfl, rfl, rfl, trivial⟩; clear hE118
      refine p_bn ?_
      refine p_tn ?_
      refine c_reg ?_
      refine q_step (v := .int .i64 i4) hE121 (y_move rfl) rfl rfl rfl ?_; intro a122 hE123; clear hE121
      refine q_step (v := .int .i64 (i4 + 1)) hE123 (y_add rfl rfl ⟨(by omega), (by omega)⟩) rfl rfl rfl ?_; intro a124 hE125; clear hE123
      refine q_step (v := .int .i64 (i4 + 1)) hE125 (y_assign rfl) rfl rfl rfl ?_; intro a126 hE127; clear hE125
      refine c_nil ?_
      have hE128 := hE127.sub (L' := [(0, .slice codeA code.length codeC), (3, .pointer (some ⟨b16, 0, none⟩)), (4, .int .i64 (i4 + 1))]) ⟨rfl, rfl, rfl, trivial⟩; clear hE127
      refine p_tn ⟨r36, Nat.lt_succ_self _, i4 + 1, wrU ((wrU ((wrU (q1_2 * 1099511628211)) + (gI code i4))) + 11), (hT33.symm.trans (show F_l01From_L1b code (F_l01From_L1 code r36) i4 q1_2 = F_l01From_L1 code r36 (i4 + 1) (wrU ((wrU ((wrU (q1_2 * 1099511628211)) + (gI code i4))) + 11)) by unfold F_l01From_L1b; rw [ht75]; first | done | rfl)).symm, (by omega), (by first | omega | (simp only [sS_len, sL_len]; omega) | (simp only [List.length_replicate, sI_len]; omega) | (simp only [List.length_append, List.length_cons, List.length_nil, sI_len, cond_true, cond_false]; omega) | (simp only [List.length_append, List.length_cons, List.length_nil, sI_len, cond_eq_ite, apply_ite List.length]; split <;> simp only [List.length_append, List.length_cons, List.length_nil, sI_len] <;> omega) | grind), (hE128.sub (L' := [(0, .slice codeA code.length codeC), (3, .pointer (some ⟨b16, 0, none⟩)), (4, .int .i64 (i4 + 1))]) ⟨rfl, rfl, rfl, trivial⟩), (St.pick (Γ' := [.blk b16 #[.slice codeA code.length codeC, .int .i64 0, .int .u64 (wrU ((wrU ((wrU (q1_2 * 1099511628211)) + (gI code i4))) + 11))] 156]) hS119 [0] (by decide) rfl)⟩
     ·
      have hE129 := hE72; rw [ht75] at hE129; clear hE72
      refine wp_exit ?_
      refine p_te ?_
      have hX130 : F_l01From_L1 code (Int.toNat ((code.length : Int) - 0) + 1) 0 (wrU (7129 + (code.length : Int))) = (i4, q1_2) := hT33.symm.trans (show F_l01From_L1b code (F_l01From_L1 code r36) i4 q1_2 = (i4, q1_2) by unfold F_l01From_L1b; rw [ht75]; first | done | rfl)
      refine p_te (p_be (p_tn ?_))
      exact ⟨(by rw [hX130]; exact (show 0 ≤ i4 from (by first | omega | (simp only [sS_len, sL_len]; omega) | (simp only [List.length_replicate, sI_len]; omega) | (simp only [List.length_append, List.length_cons, List.length_nil, sI_len, cond_true, cond_false]; omega) | (simp only [List.length_append, List.length_cons, List.length_nil, sI_len, cond_eq_ite, apply_ite List.length]; split <;> simp only [List.length_append, List.length_cons, List.length_nil, sI_len] <;> omega) | grind))), (by rw [hX130]; exact (hE129.sub (L' := [(0, .slice codeA code.length codeC), (3, .pointer (some ⟨b16, 0, none⟩)), (4, .int .i64 i4)]) ⟨rfl, rfl, rfl, trivial⟩)), (by rw [hX130]; exact (St.pick (Γ' := [.blk b16 #[.slice codeA code.length codeC, .int .i64 0, .int .u64 q1_2] 156]) hS73 [0] (by decide) rfl))⟩
  ·
   rintro a131 w132 ⟨hi136, hE133, hS134⟩; clear hE27 hS20
   refine p_tn ?_
   refine c_seq ?_
   refine c_reg ?_
   refine q_step (v := .pointer (some ⟨b16, 0, none⟩)) hE133 (y_move rfl) rfl rfl rfl ?_; intro a137 hE138; clear hE133
   refine q_step (v := .pointer (some ⟨b16, 0, none⟩)) hE138 (y_assign rfl) rfl rfl rfl ?_; intro a139 hE140; clear hE138
   refine c_nil ?_
   have hE141 := hE140.sub (L' := [(2, .pointer (some ⟨b16, 0, none⟩))]) ⟨rfl, trivial⟩; clear hE140
   refine p_tn ?_
   refine wp_ret ?_
   have hF : F_l01From code = (0, (F_l01From_L1 code (Int.toNat ((code.length : Int) - 0) + 1) 0 (wrU (7129 + (code.length : Int)))).2) := by unfold F_l01From; rfl
   refine c_ret1 hE141 rfl rfl ?_
   exact ⟨b16, rfl, (by rw [hF]; (try dsimp only); exact (St.pick (Γ' := [.blk b16 #[.slice codeA code.length codeC, .int .i64 0, .int .u64 ((F_l01From_L1 code (Int.toNat ((code.length : Int) - 0) + 1) 0 (wrU (7129 + (code.length : Int)))).2)] 156]) hS134 [0] (by decide) rfl))⟩

def F_l01Next0 (src : List Int) (srcat : Int) (srch : Int) (np : Int) : Int × (Int × Int) :=
  bif (decide (np < 1)) then (0, (srcat, srch)) else (bif (decide (srcat < (src.length : Int))) then (((andU (shrU (wrU ((wrU (srch * 6364136223846793005)) + 1442695040888963407)) 33) 16777215) + (gI src srcat)) % np, (srcat + 1, wrU ((wrU (srch * 6364136223846793005)) + 1442695040888963407))) else ((andU (shrU (wrU ((wrU (srch * 6364136223846793005)) + 1442695040888963407)) 33) 16777215) % np, (srcat, wrU ((wrU (srch * 6364136223846793005)) + 1442695040888963407))))
theorem cf_l01Next0 (args : Array Value) (w : World) : (callFunc 135 args).run Try.prog w = .ok (.enter 135 args) w := by kernel_rfl
set_option maxRecDepth 100000 in
theorem c_l01Next0 (srcB : Nat) (srcA : Option Addr) (srcN srcC : Nat) (src : List Int) (srcat srch : Int) (np : Int) (w : World) (w0v : World) (Γ0 : List Ent) (hS0 : St w0v w (.blk srcB #[.slice srcA srcN srcC, .int .i64 (srcat), .int .u64 (srch)] 156 :: Γ0)) (srcR : RdB w0v srcA srcN srcC src) (hat : 0 ≤ srcat) :
    Calls Try.prog 135 #[.pointer (some ⟨srcB, 0, none⟩), .int .i64 np] w (Ret fun v w' => v = .int .i64 ((F_l01Next0 src srcat srch np).1) ∧ St w0v w' (.blk srcB #[.slice srcA srcN srcC, .int .i64 (((F_l01Next0 src srcat srch np).2).1), .int .u64 (((F_l01Next0 src srcat srch np).2).2)] 156 :: Γ0)) := by
  obtain rfl : srcN = src.length := srcR.len
  have srcLe := srcR.le
  refine enter (args := [.pointer (some ⟨srcB, 0, none⟩), .int .i64 np]) Try.func135 rfl rfl ?_
  rw [Try.ntmps135]; intro a hE
  have hE := hE.sub (L' := [(0, .pointer (some ⟨srcB, 0, none⟩)), (1, .int .i64 np)]) ⟨rfl, rfl, trivial⟩
  refine c_seq ?_
  refine c_reg ?_
  refine q_step (v := .int .i64 0) hE (y_assign rfl) rfl rfl rfl ?_; intro a1 hE2; clear hE
  refine c_nil ?_
  have hE3 := hE2.sub (L' := [(0, .pointer (some ⟨srcB, 0, none⟩)), (1, .int .i64 np)]) ⟨rfl, rfl, trivial⟩; clear hE2
  refine p_tn ?_
  refine c_seq ?_
  refine c_seq ?_
  refine c_reg ?_
  refine q_step (v := .int .i64 np) hE3 (y_move rfl) rfl rfl rfl ?_; intro a4 hE5; clear hE3
  refine q_step (v := .bool (decide (np < 1))) hE5 (y_lss rfl rfl) rfl rfl rfl ?_; intro a6 hE7; clear hE5
  refine c_nil ?_
  have hE8 := hE7.sub (L' := [(0, .pointer (some ⟨srcB, 0, none⟩)), (1, .int .i64 np), (7, .bool (decide (np < 1)))]) ⟨rfl, rfl, rfl, trivial⟩; clear hE7
  refine p_tn ?_
  refine c_cond hE8 rfl (fun ht9 => ?_) (fun ht9 => ?_)
  ·
   have hp10 := of_decide_eq_true ht9
   have hE11 := hE8; rw [ht9] at hE11; clear hE8
   refine c_seq ?_
   refine c_reg ?_
   refine q_step (v := .int .i64 0) hE11 (y_assign rfl) rfl rfl rfl ?_; intro a12 hE13; clear hE11
   refine c_nil ?_
   have hE14 := hE13.sub (L' := [(4, .int .i64 0)]) ⟨rfl, trivial⟩; clear hE13
   refine p_tn ?_
   refine wp_ret ?_
   refine p_tr ?_
   have hF : F_l01Next0 src srcat srch np = (0, (srcat, srch)) := by unfold F_l01Next0; rw [ht9]; first | done | rfl
   refine c_ret1 hE14 rfl rfl ?_
   have hS9 := (St.pickT (Γ := [.blk srcB #[.slice srcA src.length srcC, .int .i64 srcat, .int .u64 srch] 156]) (Γ' := [.blk srcB #[.slice srcA src.length srcC, .int .i64 srcat, .int .u64 srch] 156]) (Γ0 := Γ0) hS0 [0] (by decide) rfl rfl)
   exact ⟨(by rw [hF]), (by rw [hF]; (try dsimp only); exact hS9)⟩
  ·
   have hp15 := of_decide_eq_false ht9
   have hE16 := hE8; rw [ht9] at hE16; clear hE8
   refine wp_skip ?_
   refine p_tn ?_
   refine c_seq ?_
   refine c_reg ?_
   refine q_step (v := .pointer (some ⟨srcB, 0, none⟩)) hE16 (y_move rfl) rfl rfl rfl ?_; intro a17 hE18; clear hE16
   refine q_step (v := .pointer (some ⟨srcB, 0, none⟩)) hE18 (y_move rfl) rfl rfl rfl ?_; intro a19 hE20; clear hE18
   refine q_step (v := .pointer (some ⟨srcB, 0, none⟩)) hE20 (y_nilCheck rfl) rfl rfl rfl ?_; intro a21 hE22; clear hE20
   refine q_step (v := .pointer (some ⟨srcB, 2, none⟩)) hE22 (y_field rfl (fun _ => by kernel_rfl)) rfl rfl rfl ?_; intro a23 hE24; clear hE22
   refine q_step (v := .int .u64 srch) hE24 (y_load (fun _ => by kernel_rfl) rfl (St.cell (i := 0) hS0 rfl rfl)) rfl rfl rfl ?_; intro a25 hE26; clear hE24
   refine q_step (v := .int .u64 (wrU (srch * 6364136223846793005))) hE26 (y_mulU rfl rfl) rfl rfl rfl ?_; intro a27 hE28; clear hE26
   refine q_step (v := .int .u64 (wrU ((wrU (srch * 6364136223846793005)) + 1442695040888963407))) hE28 (y_addU rfl rfl) rfl rfl rfl ?_; intro a29 hE30; clear hE28
   refine q_step (v := .pointer (some ⟨srcB, 0, none⟩)) hE30 (y_nilCheck rfl) rfl rfl rfl ?_; intro a31 hE32; clear hE30
   refine q_step (v := .pointer (some ⟨srcB, 2, none⟩)) hE32 (y_field rfl (fun _ => by kernel_rfl)) rfl rfl rfl ?_; intro a33 hE34; clear hE32
   refine l_step hE34 rfl (l_storeB (k := 0) (cs' := #[.slice srcA src.length srcC, .int .i64 srcat, .int .u64 (wrU ((wrU (srch * 6364136223846793005)) + 1442695040888963407))]) hS0 hE34 (fun _ => by kernel_rfl) rfl rfl rfl rfl rfl rfl rfl ?_)
   intro w36 hS39 a37 hE38; clear hS0 hE34
   refine c_nil ?_
   have hE41 := hE38.sub (L' := [(0, .pointer (some ⟨srcB, 0, none⟩)), (1, .int .i64 np)]) ⟨rfl, rfl, trivial⟩; clear hE38
   refine p_tn ?_
   refine c_seq ?_
   refine c_reg ?_
   refine q_step (v := .pointer (some ⟨srcB, 0, none⟩)) hE41 (y_move rfl) rfl rfl rfl ?_; intro a42 hE43; clear hE41
   refine q_step (v := .pointer (some ⟨srcB, 0, none⟩)) hE43 (y_nilCheck rfl) rfl rfl rfl ?_; intro a44 hE45; clear hE43
   refine q_step (v := .pointer (some ⟨srcB, 2, none⟩)) hE45 (y_field rfl (fun _ => by kernel_rfl)) rfl rfl rfl ?_; intro a46 hE47; clear hE45
   refine q_step (v := .int .u64 (wrU ((wrU (srch * 6364136223846793005)) + 1442695040888963407))) hE47 (y_load (fun _ => by kernel_rfl) rfl (St.cell (i := 0) hS39 rfl rfl)) rfl rfl rfl ?_; intro a48 hE49; clear hE47
   refine q_step (v := .int .u64 (shrU (wrU ((wrU (srch * 6364136223846793005)) + 1442695040888963407)) 33)) hE49 (y_shrU rfl rfl (by omega)) rfl rfl rfl ?_; intro a50 hE51; clear hE49
   have hv52 := andU_bd (shrU (wrU ((wrU (srch * 6364136223846793005)) + 1442695040888963407)) 33) 16777215 (by decide) (by decide)
   refine q_step (v := .int .u64 (andU (shrU (wrU ((wrU (srch * 6364136223846793005)) + 1442695040888963407)) 33) 16777215)) hE51 (y_andU rfl rfl) rfl rfl rfl ?_; intro a53 hE54; clear hE51
   refine q_step (v := .int .i64 (andU (shrU (wrU ((wrU (srch * 6364136223846793005)) + 1442695040888963407)) 33) 16777215)) hE54 (y_conv (ds := .int .u64) (by kernel_rfl) (by kernel_rfl) rfl (IntWalk.i64_in _ ⟨(by omega), (by omega)⟩)) rfl rfl rfl ?_; intro a55 hE56; clear hE54
   refine q_step (v := .int .i64 (andU (shrU (wrU ((wrU (srch * 6364136223846793005)) + 1442695040888963407)) 33) 16777215)) hE56 (y_assign rfl) rfl rfl rfl ?_; intro a57 hE58; clear hE56
   refine c_nil ?_
   have hE59 := hE58.sub (L' := [(0, .pointer (some ⟨srcB, 0, none⟩)), (1, .int .i64 np), (5, .int .i64 (andU (shrU (wrU ((wrU (srch * 6364136223846793005)) + 1442695040888963407)) 33) 16777215))]) ⟨rfl, rfl, rfl, trivial⟩; clear hE58
   refine p_tn ?_
   refine c_seq ?_
   refine c_seq ?_
   refine d_start (fun w w' => (fun w' => w'.cell? ⟨srcB, 1, none⟩ = some (.int .i64 srcat) ∧ w'.cell? ⟨srcB, 0, none⟩ = some (.slice srcA src.length srcC) ∧ True) w → (fun w' => w'.cell? ⟨srcB, 1, none⟩ = some (.int .i64 srcat) ∧ w'.cell? ⟨srcB, 0, none⟩ = some (.slice srcA src.length srcC) ∧ True) w') [3, 7] 10 (by kernel_rfl) rfl ?_
   intro w60 he61; have hS62 := St.go hS39 he61; clear hS39
   refine d_pure (fun _ h => h) (v := .pointer (some ⟨srcB, 0, none⟩)) 0 rfl hE59 (y_move rfl) rfl (by kernel_rfl) (by kernel_rfl) (by kernel_rfl) rfl rfl (fun _ _ _ h => h) ?_; intro a63 hE64; clear hE59
   refine d_pure (fun _ h => h) (v := .pointer (some ⟨srcB, 0, none⟩)) 1 rfl hE64 (y_nilCheck rfl) rfl (by kernel_rfl) (by kernel_rfl) (by kernel_rfl) rfl rfl (fun _ _ _ h => h) ?_; intro a65 hE66; clear hE64
   refine d_pure (fun _ h => h) (v := .pointer (some ⟨srcB, 1, none⟩)) 2 rfl hE66 (y_field rfl (fun _ => by kernel_rfl)) rfl (by kernel_rfl) (by kernel_rfl) (by kernel_rfl) rfl rfl (fun _ _ _ h => h) ?_; intro a67 hE68; clear hE66
   refine d_take (fun _ h => h) (fun _ _ h k => h k) (v := .int .i64 srcat) 3 rfl hE68 (S := fun w' => w'.cell? ⟨srcB, 1, none⟩ = some (.int .i64 srcat) ∧ w'.cell? ⟨srcB, 0, none⟩ = some (.slice srcA src.length srcC) ∧ True) ⟨(St.cell (i := 0) hS62 rfl rfl _ (Ext.refl _)), (St.cell (i := 0) hS62 rfl rfl _ (Ext.refl _)), trivial⟩ (y_load (fun _ => by kernel_rfl) rfl (fun _ h => h.1)) rfl rfl (by kernel_rfl) (by kernel_rfl) (by kernel_rfl) (by kernel_rfl) rfl rfl (fun _ _ _ h => h) ?_; intro a69 hE70; clear hE68
   refine d_pure (fun _ h => h) (v := .pointer (some ⟨srcB, 0, none⟩)) 4 rfl hE70 (y_move rfl) rfl (by kernel_rfl) (by kernel_rfl) (by kernel_rfl) rfl rfl (fun _ _ _ h => h) ?_; intro a71 hE72; clear hE70
   refine d_pure (fun _ h => h) (v := .pointer (some ⟨srcB, 0, none⟩)) 5 rfl hE72 (y_nilCheck rfl) rfl (by kernel_rfl) (by kernel_rfl) (by kernel_rfl) rfl rfl (fun _ _ _ h => h) ?_; intro a73 hE74; clear hE72
   refine d_pure (fun _ h => h) (v := .pointer (some ⟨srcB, 0, none⟩)) 6 rfl hE74 (y_field rfl (fun _ => by kernel_rfl)) rfl (by kernel_rfl) (by kernel_rfl) (by kernel_rfl) rfl rfl (fun _ _ _ h => h) ?_; intro a75 hE76; clear hE74
   refine d_take (fun _ h => h) (fun _ _ h k => h k) (v := .slice srcA src.length srcC) 7 rfl hE76 (S := fun w' => w'.cell? ⟨srcB, 1, none⟩ = some (.int .i64 srcat) ∧ w'.cell? ⟨srcB, 0, none⟩ = some (.slice srcA src.length srcC) ∧ True) ⟨(St.cell (i := 0) hS62 rfl rfl _ (Ext.refl _)), (St.cell (i := 0) hS62 rfl rfl _ (Ext.refl _)), trivial⟩ (y_load (fun _ => by kernel_rfl) rfl (fun _ h => h.2.1)) rfl rfl (by kernel_rfl) (by kernel_rfl) (by kernel_rfl) (by kernel_rfl) rfl rfl (fun _ _ _ h => h) ?_; intro a77 hE78; clear hE76
   refine d_pure (fun _ h => h) (v := .int .i64 (src.length : Int)) 8 rfl hE78 (y_len (e := 5) (by kernel_rfl) rfl) rfl (by kernel_rfl) (by kernel_rfl) (by kernel_rfl) rfl rfl (fun _ _ _ h => h) ?_; intro a79 hE80; clear hE78
   refine d_pure (fun _ h => h) (v := .bool (decide (srcat < (src.length : Int)))) 9 rfl hE80 (y_lss rfl rfl) rfl (by kernel_rfl) (by kernel_rfl) (by kernel_rfl) rfl rfl (fun _ _ _ h => h) ?_; intro a81 hE82; clear hE80
   refine d_done (by kernel_rfl) ?_
   have hE83 := hE82.sub (L' := [(0, .pointer (some ⟨srcB, 0, none⟩)), (1, .int .i64 np), (5, .int .i64 (andU (shrU (wrU ((wrU (srch * 6364136223846793005)) + 1442695040888963407)) 33) 16777215)), (33, .bool (decide (srcat < (src.length : Int))))]) ⟨rfl, rfl, rfl, rfl, trivial⟩; clear hE82
   refine p_tn ?_
   refine c_cond hE83 rfl (fun ht84 => ?_) (fun ht84 => ?_)
   ·
    have hp85 := of_decide_eq_true ht84
    have hE86 := hE83; rw [ht84] at hE86; clear hE83
    refine c_seq ?_
    refine d_start (fun w w' => (fun w' => w'.cell? ⟨srcB, 0, none⟩ = some (.slice srcA src.length srcC) ∧ w'.cell? ⟨srcB, 1, none⟩ = some (.int .i64 srcat) ∧ w'.cell? (adr srcA (Int.toNat srcat)) = some (.int .u8 (gI src srcat)) ∧ True) w → (fun w' => w'.cell? ⟨srcB, 0, none⟩ = some (.slice srcA src.length srcC) ∧ w'.cell? ⟨srcB, 1, none⟩ = some (.int .i64 srcat) ∧ w'.cell? (adr srcA (Int.toNat srcat)) = some (.int .u8 (gI src srcat)) ∧ True) w') [4, 8, 10] 14 (by kernel_rfl) rfl ?_
    intro w87 he88; have hS89 := St.go hS62 he88; clear hS62
    refine d_pure (fun _ h => h) (v := .int .i64 (andU (shrU (wrU ((wrU (srch * 6364136223846793005)) + 1442695040888963407)) 33) 16777215)) 0 rfl hE86 (y_move rfl) rfl (by kernel_rfl) (by kernel_rfl) (by kernel_rfl) rfl rfl (fun _ _ _ h => h) ?_; intro a90 hE91; clear hE86
    refine d_pure (fun _ h => h) (v := .pointer (some ⟨srcB, 0, none⟩)) 1 rfl hE91 (y_move rfl) rfl (by kernel_rfl) (by kernel_rfl) (by kernel_rfl) rfl rfl (fun _ _ _ h => h) ?_; intro a92 hE93; clear hE91
    refine d_pure (fun _ h => h) (v := .pointer (some ⟨srcB, 0, none⟩)) 2 rfl hE93 (y_nilCheck rfl) rfl (by kernel_rfl) (by kernel_rfl) (by kernel_rfl) rfl rfl (fun _ _ _ h => h) ?_; intro a94 hE95; clear hE93
    refine d_pure (fun _ h => h) (v := .pointer (some ⟨srcB, 0, none⟩)) 3 rfl hE95 (y_field rfl (fun _ => by kernel_rfl)) rfl (by kernel_rfl) (by kernel_rfl) (by kernel_rfl) rfl rfl (fun _ _ _ h => h) ?_; intro a96 hE97; clear hE95
    refine d_take (fun _ h => h) (fun _ _ h k => h k) (v := .slice srcA src.length srcC) 4 rfl hE97 (S := fun w' => w'.cell? ⟨srcB, 0, none⟩ = some (.slice srcA src.length srcC) ∧ w'.cell? ⟨srcB, 1, none⟩ = some (.int .i64 srcat) ∧ w'.cell? (adr srcA (Int.toNat srcat)) = some (.int .u8 (gI src srcat)) ∧ True) ⟨(St.cell (i := 0) hS89 rfl rfl _ (Ext.refl _)), (St.cell (i := 0) hS89 rfl rfl _ (Ext.refl _)), (RdB.elt (srcR.ext hS89.ext) (by omega) (by omega) _ (Ext.refl _)), trivial⟩ (y_load (fun _ => by kernel_rfl) rfl (fun _ h => h.1)) rfl rfl (by kernel_rfl) (by kernel_rfl) (by kernel_rfl) (by kernel_rfl) rfl rfl (fun _ _ _ h => h) ?_; intro a98 hE99; clear hE97
    refine d_pure (fun _ h => h) (v := .pointer (some ⟨srcB, 0, none⟩)) 5 rfl hE99 (y_move rfl) rfl (by kernel_rfl) (by kernel_rfl) (by kernel_rfl) rfl rfl (fun _ _ _ h => h) ?_; intro a100 hE101; clear hE99
    refine d_pure (fun _ h => h) (v := .pointer (some ⟨srcB, 0, none⟩)) 6 rfl hE101 (y_nilCheck rfl) rfl (by kernel_rfl) (by kernel_rfl) (by kernel_rfl) rfl rfl (fun _ _ _ h => h) ?_; intro a102 hE103; clear hE101
    refine d_pure (fun _ h => h) (v := .pointer (some ⟨srcB, 1, none⟩)) 7 rfl hE103 (y_field rfl (fun _ => by kernel_rfl)) rfl (by kernel_rfl) (by kernel_rfl) (by kernel_rfl) rfl rfl (fun _ _ _ h => h) ?_; intro a104 hE105; clear hE103
    refine d_take (fun _ h => h) (fun _ _ h k => h k) (v := .int .i64 srcat) 8 rfl hE105 (S := fun w' => w'.cell? ⟨srcB, 0, none⟩ = some (.slice srcA src.length srcC) ∧ w'.cell? ⟨srcB, 1, none⟩ = some (.int .i64 srcat) ∧ w'.cell? (adr srcA (Int.toNat srcat)) = some (.int .u8 (gI src srcat)) ∧ True) ⟨(St.cell (i := 0) hS89 rfl rfl _ (Ext.refl _)), (St.cell (i := 0) hS89 rfl rfl _ (Ext.refl _)), (RdB.elt (srcR.ext hS89.ext) (by omega) (by omega) _ (Ext.refl _)), trivial⟩ (y_load (fun _ => by kernel_rfl) rfl (fun _ h => h.2.1)) rfl rfl (by kernel_rfl) (by kernel_rfl) (by kernel_rfl) (by kernel_rfl) rfl rfl (fun _ _ _ h => h) ?_; intro a106 hE107; clear hE105
    refine d_pure (fun _ h => h) (v := .pointer (some (adr srcA (Int.toNat srcat)))) 9 rfl hE107 (y_idx (by kernel_rfl) (fun _ => by kernel_rfl) rfl rfl (RdB.isS (m := srcat) (srcR.ext hS89.ext) (by omega) (by omega)) (by omega) (by omega) (Nat.mul_one _).symm) rfl (by kernel_rfl) (by kernel_rfl) (by kernel_rfl) rfl rfl (fun _ _ _ h => h) ?_; intro a108 hE109; clear hE107
    have hv110 := RdB.bd (srcR.ext hS89.ext) srcat
    refine d_take (fun _ h => h) (fun _ _ h k => h k) (v := .int .u8 (gI src srcat)) 10 rfl hE109 (S := fun w' => w'.cell? ⟨srcB, 0, none⟩ = some (.slice srcA src.length srcC) ∧ w'.cell? ⟨srcB, 1, none⟩ = some (.int .i64 srcat) ∧ w'.cell? (adr srcA (Int.toNat srcat)) = some (.int .u8 (gI src srcat)) ∧ True) ⟨(St.cell (i := 0) hS89 rfl rfl _ (Ext.refl _)), (St.cell (i := 0) hS89 rfl rfl _ (Ext.refl _)), (RdB.elt (srcR.ext hS89.ext) (by omega) (by omega) _ (Ext.refl _)), trivial⟩ (y_load (fun _ => by kernel_rfl) rfl (fun _ h => h.2.2.1)) rfl rfl (by kernel_rfl) (by kernel_rfl) (by kernel_rfl) (by kernel_rfl) rfl rfl (fun _ _ _ h => h) ?_; intro a111 hE112; clear hE109
    refine d_pure (fun _ h => h) (v := .int .i64 (gI src srcat)) 11 rfl hE112 (y_conv (ds := .int .u8) (by kernel_rfl) (by kernel_rfl) rfl (IntWalk.i64_in _ ⟨(by omega), (by omega)⟩)) rfl (by kernel_rfl) (by kernel_rfl) (by kernel_rfl) rfl rfl (fun _ _ _ h => h) ?_; intro a113 hE114; clear hE112
    refine d_pure (fun _ h => h) (v := .int .i64 ((andU (shrU (wrU ((wrU (srch * 6364136223846793005)) + 1442695040888963407)) 33) 16777215) + (gI src srcat))) 12 rfl hE114 (y_add rfl rfl ⟨(by omega), (by omega)⟩) rfl (by kernel_rfl) (by kernel_rfl) (by kernel_rfl) rfl rfl (fun _ _ _ h => h) ?_; intro a115 hE116; clear hE114
    refine d_pure (fun _ h => h) (v := .int .i64 ((andU (shrU (wrU ((wrU (srch * 6364136223846793005)) + 1442695040888963407)) 33) 16777215) + (gI src srcat))) 13 rfl hE116 (y_assign rfl) rfl (by kernel_rfl) (by kernel_rfl) (by kernel_rfl) rfl rfl (fun _ _ _ h => h) ?_; intro a117 hE118; clear hE116
    refine d_done (by kernel_rfl) ?_
    have hE119 := hE118.sub (L' := [(0, .pointer (some ⟨srcB, 0, none⟩)), (1, .int .i64 np), (5, .int .i64 ((andU (shrU (wrU ((wrU (srch * 6364136223846793005)) + 1442695040888963407)) 33) 16777215) + (gI src srcat)))]) ⟨rfl, rfl, rfl, trivial⟩; clear hE118
    refine p_tn ?_
    refine c_reg ?_
    refine q_step (v := .pointer (some ⟨srcB, 0, none⟩)) hE119 (y_move rfl) rfl rfl rfl ?_; intro a120 hE121; clear hE119
    refine q_step (v := .pointer (some ⟨srcB, 0, none⟩)) hE121 (y_move rfl) rfl rfl rfl ?_; intro a122 hE123; clear hE121
    refine q_step (v := .pointer (some ⟨srcB, 0, none⟩)) hE123 (y_nilCheck rfl) rfl rfl rfl ?_; intro a124 hE125; clear hE123
    refine q_step (v := .pointer (some ⟨srcB, 1, none⟩)) hE125 (y_field rfl (fun _ => by kernel_rfl)) rfl rfl rfl ?_; intro a126 hE127; clear hE125
    refine q_step (v := .int .i64 srcat) hE127 (y_load (fun _ => by kernel_rfl) rfl (St.cell (i := 0) hS89 rfl rfl)) rfl rfl rfl ?_; intro a128 hE129; clear hE127
    refine q_step (v := .int .i64 (srcat + 1)) hE129 (y_add rfl rfl ⟨(by omega), (by omega)⟩) rfl rfl rfl ?_; intro a130 hE131; clear hE129
    refine q_step (v := .pointer (some ⟨srcB, 0, none⟩)) hE131 (y_nilCheck rfl) rfl rfl rfl ?_; intro a132 hE133; clear hE131
    refine q_step (v := .pointer (some ⟨srcB, 1, none⟩)) hE133 (y_field rfl (fun _ => by kernel_rfl)) rfl rfl rfl ?_; intro a134 hE135; clear hE133
    refine l_step hE135 rfl (l_storeB (k := 0) (cs' := #[.slice srcA src.length srcC, .int .i64 (srcat + 1), .int .u64 (wrU ((wrU (srch * 6364136223846793005)) + 1442695040888963407))]) hS89 hE135 (fun _ => by kernel_rfl) rfl rfl rfl rfl rfl rfl rfl ?_)
    intro w137 hS140 a138 hE139; clear hS89 hE135
    refine c_nil ?_
    have hE142 := hE139.sub (L' := [(1, .int .i64 np), (5, .int .i64 ((andU (shrU (wrU ((wrU (srch * 6364136223846793005)) + 1442695040888963407)) 33) 16777215) + (gI src srcat)))]) ⟨rfl, rfl, trivial⟩; clear hE139
    refine p_tn ?_
    refine c_seq ?_
    refine c_reg ?_
    refine q_step (v := .int .i64 ((andU (shrU (wrU ((wrU (srch * 6364136223846793005)) + 1442695040888963407)) 33) 16777215) + (gI src srcat))) hE142 (y_move rfl) rfl rfl rfl ?_; intro a143 hE144; clear hE142
    refine q_step (v := .int .i64 np) hE144 (y_move rfl) rfl rfl rfl ?_; intro a145 hE146; clear hE144
    refine q_step (v := .int .i64 (((andU (shrU (wrU ((wrU (srch * 6364136223846793005)) + 1442695040888963407)) 33) 16777215) + (gI src srcat)) % np)) hE146 (y_rem rfl rfl (by omega) (by omega)) rfl rfl rfl ?_; intro a147 hE148; clear hE146
    refine q_step (v := .int .i64 (((andU (shrU (wrU ((wrU (srch * 6364136223846793005)) + 1442695040888963407)) 33) 16777215) + (gI src srcat)) % np)) hE148 (y_assign rfl) rfl rfl rfl ?_; intro a149 hE150; clear hE148
    refine c_nil ?_
    have hE151 := hE150.sub (L' := [(4, .int .i64 (((andU (shrU (wrU ((wrU (srch * 6364136223846793005)) + 1442695040888963407)) 33) 16777215) + (gI src srcat)) % np))]) ⟨rfl, trivial⟩; clear hE150
    refine p_tn ?_
    refine wp_ret ?_
    have hF : F_l01Next0 src srcat srch np = (((andU (shrU (wrU ((wrU (srch * 6364136223846793005)) + 1442695040888963407)) 33) 16777215) + (gI src srcat)) % np, (srcat + 1, wrU ((wrU (srch * 6364136223846793005)) + 1442695040888963407))) := by unfold F_l01Next0; rw [ht84, ht9]; first | done | rfl
    refine c_ret1 hE151 rfl rfl ?_
    have hS9 := (St.pickT (Γ := [.blk srcB #[.slice srcA src.length srcC, .int .i64 (srcat + 1), .int .u64 (wrU ((wrU (srch * 6364136223846793005)) + 1442695040888963407))] 156]) (Γ' := [.blk srcB #[.slice srcA src.length srcC, .int .i64 (srcat + 1), .int .u64 (wrU ((wrU (srch * 6364136223846793005)) + 1442695040888963407))] 156]) (Γ0 := Γ0) hS140 [0] (by decide) rfl rfl)
    exact ⟨(by rw [hF]), (by rw [hF]; (try dsimp only); exact hS9)⟩
   ·
    have hp152 := of_decide_eq_false ht84
    have hE153 := hE83; rw [ht84] at hE153; clear hE83
    refine wp_skip ?_
    refine p_tn ?_
    refine c_seq ?_
    refine c_reg ?_
    refine q_step (v := .int .i64 (andU (shrU (wrU ((wrU (srch * 6364136223846793005)) + 1442695040888963407)) 33) 16777215)) hE153 (y_move rfl) rfl rfl rfl ?_; intro a154 hE155; clear hE153
    refine q_step (v := .int .i64 np) hE155 (y_move rfl) rfl rfl rfl ?_; intro a156 hE157; clear hE155
    refine q_step (v := .int .i64 ((andU (shrU (wrU ((wrU (srch * 6364136223846793005)) + 1442695040888963407)) 33) 16777215) % np)) hE157 (y_rem rfl rfl (by omega) (by omega)) rfl rfl rfl ?_; intro a158 hE159; clear hE157
    refine q_step (v := .int .i64 ((andU (shrU (wrU ((wrU (srch * 6364136223846793005)) + 1442695040888963407)) 33) 16777215) % np)) hE159 (y_assign rfl) rfl rfl rfl ?_; intro a160 hE161; clear hE159
    refine c_nil ?_
    have hE162 := hE161.sub (L' := [(4, .int .i64 ((andU (shrU (wrU ((wrU (srch * 6364136223846793005)) + 1442695040888963407)) 33) 16777215) % np))]) ⟨rfl, trivial⟩; clear hE161
    refine p_tn ?_
    refine wp_ret ?_
    have hF : F_l01Next0 src srcat srch np = ((andU (shrU (wrU ((wrU (srch * 6364136223846793005)) + 1442695040888963407)) 33) 16777215) % np, (srcat, wrU ((wrU (srch * 6364136223846793005)) + 1442695040888963407))) := by unfold F_l01Next0; rw [ht84, ht9]; first | done | rfl
    refine c_ret1 hE162 rfl rfl ?_
    have hS9 := (St.pickT (Γ := [.blk srcB #[.slice srcA src.length srcC, .int .i64 srcat, .int .u64 (wrU ((wrU (srch * 6364136223846793005)) + 1442695040888963407))] 156]) (Γ' := [.blk srcB #[.slice srcA src.length srcC, .int .i64 srcat, .int .u64 (wrU ((wrU (srch * 6364136223846793005)) + 1442695040888963407))] 156]) (Γ0 := Γ0) hS62 [0] (by decide) rfl rfl)
    exact ⟨(by rw [hF]), (by rw [hF]; (try dsimp only); exact hS9)⟩

theorem l01Next0_at (src : List Int) (srcat srch np : Int) (h : 0 ≤ srcat) : 0 ≤ (F_l01Next0 src srcat srch np).2.1 := by
  unfold F_l01Next0
  cases decide (np < 1) <;> cases decide (srcat < (src.length : Int)) <;> simp only [cond_true, cond_false] <;> omega
def F_l01Next (src : List Int) (srcg : Nat × Int) (np : Int) : Int × (Nat × Int) := ((F_l01Next0 src ((srcg.1 : Nat) : Int) srcg.2 np).1, ((F_l01Next0 src ((srcg.1 : Nat) : Int) srcg.2 np).2.1.toNat, (F_l01Next0 src ((srcg.1 : Nat) : Int) srcg.2 np).2.2))
theorem l01Next0_bd (src : List Int) (srcat srch np : Int) (hg : ∀ m : Int, 0 ≤ gI src m) : 0 ≤ (F_l01Next0 src srcat srch np).1 ∧ (np < 1 ∨ (F_l01Next0 src srcat srch np).1 < np) := by
  unfold F_l01Next0
  by_cases h : np < 1
  · rw [decide_eq_true h, cond_true]
    exact ⟨Int.le_refl _, .inl h⟩
  · rw [decide_eq_false h, cond_false]
    have h0 : ∀ x : Int, 0 ≤ x % np ∧ x % np < np := fun x => ⟨Int.emod_nonneg _ (by omega), Int.emod_lt_of_pos _ (by omega)⟩
    cases decide (srcat < (src.length : Int))
    · exact ⟨(h0 _).1, .inr (h0 _).2⟩
    · exact ⟨(h0 _).1, .inr (h0 _).2⟩
theorem c_l01Next (srcB : Nat) (srcA : Option Addr) (srcN srcC : Nat) (src : List Int) (srcg : Nat × Int) (np : Int) (w : World) (w0v : World) (Γ0 : List Ent) (hS0 : St w0v w (.blk srcB #[.slice srcA srcN srcC, .int .i64 ((srcg.1 : Nat) : Int), .int .u64 (srcg.2)] 156 :: Γ0)) (srcR : RdB w0v srcA srcN srcC src) :
    Calls Try.prog 135 #[.pointer (some ⟨srcB, 0, none⟩), .int .i64 np] w (Ret fun v w' => v = .int .i64 ((F_l01Next src srcg np).1) ∧ St w0v w' (.blk srcB #[.slice srcA srcN srcC, .int .i64 ((((F_l01Next src srcg np).2).1 : Nat) : Int), .int .u64 (((F_l01Next src srcg np).2).2)] 156 :: Γ0)) := by
  refine (c_l01Next0 srcB srcA srcN srcC src ((srcg.1 : Nat) : Int) srcg.2 np w w0v Γ0 hS0 srcR (by omega)).mono ?_
  rintro e w' ⟨v, rfl, rfl, h⟩
  refine ⟨_, rfl, rfl, ?_⟩
  rw [show ((((F_l01Next src srcg np).2).1 : Nat) : Int) = ((F_l01Next0 src ((srcg.1 : Nat) : Int) srcg.2 np).2).1 from Int.toNat_of_nonneg (l01Next0_at _ _ _ _ (by omega))]
  exact h
theorem l01Next_bd {w : World} {a : Option Addr} {n c : Nat} {src : List Int} (hR : RdB w a n c src) (srcg : Nat × Int) (np : Int) : 0 ≤ (F_l01Next src srcg np).1 ∧ (np < 1 ∨ (F_l01Next src srcg np).1 < np) :=
  l01Next0_bd src _ _ np (fun m => (hR.bd m).1)


def F_l01Pick (src : List Int) (srcg : Nat × Int) (list : List Int) : Int × (Nat × Int) :=
  (gI list ((F_l01Next src srcg (list.length : Int)).1), (F_l01Next src srcg (list.length : Int)).2)
theorem cf_l01Pick (args : Array Value) (w : World) : (callFunc 137 args).run Try.prog w = .ok (.enter 137 args) w := by kernel_rfl
set_option maxRecDepth 100000 in
theorem c_l01Pick (srcB : Nat) (srcA : Option Addr) (srcN srcC : Nat) (src : List Int) (srcg : Nat × Int) (listA : Option Addr) (listN listC : Nat) (list : List Int) (w : World) (w0v : World) (Γ0 : List Ent) (hS0 : St w0v w (.own 2 1 listA listN listC list :: .blk srcB #[.slice srcA srcN srcC, .int .i64 ((srcg.1 : Nat) : Int), .int .u64 (srcg.2)] 156 :: Γ0)) (srcR : RdB w0v srcA srcN srcC src) (hl : 1 ≤ list.length) :
    Calls Try.prog 137 #[.pointer (some ⟨srcB, 0, none⟩), .slice listA listN listC] w (Ret fun v w' => v = .int .i64 ((F_l01Pick src srcg list).1) ∧ St w0v w' (.own 2 1 listA listN listC list :: .blk srcB #[.slice srcA srcN srcC, .int .i64 ((((F_l01Pick src srcg list).2).1 : Nat) : Int), .int .u64 (((F_l01Pick src srcg list).2).2)] 156 :: Γ0)) := by
  obtain rfl : srcN = src.length := srcR.len
  have srcLe := srcR.le
  obtain rfl : listN = list.length := (St.rdO (i := 0) hS0 rfl).len1.symm
  have listLe := (St.rdO (i := 0) hS0 rfl).le
  refine enter (args := [.pointer (some ⟨srcB, 0, none⟩), .slice listA list.length listC]) Try.func137 rfl rfl ?_
  rw [Try.ntmps137]; intro a hE
  have hE := hE.sub (L' := [(0, .pointer (some ⟨srcB, 0, none⟩)), (1, .slice listA list.length listC)]) ⟨rfl, rfl, trivial⟩
  refine c_seq ?_
  refine c_reg ?_
  refine q_step (v := .int .i64 0) hE (y_assign rfl) rfl rfl rfl ?_; intro a1 hE2; clear hE
  refine c_nil ?_
  have hE3 := hE2.sub (L' := [(0, .pointer (some ⟨srcB, 0, none⟩)), (1, .slice listA list.length listC)]) ⟨rfl, rfl, trivial⟩; clear hE2
  refine p_tn ?_
  refine c_seq ?_
  refine c_reg ?_
  refine q_step (v := .slice listA list.length listC) hE3 (y_move rfl) rfl rfl rfl ?_; intro a4 hE5; clear hE3
  refine q_step (v := .pointer (some ⟨srcB, 0, none⟩)) hE5 (y_move rfl) rfl rfl rfl ?_; intro a6 hE7; clear hE5
  refine q_step (v := .slice listA list.length listC) hE7 (y_move rfl) rfl rfl rfl ?_; intro a8 hE9; clear hE7
  refine q_step (v := .int .i64 (list.length : Int)) hE9 (y_len (e := 2) (by kernel_rfl) rfl) rfl rfl rfl ?_; intro a10 hE11; clear hE9
  have hS18 := (St.pickT (Γ := [.own 2 1 listA list.length listC list, .blk srcB #[.slice srcA src.length srcC, .int .i64 ((srcg.1 : Nat) : Int), .int .u64 srcg.2] 156]) (Γ' := [.blk srcB #[.slice srcA src.length srcC, .int .i64 ((srcg.1 : Nat) : Int), .int .u64 srcg.2] 156, .own 2 1 listA list.length listC list]) (Γ0 := Γ0) hS0 [1, 0] (by decide) rfl rfl); clear hS0
  refine l_step hE11 rfl (l_call (f := 135) (argv := [.pointer (some ⟨srcB, 0, none⟩), .int .i64 (list.length : Int)]) hE11 (fun _ => cf_l01Next0 _ _) rfl rfl (c_l01Next srcB srcA src.length srcC src srcg (list.length : Int) w w0v (.own 2 1 listA list.length listC list :: Γ0) hS18 srcR) ?_)
  rintro _ w13 ⟨rfl, hS16⟩ a14 hE15; clear hE11 hS18
  have hf19 := l01Next_bd srcR srcg (list.length : Int)
  refine q_step (v := .pointer (some (adr listA (Int.toNat ((F_l01Next src srcg (list.length : Int)).1))))) hE15 (y_idx (by kernel_rfl) (fun _ => by kernel_rfl) rfl rfl (RdS.isS (m := (F_l01Next src srcg (list.length : Int)).1) (St.rdO (i := 1) hS16 rfl) (by omega) (by omega)) (by omega) (by omega) (Nat.mul_one _).symm) rfl rfl rfl ?_; intro a20 hE21; clear hE15
  refine q_step (v := .int .i64 (gI list ((F_l01Next src srcg (list.length : Int)).1))) hE21 (y_load (fun _ => by kernel_rfl) rfl (RdS.elt (St.rdO (i := 1) hS16 rfl) (by omega) (by omega))) rfl rfl rfl ?_; intro a22 hE23; clear hE21
  refine q_step (v := .int .i64 (gI list ((F_l01Next src srcg (list.length : Int)).1))) hE23 (y_assign rfl) rfl rfl rfl ?_; intro a24 hE25; clear hE23
  refine c_nil ?_
  have hE26 := hE25.sub (L' := [(4, .int .i64 (gI list ((F_l01Next src srcg (list.length : Int)).1)))]) ⟨rfl, trivial⟩; clear hE25
  refine p_tn ?_
  refine wp_ret ?_
  have hF : F_l01Pick src srcg list = (gI list ((F_l01Next src srcg (list.length : Int)).1), (F_l01Next src srcg (list.length : Int)).2) := by unfold F_l01Pick; rfl
  refine c_ret1 hE26 rfl rfl ?_
  have hS9 := (St.pickT (Γ := [.blk srcB #[.slice srcA src.length srcC, .int .i64 ((((F_l01Next src srcg (list.length : Int)).2).1 : Nat) : Int), .int .u64 (((F_l01Next src srcg (list.length : Int)).2).2)] 156, .own 2 1 listA list.length listC list]) (Γ' := [.own 2 1 listA list.length listC list, .blk srcB #[.slice srcA src.length srcC, .int .i64 ((((F_l01Next src srcg (list.length : Int)).2).1 : Nat) : Int), .int .u64 (((F_l01Next src srcg (list.length : Int)).2).2)] 156]) (Γ0 := Γ0) hS16 [1, 0] (by decide) rfl rfl)
  exact ⟨(by rw [hF]), (by rw [hF]; (try dsimp only); exact hS9)⟩

def F_l01Rel_L1b (src : List Int) (np : Int) (rec : (List Int) → Int → (Nat × Int) → (List Int) × Int × (Nat × Int)) (out5 : List Int) (i6 : Int) (x1g : Nat × Int) : (List Int) × Int × (Nat × Int) :=
  bif (decide (i6 < np)) then (rec (out5 ++ ([andI (andI ((F_l01Next src x1g 65536).1) ((F_l01Next src ((F_l01Next src x1g 65536).2) 65536).1)) (fullI np)])) (i6 + 1) ((F_l01Next src ((F_l01Next src x1g 65536).2) 65536).2)) else (out5, i6, x1g)
def F_l01Rel_L1 (src : List Int) (np : Int) : Nat → (List Int) → Int → (Nat × Int) → (List Int) × Int × (Nat × Int)
  | 0, out5, i6, x1g => (out5, i6, x1g)
  | r + 1, out5, i6, x1g => F_l01Rel_L1b src np (F_l01Rel_L1 src np r) out5 i6 x1g
def F_l01Rel (src : List Int) (srcg : Nat × Int) (np : Int) : List Int × (Nat × Int) :=
  (bif ((decide (((F_l01Next src ((F_l01Rel_L1 src np (Int.toNat (np - 0) + 1) ([]) 0 srcg).2.2) 30).1) = 0)) && (decide (0 < np))) then sI ((F_l01Rel_L1 src np (Int.toNat (np - 0) + 1) ([]) 0 srcg).1) ((F_l01Next src ((F_l01Next src ((F_l01Rel_L1 src np (Int.toNat (np - 0) + 1) ([]) 0 srcg).2.2) 30).2) np).1) ((F_l01Pick src ((F_l01Next src ((F_l01Next src ((F_l01Rel_L1 src np (Int.toNat (np - 0) + 1) ([]) 0 srcg).2.2) 30).2) np).2) ([-1, (fullI np) + 1])).1) else (F_l01Rel_L1 src np (Int.toNat (np - 0) + 1) ([]) 0 srcg).1, bif ((decide (((F_l01Next src ((F_l01Rel_L1 src np (Int.toNat (np - 0) + 1) ([]) 0 srcg).2.2) 30).1) = 0)) && (decide (0 < np))) then (F_l01Pick src ((F_l01Next src ((F_l01Next src ((F_l01Rel_L1 src np (Int.toNat (np - 0) + 1) ([]) 0 srcg).2.2) 30).2) np).2) ([-1, (fullI np) + 1])).2 else (F_l01Next src ((F_l01Rel_L1 src np (Int.toNat (np - 0) + 1) ([]) 0 srcg).2.2) 30).2)
theorem cf_l01Rel (args : Array Value) (w : World) : (callFunc 239 args).run Try.prog w = .ok (.enter 239 args) w := by kernel_rfl
theorem l01Rel_L1_len (src : List Int) (np : Int) : ∀ (r : Nat) (out : List Int) (i : Int) (g : Nat × Int), i ≤ np → (np - i).toNat < r → ((F_l01Rel_L1 src np r out i g).1.length : Int) = (out.length : Int) + (np - i) := by
  intro r
  induction r with
  | zero => intro out i g _ h; omega
  | succ r ih =>
    intro out i g h0 h
    show ((F_l01Rel_L1b src np (F_l01Rel_L1 src np r) out i g).1.length : Int) = _
    unfold F_l01Rel_L1b
    by_cases hi : i < np
    · rw [decide_eq_true hi, cond_true, ih _ _ _ (by omega) (by omega), List.length_append]
      simp only [List.length_cons, List.length_nil]; omega
    · rw [decide_eq_false hi, cond_false]
      show (out.length : Int) = _
      omega
theorem l01Rel_len0 (src : List Int) (np : Int) (h0 : 0 ≤ np) (g : Nat × Int) : ((F_l01Rel_L1 src np (Int.toNat (np - 0) + 1) ([]) 0 g).1.length : Int) = np := by
  rw [l01Rel_L1_len src np _ _ _ _ h0 (by omega)]
  simp

set_option maxRecDepth 100000 in
theorem c_l01Rel (srcB : Nat) (srcA : Option Addr) (srcN srcC : Nat) (src : List Int) (srcg : Nat × Int) (np : Int) (w : World) (w0v : World) (Γ0 : List Ent) (hS0 : St w0v w (.blk srcB #[.slice srcA srcN srcC, .int .i64 ((srcg.1 : Nat) : Int), .int .u64 (srcg.2)] 156 :: Γ0)) (srcR : RdB w0v srcA srcN srcC src) (h0 : 0 ≤ np) (h1 : np ≤ 62) :
    Calls Try.prog 239 #[.pointer (some ⟨srcB, 0, none⟩), .int .i64 np] w (Ret fun v w' => ∃ b1 : Option Addr, ∃ c1 : Nat, v = .slice b1 (((F_l01Rel src srcg np).1).length) c1 ∧ St w0v w' (.own 2 1 b1 (((F_l01Rel src srcg np).1).length) c1 ((F_l01Rel src srcg np).1) :: .blk srcB #[.slice srcA srcN srcC, .int .i64 ((((F_l01Rel src srcg np).2).1 : Nat) : Int), .int .u64 (((F_l01Rel src srcg np).2).2)] 156 :: Γ0)) := by
  obtain rfl : srcN = src.length := srcR.len
  have srcLe := srcR.le
  have hfb := fullI_bd (n := np) h0 h1
  refine enter (args := [.pointer (some ⟨srcB, 0, none⟩), .int .i64 np]) Try.func239 rfl rfl ?_
  rw [Try.ntmps239]; intro a hE
  have hE := hE.sub (L' := [(0, .pointer (some ⟨srcB, 0, none⟩)), (1, .int .i64 np)]) ⟨rfl, rfl, trivial⟩
  refine c_seq ?_
  refine c_reg ?_
  refine q_step (v := .slice none 0 0) hE (y_assign rfl) rfl rfl rfl ?_; intro a1 hE2; clear hE
  refine c_nil ?_
  have hE3 := hE2.sub (L' := [(0, .pointer (some ⟨srcB, 0, none⟩)), (1, .int .i64 np)]) ⟨rfl, rfl, trivial⟩; clear hE2
  refine p_tn ?_
  refine c_seq ?_
  refine c_reg ?_
  refine l_step hE3 rfl (l_lit (e := 2) (s := 1) (xs := []) (vs := []) hS0 hE3 rfl (fun _ => by kernel_rfl) rfl rfl rfl ?_)
  intro b4 w5 hS8 he9 a6 hE7; clear hS0 hE3
  refine q_step (v := .slice (some ⟨b4, 0, none⟩) 0 0) hE7 (y_assign rfl) rfl rfl rfl ?_; intro a10 hE11; clear hE7
  refine c_nil ?_
  have hE12 := hE11.sub (L' := [(0, .pointer (some ⟨srcB, 0, none⟩)), (1, .int .i64 np), (5, .slice (some ⟨b4, 0, none⟩) 0 0)]) ⟨rfl, rfl, rfl, trivial⟩; clear hE11
  refine p_tn ?_
  refine c_seq ?_
  refine c_seq ?_
  refine c_reg ?_
  refine q_step (v := .int .i64 0) hE12 (y_assign rfl) rfl rfl rfl ?_; intro a13 hE14; clear hE12
  refine c_nil ?_
  have hE15 := hE14.sub (L' := [(0, .pointer (some ⟨srcB, 0, none⟩)), (1, .int .i64 np), (5, .slice (some ⟨b4, 0, none⟩) 0 0), (6, .int .i64 0)]) ⟨rfl, rfl, rfl, rfl, trivial⟩; clear hE14
  refine p_tn ?_
  refine c_cut1 (fun a' w' => ∃ out5A_16 : Option Addr, ∃ out5C_16 : Nat, (0 ≤ ((F_l01Rel_L1 src np (Int.toNat (np - 0) + 1) ([]) 0 srcg).2.1)) ∧ ((((F_l01Rel_L1 src np (Int.toNat (np - 0) + 1) ([]) 0 srcg).1).length : Int) = ((F_l01Rel_L1 src np (Int.toNat (np - 0) + 1) ([]) 0 srcg).2.1)) ∧ (((F_l01Rel_L1 src np (Int.toNat (np - 0) + 1) ([]) 0 srcg).2.1) ≤ np) ∧ ((((F_l01Rel_L1 src np (Int.toNat (np - 0) + 1) ([]) 0 srcg).1).length : Int) ≤ ((F_l01Rel_L1 src np (Int.toNat (np - 0) + 1) ([]) 0 srcg).2.1)) ∧ E a' 43 [(0, .pointer (some ⟨srcB, 0, none⟩)), (1, .int .i64 np), (5, .slice out5A_16 (((F_l01Rel_L1 src np (Int.toNat (np - 0) + 1) ([]) 0 srcg).1).length) out5C_16), (6, .int .i64 ((F_l01Rel_L1 src np (Int.toNat (np - 0) + 1) ([]) 0 srcg).2.1))] ∧ St w0v w' (.own 2 1 out5A_16 (((F_l01Rel_L1 src np (Int.toNat (np - 0) + 1) ([]) 0 srcg).1).length) out5C_16 ((F_l01Rel_L1 src np (Int.toNat (np - 0) + 1) ([]) 0 srcg).1) :: .blk srcB #[.slice srcA src.length srcC, .int .i64 ((((F_l01Rel_L1 src np (Int.toNat (np - 0) + 1) ([]) 0 srcg).2.2).1 : Nat) : Int), .int .u64 (((F_l01Rel_L1 src np (Int.toNat (np - 0) + 1) ([]) 0 srcg).2.2).2)] 156 :: Γ0)) ?_ ?_
  ·
   refine wp_block ?_
   refine c_loop (fun r a' w' => ∃ out5 : List Int, ∃ i6 : Int, ∃ x1g : Nat × Int, ∃ out5A : Option Addr, ∃ out5C : Nat, F_l01Rel_L1 src np r out5 i6 x1g = F_l01Rel_L1 src np (Int.toNat (np - 0) + 1) ([]) 0 srcg ∧ Int.toNat (np - i6) < r ∧ (0 ≤ i6) ∧ ((out5.length : Int) = i6) ∧ (i6 ≤ np) ∧ ((out5.length : Int) ≤ i6) ∧ E a' 43 [(0, .pointer (some ⟨srcB, 0, none⟩)), (1, .int .i64 np), (5, .slice out5A ((out5).length) out5C), (6, .int .i64 i6)] ∧ St w0v w' (.own 2 1 out5A ((out5).length) out5C out5 :: .blk srcB #[.slice srcA src.length srcC, .int .i64 ((x1g.1 : Nat) : Int), .int .u64 x1g.2] 156 :: Γ0)) (r := (Int.toNat (np - 0) + 1)) ?_ ?_
   · exact ⟨[], 0, srcg, some ⟨b4, 0, none⟩, 0, rfl, Nat.lt_succ_self _, (by first | omega | (simp only [sS_len, sL_len]; omega) | (simp only [List.length_replicate, sI_len]; omega) | (simp only [List.length_append, List.length_cons, List.length_nil, sI_len, cond_true, cond_false]; omega) | (simp only [List.length_append, List.length_cons, List.length_nil, sI_len, cond_eq_ite, apply_ite List.length]; split <;> simp only [List.length_append, List.length_cons, List.length_nil, sI_len] <;> omega) | grind), (by first | omega | (simp only [sS_len, sL_len]; omega) | (simp only [List.length_replicate, sI_len]; omega) | (simp only [List.length_append, List.length_cons, List.length_nil, sI_len, cond_true, cond_false]; omega) | (simp only [List.length_append, List.length_cons, List.length_nil, sI_len, cond_eq_ite, apply_ite List.length]; split <;> simp only [List.length_append, List.length_cons, List.length_nil, sI_len] <;> omega) | grind), (by first | omega | (simp only [sS_len, sL_len]; omega) | (simp only [List.length_replicate, sI_len]; omega) | (simp only [List.length_append, List.length_cons, List.length_nil, sI_len, cond_true, cond_false]; omega) | (simp only [List.length_append, List.length_cons, List.length_nil, sI_len, cond_eq_ite, apply_ite List.length]; split <;> simp only [List.length_append, List.length_cons, List.length_nil, sI_len] <;> omega) | grind), (by first | omega | (simp only [sS_len, sL_len]; omega) | (simp only [List.length_replicate, sI_len]; omega) | (simp only [List.length_append, List.length_cons, List.length_nil, sI_len, cond_true, cond_false]; omega) | (simp only [List.length_append, List.length_cons, List.length_nil, sI_len, cond_eq_ite, apply_ite List.length]; split <;> simp only [List.length_append, List.length_cons, List.length_nil, sI_len] <;> omega) | grind), (hE15.sub (L' := [(0, .pointer (some ⟨srcB, 0, none⟩)), (1, .int .i64 np), (5, .slice (some ⟨b4, 0, none⟩) 0 0), (6, .int .i64 0)]) ⟨rfl, rfl, rfl, rfl, trivial⟩), (St.pickT (Γ := [.own 2 1 (some ⟨b4, 0, none⟩) 0 0 ([]), .blk srcB #[.slice srcA src.length srcC, .int .i64 ((srcg.1 : Nat) : Int), .int .u64 srcg.2] 156]) (Γ' := [.own 2 1 (some ⟨b4, 0, none⟩) 0 0 ([]), .blk srcB #[.slice srcA src.length srcC, .int .i64 ((srcg.1 : Nat) : Int), .int .u64 srcg.2] 156]) (Γ0 := Γ0) hS8 [0, 1] (by decide) rfl rfl)⟩
   ·
    clear hE15 hS8
    rintro r27 a17 w18 ⟨out5, i6, x1g, out5A, out5C, hT21, hr22, hi23, hi24, hi25, hi26, hE19, hS20⟩
    obtain ⟨r27, rfl⟩ : ∃ r', r27 = r' + 1 := ⟨r27 - 1, by omega⟩
    refine c_seq ?_
    refine c_seq ?_
    refine c_reg ?_
    refine q_step (v := .int .i64 i6) hE19 (y_move rfl) rfl rfl rfl ?_; intro a28 hE29; clear hE19
    refine q_step (v := .int .i64 np) hE29 (y_move rfl) rfl rfl rfl ?_; intro a30 hE31; clear hE29
    refine q_step (v := .bool (decide (i6 < np))) hE31 (y_lss rfl rfl) rfl rfl rfl ?_; intro a32 hE33; clear hE31
    refine c_nil ?_
    have hE34 := hE33.sub (L' := [(0, .pointer (some ⟨srcB, 0, none⟩)), (1, .int .i64 np), (5, .slice out5A ((out5).length) out5C), (6, .int .i64 i6), (10, .bool (decide (i6 < np)))]) ⟨rfl, rfl, rfl, rfl, rfl, trivial⟩; clear hE33
    refine p_tn ?_
    refine c_cond hE34 rfl (fun ht35 => ?_) (fun ht35 => ?_)
    ·
     have hp36 := of_decide_eq_true ht35
     have hE37 := hE34; rw [ht35] at hE37; clear hE34
     refine wp_skip ?_
     refine p_tn ?_
     refine c_seq ?_
     refine wp_block ?_
     refine c_reg ?_
     refine q_step (v := .slice out5A ((out5).length) out5C) hE37 (y_move rfl) rfl rfl rfl ?_; intro a38 hE39; clear hE37
     refine q_step (v := .pointer (some ⟨srcB, 0, none⟩)) hE39 (y_move rfl) rfl rfl rfl ?_; intro a40 hE41; clear hE39
     have hS48 := (St.pickT (Γ := [.own 2 1 out5A ((out5).length) out5C out5, .blk srcB #[.slice srcA src.length srcC, .int .i64 ((x1g.1 : Nat) : Int), .int .u64 x1g.2] 156]) (Γ' := [.blk srcB #[.slice srcA src.length srcC, .int .i64 ((x1g.1 : Nat) : Int), .int .u64 x1g.2] 156, .own 2 1 out5A ((out5).length) out5C out5]) (Γ0 := Γ0) hS20 [1, 0] (by decide) rfl rfl); clear hS20
     refine l_step hE41 rfl (l_call (f := 135) (argv := [.pointer (some ⟨srcB, 0, none⟩), .int .i64 65536]) hE41 (fun _ => cf_l01Next0 _ _) rfl rfl (c_l01Next srcB srcA src.length srcC src x1g 65536 w18 w0v (.own 2 1 out5A ((out5).length) out5C out5 :: Γ0) hS48 srcR) ?_)
     rintro _ w43 ⟨rfl, hS46⟩ a44 hE45; clear hE41 hS48
     have hf49 := l01Next_bd srcR x1g 65536
     refine q_step (v := .pointer (some ⟨srcB, 0, none⟩)) hE45 (y_move rfl) rfl rfl rfl ?_; intro a50 hE51; clear hE45
     have hS58 := (St.pickT (Γ := [.blk srcB #[.slice srcA src.length srcC, .int .i64 ((((F_l01Next src x1g 65536).2).1 : Nat) : Int), .int .u64 (((F_l01Next src x1g 65536).2).2)] 156, .own 2 1 out5A ((out5).length) out5C out5]) (Γ' := [.blk srcB #[.slice srcA src.length srcC, .int .i64 ((((F_l01Next src x1g 65536).2).1 : Nat) : Int), .int .u64 (((F_l01Next src x1g 65536).2).2)] 156, .own 2 1 out5A ((out5).length) out5C out5]) (Γ0 := Γ0) hS46 [0, 1] (by decide) rfl rfl); clear hS46
     refine l_step hE51 rfl (l_call (f := 135) (argv := [.pointer (some ⟨srcB, 0, none⟩), .int .i64 65536]) hE51 (fun _ => cf_l01Next0 _ _) rfl rfl (c_l01Next srcB srcA src.length srcC src ((F_l01Next src x1g 65536).2) 65536 w43 w0v (.own 2 1 out5A ((out5).length) out5C out5 :: Γ0) hS58 srcR) ?_)
     rintro _ w53 ⟨rfl, hS56⟩ a54 hE55; clear hE51 hS58
     have hf59 := l01Next_bd srcR ((F_l01Next src x1g 65536).2) 65536
     refine q_step (v := .int .i64 (andI ((F_l01Next src x1g 65536).1) ((F_l01Next src ((F_l01Next src x1g 65536).2) 65536).1))) hE55 (y_and rfl rfl) rfl rfl rfl ?_; intro a60 hE61; clear hE55
     refine q_step (v := .int .i64 np) hE61 (y_move rfl) rfl rfl rfl ?_; intro a62 hE63; clear hE61
     refine l_step hE63 rfl (l_call (f := 172) (argv := [.int .i64 np]) hE63 (fun _ => cf_l01Full _ _) rfl rfl (d_l01Full np w53 (by omega) (by omega)) ?_)
     rintro _ _ ⟨rfl, rfl⟩ a66 hE67; clear hE63
     refine q_step (v := .int .i64 (andI (andI ((F_l01Next src x1g 65536).1) ((F_l01Next src ((F_l01Next src x1g 65536).2) 65536).1)) (fullI np))) hE67 (y_and rfl rfl) rfl rfl rfl ?_; intro a70 hE71; clear hE67
     refine l_step hE71 rfl (l_lit (e := 2) (s := 1) (xs := [andI (andI ((F_l01Next src x1g 65536).1) ((F_l01Next src ((F_l01Next src x1g 65536).2) 65536).1)) (fullI np)]) (vs := [.int .i64 (andI (andI ((F_l01Next src x1g 65536).1) ((F_l01Next src ((F_l01Next src x1g 65536).2) 65536).1)) (fullI np))]) hS56 hE71 rfl (fun _ => by kernel_rfl) rfl rfl rfl ?_)
     intro b72 w73 hS76 he77 a74 hE75; clear hS56 hE71
     obtain ⟨_, hi1, hi2, hi3, hi4⟩ := info_parts (show (Try.prog.info? 2).map (fun i => (i.zero, i.size, i.bytes)) = some (some (.int .i64 0), 1, 8) by kernel_rfl)
     refine l_step hE75 rfl (l_append (k := 2) (n' := (out5 ++ ([andI (andI ((F_l01Next src x1g 65536).1) ((F_l01Next src ((F_l01Next src x1g 65536).2) 65536).1)) (fullI np)])).length) hS76 hE75 (by kernel_rfl) hi1 hi2 hi3 rfl (by decide) (by rw [hi4]; decide) rfl rfl rfl (St.rdO (i := 0) hS76 rfl) (by first | omega | (simp only [List.length_append, List.length_cons, List.length_nil]; omega)) (by have h1 := (St.rdO (i := 2) hS76 rfl).len1; have h2 := (St.rdO (i := 0) hS76 rfl).len1; first | rw [List.length_append, h1, h2] | (simp only [List.length_append])) rfl ?_)
     intro b78 c84 w79 hS82 a80 hE81; clear hS76 hE75 hi1 hi2 hi3 hi4
     refine q_step (v := .slice b78 ((out5 ++ ([andI (andI ((F_l01Next src x1g 65536).1) ((F_l01Next src ((F_l01Next src x1g 65536).2) 65536).1)) (fullI np)])).length) c84) hE81 (y_assign rfl) rfl rfl rfl ?_; intro a85 hE86; clear hE81
     refine c_nil ?_
     have hE87 := hE86.sub (L' := [(0, .pointer (some ⟨srcB, 0, none⟩)), (1, .int .i64 np), (5, .slice b78 ((out5 ++ ([andI (andI ((F_l01Next src x1g 65536).1) ((F_l01Next src ((F_l01Next src x1g 65536).2) 65536).1)) (fullI np)])).length) c84), (6, .int .i64 i6)]) ⟨rfl, rfl, rfl, rfl, trivial⟩; clear hE86
     refine p_bn ?_
     refine p_tn ?_
     refine c_reg ?_
     refine q_step (v := .int .i64 i6) hE87 (y_move rfl) rfl rfl rfl ?_; intro a88 hE89; clear hE87
     refine q_step (v := .int .i64 (i6 + 1)) hE89 (y_add rfl rfl ⟨(by omega), (by omega)⟩) rfl rfl rfl ?_; intro a90 hE91; clear hE89
     refine q_step (v := .int .i64 (i6 + 1)) hE91 (y_assign rfl) rfl rfl rfl ?_; intro a92 hE93; clear hE91
     refine c_nil ?_
     have hE94 := hE93.sub (L' := [(0, .pointer (some ⟨srcB, 0, none⟩)), (1, .int .i64 np), (5, .slice b78 ((out5 ++ ([andI (andI ((F_l01Next src x1g 65536).1) ((F_l01Next src ((F_l01Next src x1g 65536).2) 65536).1)) (fullI np)])).length) c84), (6, .int .i64 (i6 + 1))]) ⟨rfl, rfl, rfl, rfl, trivial⟩; clear hE93
     refine p_tn ⟨r27, Nat.lt_succ_self _, out5 ++ ([andI (andI ((F_l01Next src x1g 65536).1) ((F_l01Next src ((F_l01Next src x1g 65536).2) 65536).1)) (fullI np)]), i6 + 1, (F_l01Next src ((F_l01Next src x1g 65536).2) 65536).2, b78, c84, (hT21.symm.trans (show F_l01Rel_L1b src np (F_l01Rel_L1 src np r27) out5 i6 x1g = F_l01Rel_L1 src np r27 (out5 ++ ([andI (andI ((F_l01Next src x1g 65536).1) ((F_l01Next src ((F_l01Next src x1g 65536).2) 65536).1)) (fullI np)])) (i6 + 1) ((F_l01Next src ((F_l01Next src x1g 65536).2) 65536).2) by unfold F_l01Rel_L1b; rw [ht35]; first | done | rfl)).symm, (by omega), (by first | omega | (simp only [sS_len, sL_len]; omega) | (simp only [List.length_replicate, sI_len]; omega) | (simp only [List.length_append, List.length_cons, List.length_nil, sI_len, cond_true, cond_false]; omega) | (simp only [List.length_append, List.length_cons, List.length_nil, sI_len, cond_eq_ite, apply_ite List.length]; split <;> simp only [List.length_append, List.length_cons, List.length_nil, sI_len] <;> omega) | grind), (by first | omega | (simp only [sS_len, sL_len]; omega) | (simp only [List.length_replicate, sI_len]; omega) | (simp only [List.length_append, List.length_cons, List.length_nil, sI_len, cond_true, cond_false]; omega) | (simp only [List.length_append, List.length_cons, List.length_nil, sI_len, cond_eq_ite, apply_ite List.length]; split <;> simp only [List.length_append, List.length_cons, List.length_nil, sI_len] <;> omega) | grind), (by first | omega | (simp only [sS_len, sL_len]; omega) | (simp only [List.length_replicate, sI_len]; omega) | (simp only [List.length_append, List.length_cons, List.length_nil, sI_len, cond_true, cond_false]; omega) | (simp only [List.length_append, List.length_cons, List.length_nil, sI_len, cond_eq_ite, apply_ite List.length]; split <;> simp only [List.length_append, List.length_cons, List.length_nil, sI_len] <;> omega) | grind), (by first | omega | (simp only [sS_len, sL_len]; omega) | (simp only [List.length_replicate, sI_len]; omega) | (simp only [List.length_append, List.length_cons, List.length_nil, sI_len, cond_true, cond_false]; omega) | (simp only [List.length_append, List.length_cons, List.length_nil, sI_len, cond_eq_ite, apply_ite List.length]; split <;> simp only [List.length_append, List.length_cons, List.length_nil, sI_len] <;> omega) | grind), (hE94.sub (L' := [(0, .pointer (some ⟨srcB, 0, none⟩)), (1, .int .i64 np), (5, .slice b78 ((out5 ++ ([andI (andI ((F_l01Next src x1g 65536).1) ((F_l01Next src ((F_l01Next src x1g 65536).2) 65536).1)) (fullI np)])).length) c84), (6, .int .i64 (i6 + 1))]) ⟨rfl, rfl, rfl, rfl, trivial⟩), (St.pickT (Γ := [.own 2 1 (some ⟨b72, 0, none⟩) 1 1 ([andI (andI ((F_l01Next src x1g 65536).1) ((F_l01Next src ((F_l01Next src x1g 65536).2) 65536).1)) (fullI np)]), .blk srcB #[.slice srcA src.length srcC, .int .i64 ((((F_l01Next src ((F_l01Next src x1g 65536).2) 65536).2).1 : Nat) : Int), .int .u64 (((F_l01Next src ((F_l01Next src x1g 65536).2) 65536).2).2)] 156, .own 2 1 b78 ((out5 ++ ([andI (andI ((F_l01Next src x1g 65536).1) ((F_l01Next src ((F_l01Next src x1g 65536).2) 65536).1)) (fullI np)])).length) c84 (out5 ++ ([andI (andI ((F_l01Next src x1g 65536).1) ((F_l01Next src ((F_l01Next src x1g 65536).2) 65536).1)) (fullI np)]))]) (Γ' := [.own 2 1 b78 ((out5 ++ ([andI (andI ((F_l01Next src x1g 65536).1) ((F_l01Next src ((F_l01Next src x1g 65536).2) 65536).1)) (fullI np)])).length) c84 (out5 ++ ([andI (andI ((F_l01Next src x1g 65536).1) ((F_l01Next src ((F_l01Next src x1g 65536).2) 65536).1)) (fullI np)])), .blk srcB #[.slice srcA src.length srcC, .int .i64 ((((F_l01Next src ((F_l01Next src x1g 65536).2) 65536).2).1 : Nat) : Int), .int .u64 (((F_l01Next src ((F_l01Next src x1g 65536).2) 65536).2).2)] 156]) (Γ0 := Γ0) hS82 [2, 1] (by decide) rfl rfl)⟩
    ·
     have hp95 := of_decide_eq_false ht35
     have hE96 := hE34; rw [ht35] at hE96; clear hE34
     refine wp_exit ?_
     refine p_te ?_
     have hX97 : F_l01Rel_L1 src np (Int.toNat (np - 0) + 1) ([]) 0 srcg = (out5, i6, x1g) := hT21.symm.trans (show F_l01Rel_L1b src np (F_l01Rel_L1 src np r27) out5 i6 x1g = (out5, i6, x1g) by unfold F_l01Rel_L1b; rw [ht35]; first | done | rfl)
     refine p_te (p_be (p_tn ?_))
     exact ⟨out5A, out5C, (by rw [hX97]; exact (show 0 ≤ i6 from (by first | omega | (simp only [sS_len, sL_len]; omega) | (simp only [List.length_replicate, sI_len]; omega) | (simp only [List.length_append, List.length_cons, List.length_nil, sI_len, cond_true, cond_false]; omega) | (simp only [List.length_append, List.length_cons, List.length_nil, sI_len, cond_eq_ite, apply_ite List.length]; split <;> simp only [List.length_append, List.length_cons, List.length_nil, sI_len] <;> omega) | grind))), (by rw [hX97]; exact (show (out5.length : Int) = i6 from (by first | omega | (simp only [sS_len, sL_len]; omega) | (simp only [List.length_replicate, sI_len]; omega) | (simp only [List.length_append, List.length_cons, List.length_nil, sI_len, cond_true, cond_false]; omega) | (simp only [List.length_append, List.length_cons, List.length_nil, sI_len, cond_eq_ite, apply_ite List.length]; split <;> simp only [List.length_append, List.length_cons, List.length_nil, sI_len] <;> omega) | grind))), (by rw [hX97]; exact (show i6 ≤ np from (by first | omega | (simp only [sS_len, sL_len]; omega) | (simp only [List.length_replicate, sI_len]; omega) | (simp only [List.length_append, List.length_cons, List.length_nil, sI_len, cond_true, cond_false]; omega) | (simp only [List.length_append, List.length_cons, List.length_nil, sI_len, cond_eq_ite, apply_ite List.length]; split <;> simp only [List.length_append, List.length_cons, List.length_nil, sI_len] <;> omega) | grind))), (by rw [hX97]; exact (show (out5.length : Int) ≤ i6 from (by first | omega | (simp only [sS_len, sL_len]; omega) | (simp only [List.length_replicate, sI_len]; omega) | (simp only [List.length_append, List.length_cons, List.length_nil, sI_len, cond_true, cond_false]; omega) | (simp only [List.length_append, List.length_cons, List.length_nil, sI_len, cond_eq_ite, apply_ite List.length]; split <;> simp only [List.length_append, List.length_cons, List.length_nil, sI_len] <;> omega) | grind))), (by rw [hX97]; exact (hE96.sub (L' := [(0, .pointer (some ⟨srcB, 0, none⟩)), (1, .int .i64 np), (5, .slice out5A ((out5).length) out5C), (6, .int .i64 i6)]) ⟨rfl, rfl, rfl, rfl, trivial⟩)), (by rw [hX97]; exact (St.pickT (Γ := [.own 2 1 out5A ((out5).length) out5C out5, .blk srcB #[.slice srcA src.length srcC, .int .i64 ((x1g.1 : Nat) : Int), .int .u64 x1g.2] 156]) (Γ' := [.own 2 1 out5A ((out5).length) out5C out5, .blk srcB #[.slice srcA src.length srcC, .int .i64 ((x1g.1 : Nat) : Int), .int .u64 x1g.2] 156]) (Γ0 := Γ0) hS20 [0, 1] (by decide) rfl rfl))⟩
  ·
   rintro a98 w99 ⟨out5A_16, out5C_16, hi103, hi104, hi105, hi106, hE100, hS101⟩; clear hE15 hS8
   have hln := l01Rel_len0 src np h0 srcg
   refine p_tn ?_
   refine c_cut (fun a' w' => E a' 43 [(5, .slice out5A_16 (((F_l01Rel_L1 src np (Int.toNat (np - 0) + 1) ([]) 0 srcg).1).length) out5C_16)] ∧ St w0v w' (.own 2 1 out5A_16 (((F_l01Rel_L1 src np (Int.toNat (np - 0) + 1) ([]) 0 srcg).1).length) out5C_16 (bif ((decide (((F_l01Next src ((F_l01Rel_L1 src np (Int.toNat (np - 0) + 1) ([]) 0 srcg).2.2) 30).1) = 0)) && (decide (0 < np))) then sI ((F_l01Rel_L1 src np (Int.toNat (np - 0) + 1) ([]) 0 srcg).1) ((F_l01Next src ((F_l01Next src ((F_l01Rel_L1 src np (Int.toNat (np - 0) + 1) ([]) 0 srcg).2.2) 30).2) np).1) ((F_l01Pick src ((F_l01Next src ((F_l01Next src ((F_l01Rel_L1 src np (Int.toNat (np - 0) + 1) ([]) 0 srcg).2.2) 30).2) np).2) ([-1, (fullI np) + 1])).1) else (F_l01Rel_L1 src np (Int.toNat (np - 0) + 1) ([]) 0 srcg).1) :: .blk srcB #[.slice srcA src.length srcC, .int .i64 (((bif ((decide (((F_l01Next src ((F_l01Rel_L1 src np (Int.toNat (np - 0) + 1) ([]) 0 srcg).2.2) 30).1) = 0)) && (decide (0 < np))) then (F_l01Pick src ((F_l01Next src ((F_l01Next src ((F_l01Rel_L1 src np (Int.toNat (np - 0) + 1) ([]) 0 srcg).2.2) 30).2) np).2) ([-1, (fullI np) + 1])).2 else (F_l01Next src ((F_l01Rel_L1 src np (Int.toNat (np - 0) + 1) ([]) 0 srcg).2.2) 30).2).1 : Nat) : Int), .int .u64 ((bif ((decide (((F_l01Next src ((F_l01Rel_L1 src np (Int.toNat (np - 0) + 1) ([]) 0 srcg).2.2) 30).1) = 0)) && (decide (0 < np))) then (F_l01Pick src ((F_l01Next src ((F_l01Next src ((F_l01Rel_L1 src np (Int.toNat (np - 0) + 1) ([]) 0 srcg).2.2) 30).2) np).2) ([-1, (fullI np) + 1])).2 else (F_l01Next src ((F_l01Rel_L1 src np (Int.toNat (np - 0) + 1) ([]) 0 srcg).2.2) 30).2).2)] 156 :: Γ0)) ?_ ?_
   ·
    refine c_cut (fun a' w' => E a' 43 [(0, .pointer (some ⟨srcB, 0, none⟩)), (1, .int .i64 np), (5, .slice out5A_16 (((F_l01Rel_L1 src np (Int.toNat (np - 0) + 1) ([]) 0 srcg).1).length) out5C_16), (30, .bool ((decide (((F_l01Next src ((F_l01Rel_L1 src np (Int.toNat (np - 0) + 1) ([]) 0 srcg).2.2) 30).1) = 0)) && (decide (0 < np))))] ∧ St w0v w' (.own 2 1 out5A_16 (((F_l01Rel_L1 src np (Int.toNat (np - 0) + 1) ([]) 0 srcg).1).length) out5C_16 ((F_l01Rel_L1 src np (Int.toNat (np - 0) + 1) ([]) 0 srcg).1) :: .blk srcB #[.slice srcA src.length srcC, .int .i64 ((((F_l01Next src ((F_l01Rel_L1 src np (Int.toNat (np - 0) + 1) ([]) 0 srcg).2.2) 30).2).1 : Nat) : Int), .int .u64 (((F_l01Next src ((F_l01Rel_L1 src np (Int.toNat (np - 0) + 1) ([]) 0 srcg).2.2) 30).2).2)] 156 :: Γ0)) ?_ ?_
    ·
     refine c_reg ?_
     refine q_step (v := .pointer (some ⟨srcB, 0, none⟩)) hE100 (y_move rfl) rfl rfl rfl ?_; intro a107 hE108; clear hE100
     have hS115 := (St.pickT (Γ := [.own 2 1 out5A_16 (((F_l01Rel_L1 src np (Int.toNat (np - 0) + 1) ([]) 0 srcg).1).length) out5C_16 ((F_l01Rel_L1 src np (Int.toNat (np - 0) + 1) ([]) 0 srcg).1), .blk srcB #[.slice srcA src.length srcC, .int .i64 ((((F_l01Rel_L1 src np (Int.toNat (np - 0) + 1) ([]) 0 srcg).2.2).1 : Nat) : Int), .int .u64 (((F_l01Rel_L1 src np (Int.toNat (np - 0) + 1) ([]) 0 srcg).2.2).2)] 156]) (Γ' := [.blk srcB #[.slice srcA src.length srcC, .int .i64 ((((F_l01Rel_L1 src np (Int.toNat (np - 0) + 1) ([]) 0 srcg).2.2).1 : Nat) : Int), .int .u64 (((F_l01Rel_L1 src np (Int.toNat (np - 0) + 1) ([]) 0 srcg).2.2).2)] 156, .own 2 1 out5A_16 (((F_l01Rel_L1 src np (Int.toNat (np - 0) + 1) ([]) 0 srcg).1).length) out5C_16 ((F_l01Rel_L1 src np (Int.toNat (np - 0) + 1) ([]) 0 srcg).1)]) (Γ0 := Γ0) hS101 [1, 0] (by decide) rfl rfl); clear hS101
     refine l_step hE108 rfl (l_call (f := 135) (argv := [.pointer (some ⟨srcB, 0, none⟩), .int .i64 30]) hE108 (fun _ => cf_l01Next0 _ _) rfl rfl (c_l01Next srcB srcA src.length srcC src ((F_l01Rel_L1 src np (Int.toNat (np - 0) + 1) ([]) 0 srcg).2.2) 30 w99 w0v (.own 2 1 out5A_16 (((F_l01Rel_L1 src np (Int.toNat (np - 0) + 1) ([]) 0 srcg).1).length) out5C_16 ((F_l01Rel_L1 src np (Int.toNat (np - 0) + 1) ([]) 0 srcg).1) :: Γ0) hS115 srcR) ?_)
     rintro _ w110 ⟨rfl, hS113⟩ a111 hE112; clear hE108 hS115
     have hf116 := l01Next_bd srcR ((F_l01Rel_L1 src np (Int.toNat (np - 0) + 1) ([]) 0 srcg).2.2) 30
     refine q_step (v := .bool (decide (((F_l01Next src ((F_l01Rel_L1 src np (Int.toNat (np - 0) + 1) ([]) 0 srcg).2.2) 30).1) = 0))) hE112 (y_eql rfl rfl) rfl rfl rfl ?_; intro a117 hE118; clear hE112
     refine q_step (v := .bool (decide (((F_l01Next src ((F_l01Rel_L1 src np (Int.toNat (np - 0) + 1) ([]) 0 srcg).2.2) 30).1) = 0))) hE118 (y_move rfl) rfl rfl rfl ?_; intro a119 hE120; clear hE118
     rcases Bool.eq_false_or_eq_true (decide (((F_l01Next src ((F_l01Rel_L1 src np (Int.toNat (np - 0) + 1) ([]) 0 srcg).2.2) 30).1) = 0)) with hb121 | hb121
     ·
      have hE122 := hE120; (try rw [hb121] at hE122); clear hE120
      have hp123 := of_decide_eq_true hb121
      refine q_step (v := .int .i64 np) hE122 (y_move rfl) rfl rfl rfl ?_; intro a124 hE125; clear hE122
      refine q_step (v := .bool (decide (0 < np))) hE125 (y_gtr rfl rfl) rfl rfl rfl ?_; intro a126 hE127; clear hE125
      refine q_step (v := .bool (decide (0 < np))) hE127 (y_pick (b := true) rfl rfl) rfl rfl rfl ?_; intro a128 hE129; clear hE127
      refine c_nil ?_
      have hE130 := hE129.sub (L' := [(0, .pointer (some ⟨srcB, 0, none⟩)), (1, .int .i64 np), (5, .slice out5A_16 (((F_l01Rel_L1 src np (Int.toNat (np - 0) + 1) ([]) 0 srcg).1).length) out5C_16), (30, .bool (decide (0 < np)))]) ⟨rfl, rfl, rfl, rfl, trivial⟩; clear hE129
      refine p_tn ?_
      have hE131 := hE130.sub (L' := [(0, .pointer (some ⟨srcB, 0, none⟩)), (1, .int .i64 np), (5, .slice out5A_16 (((F_l01Rel_L1 src np (Int.toNat (np - 0) + 1) ([]) 0 srcg).1).length) out5C_16), (30, .bool (decide (0 < np)))]) ⟨rfl, rfl, rfl, rfl, trivial⟩
      have hS132 := (St.pickT (Γ := [.blk srcB #[.slice srcA src.length srcC, .int .i64 ((((F_l01Next src ((F_l01Rel_L1 src np (Int.toNat (np - 0) + 1) ([]) 0 srcg).2.2) 30).2).1 : Nat) : Int), .int .u64 (((F_l01Next src ((F_l01Rel_L1 src np (Int.toNat (np - 0) + 1) ([]) 0 srcg).2.2) 30).2).2)] 156, .own 2 1 out5A_16 (((F_l01Rel_L1 src np (Int.toNat (np - 0) + 1) ([]) 0 srcg).1).length) out5C_16 ((F_l01Rel_L1 src np (Int.toNat (np - 0) + 1) ([]) 0 srcg).1)]) (Γ' := [.own 2 1 out5A_16 (((F_l01Rel_L1 src np (Int.toNat (np - 0) + 1) ([]) 0 srcg).1).length) out5C_16 ((F_l01Rel_L1 src np (Int.toNat (np - 0) + 1) ([]) 0 srcg).1), .blk srcB #[.slice srcA src.length srcC, .int .i64 ((((F_l01Next src ((F_l01Rel_L1 src np (Int.toNat (np - 0) + 1) ([]) 0 srcg).2.2) 30).2).1 : Nat) : Int), .int .u64 (((F_l01Next src ((F_l01Rel_L1 src np (Int.toNat (np - 0) + 1) ([]) 0 srcg).2.2) 30).2).2)] 156]) (Γ0 := Γ0) hS113 [1, 0] (by decide) rfl rfl)
      exact ⟨(by rw [hb121]; exact hE131), hS132⟩
     ·
      have hE133 := hE120; (try rw [hb121] at hE133); clear hE120
      have hp134 := of_decide_eq_false hb121
      refine q_skip hE133 rfl rfl rfl ?_; intro a135 hE136; clear hE133
      refine q_skip hE136 rfl rfl rfl ?_; intro a137 hE138; clear hE136
      refine q_step (v := .bool false) hE138 (y_pick (b := false) rfl rfl) rfl rfl rfl ?_; intro a139 hE140; clear hE138
      refine c_nil ?_
      have hE141 := hE140.sub (L' := [(0, .pointer (some ⟨srcB, 0, none⟩)), (1, .int .i64 np), (5, .slice out5A_16 (((F_l01Rel_L1 src np (Int.toNat (np - 0) + 1) ([]) 0 srcg).1).length) out5C_16), (30, .bool false)]) ⟨rfl, rfl, rfl, rfl, trivial⟩; clear hE140
      refine p_tn ?_
      have hE142 := hE141.sub (L' := [(0, .pointer (some ⟨srcB, 0, none⟩)), (1, .int .i64 np), (5, .slice out5A_16 (((F_l01Rel_L1 src np (Int.toNat (np - 0) + 1) ([]) 0 srcg).1).length) out5C_16), (30, .bool false)]) ⟨rfl, rfl, rfl, rfl, trivial⟩
      have hS143 := (St.pickT (Γ := [.blk srcB #[.slice srcA src.length srcC, .int .i64 ((((F_l01Next src ((F_l01Rel_L1 src np (Int.toNat (np - 0) + 1) ([]) 0 srcg).2.2) 30).2).1 : Nat) : Int), .int .u64 (((F_l01Next src ((F_l01Rel_L1 src np (Int.toNat (np - 0) + 1) ([]) 0 srcg).2.2) 30).2).2)] 156, .own 2 1 out5A_16 (((F_l01Rel_L1 src np (Int.toNat (np - 0) + 1) ([]) 0 srcg).1).length) out5C_16 ((F_l01Rel_L1 src np (Int.toNat (np - 0) + 1) ([]) 0 srcg).1)]) (Γ' := [.own 2 1 out5A_16 (((F_l01Rel_L1 src np (Int.toNat (np - 0) + 1) ([]) 0 srcg).1).length) out5C_16 ((F_l01Rel_L1 src np (Int.toNat (np - 0) + 1) ([]) 0 srcg).1), .blk srcB #[.slice srcA src.length srcC, .int .i64 ((((F_l01Next src ((F_l01Rel_L1 src np (Int.toNat (np - 0) + 1) ([]) 0 srcg).2.2) 30).2).1 : Nat) : Int), .int .u64 (((F_l01Next src ((F_l01Rel_L1 src np (Int.toNat (np - 0) + 1) ([]) 0 srcg).2.2) 30).2).2)] 156]) (Γ0 := Γ0) hS113 [1, 0] (by decide) rfl rfl)
      exact ⟨(by rw [hb121]; exact hE142), hS143⟩
    ·
     rintro a144 w145 ⟨hE146, hS147⟩; clear hE100 hS101
     refine c_cond hE146 rfl (fun ht149 => ?_) (fun ht149 => ?_)
     ·
      obtain ⟨ht150, ht151⟩ := band_t ht149
      have hp152 := of_decide_eq_true ht150
      have hp153 := of_decide_eq_true ht151
      have hE154 := hE146; rw [ht149] at hE154; clear hE146
      refine c_reg ?_
      refine q_step (v := .slice out5A_16 (((F_l01Rel_L1 src np (Int.toNat (np - 0) + 1) ([]) 0 srcg).1).length) out5C_16) hE154 (y_move rfl) rfl rfl rfl ?_; intro a155 hE156; clear hE154
      refine q_step (v := .pointer (some ⟨srcB, 0, none⟩)) hE156 (y_move rfl) rfl rfl rfl ?_; intro a157 hE158; clear hE156
      refine q_step (v := .int .i64 np) hE158 (y_move rfl) rfl rfl rfl ?_; intro a159 hE160; clear hE158
      have hS167 := (St.pickT (Γ := [.own 2 1 out5A_16 (((F_l01Rel_L1 src np (Int.toNat (np - 0) + 1) ([]) 0 srcg).1).length) out5C_16 ((F_l01Rel_L1 src np (Int.toNat (np - 0) + 1) ([]) 0 srcg).1), .blk srcB #[.slice srcA src.length srcC, .int .i64 ((((F_l01Next src ((F_l01Rel_L1 src np (Int.toNat (np - 0) + 1) ([]) 0 srcg).2.2) 30).2).1 : Nat) : Int), .int .u64 (((F_l01Next src ((F_l01Rel_L1 src np (Int.toNat (np - 0) + 1) ([]) 0 srcg).2.2) 30).2).2)] 156]) (Γ' := [.blk srcB #[.slice srcA src.length srcC, .int .i64 ((((F_l01Next src ((F_l01Rel_L1 src np (Int.toNat (np - 0) + 1) ([]) 0 srcg).2.2) 30).2).1 : Nat) : Int), .int .u64 (((F_l01Next src ((F_l01Rel_L1 src np (Int.toNat (np - 0) + 1) ([]) 0 srcg).2.2) 30).2).2)] 156, .own 2 1 out5A_16 (((F_l01Rel_L1 src np (Int.toNat (np - 0) + 1) ([]) 0 srcg).1).length) out5C_16 ((F_l01Rel_L1 src np (Int.toNat (np - 0) + 1) ([]) 0 srcg).1)]) (Γ0 := Γ0) hS147 [1, 0] (by decide) rfl rfl); clear hS147
      refine l_step hE160 rfl (l_call (f := 135) (argv := [.pointer (some ⟨srcB, 0, none⟩), .int .i64 np]) hE160 (fun _ => cf_l01Next0 _ _) rfl rfl (c_l01Next srcB srcA src.length srcC src ((F_l01Next src ((F_l01Rel_L1 src np (Int.toNat (np - 0) + 1) ([]) 0 srcg).2.2) 30).2) np w145 w0v (.own 2 1 out5A_16 (((F_l01Rel_L1 src np (Int.toNat (np - 0) + 1) ([]) 0 srcg).1).length) out5C_16 ((F_l01Rel_L1 src np (Int.toNat (np - 0) + 1) ([]) 0 srcg).1) :: Γ0) hS167 srcR) ?_)
      rintro _ w162 ⟨rfl, hS165⟩ a163 hE164; clear hE160 hS167
      have hf168 := l01Next_bd srcR ((F_l01Next src ((F_l01Rel_L1 src np (Int.toNat (np - 0) + 1) ([]) 0 srcg).2.2) 30).2) np
      refine q_step (v := .pointer (some ⟨srcB, 0, none⟩)) hE164 (y_move rfl) rfl rfl rfl ?_; intro a169 hE170; clear hE164
      refine q_step (v := .int .i64 np) hE170 (y_move rfl) rfl rfl rfl ?_; intro a171 hE172; clear hE170
      refine l_step hE172 rfl (l_call (f := 172) (argv := [.int .i64 np]) hE172 (fun _ => cf_l01Full _ _) rfl rfl (d_l01Full np w162 (by omega) (by omega)) ?_)
      rintro _ _ ⟨rfl, rfl⟩ a175 hE176; clear hE172
      refine q_step (v := .int .i64 ((fullI np) + 1)) hE176 (y_add rfl rfl ⟨(by omega), (by omega)⟩) rfl rfl rfl ?_; intro a179 hE180; clear hE176
      refine l_step hE180 rfl (l_lit (e := 2) (s := 1) (xs := [-1, (fullI np) + 1]) (vs := [.int .i64 (-1), .int .i64 ((fullI np) + 1)]) hS165 hE180 rfl (fun _ => by kernel_rfl) rfl rfl rfl ?_)
      intro b181 w182 hS185 he186 a183 hE184; clear hS165 hE180
      have hS193 := (St.pickT (Γ := [.own 2 1 (some ⟨b181, 0, none⟩) 2 2 ([-1, (fullI np) + 1]), .blk srcB #[.slice srcA src.length srcC, .int .i64 ((((F_l01Next src ((F_l01Next src ((F_l01Rel_L1 src np (Int.toNat (np - 0) + 1) ([]) 0 srcg).2.2) 30).2) np).2).1 : Nat) : Int), .int .u64 (((F_l01Next src ((F_l01Next src ((F_l01Rel_L1 src np (Int.toNat (np - 0) + 1) ([]) 0 srcg).2.2) 30).2) np).2).2)] 156, .own 2 1 out5A_16 (((F_l01Rel_L1 src np (Int.toNat (np - 0) + 1) ([]) 0 srcg).1).length) out5C_16 ((F_l01Rel_L1 src np (Int.toNat (np - 0) + 1) ([]) 0 srcg).1)]) (Γ' := [.own 2 1 (some ⟨b181, 0, none⟩) 2 2 ([-1, (fullI np) + 1]), .blk srcB #[.slice srcA src.length srcC, .int .i64 ((((F_l01Next src ((F_l01Next src ((F_l01Rel_L1 src np (Int.toNat (np - 0) + 1) ([]) 0 srcg).2.2) 30).2) np).2).1 : Nat) : Int), .int .u64 (((F_l01Next src ((F_l01Next src ((F_l01Rel_L1 src np (Int.toNat (np - 0) + 1) ([]) 0 srcg).2.2) 30).2) np).2).2)] 156, .own 2 1 out5A_16 (((F_l01Rel_L1 src np (Int.toNat (np - 0) + 1) ([]) 0 srcg).1).length) out5C_16 ((F_l01Rel_L1 src np (Int.toNat (np - 0) + 1) ([]) 0 srcg).1)]) (Γ0 := Γ0) hS185 [0, 1, 2] (by decide) rfl rfl); clear hS185
      refine l_step hE184 rfl (l_call (f := 137) (argv := [.pointer (some ⟨srcB, 0, none⟩), .slice (some ⟨b181, 0, none⟩) 2 2]) hE184 (fun _ => cf_l01Pick _ _) rfl rfl (c_l01Pick srcB srcA src.length srcC src ((F_l01Next src ((F_l01Next src ((F_l01Rel_L1 src np (Int.toNat (np - 0) + 1) ([]) 0 srcg).2.2) 30).2) np).2) (some ⟨b181, 0, none⟩) 2 2 ([-1, (fullI np) + 1]) w182 w0v (.own 2 1 out5A_16 (((F_l01Rel_L1 src np (Int.toNat (np - 0) + 1) ([]) 0 srcg).1).length) out5C_16 ((F_l01Rel_L1 src np (Int.toNat (np - 0) + 1) ([]) 0 srcg).1) :: Γ0) hS193 srcR (by simp)) ?_)
      rintro _ w188 ⟨rfl, hS191⟩ a189 hE190; clear hE184 hS193
      refine q_step (v := .pointer (some (adr out5A_16 (Int.toNat ((F_l01Next src ((F_l01Next src ((F_l01Rel_L1 src np (Int.toNat (np - 0) + 1) ([]) 0 srcg).2.2) 30).2) np).1))))) hE190 (y_idx (by kernel_rfl) (fun _ => by kernel_rfl) rfl rfl (RdS.isS (m := (F_l01Next src ((F_l01Next src ((F_l01Rel_L1 src np (Int.toNat (np - 0) + 1) ([]) 0 srcg).2.2) 30).2) np).1) (St.rdO (i := 2) hS191 rfl) (by omega) (by omega)) (by omega) (by omega) (Nat.mul_one _).symm) rfl rfl rfl ?_; intro a194 hE195; clear hE190
      refine l_step hE195 rfl (l_store (k := 2) hS191 hE195 (fun _ => by kernel_rfl) rfl rfl rfl (by omega) (by omega) ?_)
      intro w197 hS200 a198 hE199; clear hS191 hE195
      refine c_nil ?_
      have hE202 := hE199.sub (L' := [(5, .slice out5A_16 (((F_l01Rel_L1 src np (Int.toNat (np - 0) + 1) ([]) 0 srcg).1).length) out5C_16)]) ⟨rfl, trivial⟩; clear hE199
      refine p_tn ?_
      have hE203 := hE202.sub (L' := [(5, .slice out5A_16 (((F_l01Rel_L1 src np (Int.toNat (np - 0) + 1) ([]) 0 srcg).1).length) out5C_16)]) ⟨rfl, trivial⟩
      have hS204 := (St.pickT (Γ := [.own 2 1 (some ⟨b181, 0, none⟩) 2 2 ([-1, (fullI np) + 1]), .blk srcB #[.slice srcA src.length srcC, .int .i64 ((((F_l01Pick src ((F_l01Next src ((F_l01Next src ((F_l01Rel_L1 src np (Int.toNat (np - 0) + 1) ([]) 0 srcg).2.2) 30).2) np).2) ([-1, (fullI np) + 1])).2).1 : Nat) : Int), .int .u64 (((F_l01Pick src ((F_l01Next src ((F_l01Next src ((F_l01Rel_L1 src np (Int.toNat (np - 0) + 1) ([]) 0 srcg).2.2) 30).2) np).2) ([-1, (fullI np) + 1])).2).2)] 156, .own 2 1 out5A_16 (((F_l01Rel_L1 src np (Int.toNat (np - 0) + 1) ([]) 0 srcg).1).length) out5C_16 (sI ((F_l01Rel_L1 src np (Int.toNat (np - 0) + 1) ([]) 0 srcg).1) ((F_l01Next src ((F_l01Next src ((F_l01Rel_L1 src np (Int.toNat (np - 0) + 1) ([]) 0 srcg).2.2) 30).2) np).1) ((F_l01Pick src ((F_l01Next src ((F_l01Next src ((F_l01Rel_L1 src np (Int.toNat (np - 0) + 1) ([]) 0 srcg).2.2) 30).2) np).2) ([-1, (fullI np) + 1])).1))]) (Γ' := [.own 2 1 out5A_16 (((F_l01Rel_L1 src np (Int.toNat (np - 0) + 1) ([]) 0 srcg).1).length) out5C_16 (sI ((F_l01Rel_L1 src np (Int.toNat (np - 0) + 1) ([]) 0 srcg).1) ((F_l01Next src ((F_l01Next src ((F_l01Rel_L1 src np (Int.toNat (np - 0) + 1) ([]) 0 srcg).2.2) 30).2) np).1) ((F_l01Pick src ((F_l01Next src ((F_l01Next src ((F_l01Rel_L1 src np (Int.toNat (np - 0) + 1) ([]) 0 srcg).2.2) 30).2) np).2) ([-1, (fullI np) + 1])).1)), .blk srcB #[.slice srcA src.length srcC, .int .i64 ((((F_l01Pick src ((F_l01Next src ((F_l01Next src ((F_l01Rel_L1 src np (Int.toNat (np - 0) + 1) ([]) 0 srcg).2.2) 30).2) np).2) ([-1, (fullI np) + 1])).2).1 : Nat) : Int), .int .u64 (((F_l01Pick src ((F_l01Next src ((F_l01Next src ((F_l01Rel_L1 src np (Int.toNat (np - 0) + 1) ([]) 0 srcg).2.2) 30).2) np).2) ([-1, (fullI np) + 1])).2).2)] 156]) (Γ0 := Γ0) hS200 [2, 1] (by decide) rfl rfl)
      exact ⟨hE203, (by rw [ht149]; exact hS204)⟩
     ·
      have hE205 := hE146; rw [ht149] at hE205; clear hE146
      refine wp_skip ?_
      refine p_tn ?_
      have hE206 := hE205.sub (L' := [(5, .slice out5A_16 (((F_l01Rel_L1 src np (Int.toNat (np - 0) + 1) ([]) 0 srcg).1).length) out5C_16)]) ⟨rfl, trivial⟩
      have hS207 := (St.pickT (Γ := [.own 2 1 out5A_16 (((F_l01Rel_L1 src np (Int.toNat (np - 0) + 1) ([]) 0 srcg).1).length) out5C_16 ((F_l01Rel_L1 src np (Int.toNat (np - 0) + 1) ([]) 0 srcg).1), .blk srcB #[.slice srcA src.length srcC, .int .i64 ((((F_l01Next src ((F_l01Rel_L1 src np (Int.toNat (np - 0) + 1) ([]) 0 srcg).2.2) 30).2).1 : Nat) : Int), .int .u64 (((F_l01Next src ((F_l01Rel_L1 src np (Int.toNat (np - 0) + 1) ([]) 0 srcg).2.2) 30).2).2)] 156]) (Γ' := [.own 2 1 out5A_16 (((F_l01Rel_L1 src np (Int.toNat (np - 0) + 1) ([]) 0 srcg).1).length) out5C_16 ((F_l01Rel_L1 src np (Int.toNat (np - 0) + 1) ([]) 0 srcg).1), .blk srcB #[.slice srcA src.length srcC, .int .i64 ((((F_l01Next src ((F_l01Rel_L1 src np (Int.toNat (np - 0) + 1) ([]) 0 srcg).2.2) 30).2).1 : Nat) : Int), .int .u64 (((F_l01Next src ((F_l01Rel_L1 src np (Int.toNat (np - 0) + 1) ([]) 0 srcg).2.2) 30).2).2)] 156]) (Γ0 := Γ0) hS147 [0, 1] (by decide) rfl rfl)
      exact ⟨hE206, (by rw [ht149]; exact hS207)⟩
   ·
    rintro a208 w209 ⟨hE210, hS211⟩; clear hE100 hS101
    refine c_seq ?_
    refine c_reg ?_
    refine q_step (v := .slice out5A_16 (((F_l01Rel_L1 src np (Int.toNat (np - 0) + 1) ([]) 0 srcg).1).length) out5C_16) hE210 (y_move rfl) rfl rfl rfl ?_; intro a213 hE214; clear hE210
    refine q_step (v := .slice out5A_16 (((F_l01Rel_L1 src np (Int.toNat (np - 0) + 1) ([]) 0 srcg).1).length) out5C_16) hE214 (y_assign rfl) rfl rfl rfl ?_; intro a215 hE216; clear hE214
    refine c_nil ?_
    have hE217 := hE216.sub (L' := [(4, .slice out5A_16 (((F_l01Rel_L1 src np (Int.toNat (np - 0) + 1) ([]) 0 srcg).1).length) out5C_16)]) ⟨rfl, trivial⟩; clear hE216
    refine p_tn ?_
    refine wp_ret ?_
    have hF : F_l01Rel src srcg np = (bif ((decide (((F_l01Next src ((F_l01Rel_L1 src np (Int.toNat (np - 0) + 1) ([]) 0 srcg).2.2) 30).1) = 0)) && (decide (0 < np))) then sI ((F_l01Rel_L1 src np (Int.toNat (np - 0) + 1) ([]) 0 srcg).1) ((F_l01Next src ((F_l01Next src ((F_l01Rel_L1 src np (Int.toNat (np - 0) + 1) ([]) 0 srcg).2.2) 30).2) np).1) ((F_l01Pick src ((F_l01Next src ((F_l01Next src ((F_l01Rel_L1 src np (Int.toNat (np - 0) + 1) ([]) 0 srcg).2.2) 30).2) np).2) ([-1, (fullI np) + 1])).1) else (F_l01Rel_L1 src np (Int.toNat (np - 0) + 1) ([]) 0 srcg).1, bif ((decide (((F_l01Next src ((F_l01Rel_L1 src np (Int.toNat (np - 0) + 1) ([]) 0 srcg).2.2) 30).1) = 0)) && (decide (0 < np))) then (F_l01Pick src ((F_l01Next src ((F_l01Next src ((F_l01Rel_L1 src np (Int.toNat (np - 0) + 1) ([]) 0 srcg).2.2) 30).2) np).2) ([-1, (fullI np) + 1])).2 else (F_l01Next src ((F_l01Rel_L1 src np (Int.toNat (np - 0) + 1) ([]) 0 srcg).2.2) 30).2) := by unfold F_l01Rel; rfl
    refine c_ret1 hE217 rfl rfl ?_
    have hS9 := (St.pickT (Γ := [.own 2 1 out5A_16 (((F_l01Rel_L1 src np (Int.toNat (np - 0) + 1) ([]) 0 srcg).1).length) out5C_16 (bif ((decide (((F_l01Next src ((F_l01Rel_L1 src np (Int.toNat (np - 0) + 1) ([]) 0 srcg).2.2) 30).1) = 0)) && (decide (0 < np))) then sI ((F_l01Rel_L1 src np (Int.toNat (np - 0) + 1) ([]) 0 srcg).1) ((F_l01Next src ((F_l01Next src ((F_l01Rel_L1 src np (Int.toNat (np - 0) + 1) ([]) 0 srcg).2.2) 30).2) np).1) ((F_l01Pick src ((F_l01Next src ((F_l01Next src ((F_l01Rel_L1 src np (Int.toNat (np - 0) + 1) ([]) 0 srcg).2.2) 30).2) np).2) ([-1, (fullI np) + 1])).1) else (F_l01Rel_L1 src np (Int.toNat (np - 0) + 1) ([]) 0 srcg).1), .blk srcB #[.slice srcA src.length srcC, .int .i64 (((bif ((decide (((F_l01Next src ((F_l01Rel_L1 src np (Int.toNat (np - 0) + 1) ([]) 0 srcg).2.2) 30).1) = 0)) && (decide (0 < np))) then (F_l01Pick src ((F_l01Next src ((F_l01Next src ((F_l01Rel_L1 src np (Int.toNat (np - 0) + 1) ([]) 0 srcg).2.2) 30).2) np).2) ([-1, (fullI np) + 1])).2 else (F_l01Next src ((F_l01Rel_L1 src np (Int.toNat (np - 0) + 1) ([]) 0 srcg).2.2) 30).2).1 : Nat) : Int), .int .u64 ((bif ((decide (((F_l01Next src ((F_l01Rel_L1 src np (Int.toNat (np - 0) + 1) ([]) 0 srcg).2.2) 30).1) = 0)) && (decide (0 < np))) then (F_l01Pick src ((F_l01Next src ((F_l01Next src ((F_l01Rel_L1 src np (Int.toNat (np - 0) + 1) ([]) 0 srcg).2.2) 30).2) np).2) ([-1, (fullI np) + 1])).2 else (F_l01Next src ((F_l01Rel_L1 src np (Int.toNat (np - 0) + 1) ([]) 0 srcg).2.2) 30).2).2)] 156]) (Γ' := [.own 2 1 out5A_16 (((F_l01Rel_L1 src np (Int.toNat (np - 0) + 1) ([]) 0 srcg).1).length) out5C_16 (bif ((decide (((F_l01Next src ((F_l01Rel_L1 src np (Int.toNat (np - 0) + 1) ([]) 0 srcg).2.2) 30).1) = 0)) && (decide (0 < np))) then sI ((F_l01Rel_L1 src np (Int.toNat (np - 0) + 1) ([]) 0 srcg).1) ((F_l01Next src ((F_l01Next src ((F_l01Rel_L1 src np (Int.toNat (np - 0) + 1) ([]) 0 srcg).2.2) 30).2) np).1) ((F_l01Pick src ((F_l01Next src ((F_l01Next src ((F_l01Rel_L1 src np (Int.toNat (np - 0) + 1) ([]) 0 srcg).2.2) 30).2) np).2) ([-1, (fullI np) + 1])).1) else (F_l01Rel_L1 src np (Int.toNat (np - 0) + 1) ([]) 0 srcg).1), .blk srcB #[.slice srcA src.length srcC, .int .i64 (((bif ((decide (((F_l01Next src ((F_l01Rel_L1 src np (Int.toNat (np - 0) + 1) ([]) 0 srcg).2.2) 30).1) = 0)) && (decide (0 < np))) then (F_l01Pick src ((F_l01Next src ((F_l01Next src ((F_l01Rel_L1 src np (Int.toNat (np - 0) + 1) ([]) 0 srcg).2.2) 30).2) np).2) ([-1, (fullI np) + 1])).2 else (F_l01Next src ((F_l01Rel_L1 src np (Int.toNat (np - 0) + 1) ([]) 0 srcg).2.2) 30).2).1 : Nat) : Int), .int .u64 ((bif ((decide (((F_l01Next src ((F_l01Rel_L1 src np (Int.toNat (np - 0) + 1) ([]) 0 srcg).2.2) 30).1) = 0)) && (decide (0 < np))) then (F_l01Pick src ((F_l01Next src ((F_l01Next src ((F_l01Rel_L1 src np (Int.toNat (np - 0) + 1) ([]) 0 srcg).2.2) 30).2) np).2) ([-1, (fullI np) + 1])).2 else (F_l01Next src ((F_l01Rel_L1 src np (Int.toNat (np - 0) + 1) ([]) 0 srcg).2.2) 30).2).2)] 156]) (Γ0 := Γ0) hS211 [0, 1] (by decide) rfl rfl)
    exact ⟨out5A_16, out5C_16, (by rw [hF]; (try dsimp only); rw [(St.rdO (i := 0) hS211 rfl).len1]), (by rw [hF]; (try dsimp only); rw [(St.rdO (i := 0) hS211 rfl).len1]; exact hS9)⟩

theorem l01Rel_len (src : List Int) (g : Nat × Int) (np : Int) : (F_l01Rel src g np).1.length ≤ np.toNat := by
  unfold F_l01Rel
  by_cases h0 : 0 ≤ np
  · have h := l01Rel_len0 src np h0 g
    cases ((decide (((F_l01Next src ((F_l01Rel_L1 src np (Int.toNat (np - 0) + 1) ([]) 0 g).2.2) 30).1) = 0)) && (decide (0 < np)))
    · show ((F_l01Rel_L1 src np (Int.toNat (np - 0) + 1) ([]) 0 g).1).length ≤ _
      omega
    · show (sI _ _ _).length ≤ _
      rw [sI_len]; omega
  · rw [show Int.toNat (np - 0) + 1 = 1 by omega, decide_eq_false (show ¬ 0 < np by omega), Bool.and_false, cond_false]
    show ((F_l01Rel_L1b src np (F_l01Rel_L1 src np 0) [] 0 g).1).length ≤ _
    unfold F_l01Rel_L1b
    rw [decide_eq_false (show ¬ 0 < np by omega), cond_false]
    exact Nat.zero_le _


def F_l01Some (src : List Int) (srcg : Nat × Int) : List Int × (Nat × Int) :=
  bif (decide (((F_l01Next src srcg 40).1) = 0)) then (List.replicate (Int.toNat (30 + ((F_l01Next src ((F_l01Next src srcg 40).2) 2).1))) 0, (F_l01Next src ((F_l01Next src srcg 40).2) 2).2) else ((F_l01Rel src ((F_l01Next src ((F_l01Next src srcg 40).2) 8).2) ((F_l01Next src ((F_l01Next src srcg 40).2) 8).1)).1, (F_l01Rel src ((F_l01Next src ((F_l01Next src srcg 40).2) 8).2) ((F_l01Next src ((F_l01Next src srcg 40).2) 8).1)).2)
theorem cf_l01Some (args : Array Value) (w : World) : (callFunc 200 args).run Try.prog w = .ok (.enter 200 args) w := by kernel_rfl
set_option maxRecDepth 100000 in
theorem c_l01Some (srcB : Nat) (srcA : Option Addr) (srcN srcC : Nat) (src : List Int) (srcg : Nat × Int) (w : World) (w0v : World) (Γ0 : List Ent) (hS0 : St w0v w (.blk srcB #[.slice srcA srcN srcC, .int .i64 ((srcg.1 : Nat) : Int), .int .u64 (srcg.2)] 156 :: Γ0)) (srcR : RdB w0v srcA srcN srcC src) :
    Calls Try.prog 200 #[.pointer (some ⟨srcB, 0, none⟩)] w (Ret fun v w' => ∃ b1 : Option Addr, ∃ c1 : Nat, v = .slice b1 (((F_l01Some src srcg).1).length) c1 ∧ St w0v w' (.own 2 1 b1 (((F_l01Some src srcg).1).length) c1 ((F_l01Some src srcg).1) :: .blk srcB #[.slice srcA srcN srcC, .int .i64 ((((F_l01Some src srcg).2).1 : Nat) : Int), .int .u64 (((F_l01Some src srcg).2).2)] 156 :: Γ0)) := by
  obtain rfl : srcN = src.length := srcR.len
  have srcLe := srcR.le
  refine enter (args := [.pointer (some ⟨srcB, 0, none⟩)]) Try.func200 rfl rfl ?_
  rw [Try.ntmps200]; intro a hE
  have hE := hE.sub (L' := [(0, .pointer (some ⟨srcB, 0, none⟩))]) ⟨rfl, trivial⟩
  refine c_seq ?_
  refine c_reg ?_
  refine q_step (v := .slice none 0 0) hE (y_assign rfl) rfl rfl rfl ?_; intro a1 hE2; clear hE
  refine c_nil ?_
  have hE3 := hE2.sub (L' := [(0, .pointer (some ⟨srcB, 0, none⟩))]) ⟨rfl, trivial⟩; clear hE2
  refine p_tn ?_
  refine c_seq ?_
  refine c_seq ?_
  refine c_reg ?_
  refine q_step (v := .pointer (some ⟨srcB, 0, none⟩)) hE3 (y_move rfl) rfl rfl rfl ?_; intro a4 hE5; clear hE3
  have hS12 := (St.pickT (Γ := [.blk srcB #[.slice srcA src.length srcC, .int .i64 ((srcg.1 : Nat) : Int), .int .u64 srcg.2] 156]) (Γ' := [.blk srcB #[.slice srcA src.length srcC, .int .i64 ((srcg.1 : Nat) : Int), .int .u64 srcg.2] 156]) (Γ0 := Γ0) hS0 [0] (by decide) rfl rfl); clear hS0
  refine l_step hE5 rfl (l_call (f := 135) (argv := [.pointer (some ⟨srcB, 0, none⟩), .int .i64 40]) hE5 (fun _ => cf_l01Next0 _ _) rfl rfl (c_l01Next srcB srcA src.length srcC src srcg 40 w w0v (Γ0) hS12 srcR) ?_)
  rintro _ w7 ⟨rfl, hS10⟩ a8 hE9; clear hE5 hS12
  have hf13 := l01Next_bd srcR srcg 40
  refine q_step (v := .bool (decide (((F_l01Next src srcg 40).1) = 0))) hE9 (y_eql rfl rfl) rfl rfl rfl ?_; intro a14 hE15; clear hE9
  refine c_nil ?_
  have hE16 := hE15.sub (L' := [(0, .pointer (some ⟨srcB, 0, none⟩)), (5, .bool (decide (((F_l01Next src srcg 40).1) = 0)))]) ⟨rfl, rfl, trivial⟩; clear hE15
  refine p_tn ?_
  refine c_cond hE16 rfl (fun ht17 => ?_) (fun ht17 => ?_)
  ·
   have hp18 := of_decide_eq_true ht17
   have hE19 := hE16; rw [ht17] at hE19; clear hE16
   refine c_seq ?_
   refine c_reg ?_
   refine q_step (v := .pointer (some ⟨srcB, 0, none⟩)) hE19 (y_move rfl) rfl rfl rfl ?_; intro a20 hE21; clear hE19
   have hS28 := (St.pickT (Γ := [.blk srcB #[.slice srcA src.length srcC, .int .i64 ((((F_l01Next src srcg 40).2).1 : Nat) : Int), .int .u64 (((F_l01Next src srcg 40).2).2)] 156]) (Γ' := [.blk srcB #[.slice srcA src.length srcC, .int .i64 ((((F_l01Next src srcg 40).2).1 : Nat) : Int), .int .u64 (((F_l01Next src srcg 40).2).2)] 156]) (Γ0 := Γ0) hS10 [0] (by decide) rfl rfl); clear hS10
   refine l_step hE21 rfl (l_call (f := 135) (argv := [.pointer (some ⟨srcB, 0, none⟩), .int .i64 2]) hE21 (fun _ => cf_l01Next0 _ _) rfl rfl (c_l01Next srcB srcA src.length srcC src ((F_l01Next src srcg 40).2) 2 w7 w0v (Γ0) hS28 srcR) ?_)
   rintro _ w23 ⟨rfl, hS26⟩ a24 hE25; clear hE21 hS28
   have hf29 := l01Next_bd srcR ((F_l01Next src srcg 40).2) 2
   refine q_step (v := .int .i64 (30 + ((F_l01Next src ((F_l01Next src srcg 40).2) 2).1))) hE25 (y_add rfl rfl ⟨(by omega), (by omega)⟩) rfl rfl rfl ?_; intro a30 hE31; clear hE25
   refine l_step hE31 rfl (l_make (e := 2) (m := 30 + ((F_l01Next src ((F_l01Next src srcg 40).2) 2).1)) hS26 hE31 (by kernel_rfl) (by kernel_rfl) rfl rfl (by omega) (by omega) rfl ?_)
   intro b32 w33 hS36 he37 a34 hE35; clear hS26 hE31
   refine q_step (v := .slice b32 (Int.toNat (30 + ((F_l01Next src ((F_l01Next src srcg 40).2) 2).1))) (Int.toNat (30 + ((F_l01Next src ((F_l01Next src srcg 40).2) 2).1)))) hE35 (y_assign rfl) rfl rfl rfl ?_; intro a38 hE39; clear hE35
   refine c_nil ?_
   have hE40 := hE39.sub (L' := [(2, .slice b32 (Int.toNat (30 + ((F_l01Next src ((F_l01Next src srcg 40).2) 2).1))) (Int.toNat (30 + ((F_l01Next src ((F_l01Next src srcg 40).2) 2).1))))]) ⟨rfl, trivial⟩; clear hE39
   refine p_tn ?_
   refine wp_ret ?_
   refine p_tr ?_
   have hF : F_l01Some src srcg = (List.replicate (Int.toNat (30 + ((F_l01Next src ((F_l01Next src srcg 40).2) 2).1))) 0, (F_l01Next src ((F_l01Next src srcg 40).2) 2).2) := by unfold F_l01Some; rw [ht17]; first | done | rfl
   refine c_ret1 hE40 rfl rfl ?_
   have hS9 := (St.pickT (Γ := [.own 2 1 b32 (Int.toNat (30 + ((F_l01Next src ((F_l01Next src srcg 40).2) 2).1))) (Int.toNat (30 + ((F_l01Next src ((F_l01Next src srcg 40).2) 2).1))) (List.replicate (Int.toNat (30 + ((F_l01Next src ((F_l01Next src srcg 40).2) 2).1))) 0), .blk srcB #[.slice srcA src.length srcC, .int .i64 ((((F_l01Next src ((F_l01Next src srcg 40).2) 2).2).1 : Nat) : Int), .int .u64 (((F_l01Next src ((F_l01Next src srcg 40).2) 2).2).2)] 156]) (Γ' := [.own 2 1 b32 (Int.toNat (30 + ((F_l01Next src ((F_l01Next src srcg 40).2) 2).1))) (Int.toNat (30 + ((F_l01Next src ((F_l01Next src srcg 40).2) 2).1))) (List.replicate (Int.toNat (30 + ((F_l01Next src ((F_l01Next src srcg 40).2) 2).1))) 0), .blk srcB #[.slice srcA src.length srcC, .int .i64 ((((F_l01Next src ((F_l01Next src srcg 40).2) 2).2).1 : Nat) : Int), .int .u64 (((F_l01Next src ((F_l01Next src srcg 40).2) 2).2).2)] 156]) (Γ0 := Γ0) hS36 [0, 1] (by decide) rfl rfl)
   exact ⟨b32, Int.toNat (30 + ((F_l01Next src ((F_l01Next src srcg 40).2) 2).1)), (by rw [hF]; (try dsimp only); rw [(St.rdO (i := 0) hS36 rfl).len1]), (by rw [hF]; (try dsimp only); rw [(St.rdO (i := 0) hS36 rfl).len1]; exact hS9)⟩
  ·
   have hp41 := of_decide_eq_false ht17
   have hE42 := hE16; rw [ht17] at hE42; clear hE16
   refine wp_skip ?_
   refine p_tn ?_
   refine c_seq ?_
   refine c_reg ?_
   refine q_step (v := .pointer (some ⟨srcB, 0, none⟩)) hE42 (y_move rfl) rfl rfl rfl ?_; intro a43 hE44; clear hE42
   refine q_step (v := .pointer (some ⟨srcB, 0, none⟩)) hE44 (y_move rfl) rfl rfl rfl ?_; intro a45 hE46; clear hE44
   have hS53 := (St.pickT (Γ := [.blk srcB #[.slice srcA src.length srcC, .int .i64 ((((F_l01Next src srcg 40).2).1 : Nat) : Int), .int .u64 (((F_l01Next src srcg 40).2).2)] 156]) (Γ' := [.blk srcB #[.slice srcA src.length srcC, .int .i64 ((((F_l01Next src srcg 40).2).1 : Nat) : Int), .int .u64 (((F_l01Next src srcg 40).2).2)] 156]) (Γ0 := Γ0) hS10 [0] (by decide) rfl rfl); clear hS10
   refine l_step hE46 rfl (l_call (f := 135) (argv := [.pointer (some ⟨srcB, 0, none⟩), .int .i64 8]) hE46 (fun _ => cf_l01Next0 _ _) rfl rfl (c_l01Next srcB srcA src.length srcC src ((F_l01Next src srcg 40).2) 8 w7 w0v (Γ0) hS53 srcR) ?_)
   rintro _ w48 ⟨rfl, hS51⟩ a49 hE50; clear hE46 hS53
   have hf54 := l01Next_bd srcR ((F_l01Next src srcg 40).2) 8
   have hS61 := (St.pickT (Γ := [.blk srcB #[.slice srcA src.length srcC, .int .i64 ((((F_l01Next src ((F_l01Next src srcg 40).2) 8).2).1 : Nat) : Int), .int .u64 (((F_l01Next src ((F_l01Next src srcg 40).2) 8).2).2)] 156]) (Γ' := [.blk srcB #[.slice srcA src.length srcC, .int .i64 ((((F_l01Next src ((F_l01Next src srcg 40).2) 8).2).1 : Nat) : Int), .int .u64 (((F_l01Next src ((F_l01Next src srcg 40).2) 8).2).2)] 156]) (Γ0 := Γ0) hS51 [0] (by decide) rfl rfl); clear hS51
   refine l_step hE50 rfl (l_call (f := 239) (argv := [.pointer (some ⟨srcB, 0, none⟩), .int .i64 ((F_l01Next src ((F_l01Next src srcg 40).2) 8).1)]) hE50 (fun _ => cf_l01Rel _ _) rfl rfl (c_l01Rel srcB srcA src.length srcC src ((F_l01Next src ((F_l01Next src srcg 40).2) 8).2) ((F_l01Next src ((F_l01Next src srcg 40).2) 8).1) w48 w0v (Γ0) hS61 srcR (by omega) (by omega)) ?_)
   rintro _ w56 ⟨b62, c63, rfl, hS59⟩ a57 hE58; clear hE50 hS61
   have hf64 := l01Rel_len src ((F_l01Next src ((F_l01Next src srcg 40).2) 8).2) ((F_l01Next src ((F_l01Next src srcg 40).2) 8).1)
   refine q_step (v := .slice b62 (((F_l01Rel src ((F_l01Next src ((F_l01Next src srcg 40).2) 8).2) ((F_l01Next src ((F_l01Next src srcg 40).2) 8).1)).1).length) c63) hE58 (y_assign rfl) rfl rfl rfl ?_; intro a65 hE66; clear hE58
   refine c_nil ?_
   have hE67 := hE66.sub (L' := [(2, .slice b62 (((F_l01Rel src ((F_l01Next src ((F_l01Next src srcg 40).2) 8).2) ((F_l01Next src ((F_l01Next src srcg 40).2) 8).1)).1).length) c63)]) ⟨rfl, trivial⟩; clear hE66
   refine p_tn ?_
   refine wp_ret ?_
   have hF : F_l01Some src srcg = ((F_l01Rel src ((F_l01Next src ((F_l01Next src srcg 40).2) 8).2) ((F_l01Next src ((F_l01Next src srcg 40).2) 8).1)).1, (F_l01Rel src ((F_l01Next src ((F_l01Next src srcg 40).2) 8).2) ((F_l01Next src ((F_l01Next src srcg 40).2) 8).1)).2) := by unfold F_l01Some; rw [ht17]; first | done | rfl
   refine c_ret1 hE67 rfl rfl ?_
   have hS9 := (St.pickT (Γ := [.own 2 1 b62 (((F_l01Rel src ((F_l01Next src ((F_l01Next src srcg 40).2) 8).2) ((F_l01Next src ((F_l01Next src srcg 40).2) 8).1)).1).length) c63 ((F_l01Rel src ((F_l01Next src ((F_l01Next src srcg 40).2) 8).2) ((F_l01Next src ((F_l01Next src srcg 40).2) 8).1)).1), .blk srcB #[.slice srcA src.length srcC, .int .i64 ((((F_l01Rel src ((F_l01Next src ((F_l01Next src srcg 40).2) 8).2) ((F_l01Next src ((F_l01Next src srcg 40).2) 8).1)).2).1 : Nat) : Int), .int .u64 (((F_l01Rel src ((F_l01Next src ((F_l01Next src srcg 40).2) 8).2) ((F_l01Next src ((F_l01Next src srcg 40).2) 8).1)).2).2)] 156]) (Γ' := [.own 2 1 b62 (((F_l01Rel src ((F_l01Next src ((F_l01Next src srcg 40).2) 8).2) ((F_l01Next src ((F_l01Next src srcg 40).2) 8).1)).1).length) c63 ((F_l01Rel src ((F_l01Next src ((F_l01Next src srcg 40).2) 8).2) ((F_l01Next src ((F_l01Next src srcg 40).2) 8).1)).1), .blk srcB #[.slice srcA src.length srcC, .int .i64 ((((F_l01Rel src ((F_l01Next src ((F_l01Next src srcg 40).2) 8).2) ((F_l01Next src ((F_l01Next src srcg 40).2) 8).1)).2).1 : Nat) : Int), .int .u64 (((F_l01Rel src ((F_l01Next src ((F_l01Next src srcg 40).2) 8).2) ((F_l01Next src ((F_l01Next src srcg 40).2) 8).1)).2).2)] 156]) (Γ0 := Γ0) hS59 [0, 1] (by decide) rfl rfl)
   exact ⟨b62, c63, (by rw [hF]), (by rw [hF]; (try dsimp only); exact hS9)⟩

theorem l01Some_len {w : World} {a : Option Addr} {n c : Nat} {src : List Int} (hR : RdB w a n c src) (g : Nat × Int) : (F_l01Some src g).1.length ≤ 31 := by
  unfold F_l01Some
  have h2 := l01Next_bd hR ((F_l01Next src g 40).2) 2
  have h8 := l01Next_bd hR ((F_l01Next src g 40).2) 8
  cases decide (((F_l01Next src g 40).1) = 0)
  · show ((F_l01Rel src _ _).1).length ≤ 31
    have := l01Rel_len src ((F_l01Next src ((F_l01Next src g 40).2) 8).2) ((F_l01Next src ((F_l01Next src g 40).2) 8).1)
    omega
  · show (List.replicate _ _).length ≤ 31
    rw [List.length_replicate]; omega


def F_l01Mask (src : List Int) (srcg : Nat × Int) (np : Int) : Int × (Nat × Int) :=
  bif (!(F_l01In np 0 30)) then ((F_l01Next src srcg 20).1, (F_l01Next src srcg 20).2) else (bif (decide (((F_l01Next src srcg 30).1) = 0)) then ((F_l01Pick src ((F_l01Next src srcg 30).2) ([-1, (fullI np) + 1, 9223372036854775807])).1, (F_l01Pick src ((F_l01Next src srcg 30).2) ([-1, (fullI np) + 1, 9223372036854775807])).2) else (andI ((((F_l01Next src ((F_l01Next src srcg 30).2) 65536).1) * 65536) + ((F_l01Next src ((F_l01Next src ((F_l01Next src srcg 30).2) 65536).2) 65536).1)) (fullI np), (F_l01Next src ((F_l01Next src ((F_l01Next src srcg 30).2) 65536).2) 65536).2))
theorem cf_l01Mask (args : Array Value) (w : World) : (callFunc 201 args).run Try.prog w = .ok (.enter 201 args) w := by kernel_rfl
set_option maxRecDepth 100000 in
theorem c_l01Mask (srcB : Nat) (srcA : Option Addr) (srcN srcC : Nat) (src : List Int) (srcg : Nat × Int) (np : Int) (w : World) (w0v : World) (Γ0 : List Ent) (hS0 : St w0v w (.blk srcB #[.slice srcA srcN srcC, .int .i64 ((srcg.1 : Nat) : Int), .int .u64 (srcg.2)] 156 :: Γ0)) (srcR : RdB w0v srcA srcN srcC src) :
    Calls Try.prog 201 #[.pointer (some ⟨srcB, 0, none⟩), .int .i64 np] w (Ret fun v w' => v = .int .i64 ((F_l01Mask src srcg np).1) ∧ St w0v w' (.blk srcB #[.slice srcA srcN srcC, .int .i64 ((((F_l01Mask src srcg np).2).1 : Nat) : Int), .int .u64 (((F_l01Mask src srcg np).2).2)] 156 :: Γ0)) := by
  obtain rfl : srcN = src.length := srcR.len
  have srcLe := srcR.le
  refine enter (args := [.pointer (some ⟨srcB, 0, none⟩), .int .i64 np]) Try.func201 rfl rfl ?_
  rw [Try.ntmps201]; intro a hE
  have hE := hE.sub (L' := [(0, .pointer (some ⟨srcB, 0, none⟩)), (1, .int .i64 np)]) ⟨rfl, rfl, trivial⟩
  refine c_seq ?_
  refine c_reg ?_
  refine q_step (v := .int .i64 0) hE (y_assign rfl) rfl rfl rfl ?_; intro a1 hE2; clear hE
  refine c_nil ?_
  have hE3 := hE2.sub (L' := [(0, .pointer (some ⟨srcB, 0, none⟩)), (1, .int .i64 np)]) ⟨rfl, rfl, trivial⟩; clear hE2
  refine p_tn ?_
  refine c_seq ?_
  refine c_seq ?_
  refine c_reg ?_
  refine q_step (v := .int .i64 np) hE3 (y_move rfl) rfl rfl rfl ?_; intro a4 hE5; clear hE3
  refine l_step hE5 rfl (l_call (f := 85) (argv := [.int .i64 np, .int .i64 0, .int .i64 30]) hE5 (fun _ => cf_l01In _ _) rfl rfl (c_l01In np 0 30 w) ?_)
  rintro _ _ ⟨rfl, rfl⟩ a8 hE9; clear hE5
  refine q_step (v := .bool (!(F_l01In np 0 30))) hE9 (y_not rfl) rfl rfl rfl ?_; intro a12 hE13; clear hE9
  refine c_nil ?_
  have hE14 := hE13.sub (L' := [(0, .pointer (some ⟨srcB, 0, none⟩)), (1, .int .i64 np), (7, .bool (!(F_l01In np 0 30)))]) ⟨rfl, rfl, rfl, trivial⟩; clear hE13
  refine p_tn ?_
  refine c_cond hE14 rfl (fun ht15 => ?_) (fun ht15 => ?_)
  ·
   have ht16 := bn_t ht15
   have hE17 := hE14; rw [ht15] at hE17; clear hE14
   refine c_seq ?_
   refine c_reg ?_
   refine q_step (v := .pointer (some ⟨srcB, 0, none⟩)) hE17 (y_move rfl) rfl rfl rfl ?_; intro a18 hE19; clear hE17
   have hS26 := (St.pickT (Γ := [.blk srcB #[.slice srcA src.length srcC, .int .i64 ((srcg.1 : Nat) : Int), .int .u64 srcg.2] 156]) (Γ' := [.blk srcB #[.slice srcA src.length srcC, .int .i64 ((srcg.1 : Nat) : Int), .int .u64 srcg.2] 156]) (Γ0 := Γ0) hS0 [0] (by decide) rfl rfl); clear hS0
   refine l_step hE19 rfl (l_call (f := 135) (argv := [.pointer (some ⟨srcB, 0, none⟩), .int .i64 20]) hE19 (fun _ => cf_l01Next0 _ _) rfl rfl (c_l01Next srcB srcA src.length srcC src srcg 20 w w0v (Γ0) hS26 srcR) ?_)
   rintro _ w21 ⟨rfl, hS24⟩ a22 hE23; clear hE19 hS26
   have hf27 := l01Next_bd srcR srcg 20
   refine q_step (v := .int .i64 ((F_l01Next src srcg 20).1)) hE23 (y_assign rfl) rfl rfl rfl ?_; intro a28 hE29; clear hE23
   refine c_nil ?_
   have hE30 := hE29.sub (L' := [(4, .int .i64 ((F_l01Next src srcg 20).1))]) ⟨rfl, trivial⟩; clear hE29
   refine p_tn ?_
   refine wp_ret ?_
   refine p_tr ?_
   have hF : F_l01Mask src srcg np = ((F_l01Next src srcg 20).1, (F_l01Next src srcg 20).2) := by unfold F_l01Mask; rw [ht15]; first | done | rfl
   refine c_ret1 hE30 rfl rfl ?_
   have hS9 := (St.pickT (Γ := [.blk srcB #[.slice srcA src.length srcC, .int .i64 ((((F_l01Next src srcg 20).2).1 : Nat) : Int), .int .u64 (((F_l01Next src srcg 20).2).2)] 156]) (Γ' := [.blk srcB #[.slice srcA src.length srcC, .int .i64 ((((F_l01Next src srcg 20).2).1 : Nat) : Int), .int .u64 (((F_l01Next src srcg 20).2).2)] 156]) (Γ0 := Γ0) hS24 [0] (by decide) rfl rfl)
   exact ⟨(by rw [hF]), (by rw [hF]; (try dsimp only); exact hS9)⟩
  ·
   have ht31 := bn_f ht15
   have hp32 := F_l01In_t ht31
   have hE33 := hE14; rw [ht15] at hE33; clear hE14
   refine wp_skip ?_
   refine p_tn ?_
   refine c_seq ?_
   refine c_seq ?_
   refine c_reg ?_
   refine q_step (v := .pointer (some ⟨srcB, 0, none⟩)) hE33 (y_move rfl) rfl rfl rfl ?_; intro a34 hE35; clear hE33
   have hS42 := (St.pickT (Γ := [.blk srcB #[.slice srcA src.length srcC, .int .i64 ((srcg.1 : Nat) : Int), .int .u64 srcg.2] 156]) (Γ' := [.blk srcB #[.slice srcA src.length srcC, .int .i64 ((srcg.1 : Nat) : Int), .int .u64 srcg.2] 156]) (Γ0 := Γ0) hS0 [0] (by decide) rfl rfl); clear hS0
   refine l_step hE35 rfl (l_call (f := 135) (argv := [.pointer (some ⟨srcB, 0, none⟩), .int .i64 30]) hE35 (fun _ => cf_l01Next0 _ _) rfl rfl (c_l01Next srcB srcA src.length srcC src srcg 30 w w0v (Γ0) hS42 srcR) ?_)
   rintro _ w37 ⟨rfl, hS40⟩ a38 hE39; clear hE35 hS42
   have hf43 := l01Next_bd srcR srcg 30
   refine q_step (v := .bool (decide (((F_l01Next src srcg 30).1) = 0))) hE39 (y_eql rfl rfl) rfl rfl rfl ?_; intro a44 hE45; clear hE39
   refine c_nil ?_
   have hE46 := hE45.sub (L' := [(0, .pointer (some ⟨srcB, 0, none⟩)), (1, .int .i64 np), (12, .bool (decide (((F_l01Next src srcg 30).1) = 0)))]) ⟨rfl, rfl, rfl, trivial⟩; clear hE45
   refine p_tn ?_
   refine c_cond hE46 rfl (fun ht47 => ?_) (fun ht47 => ?_)
   ·
    have hp48 := of_decide_eq_true ht47
    have hE49 := hE46; rw [ht47] at hE49; clear hE46
    refine c_seq ?_
    refine c_reg ?_
    refine q_step (v := .pointer (some ⟨srcB, 0, none⟩)) hE49 (y_move rfl) rfl rfl rfl ?_; intro a50 hE51; clear hE49
    refine q_step (v := .int .i64 np) hE51 (y_move rfl) rfl rfl rfl ?_; intro a52 hE53; clear hE51
    refine l_step hE53 rfl (l_call (f := 172) (argv := [.int .i64 np]) hE53 (fun _ => cf_l01Full _ _) rfl rfl (d_l01Full np w37 (by omega) (by omega)) ?_)
    rintro _ _ ⟨rfl, rfl⟩ a56 hE57; clear hE53
    have hfb := fullI_bd (n := np) (by omega) (by omega)
    refine q_step (v := .int .i64 ((fullI np) + 1)) hE57 (y_add rfl rfl ⟨(by omega), (by omega)⟩) rfl rfl rfl ?_; intro a60 hE61; clear hE57
    refine l_step hE61 rfl (l_lit (e := 2) (s := 1) (xs := [-1, (fullI np) + 1, 9223372036854775807]) (vs := [.int .i64 (-1), .int .i64 ((fullI np) + 1), .int .i64 9223372036854775807]) hS40 hE61 rfl (fun _ => by kernel_rfl) rfl rfl rfl ?_)
    intro b62 w63 hS66 he67 a64 hE65; clear hS40 hE61
    have hS74 := (St.pickT (Γ := [.own 2 1 (some ⟨b62, 0, none⟩) 3 3 ([-1, (fullI np) + 1, 9223372036854775807]), .blk srcB #[.slice srcA src.length srcC, .int .i64 ((((F_l01Next src srcg 30).2).1 : Nat) : Int), .int .u64 (((F_l01Next src srcg 30).2).2)] 156]) (Γ' := [.own 2 1 (some ⟨b62, 0, none⟩) 3 3 ([-1, (fullI np) + 1, 9223372036854775807]), .blk srcB #[.slice srcA src.length srcC, .int .i64 ((((F_l01Next src srcg 30).2).1 : Nat) : Int), .int .u64 (((F_l01Next src srcg 30).2).2)] 156]) (Γ0 := Γ0) hS66 [0, 1] (by decide) rfl rfl); clear hS66
    refine l_step hE65 rfl (l_call (f := 137) (argv := [.pointer (some ⟨srcB, 0, none⟩), .slice (some ⟨b62, 0, none⟩) 3 3]) hE65 (fun _ => cf_l01Pick _ _) rfl rfl (c_l01Pick srcB srcA src.length srcC src ((F_l01Next src srcg 30).2) (some ⟨b62, 0, none⟩) 3 3 ([-1, (fullI np) + 1, 9223372036854775807]) w63 w0v (Γ0) hS74 srcR (by simp)) ?_)
    rintro _ w69 ⟨rfl, hS72⟩ a70 hE71; clear hE65 hS74
    refine q_step (v := .int .i64 ((F_l01Pick src ((F_l01Next src srcg 30).2) ([-1, (fullI np) + 1, 9223372036854775807])).1)) hE71 (y_assign rfl) rfl rfl rfl ?_; intro a75 hE76; clear hE71
    refine c_nil ?_
    have hE77 := hE76.sub (L' := [(4, .int .i64 ((F_l01Pick src ((F_l01Next src srcg 30).2) ([-1, (fullI np) + 1, 9223372036854775807])).1))]) ⟨rfl, trivial⟩; clear hE76
    refine p_tn ?_
    refine wp_ret ?_
    refine p_tr ?_
    have hF : F_l01Mask src srcg np = ((F_l01Pick src ((F_l01Next src srcg 30).2) ([-1, (fullI np) + 1, 9223372036854775807])).1, (F_l01Pick src ((F_l01Next src srcg 30).2) ([-1, (fullI np) + 1, 9223372036854775807])).2) := by unfold F_l01Mask; rw [ht47, ht15]; first | done | rfl
    refine c_ret1 hE77 rfl rfl ?_
    have hS9 := (St.pickT (Γ := [.own 2 1 (some ⟨b62, 0, none⟩) 3 3 ([-1, (fullI np) + 1, 9223372036854775807]), .blk srcB #[.slice srcA src.length srcC, .int .i64 ((((F_l01Pick src ((F_l01Next src srcg 30).2) ([-1, (fullI np) + 1, 9223372036854775807])).2).1 : Nat) : Int), .int .u64 (((F_l01Pick src ((F_l01Next src srcg 30).2) ([-1, (fullI np) + 1, 9223372036854775807])).2).2)] 156]) (Γ' := [.blk srcB #[.slice srcA src.length srcC, .int .i64 ((((F_l01Pick src ((F_l01Next src srcg 30).2) ([-1, (fullI np) + 1, 9223372036854775807])).2).1 : Nat) : Int), .int .u64 (((F_l01Pick src ((F_l01Next src srcg 30).2) ([-1, (fullI np) + 1, 9223372036854775807])).2).2)] 156]) (Γ0 := Γ0) hS72 [1] (by decide) rfl rfl)
    exact ⟨(by rw [hF]), (by rw [hF]; (try dsimp only); exact hS9)⟩
   ·
    have hp78 := of_decide_eq_false ht47
    have hE79 := hE46; rw [ht47] at hE79; clear hE46
    refine wp_skip ?_
    refine p_tn ?_
    refine c_seq ?_
    refine c_reg ?_
    refine q_step (v := .pointer (some ⟨srcB, 0, none⟩)) hE79 (y_move rfl) rfl rfl rfl ?_; intro a80 hE81; clear hE79
    have hS88 := (St.pickT (Γ := [.blk srcB #[.slice srcA src.length srcC, .int .i64 ((((F_l01Next src srcg 30).2).1 : Nat) : Int), .int .u64 (((F_l01Next src srcg 30).2).2)] 156]) (Γ' := [.blk srcB #[.slice srcA src.length srcC, .int .i64 ((((F_l01Next src srcg 30).2).1 : Nat) : Int), .int .u64 (((F_l01Next src srcg 30).2).2)] 156]) (Γ0 := Γ0) hS40 [0] (by decide) rfl rfl); clear hS40
    refine l_step hE81 rfl (l_call (f := 135) (argv := [.pointer (some ⟨srcB, 0, none⟩), .int .i64 65536]) hE81 (fun _ => cf_l01Next0 _ _) rfl rfl (c_l01Next srcB srcA src.length srcC src ((F_l01Next src srcg 30).2) 65536 w37 w0v (Γ0) hS88 srcR) ?_)
    rintro _ w83 ⟨rfl, hS86⟩ a84 hE85; clear hE81 hS88
    have hf89 := l01Next_bd srcR ((F_l01Next src srcg 30).2) 65536
    refine q_step (v := .int .i64 (((F_l01Next src ((F_l01Next src srcg 30).2) 65536).1) * 65536)) hE85 (y_mul rfl rfl ⟨(by omega), (by omega)⟩) rfl rfl rfl ?_; intro a90 hE91; clear hE85
    refine q_step (v := .pointer (some ⟨srcB, 0, none⟩)) hE91 (y_move rfl) rfl rfl rfl ?_; intro a92 hE93; clear hE91
    have hS100 := (St.pickT (Γ := [.blk srcB #[.slice srcA src.length srcC, .int .i64 ((((F_l01Next src ((F_l01Next src srcg 30).2) 65536).2).1 : Nat) : Int), .int .u64 (((F_l01Next src ((F_l01Next src srcg 30).2) 65536).2).2)] 156]) (Γ' := [.blk srcB #[.slice srcA src.length srcC, .int .i64 ((((F_l01Next src ((F_l01Next src srcg 30).2) 65536).2).1 : Nat) : Int), .int .u64 (((F_l01Next src ((F_l01Next src srcg 30).2) 65536).2).2)] 156]) (Γ0 := Γ0) hS86 [0] (by decide) rfl rfl); clear hS86
    refine l_step hE93 rfl (l_call (f := 135) (argv := [.pointer (some ⟨srcB, 0, none⟩), .int .i64 65536]) hE93 (fun _ => cf_l01Next0 _ _) rfl rfl (c_l01Next srcB srcA src.length srcC src ((F_l01Next src ((F_l01Next src srcg 30).2) 65536).2) 65536 w83 w0v (Γ0) hS100 srcR) ?_)
    rintro _ w95 ⟨rfl, hS98⟩ a96 hE97; clear hE93 hS100
    have hf101 := l01Next_bd srcR ((F_l01Next src ((F_l01Next src srcg 30).2) 65536).2) 65536
    refine q_step (v := .int .i64 ((((F_l01Next src ((F_l01Next src srcg 30).2) 65536).1) * 65536) + ((F_l01Next src ((F_l01Next src ((F_l01Next src srcg 30).2) 65536).2) 65536).1))) hE97 (y_add rfl rfl ⟨(by omega), (by omega)⟩) rfl rfl rfl ?_; intro a102 hE103; clear hE97
    refine q_step (v := .int .i64 np) hE103 (y_move rfl) rfl rfl rfl ?_; intro a104 hE105; clear hE103
    refine l_step hE105 rfl (l_call (f := 172) (argv := [.int .i64 np]) hE105 (fun _ => cf_l01Full _ _) rfl rfl (d_l01Full np w95 (by omega) (by omega)) ?_)
    rintro _ _ ⟨rfl, rfl⟩ a108 hE109; clear hE105
    have hfb := fullI_bd (n := np) (by omega) (by omega)
    refine q_step (v := .int .i64 (andI ((((F_l01Next src ((F_l01Next src srcg 30).2) 65536).1) * 65536) + ((F_l01Next src ((F_l01Next src ((F_l01Next src srcg 30).2) 65536).2) 65536).1)) (fullI np))) hE109 (y_and rfl rfl) rfl rfl rfl ?_; intro a112 hE113; clear hE109
    refine q_step (v := .int .i64 (andI ((((F_l01Next src ((F_l01Next src srcg 30).2) 65536).1) * 65536) + ((F_l01Next src ((F_l01Next src ((F_l01Next src srcg 30).2) 65536).2) 65536).1)) (fullI np))) hE113 (y_assign rfl) rfl rfl rfl ?_; intro a114 hE115; clear hE113
    refine c_nil ?_
    have hE116 := hE115.sub (L' := [(4, .int .i64 (andI ((((F_l01Next src ((F_l01Next src srcg 30).2) 65536).1) * 65536) + ((F_l01Next src ((F_l01Next src ((F_l01Next src srcg 30).2) 65536).2) 65536).1)) (fullI np)))]) ⟨rfl, trivial⟩; clear hE115
    refine p_tn ?_
    refine wp_ret ?_
    have hF : F_l01Mask src srcg np = (andI ((((F_l01Next src ((F_l01Next src srcg 30).2) 65536).1) * 65536) + ((F_l01Next src ((F_l01Next src ((F_l01Next src srcg 30).2) 65536).2) 65536).1)) (fullI np), (F_l01Next src ((F_l01Next src ((F_l01Next src srcg 30).2) 65536).2) 65536).2) := by unfold F_l01Mask; rw [ht47, ht15]; first | done | rfl
    refine c_ret1 hE116 rfl rfl ?_
    have hS9 := (St.pickT (Γ := [.blk srcB #[.slice srcA src.length srcC, .int .i64 ((((F_l01Next src ((F_l01Next src ((F_l01Next src srcg 30).2) 65536).2) 65536).2).1 : Nat) : Int), .int .u64 (((F_l01Next src ((F_l01Next src ((F_l01Next src srcg 30).2) 65536).2) 65536).2).2)] 156]) (Γ' := [.blk srcB #[.slice srcA src.length srcC, .int .i64 ((((F_l01Next src ((F_l01Next src ((F_l01Next src srcg 30).2) 65536).2) 65536).2).1 : Nat) : Int), .int .u64 (((F_l01Next src ((F_l01Next src ((F_l01Next src srcg 30).2) 65536).2) 65536).2).2)] 156]) (Γ0 := Γ0) hS98 [0] (by decide) rfl rfl)
    exact ⟨(by rw [hF]), (by rw [hF]; (try dsimp only); exact hS9)⟩

def F_l01Place (code : List Int) : (List Int) × (Int) :=
  ((F_l01Some code (F_l01From code)).1, (F_l01Mask code ((F_l01Some code (F_l01From code)).2) (min (((F_l01Some code (F_l01From code)).1).length : Int) 30)).1)
theorem cf_l01Place (args : Array Value) (w : World) : (callFunc 117 args).run Try.prog w = .ok (.enter 117 args) w := by kernel_rfl
set_option maxRecDepth 100000 in
theorem c_l01Place (codeA : Option Addr) (codeN codeC : Nat) (code : List Int) (w : World) (codeR : RdB w codeA codeN codeC code) :
    Calls Try.prog 117 #[.slice codeA code.length codeC] w (Ret fun v w' => ∃ b1 : Option Addr, ∃ c1 : Nat, v = .tuple #[.slice b1 ((F_l01Place code).1).length c1, .int .i64 ((F_l01Place code).2)] ∧ OwnS w' w.heap.size 2 1 b1 ((F_l01Place code).1).length c1 ((F_l01Place code).1) ∧ Ext w w') := by
  obtain rfl : codeN = code.length := codeR.len
  have codeLe := codeR.le
  have hS := St.nil w
  refine enter (args := [.slice codeA code.length codeC]) Try.func117 rfl rfl ?_
  rw [Try.ntmps117]; intro a hE
  have hE := hE.sub (L' := [(0, .slice codeA code.length codeC)]) ⟨rfl, trivial⟩
  refine c_seq ?_
  refine c_reg ?_
  refine q_step (v := .slice none 0 0) hE (y_assign rfl) rfl rfl rfl ?_; intro a1 hE2; clear hE
  refine q_step (v := .int .i64 0) hE2 (y_assign rfl) rfl rfl rfl ?_; intro a3 hE4; clear hE2
  refine c_nil ?_
  have hE5 := hE4.sub (L' := [(0, .slice codeA code.length codeC)]) ⟨rfl, trivial⟩; clear hE4
  refine p_tn ?_
  refine c_seq ?_
  refine c_reg ?_
  refine q_step (v := .slice codeA code.length codeC) hE5 (y_move rfl) rfl rfl rfl ?_; intro a6 hE7; clear hE5
  refine l_step hE7 rfl (l_call (f := 128) (argv := [.slice codeA code.length codeC]) hE7 (fun _ => cf_l01From _ _) rfl rfl (c_l01From codeA code.length codeC code w (codeR.ext hS.ext)) ?_)
  rintro _ w9 ⟨b14, rfl, ho15⟩ a10 hE11; clear hE7
  have he13 := ho15.ext
  have hS12 := St.comp hS ho15 rfl; clear hS
  simp only [List.cons_append, List.nil_append] at hS12
  refine q_step (v := .pointer (some ⟨b14, 0, none⟩)) hE11 (y_assign rfl) rfl rfl rfl ?_; intro a16 hE17; clear hE11
  refine c_nil ?_
  have hE18 := hE17.sub (L' := [(4, .pointer (some ⟨b14, 0, none⟩))]) ⟨rfl, trivial⟩; clear hE17
  refine p_tn ?_
  refine c_seq ?_
  refine c_reg ?_
  refine q_step (v := .pointer (some ⟨b14, 0, none⟩)) hE18 (y_move rfl) rfl rfl rfl ?_; intro a19 hE20; clear hE18
  have hS27 := (St.pick (Γ' := [.blk b14 #[.slice codeA code.length codeC, .int .i64 (((F_l01From code).1 : Nat) : Int), .int .u64 ((F_l01From code).2)] 156]) hS12 [0] (by decide) rfl); clear hS12
  refine l_step hE20 rfl (l_call (f := 200) (argv := [.pointer (some ⟨b14, 0, none⟩)]) hE20 (fun _ => cf_l01Some _ _) rfl rfl (c_l01Some b14 codeA code.length codeC code (F_l01From code) w9 w [] hS27 codeR) ?_)
  rintro _ w22 ⟨b28, c29, rfl, hS25⟩ a23 hE24; clear hE20 hS27
  have hf30 := l01Some_len codeR (F_l01From code)
  refine q_step (v := .slice b28 (((F_l01Some code (F_l01From code)).1).length) c29) hE24 (y_assign rfl) rfl rfl rfl ?_; intro a31 hE32; clear hE24
  refine c_nil ?_
  have hE33 := hE32.sub (L' := [(4, .pointer (some ⟨b14, 0, none⟩)), (5, .slice b28 (((F_l01Some code (F_l01From code)).1).length) c29)]) ⟨rfl, rfl, trivial⟩; clear hE32
  refine p_tn ?_
  refine c_seq ?_
  refine c_reg ?_
  refine q_step (v := .slice b28 (((F_l01Some code (F_l01From code)).1).length) c29) hE33 (y_move rfl) rfl rfl rfl ?_; intro a34 hE35; clear hE33
  refine q_step (v := .pointer (some ⟨b14, 0, none⟩)) hE35 (y_move rfl) rfl rfl rfl ?_; intro a36 hE37; clear hE35
  refine q_step (v := .slice b28 (((F_l01Some code (F_l01From code)).1).length) c29) hE37 (y_move rfl) rfl rfl rfl ?_; intro a38 hE39; clear hE37
  refine q_step (v := .int .i64 (((F_l01Some code (F_l01From code)).1).length : Int)) hE39 (y_len (e := 2) (by kernel_rfl) rfl) rfl rfl rfl ?_; intro a40 hE41; clear hE39
  refine q_step (v := .int .i64 (min (((F_l01Some code (F_l01From code)).1).length : Int) 30)) hE41 (y_min rfl rfl) rfl rfl rfl ?_; intro a42 hE43; clear hE41
  have hS50 := (St.pick (Γ' := [.blk b14 #[.slice codeA code.length codeC, .int .i64 ((((F_l01Some code (F_l01From code)).2).1 : Nat) : Int), .int .u64 (((F_l01Some code (F_l01From code)).2).2)] 156, .own 2 1 b28 (((F_l01Some code (F_l01From code)).1).length) c29 ((F_l01Some code (F_l01From code)).1)]) hS25 [1, 0] (by decide) rfl); clear hS25
  refine l_step hE43 rfl (l_call (f := 201) (argv := [.pointer (some ⟨b14, 0, none⟩), .int .i64 (min (((F_l01Some code (F_l01From code)).1).length : Int) 30)]) hE43 (fun _ => cf_l01Mask _ _) rfl rfl (c_l01Mask b14 codeA code.length codeC code ((F_l01Some code (F_l01From code)).2) (min (((F_l01Some code (F_l01From code)).1).length : Int) 30) w22 w [.own 2 1 b28 (((F_l01Some code (F_l01From code)).1).length) c29 ((F_l01Some code (F_l01From code)).1)] hS50 codeR) ?_)
  rintro _ w45 ⟨rfl, hS48⟩ a46 hE47; clear hE43 hS50
  refine q_step (v := .slice b28 (((F_l01Some code (F_l01From code)).1).length) c29) hE47 (y_assign rfl) rfl rfl rfl ?_; intro a51 hE52; clear hE47
  refine q_step (v := .int .i64 ((F_l01Mask code ((F_l01Some code (F_l01From code)).2) (min (((F_l01Some code (F_l01From code)).1).length : Int) 30)).1)) hE52 (y_assign rfl) rfl rfl rfl ?_; intro a53 hE54; clear hE52
  refine c_nil ?_
  have hE55 := hE54.sub (L' := [(2, .slice b28 (((F_l01Some code (F_l01From code)).1).length) c29), (3, .int .i64 ((F_l01Mask code ((F_l01Some code (F_l01From code)).2) (min (((F_l01Some code (F_l01From code)).1).length : Int) 30)).1))]) ⟨rfl, rfl, trivial⟩; clear hE54
  refine p_tn ?_
  refine wp_ret ?_
  have hF : F_l01Place code = ((F_l01Some code (F_l01From code)).1, (F_l01Mask code ((F_l01Some code (F_l01From code)).2) (min (((F_l01Some code (F_l01From code)).1).length : Int) 30)).1) := by unfold F_l01Place; rfl
  refine c_ret2 hE55 rfl rfl rfl ?_
  exact ⟨b28, c29, (by rw [hF]; first | done | (dsimp only; done) | rfl), (by rw [hF]; (try dsimp only); exact hS48.ok 1 _ rfl), hS48.ext⟩

theorem l01Place_len {w : World} {a : Option Addr} {n c : Nat} {src : List Int} (hR : RdB w a n c src) : (F_l01Place src).1.length ≤ 31 := l01Some_len hR _

def F_s_DrawImageMask (code : List Int) : (List Int) × (Int) :=
  ((F_l01Place code).1, (F_l01Place code).2)
theorem cf_s_DrawImageMask (args : Array Value) (w : World) : (callFunc 59 args).run Try.prog w = .ok (.enter 59 args) w := by kernel_rfl
set_option maxRecDepth 100000 in
theorem c_s_DrawImageMask (codeA : Option Addr) (codeN codeC : Nat) (code : List Int) (w : World) (codeR : RdB w codeA codeN codeC code) :
    Calls Try.prog 59 #[.slice codeA code.length codeC] w (Ret fun v w' => ∃ b1 : Option Addr, ∃ c1 : Nat, v = .tuple #[.slice b1 ((F_s_DrawImageMask code).1).length c1, .int .i64 ((F_s_DrawImageMask code).2)] ∧ OwnS w' w.heap.size 2 1 b1 ((F_s_DrawImageMask code).1).length c1 ((F_s_DrawImageMask code).1) ∧ Ext w w') := by
  obtain rfl : codeN = code.length := codeR.len
  have codeLe := codeR.le
  have hS := St.nil w
  refine enter (args := [.slice codeA code.length codeC]) Try.func59 rfl rfl ?_
  rw [Try.ntmps59]; intro a hE
  have hE := hE.sub (L' := [(0, .slice codeA code.length codeC)]) ⟨rfl, trivial⟩
  refine c_seq ?_
  refine c_reg ?_
  refine q_step (v := .slice none 0 0) hE (y_assign rfl) rfl rfl rfl ?_; intro a1 hE2; clear hE
  refine q_step (v := .int .i64 0) hE2 (y_assign rfl) rfl rfl rfl ?_; intro a3 hE4; clear hE2
  refine c_nil ?_
  have hE5 := hE4.sub (L' := [(0, .slice codeA code.length codeC)]) ⟨rfl, trivial⟩; clear hE4
  refine p_tn ?_
  refine c_seq ?_
  refine c_reg ?_
  refine q_step (v := .slice codeA code.length codeC) hE5 (y_move rfl) rfl rfl rfl ?_; intro a6 hE7; clear hE5
  refine l_step hE7 rfl (l_call (f := 117) (argv := [.slice codeA code.length codeC]) hE7 (fun _ => cf_l01Place _ _) rfl rfl (c_l01Place codeA code.length codeC code w (codeR.ext hS.ext)) ?_)
  rintro _ w9 ⟨b14, c15, rfl, ho16, he13⟩ a10 hE11; clear hE7
  have hf17 := l01Place_len codeR
  have hS12 := St.own hS he13 ho16; clear hS
  refine q_step (v := .slice b14 (((F_l01Place code).1).length) c15) hE11 (y_extract rfl rfl) rfl rfl rfl ?_; intro a18 hE19; clear hE11
  refine q_step (v := .int .i64 ((F_l01Place code).2)) hE19 (y_extract rfl rfl) rfl rfl rfl ?_; intro a20 hE21; clear hE19
  refine q_step (v := .slice b14 (((F_l01Place code).1).length) c15) hE21 (y_assign rfl) rfl rfl rfl ?_; intro a22 hE23; clear hE21
  refine q_step (v := .int .i64 ((F_l01Place code).2)) hE23 (y_assign rfl) rfl rfl rfl ?_; intro a24 hE25; clear hE23
  refine c_nil ?_
  have hE26 := hE25.sub (L' := [(2, .slice b14 (((F_l01Place code).1).length) c15), (3, .int .i64 ((F_l01Place code).2))]) ⟨rfl, rfl, trivial⟩; clear hE25
  refine p_tn ?_
  refine wp_ret ?_
  have hF : F_s_DrawImageMask code = ((F_l01Place code).1, (F_l01Place code).2) := by unfold F_s_DrawImageMask; rfl
  refine c_ret2 hE26 rfl rfl rfl ?_
  exact ⟨b14, c15, (by rw [hF]; first | done | (dsimp only; done) | rfl), (by rw [hF]; (try dsimp only); exact hS12.ok 0 _ rfl), hS12.ext⟩

theorem DrawImageMask_len {w : World} {a : Option Addr} {n c : Nat} {src : List Int} (hR : RdB w a n c src) : (F_s_DrawImageMask src).1.length ≤ 31 := l01Place_len hR


end Go.Proofs.Ytlbonhloeefnmaa
