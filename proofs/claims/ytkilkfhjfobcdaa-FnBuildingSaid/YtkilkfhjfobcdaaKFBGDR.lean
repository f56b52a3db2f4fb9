/- GDR: models and contracts, printed by wip/gen/gen.py -/
import Derived.Test.YtkilkfhjfobcdaaKFBGC
import Derived.Test.YtkilkfhjfobcdaaKFBByte
set_option linter.unusedVariables false
set_option linter.unusedSimpArgs false
namespace Go.Proofs.Ytkilkfhjfobcdaa
open Go.RowKit
def F_l_big (code : List Int) : Bool :=
  decide (4096 < (code.length : Int))
theorem cf_l_big (args : Array Value) (w : World) : (callFunc 59 args).run Try.prog w = .ok (.enter 59 args) w := by kernel_rfl
set_option maxRecDepth 100000 in
theorem c_l_big (codeA : Option Addr) (codeN codeC : Nat) (code : List Int) (w : World) (codeR : RdB w codeA codeN codeC code) :
    Calls Try.prog 59 #[.slice codeA code.length codeC] w (Ret fun v w' => v = .bool (F_l_big code) ∧ w = w') := by
  obtain rfl : codeN = code.length := codeR.len
  have codeLe := codeR.le
  have hS := St.nil w
  refine enter (args := [.slice codeA code.length codeC]) Try.func59 rfl rfl ?_
  rw [Try.ntmps59]; intro a hE
  have hE := hE.sub (L' := [(0, .slice codeA code.length codeC)]) ⟨rfl, trivial⟩
  refine c_seq ?_
  refine c_reg ?_
  refine q_step (v := .bool false) hE (y_assign rfl) rfl rfl rfl ?_; intro a1 hE2; clear hE
  refine c_nil ?_
  have hE3 := hE2.sub (L' := [(0, .slice codeA code.length codeC)]) ⟨rfl, trivial⟩; clear hE2
  refine p_tn ?_
  refine c_seq ?_
  refine c_reg ?_
  refine q_step (v := .slice codeA code.length codeC) hE3 (y_move rfl) rfl rfl rfl ?_; intro a4 hE5; clear hE3
  refine q_step (v := .int .i64 (code.length : Int)) hE5 (y_len (e := 5) (by kernel_rfl) rfl) rfl rfl rfl ?_; intro a6 hE7; clear hE5
  refine q_step (v := .bool (decide (4096 < (code.length : Int)))) hE7 (y_gtr rfl rfl) rfl rfl rfl ?_; intro a8 hE9; clear hE7
  refine q_step (v := .bool (decide (4096 < (code.length : Int)))) hE9 (y_assign rfl) rfl rfl rfl ?_; intro a10 hE11; clear hE9
  refine c_nil ?_
  have hE12 := hE11.sub (L' := [(2, .bool (decide (4096 < (code.length : Int))))]) ⟨rfl, trivial⟩; clear hE11
  refine p_tn ?_
  refine wp_ret ?_
  have hF : F_l_big code = decide (4096 < (code.length : Int)) := by unfold F_l_big; rfl
  refine c_ret1 hE12 rfl rfl ?_
  exact ⟨(by rw [hF]; first | done | (dsimp only; done) | rfl), rfl⟩
def F_l01From_L1b (code : List Int) (rec : Int → Int → Int × Int) (i4 : Int) (q1_2 : Int) : Int × Int :=
  bif ((decide (i4 < (code.length : Int))) && (decide (i4 < 4096))) then (rec (i4 + 1) (wrU ((wrU ((wrU (q1_2 * 1099511628211)) + (gI code i4))) + 11))) else (i4, q1_2)
def F_l01From_L1 (code : List Int) : Nat → Int → Int → Int × Int
  | 0, i4, q1_2 => (i4, q1_2)
  | r + 1, i4, q1_2 => F_l01From_L1b code (F_l01From_L1 code r) i4 q1_2
def F_l01From (code : List Int) : Nat × Int :=
  (0, (F_l01From_L1 code (Int.toNat ((code.length : Int) - 0) + 1) 0 (wrU (7129 + (code.length : Int)))).2)
theorem cf_l01From (args : Array Value) (w : World) : (callFunc 122 args).run Try.prog w = .ok (.enter 122 args) w := by kernel_rfl
set_option maxRecDepth 100000 in
theorem c_l01From (codeA : Option Addr) (codeN codeC : Nat) (code : List Int) (w : World) (codeR : RdB w codeA codeN codeC code) :
    Calls Try.prog 122 #[.slice codeA code.length codeC] w (Ret fun v w' => ∃ pB : Nat, v = .pointer (some ⟨pB, 0, none⟩) ∧ St w w' [.blk pB #[.slice codeA codeN codeC, .int .i64 (((F_l01From code).1 : Nat) : Int), .int .u64 (F_l01From code).2] 163]) := by
  obtain rfl : codeN = code.length := codeR.len
  have codeLe := codeR.le
  have hS := St.nil w
  refine enter (args := [.slice codeA code.length codeC]) Try.func122 rfl rfl ?_
  rw [Try.ntmps122]; intro a hE
  have hE := hE.sub (L' := [(0, .slice codeA code.length codeC)]) ⟨rfl, trivial⟩
  refine c_seq ?_
  refine c_reg ?_
  refine q_step (v := .pointer none) hE (y_assign rfl) rfl rfl rfl ?_; intro a1 hE2; clear hE
  refine c_nil ?_
  have hE3 := hE2.sub (L' := [(0, .slice codeA code.length codeC)]) ⟨rfl, trivial⟩; clear hE2
  refine p_tn ?_
  refine c_seq ?_
  refine c_reg ?_
  refine q_step (v := .slice codeA code.length codeC) hE3 (y_move rfl) rfl rfl rfl ?_; intro a4 hE5; clear hE3
  refine q_step (v := .slice codeA code.length codeC) hE5 (y_move rfl) rfl rfl rfl ?_; intro a6 hE7; clear hE5
  refine q_step (v := .int .i64 (code.length : Int)) hE7 (y_len (e := 5) (by kernel_rfl) rfl) rfl rfl rfl ?_; intro a8 hE9; clear hE7
  refine q_step (v := .int .u64 (code.length : Int)) hE9 (y_conv (ds := .int .i64) (by kernel_rfl) (by kernel_rfl) rfl (wU64 (by omega) (by omega))) rfl rfl rfl ?_; intro a10 hE11; clear hE9
  refine q_step (v := .int .u64 (wrU (7129 + (code.length : Int)))) hE11 (y_addU rfl rfl) rfl rfl rfl ?_; intro a12 hE13; clear hE11
  refine q_step (v := .agg #[.slice codeA code.length codeC, .int .i64 0, .int .u64 (wrU (7129 + (code.length : Int)))]) hE13 (y_build (vs := #[(0, .slice codeA code.length codeC), (2, .int .u64 (wrU (7129 + (code.length : Int))))]) (fun a n hE => by simp only [hE.eval (x := .tmp 5) (v := .slice codeA code.length codeC) rfl, hE.eval (x := .tmp 9) (v := .int .u64 (wrU (7129 + (code.length : Int)))) rfl, List.map_toArray, List.map_cons, List.map_nil]) (fun _ => by kernel_rfl)) rfl rfl rfl ?_; intro a14 hE15; clear hE13
  refine l_step hE15 rfl (l_box (v := .agg #[.slice codeA code.length codeC, .int .i64 0, .int .u64 (wrU (7129 + (code.length : Int)))]) (cs := #[.slice codeA code.length codeC, .int .i64 0, .int .u64 (wrU (7129 + (code.length : Int)))]) hS hE15 rfl rfl rfl ?_)
  intro b16 w17 hS20 he21 a18 hE19; clear hS hE15
  refine q_step (v := .pointer (some ⟨b16, 0, none⟩)) hE19 (y_assign rfl) rfl rfl rfl ?_; intro a22 hE23; clear hE19
  refine c_nil ?_
  have hE24 := hE23.sub (L' := [(0, .slice codeA code.length codeC), (3, .pointer (some ⟨b16, 0, none⟩))]) ⟨rfl, rfl, trivial⟩; clear hE23
  refine p_tn ?_
  refine c_seq ?_
  refine c_seq ?_
  refine c_reg ?_
  refine q_step (v := .int .i64 0) hE24 (y_assign rfl) rfl rfl rfl ?_; intro a25 hE26; clear hE24
  refine c_nil ?_
  have hE27 := hE26.sub (L' := [(0, .slice codeA code.length codeC), (3, .pointer (some ⟨b16, 0, none⟩)), (4, .int .i64 0)]) ⟨rfl, rfl, rfl, trivial⟩; clear hE26
  refine p_tn ?_
  refine c_cut1 (fun a' w' => (0 ≤ ((F_l01From_L1 code (Int.toNat ((code.length : Int) - 0) + 1) 0 (wrU (7129 + (code.length : Int)))).1)) ∧ E a' 38 [(0, .slice codeA code.length codeC), (3, .pointer (some ⟨b16, 0, none⟩)), (4, .int .i64 ((F_l01From_L1 code (Int.toNat ((code.length : Int) - 0) + 1) 0 (wrU (7129 + (code.length : Int)))).1))] ∧ St w w' [.blk b16 #[.slice codeA code.length codeC, .int .i64 0, .int .u64 ((F_l01From_L1 code (Int.toNat ((code.length : Int) - 0) + 1) 0 (wrU (7129 + (code.length : Int)))).2)] 163]) ?_ ?_
  ·
   refine wp_block ?_
   refine c_loop (fun r a' w' => ∃ i4 : Int, ∃ q1_2 : Int, F_l01From_L1 code r i4 q1_2 = F_l01From_L1 code (Int.toNat ((code.length : Int) - 0) + 1) 0 (wrU (7129 + (code.length : Int))) ∧ Int.toNat ((code.length : Int) - i4) < r ∧ (0 ≤ i4) ∧ E a' 38 [(0, .slice codeA code.length codeC), (3, .pointer (some ⟨b16, 0, none⟩)), (4, .int .i64 i4)] ∧ St w w' [.blk b16 #[.slice codeA code.length codeC, .int .i64 0, .int .u64 q1_2] 163]) (r := (Int.toNat ((code.length : Int) - 0) + 1)) ?_ ?_
   · exact ⟨0, wrU (7129 + (code.length : Int)), rfl, Nat.lt_succ_self _, (by first | omega | (simp only [sS_len, sL_len]; omega) | (simp only [List.length_replicate, sI_len]; omega) | (simp only [List.length_append, List.length_cons, List.length_nil, sI_len, cond_true, cond_false]; omega) | (simp only [List.length_append, List.length_cons, List.length_nil, sI_len, cond_eq_ite, apply_ite List.length]; split <;> simp only [List.length_append, List.length_cons, List.length_nil, sI_len] <;> omega) | grind), (hE27.sub (L' := [(0, .slice codeA code.length codeC), (3, .pointer (some ⟨b16, 0, none⟩)), (4, .int .i64 0)]) ⟨rfl, rfl, rfl, trivial⟩), (St.pick (Γ' := [.blk b16 #[.slice codeA code.length codeC, .int .i64 0, .int .u64 (wrU (7129 + (code.length : Int)))] 163]) hS20 [0] (by decide) rfl)⟩
   ·
    clear hE27 hS20
    rintro r36 a29 w30 ⟨i4, q1_2, hT33, hr34, hi35, hE31, hS32⟩
    obtain ⟨r36, rfl⟩ : ∃ r', r36 = r' + 1 := ⟨r36 - 1, by omega⟩
    refine c_seq ?_
    refine c_cut (fun a' w' => E a' 38 [(0, .slice codeA code.length codeC), (3, .pointer (some ⟨b16, 0, none⟩)), (4, .int .i64 i4), (19, .bool ((decide (i4 < (code.length : Int))) && (decide (i4 < 4096))))] ∧ St w w' [.blk b16 #[.slice codeA code.length codeC, .int .i64 0, .int .u64 q1_2] 163]) ?_ ?_
    ·
     refine c_reg ?_
     refine q_step (v := .int .i64 i4) hE31 (y_move rfl) rfl rfl rfl ?_; intro a37 hE38; clear hE31
     refine q_step (v := .slice codeA code.length codeC) hE38 (y_move rfl) rfl rfl rfl ?_; intro a39 hE40; clear hE38
     refine q_step (v := .int .i64 (code.length : Int)) hE40 (y_len (e := 5) (by kernel_rfl) rfl) rfl rfl rfl ?_; intro a41 hE42; clear hE40
     refine q_step (v := .bool (decide (i4 < (code.length : Int)))) hE42 (y_lss rfl rfl) rfl rfl rfl ?_; intro a43 hE44; clear hE42
     refine q_step (v := .bool (decide (i4 < (code.length : Int)))) hE44 (y_move rfl) rfl rfl rfl ?_; intro a45 hE46; clear hE44
     rcases Bool.eq_false_or_eq_true (decide (i4 < (code.length : Int))) with hb47 | hb47
     ·
      have hE48 := hE46; (try rw [hb47] at hE48); clear hE46
      have hp49 := of_decide_eq_true hb47
      refine q_step (v := .int .i64 i4) hE48 (y_move rfl) rfl rfl rfl ?_; intro a50 hE51; clear hE48
      refine q_step (v := .bool (decide (i4 < 4096))) hE51 (y_lss rfl rfl) rfl rfl rfl ?_; intro a52 hE53; clear hE51
      refine q_step (v := .bool (decide (i4 < 4096))) hE53 (y_pick (b := true) rfl rfl) rfl rfl rfl ?_; intro a54 hE55; clear hE53
      refine c_nil ?_
      have hE56 := hE55.sub (L' := [(0, .slice codeA code.length codeC), (3, .pointer (some ⟨b16, 0, none⟩)), (4, .int .i64 i4), (19, .bool (decide (i4 < 4096)))]) ⟨rfl, rfl, rfl, rfl, trivial⟩; clear hE55
      refine p_tn ?_
      have hE57 := hE56.sub (L' := [(0, .slice codeA code.length codeC), (3, .pointer (some ⟨b16, 0, none⟩)), (4, .int .i64 i4), (19, .bool (decide (i4 < 4096)))]) ⟨rfl, rfl, rfl, rfl, trivial⟩
      have hS58 := (St.pick (Γ' := [.blk b16 #[.slice codeA code.length codeC, .int .i64 0, .int .u64 q1_2] 163]) hS32 [0] (by decide) rfl)
      exact ⟨(by rw [hb47]; exact hE57), hS58⟩
     ·
      have hE59 := hE46; (try rw [hb47] at hE59); clear hE46
      have hp60 := of_decide_eq_false hb47
      refine q_skip hE59 rfl rfl rfl ?_; intro a61 hE62; clear hE59
      refine q_skip hE62 rfl rfl rfl ?_; intro a63 hE64; clear hE62
      refine q_step (v := .bool false) hE64 (y_pick (b := false) rfl rfl) rfl rfl rfl ?_; intro a65 hE66; clear hE64
      refine c_nil ?_
      have hE67 := hE66.sub (L' := [(0, .slice codeA code.length codeC), (3, .pointer (some ⟨b16, 0, none⟩)), (4, .int .i64 i4), (19, .bool false)]) ⟨rfl, rfl, rfl, rfl, trivial⟩; clear hE66
      refine p_tn ?_
      have hE68 := hE67.sub (L' := [(0, .slice codeA code.length codeC), (3, .pointer (some ⟨b16, 0, none⟩)), (4, .int .i64 i4), (19, .bool false)]) ⟨rfl, rfl, rfl, rfl, trivial⟩
      have hS69 := (St.pick (Γ' := [.blk b16 #[.slice codeA code.length codeC, .int .i64 0, .int .u64 q1_2] 163]) hS32 [0] (by decide) rfl)
      exact ⟨(by rw [hb47]; exact hE68), hS69⟩
    ·
     rintro a70 w71 ⟨hE72, hS73⟩; clear hE31 hS32
     refine c_cond hE72 rfl (fun ht75 => ?_) (fun ht75 => ?_)
     ·
      obtain ⟨ht76, ht77⟩ := band_t ht75
      have hp78 := of_decide_eq_true ht76
      have hp79 := of_decide_eq_true ht77
      have hE80 := hE72; rw [ht75] at hE80; clear hE72
      refine wp_skip ?_
      refine p_tn ?_
      refine c_seq ?_
      refine wp_block ?_
      refine d_start (fun w w' => (fun w' => w'.cell? ⟨b16, 2, none⟩ = some (.int .u64 q1_2) ∧ w'.cell? (adr codeA (Int.toNat i4)) = some (.int .u8 (gI code i4)) ∧ True) w → (fun w' => w'.cell? ⟨b16, 2, none⟩ = some (.int .u64 q1_2) ∧ w'.cell? (adr codeA (Int.toNat i4)) = some (.int .u8 (gI code i4)) ∧ True) w') [4, 9] 16 (by kernel_rfl) rfl ?_
      intro w81 he82; have hS83 := St.go hS73 he82; clear hS73
      refine d_pure (fun _ h => h) (v := .pointer (some ⟨b16, 0, none⟩)) 0 rfl hE80 (y_move rfl) rfl (by kernel_rfl) (by kernel_rfl) (by kernel_rfl) rfl rfl (fun _ _ _ h => h) ?_; intro a84 hE85; clear hE80
      refine d_pure (fun _ h => h) (v := .pointer (some ⟨b16, 0, none⟩)) 1 rfl hE85 (y_move rfl) rfl (by kernel_rfl) (by kernel_rfl) (by kernel_rfl) rfl rfl (fun _ _ _ h => h) ?_; intro a86 hE87; clear hE85
      refine d_pure (fun _ h => h) (v := .pointer (some ⟨b16, 0, none⟩)) 2 rfl hE87 (y_nilCheck rfl) rfl (by kernel_rfl) (by kernel_rfl) (by kernel_rfl) rfl rfl (fun _ _ _ h => h) ?_; intro a88 hE89; clear hE87
      refine d_pure (fun _ h => h) (v := .pointer (some ⟨b16, 2, none⟩)) 3 rfl hE89 (y_field rfl (fun _ => by kernel_rfl)) rfl (by kernel_rfl) (by kernel_rfl) (by kernel_rfl) rfl rfl (fun _ _ _ h => h) ?_; intro a90 hE91; clear hE89
      refine d_take (fun _ h => h) (fun _ _ h k => h k) (v := .int .u64 q1_2) 4 rfl hE91 (S := fun w' => w'.cell? ⟨b16, 2, none⟩ = some (.int .u64 q1_2) ∧ w'.cell? (adr codeA (Int.toNat i4)) = some (.int .u8 (gI code i4)) ∧ True) ⟨(St.cell (i := 0) hS83 rfl rfl _ (Ext.refl _)), (RdB.elt (codeR.ext hS83.ext) (by omega) (by omega) _ (Ext.refl _)), trivial⟩ (y_load (fun _ => by kernel_rfl) rfl (fun _ h => h.1)) rfl rfl (by kernel_rfl) (by kernel_rfl) (by kernel_rfl) (by kernel_rfl) rfl rfl (fun _ _ _ h => h) ?_; intro a92 hE93; clear hE91
      refine d_pure (fun _ h => h) (v := .int .u64 (wrU (q1_2 * 1099511628211))) 5 rfl hE93 (y_mulU rfl rfl) rfl (by kernel_rfl) (by kernel_rfl) (by kernel_rfl) rfl rfl (fun _ _ _ h => h) ?_; intro a94 hE95; clear hE93
      refine d_pure (fun _ h => h) (v := .slice codeA code.length codeC) 6 rfl hE95 (y_move rfl) rfl (by kernel_rfl) (by kernel_rfl) (by kernel_rfl) rfl rfl (fun _ _ _ h => h) ?_; intro a96 hE97; clear hE95
      refine d_pure (fun _ h => h) (v := .int .i64 i4) 7 rfl hE97 (y_move rfl) rfl (by kernel_rfl) (by kernel_rfl) (by kernel_rfl) rfl rfl (fun _ _ _ h => h) ?_; intro a98 hE99; clear hE97
      refine d_pure (fun _ h => h) (v := .pointer (some (adr codeA (Int.toNat i4)))) 8 rfl hE99 (y_idx (by kernel_rfl) (fun _ => by kernel_rfl) rfl rfl (RdB.isS (m := i4) (codeR.ext hS83.ext) (by omega) (by omega)) (by omega) (by omega) (Nat.mul_one _).symm) rfl (by kernel_rfl) (by kernel_rfl) (by kernel_rfl) rfl rfl (fun _ _ _ h => h) ?_; intro a100 hE101; clear hE99
      have hv102 := RdB.bd (codeR.ext hS83.ext) i4
      refine d_take (fun _ h => h) (fun _ _ h k => h k) (v := .int .u8 (gI code i4)) 9 rfl hE101 (S := fun w' => w'.cell? ⟨b16, 2, none⟩ = some (.int .u64 q1_2) ∧ w'.cell? (adr codeA (Int.toNat i4)) = some (.int .u8 (gI code i4)) ∧ True) ⟨(St.cell (i := 0) hS83 rfl rfl _ (Ext.refl _)), (RdB.elt (codeR.ext hS83.ext) (by omega) (by omega) _ (Ext.refl _)), trivial⟩ (y_load (fun _ => by kernel_rfl) rfl (fun _ h => h.2.1)) rfl rfl (by kernel_rfl) (by kernel_rfl) (by kernel_rfl) (by kernel_rfl) rfl rfl (fun _ _ _ h => h) ?_; intro a103 hE104; clear hE101
      refine d_pure (fun _ h => h) (v := .int .u64 (gI code i4)) 10 rfl hE104 (y_conv (ds := .int .u8) (by kernel_rfl) (by kernel_rfl) rfl (wU64 (by omega) (by omega))) rfl (by kernel_rfl) (by kernel_rfl) (by kernel_rfl) rfl rfl (fun _ _ _ h => h) ?_; intro a105 hE106; clear hE104
      refine d_pure (fun _ h => h) (v := .int .u64 (wrU ((wrU (q1_2 * 1099511628211)) + (gI code i4)))) 11 rfl hE106 (y_addU rfl rfl) rfl (by kernel_rfl) (by kernel_rfl) (by kernel_rfl) rfl rfl (fun _ _ _ h => h) ?_; intro a107 hE108; clear hE106
      refine d_pure (fun _ h => h) (v := .int .u64 (wrU ((wrU ((wrU (q1_2 * 1099511628211)) + (gI code i4))) + 11))) 12 rfl hE108 (y_addU rfl rfl) rfl (by kernel_rfl) (by kernel_rfl) (by kernel_rfl) rfl rfl (fun _ _ _ h => h) ?_; intro a109 hE110; clear hE108
      refine d_pure (fun _ h => h) (v := .pointer (some ⟨b16, 0, none⟩)) 13 rfl hE110 (y_nilCheck rfl) rfl (by kernel_rfl) (by kernel_rfl) (by kernel_rfl) rfl rfl (fun _ _ _ h => h) ?_; intro a111 hE112; clear hE110
      refine d_pure (fun _ h => h) (v := .pointer (some ⟨b16, 2, none⟩)) 14 rfl hE112 (y_field rfl (fun _ => by kernel_rfl)) rfl (by kernel_rfl) (by kernel_rfl) (by kernel_rfl) rfl rfl (fun _ _ _ h => h) ?_; intro a113 hE114; clear hE112
      refine d_only 15 (by kernel_rfl) rfl hE114 rfl (l_storeB (k := 0) (cs' := #[.slice codeA code.length codeC, .int .i64 0, .int .u64 (wrU ((wrU ((wrU (q1_2 * 1099511628211)) + (gI code i4))) + 11))]) hS83 hE114 (fun _ => by kernel_rfl) rfl rfl rfl rfl rfl rfl rfl ?_)
      intro w116 hS119 a117 hE118; clear hS83 hE114
      refine ⟨fun h => Bool.noConfusion (h.symm.trans (show exm _ _ _ = true by kernel_rfl)), ?_⟩
      refine d_done (by kernel_rfl) ?_
      have hE121 := hE118.sub (L' := [(0, .slice codeA code.length codeC), (3, .pointer (some ⟨b16, 0, none⟩)), (4, .int .i64 i4)]) ⟨rfl, rfl, rfl, trivial⟩; clear hE118
      refine p_bn ?_
      refine p_tn ?_
      refine c_reg ?_
      refine q_step (v := .int .i64 i4) hE121 (y_move rfl) rfl rfl rfl ?_; intro a122 hE123; clear hE121
      refine q_step (v := .int .i64 (i4 + 1)) hE123 (y_add rfl rfl ⟨(by omega), (by omega)⟩) rfl rfl rfl ?_; intro a124 hE125; clear hE123
      refine q_step (v := .int .i64 (i4 + 1)) hE125 (y_assign rfl) rfl rfl rfl ?_; intro a126 hE127; clear hE125
      refine c_nil ?_
      have hE128 := hE127.sub (L' := [(0, .slice codeA code.length codeC), (3, .pointer (some ⟨b16, 0, none⟩)), (4, .int .i64 (i4 + 1))]) ⟨rfl, rfl, rfl, trivial⟩; clear hE127
      refine p_tn ⟨r36, Nat.lt_succ_self _, i4 + 1, wrU ((wrU ((wrU (q1_2 * 1099511628211)) + (gI code i4))) + 11), (hT33.symm.trans (show F_l01From_L1b code (F_l01From_L1 code r36) i4 q1_2 = F_l01From_L1 code r36 (i4 + 1) (wrU ((wrU ((wrU (q1_2 * 1099511628211)) + (gI code i4))) + 11)) by unfold F_l01From_L1b; rw [ht75]; first | done | rfl)).symm, (by omega), (by first | omega | (simp only [sS_len, sL_len]; omega) | (simp only [List.length_replicate, sI_len]; omega) | (simp only [List.length_append, List.length_cons, List.length_nil, sI_len, cond_true, cond_false]; omega) | (simp only [List.length_append, List.length_cons, List.length_nil, sI_len, cond_eq_ite, apply_ite List.length]; split <;> simp only [List.length_append, List.length_cons, List.length_nil, sI_len] <;> omega) | grind), (hE128.sub (L' := [(0, .slice codeA code.length codeC), (3, .pointer (some ⟨b16, 0, none⟩)), (4, .int .i64 (i4 + 1))]) ⟨rfl, rfl, rfl, trivial⟩), (St.pick (Γ' := [.blk b16 #[.slice codeA code.length codeC, .int .i64 0, .int .u64 (wrU ((wrU ((wrU (q1_2 * 1099511628211)) + (gI code i4))) + 11))] 163]) hS119 [0] (by decide) rfl)⟩
     ·
      have hE129 := hE72; rw [ht75] at hE129; clear hE72
      refine wp_exit ?_
      refine p_te ?_
      have hX130 : F_l01From_L1 code (Int.toNat ((code.length : Int) - 0) + 1) 0 (wrU (7129 + (code.length : Int))) = (i4, q1_2) := hT33.symm.trans (show F_l01From_L1b code (F_l01From_L1 code r36) i4 q1_2 = (i4, q1_2) by unfold F_l01From_L1b; rw [ht75]; first | done | rfl)
      refine p_te (p_be (p_tn ?_))
      exact ⟨(by rw [hX130]; exact (show 0 ≤ i4 from (by first | omega | (simp only [sS_len, sL_len]; omega) | (simp only [List.length_replicate, sI_len]; omega) | (simp only [List.length_append, List.length_cons, List.length_nil, sI_len, cond_true, cond_false]; omega) | (simp only [List.length_append, List.length_cons, List.length_nil, sI_len, cond_eq_ite, apply_ite List.length]; split <;> simp only [List.length_append, List.length_cons, List.length_nil, sI_len] <;> omega) | grind))), (by rw [hX130]; exact (hE129.sub (L' := [(0, .slice codeA code.length codeC), (3, .pointer (some ⟨b16, 0, none⟩)), (4, .int .i64 i4)]) ⟨rfl, rfl, rfl, trivial⟩)), (by rw [hX130]; exact (St.pick (Γ' := [.blk b16 #[.slice codeA code.length codeC, .int .i64 0, .int .u64 q1_2] 163]) hS73 [0] (by decide) rfl))⟩
  ·
   rintro a131 w132 ⟨hi136, hE133, hS134⟩; clear hE27 hS20
   refine p_tn ?_
   refine c_seq ?_
   refine c_reg ?_
   refine q_step (v := .pointer (some ⟨b16, 0, none⟩)) hE133 (y_move rfl) rfl rfl rfl ?_; intro a137 hE138; clear hE133
   refine q_step (v := .pointer (some ⟨b16, 0, none⟩)) hE138 (y_assign rfl) rfl rfl rfl ?_; intro a139 hE140; clear hE138
   refine c_nil ?_
   have hE141 := hE140.sub (L' := [(2, .pointer (some ⟨b16, 0, none⟩))]) ⟨rfl, trivial⟩; clear hE140
   refine p_tn ?_
   refine wp_ret ?_
   have hF : F_l01From code = (0, (F_l01From_L1 code (Int.toNat ((code.length : Int) - 0) + 1) 0 (wrU (7129 + (code.length : Int)))).2) := by unfold F_l01From; rfl
   refine c_ret1 hE141 rfl rfl ?_
   exact ⟨b16, rfl, (by rw [hF]; (try dsimp only); exact (St.pick (Γ' := [.blk b16 #[.slice codeA code.length codeC, .int .i64 0, .int .u64 ((F_l01From_L1 code (Int.toNat ((code.length : Int) - 0) + 1) 0 (wrU (7129 + (code.length : Int)))).2)] 163]) hS134 [0] (by decide) rfl))⟩
def F_l01Next0 (src : List Int) (srcat : Int) (srch : Int) (np : Int) : Int × (Int × Int) :=
  bif (decide (np < 1)) then (0, (srcat, srch)) else (bif (decide (srcat < (src.length : Int))) then (((andU (shrU (wrU ((wrU (srch * 6364136223846793005)) + 1442695040888963407)) 33) 16777215) + (gI src srcat)) % np, (srcat + 1, wrU ((wrU (srch * 6364136223846793005)) + 1442695040888963407))) else ((andU (shrU (wrU ((wrU (srch * 6364136223846793005)) + 1442695040888963407)) 33) 16777215) % np, (srcat, wrU ((wrU (srch * 6364136223846793005)) + 1442695040888963407))))
theorem cf_l01Next0 (args : Array Value) (w : World) : (callFunc 123 args).run Try.prog w = .ok (.enter 123 args) w := by kernel_rfl
set_option maxRecDepth 100000 in
theorem c_l01Next0 (srcB : Nat) (srcA : Option Addr) (srcN srcC : Nat) (src : List Int) (srcat srch : Int) (np : Int) (w : World) (w0v : World) (Γ0 : List Ent) (hS0 : St w0v w (.blk srcB #[.slice srcA srcN srcC, .int .i64 (srcat), .int .u64 (srch)] 163 :: Γ0)) (srcR : RdB w0v srcA srcN srcC src) (hat : 0 ≤ srcat) :
    Calls Try.prog 123 #[.pointer (some ⟨srcB, 0, none⟩), .int .i64 np] w (Ret fun v w' => v = .int .i64 ((F_l01Next0 src srcat srch np).1) ∧ St w0v w' (.blk srcB #[.slice srcA srcN srcC, .int .i64 (((F_l01Next0 src srcat srch np).2).1), .int .u64 (((F_l01Next0 src srcat srch np).2).2)] 163 :: Γ0)) := by
  obtain rfl : srcN = src.length := srcR.len
  have srcLe := srcR.le
  refine enter (args := [.pointer (some ⟨srcB, 0, none⟩), .int .i64 np]) Try.func123 rfl rfl ?_
  rw [Try.ntmps123]; intro a hE
  have hE := hE.sub (L' := [(0, .pointer (some ⟨srcB, 0, none⟩)), (1, .int .i64 np)]) ⟨rfl, rfl, trivial⟩
  refine c_seq ?_
  refine c_reg ?_
  refine q_step (v := .int .i64 0) hE (y_assign rfl) rfl rfl rfl ?_; intro a1 hE2; clear hE
  refine c_nil ?_
  have hE3 := hE2.sub (L' := [(0, .pointer (some ⟨srcB, 0, none⟩)), (1, .int .i64 np)]) ⟨rfl, rfl, trivial⟩; clear hE2
  refine p_tn ?_
  refine c_seq ?_
  refine c_seq ?_
  refine c_reg ?_
  refine q_step (v := .int .i64 np) hE3 (y_move rfl) rfl rfl rfl ?_; intro a4 hE5; clear hE3
  refine q_step (v := .bool (decide (np < 1))) hE5 (y_lss rfl rfl) rfl rfl rfl ?_; intro a6 hE7; clear hE5
  refine c_nil ?_
  have hE8 := hE7.sub (L' := [(0, .pointer (some ⟨srcB, 0, none⟩)), (1, .int .i64 np), (7, .bool (decide (np < 1)))]) ⟨rfl, rfl, rfl, trivial⟩; clear hE7
  refine p_tn ?_
  refine c_cond hE8 rfl (fun ht9 => ?_) (fun ht9 => ?_)
  ·
   have hp10 := of_decide_eq_true ht9
   have hE11 := hE8; rw [ht9] at hE11; clear hE8
   refine c_seq ?_
   refine c_reg ?_
   refine q_step (v := .int .i64 0) hE11 (y_assign rfl) rfl rfl rfl ?_; intro a12 hE13; clear hE11
   refine c_nil ?_
   have hE14 := hE13.sub (L' := [(4, .int .i64 0)]) ⟨rfl, trivial⟩; clear hE13
   refine p_tn ?_
   refine wp_ret ?_
   refine p_tr ?_
   have hF : F_l01Next0 src srcat srch np = (0, (srcat, srch)) := by unfold F_l01Next0; rw [ht9]; first | done | rfl
   refine c_ret1 hE14 rfl rfl ?_
   have hS9 := (St.pickT (Γ := [.blk srcB #[.slice srcA src.length srcC, .int .i64 srcat, .int .u64 srch] 163]) (Γ' := [.blk srcB #[.slice srcA src.length srcC, .int .i64 srcat, .int .u64 srch] 163]) (Γ0 := Γ0) hS0 [0] (by decide) rfl rfl)
   exact ⟨(by rw [hF]), (by rw [hF]; (try dsimp only); exact hS9)⟩
  ·
   have hp15 := of_decide_eq_false ht9
   have hE16 := hE8; rw [ht9] at hE16; clear hE8
   refine wp_skip ?_
   refine p_tn ?_
   refine c_seq ?_
   refine c_reg ?_
   refine q_step (v := .pointer (some ⟨srcB, 0, none⟩)) hE16 (y_move rfl) rfl rfl rfl ?_; intro a17 hE18; clear hE16
   refine q_step (v := .pointer (some ⟨srcB, 0, none⟩)) hE18 (y_move rfl) rfl rfl rfl ?_; intro a19 hE20; clear hE18
   refine q_step (v := .pointer (some ⟨srcB, 0, none⟩)) hE20 (y_nilCheck rfl) rfl rfl rfl ?_; intro a21 hE22; clear hE20
   refine q_step (v := .pointer (some ⟨srcB, 2, none⟩)) hE22 (y_field rfl (fun _ => by kernel_rfl)) rfl rfl rfl ?_; intro a23 hE24; clear hE22
   refine q_step (v := .int .u64 srch) hE24 (y_load (fun _ => by kernel_rfl) rfl (St.cell (i := 0) hS0 rfl rfl)) rfl rfl rfl ?_; intro a25 hE26; clear hE24
   refine q_step (v := .int .u64 (wrU (srch * 6364136223846793005))) hE26 (y_mulU rfl rfl) rfl rfl rfl ?_; intro a27 hE28; clear hE26
   refine q_step (v := .int .u64 (wrU ((wrU (srch * 6364136223846793005)) + 1442695040888963407))) hE28 (y_addU rfl rfl) rfl rfl rfl ?_; intro a29 hE30; clear hE28
   refine q_step (v := .pointer (some ⟨srcB, 0, none⟩)) hE30 (y_nilCheck rfl) rfl rfl rfl ?_; intro a31 hE32; clear hE30
   refine q_step (v := .pointer (some ⟨srcB, 2, none⟩)) hE32 (y_field rfl (fun _ => by kernel_rfl)) rfl rfl rfl ?_; intro a33 hE34; clear hE32
   refine l_step hE34 rfl (l_storeB (k := 0) (cs' := #[.slice srcA src.length srcC, .int .i64 srcat, .int .u64 (wrU ((wrU (srch * 6364136223846793005)) + 1442695040888963407))]) hS0 hE34 (fun _ => by kernel_rfl) rfl rfl rfl rfl rfl rfl rfl ?_)
   intro w36 hS39 a37 hE38; clear hS0 hE34
   refine c_nil ?_
   have hE41 := hE38.sub (L' := [(0, .pointer (some ⟨srcB, 0, none⟩)), (1, .int .i64 np)]) ⟨rfl, rfl, trivial⟩; clear hE38
   refine p_tn ?_
   refine c_seq ?_
   refine c_reg ?_
   refine q_step (v := .pointer (some ⟨srcB, 0, none⟩)) hE41 (y_move rfl) rfl rfl rfl ?_; intro a42 hE43; clear hE41
   refine q_step (v := .pointer (some ⟨srcB, 0, none⟩)) hE43 (y_nilCheck rfl) rfl rfl rfl ?_; intro a44 hE45; clear hE43
   refine q_step (v := .pointer (some ⟨srcB, 2, none⟩)) hE45 (y_field rfl (fun _ => by kernel_rfl)) rfl rfl rfl ?_; intro a46 hE47; clear hE45
   refine q_step (v := .int .u64 (wrU ((wrU (srch * 6364136223846793005)) + 1442695040888963407))) hE47 (y_load (fun _ => by kernel_rfl) rfl (St.cell (i := 0) hS39 rfl rfl)) rfl rfl rfl ?_; intro a48 hE49; clear hE47
   refine q_step (v := .int .u64 (shrU (wrU ((wrU (srch * 6364136223846793005)) + 1442695040888963407)) 33)) hE49 (y_shrU rfl rfl (by omega)) rfl rfl rfl ?_; intro a50 hE51; clear hE49
   have hv52 := andU_bd (shrU (wrU ((wrU (srch * 6364136223846793005)) + 1442695040888963407)) 33) 16777215 (by decide) (by decide)
   refine q_step (v := .int .u64 (andU (shrU (wrU ((wrU (srch * 6364136223846793005)) + 1442695040888963407)) 33) 16777215)) hE51 (y_andU rfl rfl) rfl rfl rfl ?_; intro a53 hE54; clear hE51
   refine q_step (v := .int .i64 (andU (shrU (wrU ((wrU (srch * 6364136223846793005)) + 1442695040888963407)) 33) 16777215)) hE54 (y_conv (ds := .int .u64) (by kernel_rfl) (by kernel_rfl) rfl (IntWalk.i64_in _ ⟨(by omega), (by omega)⟩)) rfl rfl rfl ?_; intro a55 hE56; clear hE54
   refine q_step (v := .int .i64 (andU (shrU (wrU ((wrU (srch * 6364136223846793005)) + 1442695040888963407)) 33) 16777215)) hE56 (y_assign rfl) rfl rfl rfl ?_; intro a57 hE58; clear hE56
   refine c_nil ?_
   have hE59 := hE58.sub (L' := [(0, .pointer (some ⟨srcB, 0, none⟩)), (1, .int .i64 np), (5, .int .i64 (andU (shrU (wrU ((wrU (srch * 6364136223846793005)) + 1442695040888963407)) 33) 16777215))]) ⟨rfl, rfl, rfl, trivial⟩; clear hE58
   refine p_tn ?_
   refine c_seq ?_
   refine c_seq ?_
   refine d_start (fun w w' => (fun w' => w'.cell? ⟨srcB, 1, none⟩ = some (.int .i64 srcat) ∧ w'.cell? ⟨srcB, 0, none⟩ = some (.slice srcA src.length srcC) ∧ True) w → (fun w' => w'.cell? ⟨srcB, 1, none⟩ = some (.int .i64 srcat) ∧ w'.cell? ⟨srcB, 0, none⟩ = some (.slice srcA src.length srcC) ∧ True) w') [3, 7] 10 (by kernel_rfl) rfl ?_
   intro w60 he61; have hS62 := St.go hS39 he61; clear hS39
   refine d_pure (fun _ h => h) (v := .pointer (some ⟨srcB, 0, none⟩)) 0 rfl hE59 (y_move rfl) rfl (by kernel_rfl) (by kernel_rfl) (by kernel_rfl) rfl rfl (fun _ _ _ h => h) ?_; intro a63 hE64; clear hE59
   refine d_pure (fun _ h => h) (v := .pointer (some ⟨srcB, 0, none⟩)) 1 rfl hE64 (y_nilCheck rfl) rfl (by kernel_rfl) (by kernel_rfl) (by kernel_rfl) rfl rfl (fun _ _ _ h => h) ?_; intro a65 hE66; clear hE64
   refine d_pure (fun _ h => h) (v := .pointer (some ⟨srcB, 1, none⟩)) 2 rfl hE66 (y_field rfl (fun _ => by kernel_rfl)) rfl (by kernel_rfl) (by kernel_rfl) (by kernel_rfl) rfl rfl (fun _ _ _ h => h) ?_; intro a67 hE68; clear hE66
   refine d_take (fun _ h => h) (fun _ _ h k => h k) (v := .int .i64 srcat) 3 rfl hE68 (S := fun w' => w'.cell? ⟨srcB, 1, none⟩ = some (.int .i64 srcat) ∧ w'.cell? ⟨srcB, 0, none⟩ = some (.slice srcA src.length srcC) ∧ True) ⟨(St.cell (i := 0) hS62 rfl rfl _ (Ext.refl _)), (St.cell (i := 0) hS62 rfl rfl _ (Ext.refl _)), trivial⟩ (y_load (fun _ => by kernel_rfl) rfl (fun _ h => h.1)) rfl rfl (by kernel_rfl) (by kernel_rfl) (by kernel_rfl) (by kernel_rfl) rfl rfl (fun _ _ _ h => h) ?_; intro a69 hE70; clear hE68
   refine d_pure (fun _ h => h) (v := .pointer (some ⟨srcB, 0, none⟩)) 4 rfl hE70 (y_move rfl) rfl (by kernel_rfl) (by kernel_rfl) (by kernel_rfl) rfl rfl (fun _ _ _ h => h) ?_; intro a71 hE72; clear hE70
   refine d_pure (fun _ h => h) (v := .pointer (some ⟨srcB, 0, none⟩)) 5 rfl hE72 (y_nilCheck rfl) rfl (by kernel_rfl) (by kernel_rfl) (by kernel_rfl) rfl rfl (fun _ _ _ h => h) ?_; intro a73 hE74; clear hE72
   refine d_pure (fun _ h => h) (v := .pointer (some ⟨srcB, 0, none⟩)) 6 rfl hE74 (y_field rfl (fun _ => by kernel_rfl)) rfl (by kernel_rfl) (by kernel_rfl) (by kernel_rfl) rfl rfl (fun _ _ _ h => h) ?_; intro a75 hE76; clear hE74
   refine d_take (fun _ h => h) (fun _ _ h k => h k) (v := .slice srcA src.length srcC) 7 rfl hE76 (S := fun w' => w'.cell? ⟨srcB, 1, none⟩ = some (.int .i64 srcat) ∧ w'.cell? ⟨srcB, 0, none⟩ = some (.slice srcA src.length srcC) ∧ True) ⟨(St.cell (i := 0) hS62 rfl rfl _ (Ext.refl _)), (St.cell (i := 0) hS62 rfl rfl _ (Ext.refl _)), trivial⟩ (y_load (fun _ => by kernel_rfl) rfl (fun _ h => h.2.1)) rfl rfl (by kernel_rfl) (by kernel_rfl) (by kernel_rfl) (by kernel_rfl) rfl rfl (fun _ _ _ h => h) ?_; intro a77 hE78; clear hE76
   refine d_pure (fun _ h => h) (v := .int .i64 (src.length : Int)) 8 rfl hE78 (y_len (e := 5) (by kernel_rfl) rfl) rfl (by kernel_rfl) (by kernel_rfl) (by kernel_rfl) rfl rfl (fun _ _ _ h => h) ?_; intro a79 hE80; clear hE78
   refine d_pure (fun _ h => h) (v := .bool (decide (srcat < (src.length : Int)))) 9 rfl hE80 (y_lss rfl rfl) rfl (by kernel_rfl) (by kernel_rfl) (by kernel_rfl) rfl rfl (fun _ _ _ h => h) ?_; intro a81 hE82; clear hE80
   refine d_done (by kernel_rfl) ?_
   have hE83 := hE82.sub (L' := [(0, .pointer (some ⟨srcB, 0, none⟩)), (1, .int .i64 np), (5, .int .i64 (andU (shrU (wrU ((wrU (srch * 6364136223846793005)) + 1442695040888963407)) 33) 16777215)), (33, .bool (decide (srcat < (src.length : Int))))]) ⟨rfl, rfl, rfl, rfl, trivial⟩; clear hE82
   refine p_tn ?_
   refine c_cond hE83 rfl (fun ht84 => ?_) (fun ht84 => ?_)
   ·
    have hp85 := of_decide_eq_true ht84
    have hE86 := hE83; rw [ht84] at hE86; clear hE83
    refine c_seq ?_
    refine d_start (fun w w' => (fun w' => w'.cell? ⟨srcB, 0, none⟩ = some (.slice srcA src.length srcC) ∧ w'.cell? ⟨srcB, 1, none⟩ = some (.int .i64 srcat) ∧ w'.cell? (adr srcA (Int.toNat srcat)) = some (.int .u8 (gI src srcat)) ∧ True) w → (fun w' => w'.cell? ⟨srcB, 0, none⟩ = some (.slice srcA src.length srcC) ∧ w'.cell? ⟨srcB, 1, none⟩ = some (.int .i64 srcat) ∧ w'.cell? (adr srcA (Int.toNat srcat)) = some (.int .u8 (gI src srcat)) ∧ True) w') [4, 8, 10] 14 (by kernel_rfl) rfl ?_
    intro w87 he88; have hS89 := St.go hS62 he88; clear hS62
    refine d_pure (fun _ h => h) (v := .int .i64 (andU (shrU (wrU ((wrU (srch * 6364136223846793005)) + 1442695040888963407)) 33) 16777215)) 0 rfl hE86 (y_move rfl) rfl (by kernel_rfl) (by kernel_rfl) (by kernel_rfl) rfl rfl (fun _ _ _ h => h) ?_; intro a90 hE91; clear hE86
    refine d_pure (fun _ h => h) (v := .pointer (some ⟨srcB, 0, none⟩)) 1 rfl hE91 (y_move rfl) rfl (by kernel_rfl) (by kernel_rfl) (by kernel_rfl) rfl rfl (fun _ _ _ h => h) ?_; intro a92 hE93; clear hE91
    refine d_pure (fun _ h => h) (v := .pointer (some ⟨srcB, 0, none⟩)) 2 rfl hE93 (y_nilCheck rfl) rfl (by kernel_rfl) (by kernel_rfl) (by kernel_rfl) rfl rfl (fun _ _ _ h => h) ?_; intro a94 hE95; clear hE93
    refine d_pure (fun _ h => h) (v := .pointer (some ⟨srcB, 0, none⟩)) 3 rfl hE95 (y_field rfl (fun _ => by kernel_rfl)) rfl (by kernel_rfl) (by kernel_rfl) (by kernel_rfl) rfl rfl (fun _ _ _ h => h) ?_; intro a96 hE97; clear hE95
    refine d_take (fun _ h => h) (fun _ _ h k => h k) (v := .slice srcA src.length srcC) 4 rfl hE97 (S := fun w' => w'.cell? ⟨srcB, 0, none⟩ = some (.slice srcA src.length srcC) ∧ w'.cell? ⟨srcB, 1, none⟩ = some (.int .i64 srcat) ∧ w'.cell? (adr srcA (Int.toNat srcat)) = some (.int .u8 (gI src srcat)) ∧ True) ⟨(St.cell (i := 0) hS89 rfl rfl _ (Ext.refl _)), (St.cell (i := 0) hS89 rfl rfl _ (Ext.refl _)), (RdB.elt (srcR.ext hS89.ext) (by omega) (by omega) _ (Ext.refl _)), trivial⟩ (y_load (fun _ => by kernel_rfl) rfl (fun _ h => h.1)) rfl rfl (by kernel_rfl) (by kernel_rfl) (by kernel_rfl) (by kernel_rfl) rfl rfl (fun _ _ _ h => h) ?_; intro a98 hE99; clear hE97
    refine d_pure (fun _ h => h) (v := .pointer (some ⟨srcB, 0, none⟩)) 5 rfl hE99 (y_move rfl) rfl (by kernel_rfl) (by kernel_rfl) (by kernel_rfl) rfl rfl (fun _ _ _ h => h) ?_; intro a100 hE101; clear hE99
    refine d_pure (fun _ h => h) (v := .pointer (some ⟨srcB, 0, none⟩)) 6 rfl hE101 (y_nilCheck rfl) rfl (by kernel_rfl) (by kernel_rfl) (by kernel_rfl) rfl rfl (fun _ _ _ h => h) ?_; intro a102 hE103; clear hE101
    refine d_pure (fun _ h => h) (v := .pointer (some ⟨srcB, 1, none⟩)) 7 rfl hE103 (y_field rfl (fun _ => by kernel_rfl)) rfl (by kernel_rfl) (by kernel_rfl) (by kernel_rfl) rfl rfl (fun _ _ _ h => h) ?_; intro a104 hE105; clear hE103
    refine d_take (fun _ h => h) (fun _ _ h k => h k) (v := .int .i64 srcat) 8 rfl hE105 (S := fun w' => w'.cell? ⟨srcB, 0, none⟩ = some (.slice srcA src.length srcC) ∧ w'.cell? ⟨srcB, 1, none⟩ = some (.int .i64 srcat) ∧ w'.cell? (adr srcA (Int.toNat srcat)) = some (.int .u8 (gI src srcat)) ∧ True) ⟨(St.cell (i := 0) hS89 rfl rfl _ (Ext.refl _)), (St.cell (i := 0) hS89 rfl rfl _ (Ext.refl _)), (RdB.elt (srcR.ext hS89.ext) (by omega) (by omega) _ (Ext.refl _)), trivial⟩ (y_load (fun _ => by kernel_rfl) rfl (fun _ h => h.2.1)) rfl rfl (by kernel_rfl) (by kernel_rfl) (by kernel_rfl) (by kernel_rfl) rfl rfl (fun _ _ _ h => h) ?_; intro a106 hE107; clear hE105
    refine d_pure (fun _ h => h) (v := .pointer (some (adr srcA (Int.toNat srcat)))) 9 rfl hE107 (y_idx (by kernel_rfl) (fun _ => by kernel_rfl) rfl rfl (RdB.isS (m := srcat) (srcR.ext hS89.ext) (by omega) (by omega)) (by omega) (by omega) (Nat.mul_one _).symm) rfl (by kernel_rfl) (by kernel_rfl) (by kernel_rfl) rfl rfl (fun _ _ _ h => h) ?_; intro a108 hE109; clear hE107
    have hv110 := RdB.bd (srcR.ext hS89.ext) srcat
    refine d_take (fun _ h => h) (fun _ _ h k => h k) (v := .int .u8 (gI src srcat)) 10 rfl hE109 (S := fun w' => w'.cell? ⟨srcB, 0, none⟩ = some (.slice srcA src.length srcC) ∧ w'.cell? ⟨srcB, 1, none⟩ = some (.int .i64 srcat) ∧ w'.cell? (adr srcA (Int.toNat srcat)) = some (.int .u8 (gI src srcat)) ∧ True) ⟨(St.cell (i := 0) hS89 rfl rfl _ (Ext.refl _)), (St.cell (i := 0) hS89 rfl rfl _ (Ext.refl _)), (RdB.elt (srcR.ext hS89.ext) (by omega) (by omega) _ (Ext.refl _)), trivial⟩ (y_load (fun _ => by kernel_rfl) rfl (fun _ h => h.2.2.1)) rfl rfl (by kernel_rfl) (by kernel_rfl) (by kernel_rfl) (by kernel_rfl) rfl rfl (fun _ _ _ h => h) ?_; intro a111 hE112; clear hE109
    refine d_pure (fun _ h => h) (v := .int .i64 (gI src srcat)) 11 rfl hE112 (y_conv (ds := .int .u8) (by kernel_rfl) (by kernel_rfl) rfl (IntWalk.i64_in _ ⟨(by omega), (by omega)⟩)) rfl (by kernel_rfl) (by kernel_rfl) (by kernel_rfl) rfl rfl (fun _ _ _ h => h) ?_; intro a113 hE114; clear hE112
    refine d_pure (fun _ h => h) (v := .int .i64 ((andU (shrU (wrU ((wrU (srch * 6364136223846793005)) + 1442695040888963407)) 33) 16777215) + (gI src srcat))) 12 rfl hE114 (y_add rfl rfl ⟨(by omega), (by omega)⟩) rfl (by kernel_rfl) (by kernel_rfl) (by kernel_rfl) rfl rfl (fun _ _ _ h => h) ?_; intro a115 hE116; clear hE114
    refine d_pure (fun _ h => h) (v := .int .i64 ((andU (shrU (wrU ((wrU (srch * 6364136223846793005)) + 1442695040888963407)) 33) 16777215) + (gI src srcat))) 13 rfl hE116 (y_assign rfl) rfl (by kernel_rfl) (by kernel_rfl) (by kernel_rfl) rfl rfl (fun _ _ _ h => h) ?_; intro a117 hE118; clear hE116
    refine d_done (by kernel_rfl) ?_
    have hE119 := hE118.sub (L' := [(0, .pointer (some ⟨srcB, 0, none⟩)), (1, .int .i64 np), (5, .int .i64 ((andU (shrU (wrU ((wrU (srch * 6364136223846793005)) + 1442695040888963407)) 33) 16777215) + (gI src srcat)))]) ⟨rfl, rfl, rfl, trivial⟩; clear hE118
    refine p_tn ?_
    refine c_reg ?_
    refine q_step (v := .pointer (some ⟨srcB, 0, none⟩)) hE119 (y_move rfl) rfl rfl rfl ?_; intro a120 hE121; clear hE119
    refine q_step (v := .pointer (some ⟨srcB, 0, none⟩)) hE121 (y_move rfl) rfl rfl rfl ?_; intro a122 hE123; clear hE121
    refine q_step (v := .pointer (some ⟨srcB, 0, none⟩)) hE123 (y_nilCheck rfl) rfl rfl rfl ?_; intro a124 hE125; clear hE123
    refine q_step (v := .pointer (some ⟨srcB, 1, none⟩)) hE125 (y_field rfl (fun _ => by kernel_rfl)) rfl rfl rfl ?_; intro a126 hE127; clear hE125
    refine q_step (v := .int .i64 srcat) hE127 (y_load (fun _ => by kernel_rfl) rfl (St.cell (i := 0) hS89 rfl rfl)) rfl rfl rfl ?_; intro a128 hE129; clear hE127
    refine q_step (v := .int .i64 (srcat + 1)) hE129 (y_add rfl rfl ⟨(by omega), (by omega)⟩) rfl rfl rfl ?_; intro a130 hE131; clear hE129
    refine q_step (v := .pointer (some ⟨srcB, 0, none⟩)) hE131 (y_nilCheck rfl) rfl rfl rfl ?_; intro a132 hE133; clear hE131
    refine q_step (v := .pointer (some ⟨srcB, 1, none⟩)) hE133 (y_field rfl (fun _ => by kernel_rfl)) rfl rfl rfl ?_; intro a134 hE135; clear hE133
    refine l_step hE135 rfl (l_storeB (k := 0) (cs' := #[.slice srcA src.length srcC, .int .i64 (srcat + 1), .int .u64 (wrU ((wrU (srch * 6364136223846793005)) + 1442695040888963407))]) hS89 hE135 (fun _ => by kernel_rfl) rfl rfl rfl rfl rfl rfl rfl ?_)
    intro w137 hS140 a138 hE139; clear hS89 hE135
    refine c_nil ?_
    have hE142 := hE139.sub (L' := [(1, .int .i64 np), (5, .int .i64 ((andU (shrU (wrU ((wrU (srch * 6364136223846793005)) + 1442695040888963407)) 33) 16777215) + (gI src srcat)))]) ⟨rfl, rfl, trivial⟩; clear hE139
    refine p_tn ?_
    refine c_seq ?_
    refine c_reg ?_
    refine q_step (v := .int .i64 ((andU (shrU (wrU ((wrU (srch * 6364136223846793005)) + 1442695040888963407)) 33) 16777215) + (gI src srcat))) hE142 (y_move rfl) rfl rfl rfl ?_; intro a143 hE144; clear hE142
    refine q_step (v := .int .i64 np) hE144 (y_move rfl) rfl rfl rfl ?_; intro a145 hE146; clear hE144
    refine q_step (v := .int .i64 (((andU (shrU (wrU ((wrU (srch * 6364136223846793005)) + 1442695040888963407)) 33) 16777215) + (gI src srcat)) % np)) hE146 (y_rem rfl rfl (by omega) (by omega)) rfl rfl rfl ?_; intro a147 hE148; clear hE146
    refine q_step (v := .int .i64 (((andU (shrU (wrU ((wrU (srch * 6364136223846793005)) + 1442695040888963407)) 33) 16777215) + (gI src srcat)) % np)) hE148 (y_assign rfl) rfl rfl rfl ?_; intro a149 hE150; clear hE148
    refine c_nil ?_
    have hE151 := hE150.sub (L' := [(4, .int .i64 (((andU (shrU (wrU ((wrU (srch * 6364136223846793005)) + 1442695040888963407)) 33) 16777215) + (gI src srcat)) % np))]) ⟨rfl, trivial⟩; clear hE150
    refine p_tn ?_
    refine wp_ret ?_
    have hF : F_l01Next0 src srcat srch np = (((andU (shrU (wrU ((wrU (srch * 6364136223846793005)) + 1442695040888963407)) 33) 16777215) + (gI src srcat)) % np, (srcat + 1, wrU ((wrU (srch * 6364136223846793005)) + 1442695040888963407))) := by unfold F_l01Next0; rw [ht84, ht9]; first | done | rfl
    refine c_ret1 hE151 rfl rfl ?_
    have hS9 := (St.pickT (Γ := [.blk srcB #[.slice srcA src.length srcC, .int .i64 (srcat + 1), .int .u64 (wrU ((wrU (srch * 6364136223846793005)) + 1442695040888963407))] 163]) (Γ' := [.blk srcB #[.slice srcA src.length srcC, .int .i64 (srcat + 1), .int .u64 (wrU ((wrU (srch * 6364136223846793005)) + 1442695040888963407))] 163]) (Γ0 := Γ0) hS140 [0] (by decide) rfl rfl)
    exact ⟨(by rw [hF]), (by rw [hF]; (try dsimp only); exact hS9)⟩
   ·
    have hp152 := of_decide_eq_false ht84
    have hE153 := hE83; rw [ht84] at hE153; clear hE83
    refine wp_skip ?_
    refine p_tn ?_
    refine c_seq ?_
    refine c_reg ?_
    refine q_step (v := .int .i64 (andU (shrU (wrU ((wrU (srch * 6364136223846793005)) + 1442695040888963407)) 33) 16777215)) hE153 (y_move rfl) rfl rfl rfl ?_; intro a154 hE155; clear hE153
    refine q_step (v := .int .i64 np) hE155 (y_move rfl) rfl rfl rfl ?_; intro a156 hE157; clear hE155
    refine q_step (v := .int .i64 ((andU (shrU (wrU ((wrU (srch * 6364136223846793005)) + 1442695040888963407)) 33) 16777215) % np)) hE157 (y_rem rfl rfl (by omega) (by omega)) rfl rfl rfl ?_; intro a158 hE159; clear hE157
    refine q_step (v := .int .i64 ((andU (shrU (wrU ((wrU (srch * 6364136223846793005)) + 1442695040888963407)) 33) 16777215) % np)) hE159 (y_assign rfl) rfl rfl rfl ?_; intro a160 hE161; clear hE159
    refine c_nil ?_
    have hE162 := hE161.sub (L' := [(4, .int .i64 ((andU (shrU (wrU ((wrU (srch * 6364136223846793005)) + 1442695040888963407)) 33) 16777215) % np))]) ⟨rfl, trivial⟩; clear hE161
    refine p_tn ?_
    refine wp_ret ?_
    have hF : F_l01Next0 src srcat srch np = ((andU (shrU (wrU ((wrU (srch * 6364136223846793005)) + 1442695040888963407)) 33) 16777215) % np, (srcat, wrU ((wrU (srch * 6364136223846793005)) + 1442695040888963407))) := by unfold F_l01Next0; rw [ht84, ht9]; first | done | rfl
    refine c_ret1 hE162 rfl rfl ?_
    have hS9 := (St.pickT (Γ := [.blk srcB #[.slice srcA src.length srcC, .int .i64 srcat, .int .u64 (wrU ((wrU (srch * 6364136223846793005)) + 1442695040888963407))] 163]) (Γ' := [.blk srcB #[.slice srcA src.length srcC, .int .i64 srcat, .int .u64 (wrU ((wrU (srch * 6364136223846793005)) + 1442695040888963407))] 163]) (Γ0 := Γ0) hS62 [0] (by decide) rfl rfl)
    exact ⟨(by rw [hF]), (by rw [hF]; (try dsimp only); exact hS9)⟩
theorem l01Next0_at (src : List Int) (srcat srch np : Int) (h : 0 ≤ srcat) : 0 ≤ (F_l01Next0 src srcat srch np).2.1 := by
  unfold F_l01Next0
  cases decide (np < 1) <;> cases decide (srcat < (src.length : Int)) <;> simp only [cond_true, cond_false] <;> omega
def F_l01Next (src : List Int) (srcg : Nat × Int) (np : Int) : Int × (Nat × Int) := ((F_l01Next0 src ((srcg.1 : Nat) : Int) srcg.2 np).1, ((F_l01Next0 src ((srcg.1 : Nat) : Int) srcg.2 np).2.1.toNat, (F_l01Next0 src ((srcg.1 : Nat) : Int) srcg.2 np).2.2))
theorem l01Next0_bd (src : List Int) (srcat srch np : Int) (hg : ∀ m : Int, 0 ≤ gI src m) : 0 ≤ (F_l01Next0 src srcat srch np).1 ∧ (np < 1 ∨ (F_l01Next0 src srcat srch np).1 < np) := by
  unfold F_l01Next0
  by_cases h : np < 1
  · rw [decide_eq_true h, cond_true]
    exact ⟨Int.le_refl _, .inl h⟩
  · rw [decide_eq_false h, cond_false]
    have h0 : ∀ x : Int, 0 ≤ x % np ∧ x % np < np := fun x => ⟨Int.emod_nonneg _ (by omega), Int.emod_lt_of_pos _ (by omega)⟩
    cases decide (srcat < (src.length : Int))
    · exact ⟨(h0 _).1, .inr (h0 _).2⟩
    · exact ⟨(h0 _).1, .inr (h0 _).2⟩
theorem c_l01Next (srcB : Nat) (srcA : Option Addr) (srcN srcC : Nat) (src : List Int) (srcg : Nat × Int) (np : Int) (w : World) (w0v : World) (Γ0 : List Ent) (hS0 : St w0v w (.blk srcB #[.slice srcA srcN srcC, .int .i64 ((srcg.1 : Nat) : Int), .int .u64 (srcg.2)] 163 :: Γ0)) (srcR : RdB w0v srcA srcN srcC src) :
    Calls Try.prog 123 #[.pointer (some ⟨srcB, 0, none⟩), .int .i64 np] w (Ret fun v w' => v = .int .i64 ((F_l01Next src srcg np).1) ∧ St w0v w' (.blk srcB #[.slice srcA srcN srcC, .int .i64 ((((F_l01Next src srcg np).2).1 : Nat) : Int), .int .u64 (((F_l01Next src srcg np).2).2)] 163 :: Γ0)) := by
  refine (c_l01Next0 srcB srcA srcN srcC src ((srcg.1 : Nat) : Int) srcg.2 np w w0v Γ0 hS0 srcR (by omega)).mono ?_
  rintro e w' ⟨v, rfl, rfl, h⟩
  refine ⟨_, rfl, rfl, ?_⟩
  rw [show ((((F_l01Next src srcg np).2).1 : Nat) : Int) = ((F_l01Next0 src ((srcg.1 : Nat) : Int) srcg.2 np).2).1 from Int.toNat_of_nonneg (l01Next0_at _ _ _ _ (by omega))]
  exact h
theorem l01Next_bd {w : World} {a : Option Addr} {n c : Nat} {src : List Int} (hR : RdB w a n c src) (srcg : Nat × Int) (np : Int) : 0 ≤ (F_l01Next src srcg np).1 ∧ (np < 1 ∨ (F_l01Next src srcg np).1 < np) :=
  l01Next0_bd src _ _ np (fun m => (hR.bd m).1)
def F_l01Pick (src : List Int) (srcg : Nat × Int) (list : List Int) : Int × (Nat × Int) :=
  (gI list ((F_l01Next src srcg (list.length : Int)).1), (F_l01Next src srcg (list.length : Int)).2)
theorem cf_l01Pick (args : Array Value) (w : World) : (callFunc 124 args).run Try.prog w = .ok (.enter 124 args) w := by kernel_rfl
set_option maxRecDepth 100000 in
theorem c_l01Pick (srcB : Nat) (srcA : Option Addr) (srcN srcC : Nat) (src : List Int) (srcg : Nat × Int) (listA : Option Addr) (listN listC : Nat) (list : List Int) (w : World) (w0v : World) (Γ0 : List Ent) (hS0 : St w0v w (.own 2 1 listA listN listC list :: .blk srcB #[.slice srcA srcN srcC, .int .i64 ((srcg.1 : Nat) : Int), .int .u64 (srcg.2)] 163 :: Γ0)) (srcR : RdB w0v srcA srcN srcC src) (hl : 1 ≤ list.length) :
    Calls Try.prog 124 #[.pointer (some ⟨srcB, 0, none⟩), .slice listA listN listC] w (Ret fun v w' => v = .int .i64 ((F_l01Pick src srcg list).1) ∧ St w0v w' (.own 2 1 listA listN listC list :: .blk srcB #[.slice srcA srcN srcC, .int .i64 ((((F_l01Pick src srcg list).2).1 : Nat) : Int), .int .u64 (((F_l01Pick src srcg list).2).2)] 163 :: Γ0)) := by
  obtain rfl : srcN = src.length := srcR.len
  have srcLe := srcR.le
  obtain rfl : listN = list.length := (St.rdO (i := 0) hS0 rfl).len1.symm
  have listLe := (St.rdO (i := 0) hS0 rfl).le
  refine enter (args := [.pointer (some ⟨srcB, 0, none⟩), .slice listA list.length listC]) Try.func124 rfl rfl ?_
  rw [Try.ntmps124]; intro a hE
  have hE := hE.sub (L' := [(0, .pointer (some ⟨srcB, 0, none⟩)), (1, .slice listA list.length listC)]) ⟨rfl, rfl, trivial⟩
  refine c_seq ?_
  refine c_reg ?_
  refine q_step (v := .int .i64 0) hE (y_assign rfl) rfl rfl rfl ?_; intro a1 hE2; clear hE
  refine c_nil ?_
  have hE3 := hE2.sub (L' := [(0, .pointer (some ⟨srcB, 0, none⟩)), (1, .slice listA list.length listC)]) ⟨rfl, rfl, trivial⟩; clear hE2
  refine p_tn ?_
  refine c_seq ?_
  refine c_reg ?_
  refine q_step (v := .slice listA list.length listC) hE3 (y_move rfl) rfl rfl rfl ?_; intro a4 hE5; clear hE3
  refine q_step (v := .pointer (some ⟨srcB, 0, none⟩)) hE5 (y_move rfl) rfl rfl rfl ?_; intro a6 hE7; clear hE5
  refine q_step (v := .slice listA list.length listC) hE7 (y_move rfl) rfl rfl rfl ?_; intro a8 hE9; clear hE7
  refine q_step (v := .int .i64 (list.length : Int)) hE9 (y_len (e := 2) (by kernel_rfl) rfl) rfl rfl rfl ?_; intro a10 hE11; clear hE9
  have hS18 := (St.pickT (Γ := [.own 2 1 listA list.length listC list, .blk srcB #[.slice srcA src.length srcC, .int .i64 ((srcg.1 : Nat) : Int), .int .u64 srcg.2] 163]) (Γ' := [.blk srcB #[.slice srcA src.length srcC, .int .i64 ((srcg.1 : Nat) : Int), .int .u64 srcg.2] 163, .own 2 1 listA list.length listC list]) (Γ0 := Γ0) hS0 [1, 0] (by decide) rfl rfl); clear hS0
  refine l_step hE11 rfl (l_call (f := 123) (argv := [.pointer (some ⟨srcB, 0, none⟩), .int .i64 (list.length : Int)]) hE11 (fun _ => cf_l01Next0 _ _) rfl rfl (c_l01Next srcB srcA src.length srcC src srcg (list.length : Int) w w0v (.own 2 1 listA list.length listC list :: Γ0) hS18 srcR) ?_)
  rintro _ w13 ⟨rfl, hS16⟩ a14 hE15; clear hE11 hS18
  have hf19 := l01Next_bd srcR srcg (list.length : Int)
  refine q_step (v := .pointer (some (adr listA (Int.toNat ((F_l01Next src srcg (list.length : Int)).1))))) hE15 (y_idx (by kernel_rfl) (fun _ => by kernel_rfl) rfl rfl (RdS.isS (m := (F_l01Next src srcg (list.length : Int)).1) (St.rdO (i := 1) hS16 rfl) (by omega) (by omega)) (by omega) (by omega) (Nat.mul_one _).symm) rfl rfl rfl ?_; intro a20 hE21; clear hE15
  refine q_step (v := .int .i64 (gI list ((F_l01Next src srcg (list.length : Int)).1))) hE21 (y_load (fun _ => by kernel_rfl) rfl (RdS.elt (St.rdO (i := 1) hS16 rfl) (by omega) (by omega))) rfl rfl rfl ?_; intro a22 hE23; clear hE21
  refine q_step (v := .int .i64 (gI list ((F_l01Next src srcg (list.length : Int)).1))) hE23 (y_assign rfl) rfl rfl rfl ?_; intro a24 hE25; clear hE23
  refine c_nil ?_
  have hE26 := hE25.sub (L' := [(4, .int .i64 (gI list ((F_l01Next src srcg (list.length : Int)).1)))]) ⟨rfl, trivial⟩; clear hE25
  refine p_tn ?_
  refine wp_ret ?_
  have hF : F_l01Pick src srcg list = (gI list ((F_l01Next src srcg (list.length : Int)).1), (F_l01Next src srcg (list.length : Int)).2) := by unfold F_l01Pick; rfl
  refine c_ret1 hE26 rfl rfl ?_
  have hS9 := (St.pickT (Γ := [.blk srcB #[.slice srcA src.length srcC, .int .i64 ((((F_l01Next src srcg (list.length : Int)).2).1 : Nat) : Int), .int .u64 (((F_l01Next src srcg (list.length : Int)).2).2)] 163, .own 2 1 listA list.length listC list]) (Γ' := [.own 2 1 listA list.length listC list, .blk srcB #[.slice srcA src.length srcC, .int .i64 ((((F_l01Next src srcg (list.length : Int)).2).1 : Nat) : Int), .int .u64 (((F_l01Next src srcg (list.length : Int)).2).2)] 163]) (Γ0 := Γ0) hS16 [1, 0] (by decide) rfl rfl)
  exact ⟨(by rw [hF]), (by rw [hF]; (try dsimp only); exact hS9)⟩
end Go.Proofs.Ytkilkfhjfobcdaa
