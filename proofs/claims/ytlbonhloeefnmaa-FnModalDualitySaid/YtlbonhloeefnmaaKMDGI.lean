/- GI: models and contracts, printed by wip/gen/gen.py -/
import Derived.Test.YtlbonhloeefnmaaKMDGE
set_option linter.unusedVariables false
set_option linter.unusedSimpArgs false
namespace Go.Proofs.Ytlbonhloeefnmaa
open Go.RowKit
def F_l15Of_L1b (fp0 : Int) (fp1 : List Int) (rec : Int → (List Int) → Int × (List Int)) (mask4 : Int) (q5_1 : List Int) : Int × (List Int) :=
  bif (decide (mask4 ≤ (fullI fp0))) then (rec (mask4 + 1) (q5_1 ++ ([F_l01Box fp1 mask4]))) else (mask4, q5_1)
def F_l15Of_L1 (fp0 : Int) (fp1 : List Int) : Nat → Int → (List Int) → Int × (List Int)
  | 0, mask4, q5_1 => (mask4, q5_1)
  | r + 1, mask4, q5_1 => F_l15Of_L1b fp0 fp1 (F_l15Of_L1 fp0 fp1 r) mask4 q5_1
def F_l15Of (fp0 : Int) (fp1 : List Int) : Int × List Int :=
  (fp0, (F_l15Of_L1 fp0 fp1 (Int.toNat ((fullI fp0) + 1 - 0) + 1) 0 ([])).2)
theorem cf_l15Of (args : Array Value) (w : World) : (callFunc 136 args).run Try.prog w = .ok (.enter 136 args) w := by kernel_rfl
set_option maxRecDepth 100000 in
theorem c_l15Of (fp0 : Int) (fp1A : Option Addr) (fp1N fp1C : Nat) (fp1 : List Int) (w : World) (fp1R : RdS w 1 fp1A fp1N fp1C fp1) (h0 : 0 ≤ fp0) (h1 : fp0 ≤ 5) (h2 : fp1.length ≤ 8) :
    Calls Try.prog 136 #[.agg #[.int .i64 fp0, .slice fp1A fp1N fp1C]] w (Ret fun v w' => ∃ b1 : Option Addr, ∃ c1 : Nat, v = .agg #[.int .i64 ((F_l15Of fp0 fp1).1), .slice b1 ((F_l15Of fp0 fp1).2).length c1] ∧ OwnS w' w.heap.size 2 1 b1 ((F_l15Of fp0 fp1).2).length c1 ((F_l15Of fp0 fp1).2) ∧ Ext w w') := by
  obtain rfl : fp1N = fp1.length := fp1R.len1.symm
  have fp1Le := fp1R.le
  have hfl := fullI5 h0 h1
  have hS := St.nil w
  have hS1 := St.rd0 hS rfl fp1R; clear hS
  refine enter (args := [.agg #[.int .i64 fp0, .slice fp1A fp1.length fp1C]]) Try.func136 rfl rfl ?_
  rw [Try.ntmps136]; intro a hE
  have hE := hE.sub (L' := [(0, .agg #[.int .i64 fp0, .slice fp1A fp1.length fp1C])]) ⟨rfl, trivial⟩
  refine c_seq ?_
  refine c_reg ?_
  refine l_step hE rfl (l_box (v := .agg #[.int .i64 fp0, .slice fp1A fp1.length fp1C]) (cs := #[.int .i64 fp0, .slice fp1A fp1.length fp1C]) hS1 hE rfl rfl rfl ?_)
  intro b2 w3 hS6 he7 a4 hE5; clear hS1 hE
  refine l_step hE5 rfl (l_alloc (z := .agg #[.int .i64 0, .slice none 0 0]) (cs := #[.int .i64 0, .slice none 0 0]) hS6 hE5 (fun _ => by kernel_rfl) rfl rfl ?_)
  intro b8 w9 hS12 he13 a10 hE11; clear hS6 hE5
  refine c_nil ?_
  have hE14 := hE11.sub (L' := [(1, .pointer (some ⟨b2, 0, none⟩)), (2, .pointer (some ⟨b8, 0, none⟩))]) ⟨rfl, rfl, trivial⟩; clear hE11
  refine p_tn ?_
  refine c_seq ?_
  refine c_reg ?_
  refine q_step (v := .pointer (some ⟨b2, 0, none⟩)) hE14 (y_field rfl (fun _ => by kernel_rfl)) rfl rfl rfl ?_; intro a15 hE16; clear hE14
  refine q_step (v := .int .i64 fp0) hE16 (y_load (fun _ => by kernel_rfl) rfl (St.cell (i := 1) hS12 rfl rfl)) rfl rfl rfl ?_; intro a17 hE18; clear hE16
  refine l_step hE18 rfl (l_lit (e := 2) (s := 1) (xs := []) (vs := []) hS12 hE18 rfl (fun _ => by kernel_rfl) rfl rfl rfl ?_)
  intro b19 w20 hS23 he24 a21 hE22; clear hS12 hE18
  refine q_step (v := .agg #[.int .i64 fp0, .slice (some ⟨b19, 0, none⟩) 0 0]) hE22 (y_build (vs := #[(0, .int .i64 fp0), (1, .slice (some ⟨b19, 0, none⟩) 0 0)]) (fun a n hE => by simp only [hE.eval (x := .tmp 6) (v := .int .i64 fp0) rfl, hE.eval (x := .tmp 7) (v := .slice (some ⟨b19, 0, none⟩) 0 0) rfl, List.map_toArray, List.map_cons, List.map_nil]) (fun _ => by kernel_rfl)) rfl rfl rfl ?_; intro a25 hE26; clear hE22
  refine l_step hE26 rfl (l_alloc (z := .agg #[.int .i64 0, .slice none 0 0]) (cs := #[.int .i64 0, .slice none 0 0]) hS23 hE26 (fun _ => by kernel_rfl) rfl rfl ?_)
  intro b27 w28 hS31 he32 a29 hE30; clear hS23 hE26
  refine l_step hE30 rfl (l_storeS (k := 0) (cs' := #[.int .i64 fp0, .slice (some ⟨b19, 0, none⟩) 0 0]) hS31 hE30 (by kernel_rfl) rfl rfl (by kernel_rfl) rfl rfl ?_)
  intro w34 hS37 a35 hE36; clear hS31 hE30
  refine c_nil ?_
  have hE39 := hE36.sub (L' := [(1, .pointer (some ⟨b2, 0, none⟩)), (2, .pointer (some ⟨b8, 0, none⟩)), (3, .pointer (some ⟨b27, 0, none⟩))]) ⟨rfl, rfl, rfl, trivial⟩; clear hE36
  refine p_tn ?_
  refine c_seq ?_
  refine c_seq ?_
  refine c_reg ?_
  refine q_step (v := .int .i64 0) hE39 (y_assign rfl) rfl rfl rfl ?_; intro a40 hE41; clear hE39
  refine c_nil ?_
  have hE42 := hE41.sub (L' := [(1, .pointer (some ⟨b2, 0, none⟩)), (2, .pointer (some ⟨b8, 0, none⟩)), (3, .pointer (some ⟨b27, 0, none⟩)), (4, .int .i64 0)]) ⟨rfl, rfl, rfl, rfl, trivial⟩; clear hE41
  refine p_tn ?_
  refine c_cut1 (fun a' w' => ∃ q5_1A_43 : Option Addr, ∃ q5_1C_43 : Nat, (0 ≤ ((F_l15Of_L1 fp0 fp1 (Int.toNat ((fullI fp0) + 1 - 0) + 1) 0 ([])).1)) ∧ ((((F_l15Of_L1 fp0 fp1 (Int.toNat ((fullI fp0) + 1 - 0) + 1) 0 ([])).2).length : Int) = ((F_l15Of_L1 fp0 fp1 (Int.toNat ((fullI fp0) + 1 - 0) + 1) 0 ([])).1)) ∧ (((F_l15Of_L1 fp0 fp1 (Int.toNat ((fullI fp0) + 1 - 0) + 1) 0 ([])).1) ≤ fullI fp0 + 1) ∧ ((((F_l15Of_L1 fp0 fp1 (Int.toNat ((fullI fp0) + 1 - 0) + 1) 0 ([])).2).length : Int) ≤ ((F_l15Of_L1 fp0 fp1 (Int.toNat ((fullI fp0) + 1 - 0) + 1) 0 ([])).1)) ∧ E a' 26 [(1, .pointer (some ⟨b2, 0, none⟩)), (2, .pointer (some ⟨b8, 0, none⟩)), (3, .pointer (some ⟨b27, 0, none⟩)), (4, .int .i64 ((F_l15Of_L1 fp0 fp1 (Int.toNat ((fullI fp0) + 1 - 0) + 1) 0 ([])).1))] ∧ St w w' [.blk b27 #[.int .i64 fp0, .slice q5_1A_43 (((F_l15Of_L1 fp0 fp1 (Int.toNat ((fullI fp0) + 1 - 0) + 1) 0 ([])).2).length) q5_1C_43] 79, .own 2 1 q5_1A_43 (((F_l15Of_L1 fp0 fp1 (Int.toNat ((fullI fp0) + 1 - 0) + 1) 0 ([])).2).length) q5_1C_43 ((F_l15Of_L1 fp0 fp1 (Int.toNat ((fullI fp0) + 1 - 0) + 1) 0 ([])).2), .blk b8 #[.int .i64 0, .slice none 0 0] 79, .blk b2 #[.int .i64 fp0, .slice fp1A fp1.length fp1C] 30, .rd 1 fp1A fp1.length fp1C fp1]) ?_ ?_
  ·
   refine wp_block ?_
   refine c_loop (fun r a' w' => ∃ mask4 : Int, ∃ q5_1 : List Int, ∃ q5_1A : Option Addr, ∃ q5_1C : Nat, F_l15Of_L1 fp0 fp1 r mask4 q5_1 = F_l15Of_L1 fp0 fp1 (Int.toNat ((fullI fp0) + 1 - 0) + 1) 0 ([]) ∧ Int.toNat ((fullI fp0) + 1 - mask4) < r ∧ (0 ≤ mask4) ∧ ((q5_1.length : Int) = mask4) ∧ (mask4 ≤ fullI fp0 + 1) ∧ ((q5_1.length : Int) ≤ mask4) ∧ E a' 26 [(1, .pointer (some ⟨b2, 0, none⟩)), (2, .pointer (some ⟨b8, 0, none⟩)), (3, .pointer (some ⟨b27, 0, none⟩)), (4, .int .i64 mask4)] ∧ St w w' [.blk b27 #[.int .i64 fp0, .slice q5_1A ((q5_1).length) q5_1C] 79, .own 2 1 q5_1A ((q5_1).length) q5_1C q5_1, .blk b8 #[.int .i64 0, .slice none 0 0] 79, .blk b2 #[.int .i64 fp0, .slice fp1A fp1.length fp1C] 30, .rd 1 fp1A fp1.length fp1C fp1]) (r := (Int.toNat ((fullI fp0) + 1 - 0) + 1)) ?_ ?_
   · exact ⟨0, [], some ⟨b19, 0, none⟩, 0, rfl, Nat.lt_succ_self _, (by first | omega | (simp only [sS_len, sL_len]; omega) | (simp only [List.length_replicate, sI_len]; omega) | (simp only [List.length_append, List.length_cons, List.length_nil, sI_len, cond_true, cond_false]; omega) | (simp only [List.length_append, List.length_cons, List.length_nil, sI_len, cond_eq_ite, apply_ite List.length]; split <;> simp only [List.length_append, List.length_cons, List.length_nil, sI_len] <;> omega) | grind), (by first | omega | (simp only [sS_len, sL_len]; omega) | (simp only [List.length_replicate, sI_len]; omega) | (simp only [List.length_append, List.length_cons, List.length_nil, sI_len, cond_true, cond_false]; omega) | (simp only [List.length_append, List.length_cons, List.length_nil, sI_len, cond_eq_ite, apply_ite List.length]; split <;> simp only [List.length_append, List.length_cons, List.length_nil, sI_len] <;> omega) | grind), (by first | omega | (simp only [sS_len, sL_len]; omega) | (simp only [List.length_replicate, sI_len]; omega) | (simp only [List.length_append, List.length_cons, List.length_nil, sI_len, cond_true, cond_false]; omega) | (simp only [List.length_append, List.length_cons, List.length_nil, sI_len, cond_eq_ite, apply_ite List.length]; split <;> simp only [List.length_append, List.length_cons, List.length_nil, sI_len] <;> omega) | grind), (by first | omega | (simp only [sS_len, sL_len]; omega) | (simp only [List.length_replicate, sI_len]; omega) | (simp only [List.length_append, List.length_cons, List.length_nil, sI_len, cond_true, cond_false]; omega) | (simp only [List.length_append, List.length_cons, List.length_nil, sI_len, cond_eq_ite, apply_ite List.length]; split <;> simp only [List.length_append, List.length_cons, List.length_nil, sI_len] <;> omega) | grind), (hE42.sub (L' := [(1, .pointer (some ⟨b2, 0, none⟩)), (2, .pointer (some ⟨b8, 0, none⟩)), (3, .pointer (some ⟨b27, 0, none⟩)), (4, .int .i64 0)]) ⟨rfl, rfl, rfl, rfl, trivial⟩), (St.pick (Γ' := [.blk b27 #[.int .i64 fp0, .slice (some ⟨b19, 0, none⟩) 0 0] 79, .own 2 1 (some ⟨b19, 0, none⟩) 0 0 ([]), .blk b8 #[.int .i64 0, .slice none 0 0] 79, .blk b2 #[.int .i64 fp0, .slice fp1A fp1.length fp1C] 30, .rd 1 fp1A fp1.length fp1C fp1]) hS37 [0, 1, 2, 3, 4] (by decide) rfl)⟩
   ·
    clear hE42 hS37
    rintro r54 a44 w45 ⟨mask4, q5_1, q5_1A, q5_1C, hT48, hr49, hi50, hi51, hi52, hi53, hE46, hS47⟩
    obtain ⟨r54, rfl⟩ : ∃ r', r54 = r' + 1 := ⟨r54 - 1, by omega⟩
    refine c_seq ?_
    refine c_seq ?_
    refine c_reg ?_
    refine q_step (v := .int .i64 mask4) hE46 (y_move rfl) rfl rfl rfl ?_; intro a55 hE56; clear hE46
    refine q_step (v := .pointer (some ⟨b2, 0, none⟩)) hE56 (y_field rfl (fun _ => by kernel_rfl)) rfl rfl rfl ?_; intro a57 hE58; clear hE56
    refine q_step (v := .int .i64 fp0) hE58 (y_load (fun _ => by kernel_rfl) rfl (St.cell (i := 3) hS47 rfl rfl)) rfl rfl rfl ?_; intro a59 hE60; clear hE58
    refine l_step hE60 rfl (l_call (f := 172) (argv := [.int .i64 fp0]) hE60 (fun _ => cf_l01Full _ _) rfl rfl (d_l01Full fp0 w45 (by omega) (by omega)) ?_)
    rintro _ _ ⟨rfl, rfl⟩ a63 hE64; clear hE60
    refine q_step (v := .bool (decide (mask4 ≤ (fullI fp0)))) hE64 (y_leq rfl rfl) rfl rfl rfl ?_; intro a67 hE68; clear hE64
    refine c_nil ?_
    have hE69 := hE68.sub (L' := [(1, .pointer (some ⟨b2, 0, none⟩)), (2, .pointer (some ⟨b8, 0, none⟩)), (3, .pointer (some ⟨b27, 0, none⟩)), (4, .int .i64 mask4), (13, .bool (decide (mask4 ≤ (fullI fp0))))]) ⟨rfl, rfl, rfl, rfl, rfl, trivial⟩; clear hE68
    refine p_tn ?_
    refine c_cond hE69 rfl (fun ht70 => ?_) (fun ht70 => ?_)
    ·
     have hp71 := of_decide_eq_true ht70
     have hE72 := hE69; rw [ht70] at hE72; clear hE69
     refine wp_skip ?_
     refine p_tn ?_
     refine c_seq ?_
     refine wp_block ?_
     refine d_start (fun w w' => (fun w' => w'.cell? ⟨b27, 1, none⟩ = some (.slice q5_1A ((q5_1).length) q5_1C) ∧ w'.cell? ⟨b2, 1, none⟩ = some (.slice fp1A fp1.length fp1C) ∧ True) w → (fun w' => w'.cell? ⟨b27, 1, none⟩ = some (.slice q5_1A ((q5_1).length) q5_1C) ∧ w'.cell? ⟨b2, 1, none⟩ = some (.slice fp1A fp1.length fp1C) ∧ True) w') [1, 3] 10 (by kernel_rfl) rfl ?_
     intro w73 he74; have hS75 := St.go hS47 he74; clear hS47
     refine d_pure (fun _ h => h) (v := .pointer (some ⟨b27, 1, none⟩)) 0 rfl hE72 (y_field rfl (fun _ => by kernel_rfl)) rfl (by kernel_rfl) (by kernel_rfl) (by kernel_rfl) rfl rfl (fun _ _ _ h => h) ?_; intro a76 hE77; clear hE72
     refine d_take (fun _ h => h) (fun _ _ h k => h k) (v := .slice q5_1A ((q5_1).length) q5_1C) 1 rfl hE77 (S := fun w' => w'.cell? ⟨b27, 1, none⟩ = some (.slice q5_1A ((q5_1).length) q5_1C) ∧ w'.cell? ⟨b2, 1, none⟩ = some (.slice fp1A fp1.length fp1C) ∧ True) ⟨(St.cell (i := 0) hS75 rfl rfl _ (Ext.refl _)), (St.cell (i := 3) hS75 rfl rfl _ (Ext.refl _)), trivial⟩ (y_load (fun _ => by kernel_rfl) rfl (fun _ h => h.1)) rfl rfl (by kernel_rfl) (by kernel_rfl) (by kernel_rfl) (by kernel_rfl) rfl rfl (fun _ _ _ h => h) ?_; intro a78 hE79; clear hE77
     refine d_pure (fun _ h => h) (v := .pointer (some ⟨b2, 1, none⟩)) 2 rfl hE79 (y_field rfl (fun _ => by kernel_rfl)) rfl (by kernel_rfl) (by kernel_rfl) (by kernel_rfl) rfl rfl (fun _ _ _ h => h) ?_; intro a80 hE81; clear hE79
     refine d_take (fun _ h => h) (fun _ _ h k => h k) (v := .slice fp1A fp1.length fp1C) 3 rfl hE81 (S := fun w' => w'.cell? ⟨b27, 1, none⟩ = some (.slice q5_1A ((q5_1).length) q5_1C) ∧ w'.cell? ⟨b2, 1, none⟩ = some (.slice fp1A fp1.length fp1C) ∧ True) ⟨(St.cell (i := 0) hS75 rfl rfl _ (Ext.refl _)), (St.cell (i := 3) hS75 rfl rfl _ (Ext.refl _)), trivial⟩ (y_load (fun _ => by kernel_rfl) rfl (fun _ h => h.2.1)) rfl rfl (by kernel_rfl) (by kernel_rfl) (by kernel_rfl) (by kernel_rfl) rfl rfl (fun _ _ _ h => h) ?_; intro a82 hE83; clear hE81
     refine d_pure (fun _ h => h) (v := .int .i64 mask4) 4 rfl hE83 (y_move rfl) rfl (by kernel_rfl) (by kernel_rfl) (by kernel_rfl) rfl rfl (fun _ _ _ h => h) ?_; intro a84 hE85; clear hE83
     refine d_only 5 (by kernel_rfl) rfl hE85 rfl (l_call (f := 211) (argv := [.slice fp1A fp1.length fp1C, .int .i64 mask4]) hE85 (fun _ => cf_l01Box _ _) rfl rfl (c_l01Box fp1A fp1.length fp1C fp1 mask4 w73 (St.rdR (i := 4) hS75 rfl) (by omega)) ?_)
     rintro _ w87 ⟨rfl, he91⟩ a88 hE89; clear hE85
     have hS90 := St.go hS75 he91; clear hS75
     refine ⟨fun _ _ => ⟨(St.cell (i := 0) hS90 rfl rfl _ (Ext.refl _)), (St.cell (i := 3) hS90 rfl rfl _ (Ext.refl _)), trivial⟩, ?_⟩
     refine d_only 6 (by kernel_rfl) rfl hE89 rfl (l_lit (e := 2) (s := 1) (xs := [F_l01Box fp1 mask4]) (vs := [.int .i64 (F_l01Box fp1 mask4)]) hS90 hE89 rfl (fun _ => by kernel_rfl) rfl rfl rfl ?_)
     intro b92 w93 hS96 he97 a94 hE95; clear hS90 hE89
     refine ⟨fun _ _ => ⟨(St.cell (i := 1) hS96 rfl rfl _ (Ext.refl _)), (St.cell (i := 4) hS96 rfl rfl _ (Ext.refl _)), trivial⟩, ?_⟩
     obtain ⟨_, hi1, hi2, hi3, hi4⟩ := info_parts (show (Try.prog.info? 2).map (fun i => (i.zero, i.size, i.bytes)) = some (some (.int .i64 0), 1, 8) by kernel_rfl)
     refine d_only 7 (by kernel_rfl) rfl hE95 rfl (l_append (k := 2) (n' := (q5_1 ++ ([F_l01Box fp1 mask4])).length) hS96 hE95 (by kernel_rfl) hi1 hi2 hi3 rfl (by decide) (by rw [hi4]; decide) rfl rfl rfl (St.rdO (i := 0) hS96 rfl) (by first | omega | (simp only [List.length_append, List.length_cons, List.length_nil]; omega)) (by have h1 := (St.rdO (i := 2) hS96 rfl).len1; have h2 := (St.rdO (i := 0) hS96 rfl).len1; first | rw [List.length_append, h1, h2] | (simp only [List.length_append])) rfl ?_)
     intro b98 c104 w99 hS102 a100 hE101; clear hS96 hE95 hi1 hi2 hi3 hi4
     refine ⟨fun h => Bool.noConfusion (h.symm.trans (show exm _ _ _ = true by kernel_rfl)), ?_⟩
     refine d_pure (fun _ h => h) (v := .pointer (some ⟨b27, 1, none⟩)) 8 rfl hE101 (y_field rfl (fun _ => by kernel_rfl)) rfl (by kernel_rfl) (by kernel_rfl) (by kernel_rfl) rfl rfl (fun _ _ _ h => h) ?_; intro a105 hE106; clear hE101
     refine d_only 9 (by kernel_rfl) rfl hE106 rfl (l_storeB (k := 1) (cs' := #[.int .i64 fp0, .slice b98 ((q5_1 ++ ([F_l01Box fp1 mask4])).length) c104]) hS102 hE106 (fun _ => by kernel_rfl) rfl rfl rfl rfl rfl rfl rfl ?_)
     intro w108 hS111 a109 hE110; clear hS102 hE106
     refine ⟨fun h => Bool.noConfusion (h.symm.trans (show exm _ _ _ = true by kernel_rfl)), ?_⟩
     refine d_done (by kernel_rfl) ?_
     have hE113 := hE110.sub (L' := [(1, .pointer (some ⟨b2, 0, none⟩)), (2, .pointer (some ⟨b8, 0, none⟩)), (3, .pointer (some ⟨b27, 0, none⟩)), (4, .int .i64 mask4)]) ⟨rfl, rfl, rfl, rfl, trivial⟩; clear hE110
     refine p_bn ?_
     refine p_tn ?_
     refine c_reg ?_
     refine q_step (v := .int .i64 mask4) hE113 (y_move rfl) rfl rfl rfl ?_; intro a114 hE115; clear hE113
     refine q_step (v := .int .i64 (mask4 + 1)) hE115 (y_add rfl rfl ⟨(by omega), (by omega)⟩) rfl rfl rfl ?_; intro a116 hE117; clear hE115
     refine q_step (v := .int .i64 (mask4 + 1)) hE117 (y_assign rfl) rfl rfl rfl ?_; intro a118 hE119; clear hE117
     refine c_nil ?_
     have hE120 := hE119.sub (L' := [(1, .pointer (some ⟨b2, 0, none⟩)), (2, .pointer (some ⟨b8, 0, none⟩)), (3, .pointer (some ⟨b27, 0, none⟩)), (4, .int .i64 (mask4 + 1))]) ⟨rfl, rfl, rfl, rfl, trivial⟩; clear hE119
     refine p_tn ⟨r54, Nat.lt_succ_self _, mask4 + 1, q5_1 ++ ([F_l01Box fp1 mask4]), b98, c104, (hT48.symm.trans (show F_l15Of_L1b fp0 fp1 (F_l15Of_L1 fp0 fp1 r54) mask4 q5_1 = F_l15Of_L1 fp0 fp1 r54 (mask4 + 1) (q5_1 ++ ([F_l01Box fp1 mask4])) by unfold F_l15Of_L1b; rw [ht70]; first | done | rfl)).symm, (by omega), (by first | omega | (simp only [sS_len, sL_len]; omega) | (simp only [List.length_replicate, sI_len]; omega) | (simp only [List.length_append, List.length_cons, List.length_nil, sI_len, cond_true, cond_false]; omega) | (simp only [List.length_append, List.length_cons, List.length_nil, sI_len, cond_eq_ite, apply_ite List.length]; split <;> simp only [List.length_append, List.length_cons, List.length_nil, sI_len] <;> omega) | grind), (by first | omega | (simp only [sS_len, sL_len]; omega) | (simp only [List.length_replicate, sI_len]; omega) | (simp only [List.length_append, List.length_cons, List.length_nil, sI_len, cond_true, cond_false]; omega) | (simp only [List.length_append, List.length_cons, List.length_nil, sI_len, cond_eq_ite, apply_ite List.length]; split <;> simp only [List.length_append, List.length_cons, List.length_nil, sI_len] <;> omega) | grind), (by first | omega | (simp only [sS_len, sL_len]; omega) | (simp only [List.length_replicate, sI_len]; omega) | (simp only [List.length_append, List.length_cons, List.length_nil, sI_len, cond_true, cond_false]; omega) | (simp only [List.length_append, List.length_cons, List.length_nil, sI_len, cond_eq_ite, apply_ite List.length]; split <;> simp only [List.length_append, List.length_cons, List.length_nil, sI_len] <;> omega) | grind), (by first | omega | (simp only [sS_len, sL_len]; omega) | (simp only [List.length_replicate, sI_len]; omega) | (simp only [List.length_append, List.length_cons, List.length_nil, sI_len, cond_true, cond_false]; omega) | (simp only [List.length_append, List.length_cons, List.length_nil, sI_len, cond_eq_ite, apply_ite List.length]; split <;> simp only [List.length_append, List.length_cons, List.length_nil, sI_len] <;> omega) | grind), (hE120.sub (L' := [(1, .pointer (some ⟨b2, 0, none⟩)), (2, .pointer (some ⟨b8, 0, none⟩)), (3, .pointer (some ⟨b27, 0, none⟩)), (4, .int .i64 (mask4 + 1))]) ⟨rfl, rfl, rfl, rfl, trivial⟩), (St.pick (Γ' := [.blk b27 #[.int .i64 fp0, .slice b98 ((q5_1 ++ ([F_l01Box fp1 mask4])).length) c104] 79, .own 2 1 b98 ((q5_1 ++ ([F_l01Box fp1 mask4])).length) c104 (q5_1 ++ ([F_l01Box fp1 mask4])), .blk b8 #[.int .i64 0, .slice none 0 0] 79, .blk b2 #[.int .i64 fp0, .slice fp1A fp1.length fp1C] 30, .rd 1 fp1A fp1.length fp1C fp1]) hS111 [1, 2, 3, 4, 5] (by decide) rfl)⟩
    ·
     have hp121 := of_decide_eq_false ht70
     have hE122 := hE69; rw [ht70] at hE122; clear hE69
     refine wp_exit ?_
     refine p_te ?_
     have hX123 : F_l15Of_L1 fp0 fp1 (Int.toNat ((fullI fp0) + 1 - 0) + 1) 0 ([]) = (mask4, q5_1) := hT48.symm.trans (show F_l15Of_L1b fp0 fp1 (F_l15Of_L1 fp0 fp1 r54) mask4 q5_1 = (mask4, q5_1) by unfold F_l15Of_L1b; rw [ht70]; first | done | rfl)
     refine p_te (p_be (p_tn ?_))
     exact ⟨q5_1A, q5_1C, (by rw [hX123]; exact (show 0 ≤ mask4 from (by first | omega | (simp only [sS_len, sL_len]; omega) | (simp only [List.length_replicate, sI_len]; omega) | (simp only [List.length_append, List.length_cons, List.length_nil, sI_len, cond_true, cond_false]; omega) | (simp only [List.length_append, List.length_cons, List.length_nil, sI_len, cond_eq_ite, apply_ite List.length]; split <;> simp only [List.length_append, List.length_cons, List.length_nil, sI_len] <;> omega) | grind))), (by rw [hX123]; exact (show (q5_1.length : Int) = mask4 from (by first | omega | (simp only [sS_len, sL_len]; omega) | (simp only [List.length_replicate, sI_len]; omega) | (simp only [List.length_append, List.length_cons, List.length_nil, sI_len, cond_true, cond_false]; omega) | (simp only [List.length_append, List.length_cons, List.length_nil, sI_len, cond_eq_ite, apply_ite List.length]; split <;> simp only [List.length_append, List.length_cons, List.length_nil, sI_len] <;> omega) | grind))), (by rw [hX123]; exact (show mask4 ≤ fullI fp0 + 1 from (by first | omega | (simp only [sS_len, sL_len]; omega) | (simp only [List.length_replicate, sI_len]; omega) | (simp only [List.length_append, List.length_cons, List.length_nil, sI_len, cond_true, cond_false]; omega) | (simp only [List.length_append, List.length_cons, List.length_nil, sI_len, cond_eq_ite, apply_ite List.length]; split <;> simp only [List.length_append, List.length_cons, List.length_nil, sI_len] <;> omega) | grind))), (by rw [hX123]; exact (show (q5_1.length : Int) ≤ mask4 from (by first | omega | (simp only [sS_len, sL_len]; omega) | (simp only [List.length_replicate, sI_len]; omega) | (simp only [List.length_append, List.length_cons, List.length_nil, sI_len, cond_true, cond_false]; omega) | (simp only [List.length_append, List.length_cons, List.length_nil, sI_len, cond_eq_ite, apply_ite List.length]; split <;> simp only [List.length_append, List.length_cons, List.length_nil, sI_len] <;> omega) | grind))), (by rw [hX123]; exact (hE122.sub (L' := [(1, .pointer (some ⟨b2, 0, none⟩)), (2, .pointer (some ⟨b8, 0, none⟩)), (3, .pointer (some ⟨b27, 0, none⟩)), (4, .int .i64 mask4)]) ⟨rfl, rfl, rfl, rfl, trivial⟩)), (by rw [hX123]; exact (St.pick (Γ' := [.blk b27 #[.int .i64 fp0, .slice q5_1A ((q5_1).length) q5_1C] 79, .own 2 1 q5_1A ((q5_1).length) q5_1C q5_1, .blk b8 #[.int .i64 0, .slice none 0 0] 79, .blk b2 #[.int .i64 fp0, .slice fp1A fp1.length fp1C] 30, .rd 1 fp1A fp1.length fp1C fp1]) hS47 [0, 1, 2, 3, 4] (by decide) rfl))⟩
  ·
   rintro a124 w125 ⟨q5_1A_43, q5_1C_43, hi129, hi130, hi131, hi132, hE126, hS127⟩; clear hE42 hS37
   refine p_tn ?_
   refine c_seq ?_
   refine c_reg ?_
   refine q_step (v := .agg #[.int .i64 fp0, .slice q5_1A_43 (((F_l15Of_L1 fp0 fp1 (Int.toNat ((fullI fp0) + 1 - 0) + 1) 0 ([])).2).length) q5_1C_43]) hE126 (y_loadS Try.underlying79 rfl (by kernel_rfl) rfl (St.row (i := 0) hS127 rfl)) rfl rfl rfl ?_; intro a133 hE134; clear hE126
   refine l_step hE134 rfl (l_storeS (k := 2) (cs' := #[.int .i64 fp0, .slice q5_1A_43 (((F_l15Of_L1 fp0 fp1 (Int.toNat ((fullI fp0) + 1 - 0) + 1) 0 ([])).2).length) q5_1C_43]) hS127 hE134 (by kernel_rfl) rfl rfl (by kernel_rfl) rfl rfl ?_)
   intro w136 hS139 a137 hE138; clear hS127 hE134
   refine c_nil ?_
   have hE141 := hE138.sub (L' := [(2, .pointer (some ⟨b8, 0, none⟩))]) ⟨rfl, trivial⟩; clear hE138
   refine p_tn ?_
   refine wp_ret ?_
   have hF : F_l15Of fp0 fp1 = (fp0, (F_l15Of_L1 fp0 fp1 (Int.toNat ((fullI fp0) + 1 - 0) + 1) 0 ([])).2) := by unfold F_l15Of; rfl
   refine c_retC hE141 rfl rfl Try.underlying79 rfl (by kernel_rfl) (St.row (i := 2) hS139 rfl _ (Ext.refl _)) ?_
   exact ⟨q5_1A_43, q5_1C_43, (by rw [hF]; first | done | (dsimp only; done) | rfl), (by rw [hF]; (try dsimp only); exact hS139.ok 1 _ rfl), hS139.ext⟩
def F_s_AlgebraOfFrame (fp0 : Int) (fp1 : List Int) : (Int × List Int) × (Int) :=
  bif (!(F_l05Is fp0 fp1)) then ((0, []), 1) else (bif (decide (5 < fp0)) then ((0, []), 3) else (((F_l15Of fp0 fp1).1, (F_l15Of fp0 fp1).2), 0))
theorem cf_s_AlgebraOfFrame (args : Array Value) (w : World) : (callFunc 74 args).run Try.prog w = .ok (.enter 74 args) w := by kernel_rfl
set_option maxRecDepth 100000 in
theorem c_s_AlgebraOfFrame (fp0 : Int) (fp1A : Option Addr) (fp1N fp1C : Nat) (fp1 : List Int) (w : World) (fp1R : RdS w 1 fp1A fp1N fp1C fp1) :
    Calls Try.prog 74 #[.agg #[.int .i64 fp0, .slice fp1A fp1N fp1C]] w (Ret fun v w' => ∃ b1 : Option Addr, ∃ c1 : Nat, v = .tuple #[.agg #[.int .i64 (((F_s_AlgebraOfFrame fp0 fp1).1).1), .slice b1 (((F_s_AlgebraOfFrame fp0 fp1).1).2).length c1], .int .i64 ((F_s_AlgebraOfFrame fp0 fp1).2)] ∧ OwnS w' w.heap.size 2 1 b1 (((F_s_AlgebraOfFrame fp0 fp1).1).2).length c1 (((F_s_AlgebraOfFrame fp0 fp1).1).2) ∧ Ext w w') := by
  obtain rfl : fp1N = fp1.length := fp1R.len1.symm
  have fp1Le := fp1R.le
  have hS := St.nil w
  have hS1 := St.rd0 hS rfl fp1R; clear hS
  refine enter (args := [.agg #[.int .i64 fp0, .slice fp1A fp1.length fp1C]]) Try.func74 rfl rfl ?_
  rw [Try.ntmps74]; intro a hE
  have hE := hE.sub (L' := [(0, .agg #[.int .i64 fp0, .slice fp1A fp1.length fp1C])]) ⟨rfl, trivial⟩
  refine c_seq ?_
  refine c_reg ?_
  refine l_step hE rfl (l_box (v := .agg #[.int .i64 fp0, .slice fp1A fp1.length fp1C]) (cs := #[.int .i64 fp0, .slice fp1A fp1.length fp1C]) hS1 hE rfl rfl rfl ?_)
  intro b2 w3 hS6 he7 a4 hE5; clear hS1 hE
  refine l_step hE5 rfl (l_alloc (z := .agg #[.int .i64 0, .slice none 0 0]) (cs := #[.int .i64 0, .slice none 0 0]) hS6 hE5 (fun _ => by kernel_rfl) rfl rfl ?_)
  intro b8 w9 hS12 he13 a10 hE11; clear hS6 hE5
  refine q_step (v := .int .i64 0) hE11 (y_assign rfl) rfl rfl rfl ?_; intro a14 hE15; clear hE11
  refine c_nil ?_
  have hE16 := hE15.sub (L' := [(1, .pointer (some ⟨b2, 0, none⟩)), (2, .pointer (some ⟨b8, 0, none⟩))]) ⟨rfl, rfl, trivial⟩; clear hE15
  refine p_tn ?_
  refine c_seq ?_
  refine c_seq ?_
  refine c_reg ?_
  refine q_step (v := .agg #[.int .i64 fp0, .slice fp1A fp1.length fp1C]) hE16 (y_loadS Try.underlying30 rfl (by kernel_rfl) rfl (St.row (i := 1) hS12 rfl)) rfl rfl rfl ?_; intro a17 hE18; clear hE16
  refine l_step hE18 rfl (l_call (f := 94) (argv := [.agg #[.int .i64 fp0, .slice fp1A fp1.length fp1C]]) hE18 (fun _ => cf_l05Is _ _) rfl rfl (c_l05Is fp0 fp1A fp1.length fp1C fp1 w9 (St.rdR (i := 2) hS12 rfl)) ?_)
  rintro _ w20 ⟨rfl, he24⟩ a21 hE22; clear hE18
  have hS23 := St.go hS12 he24; clear hS12
  refine q_step (v := .bool (!(F_l05Is fp0 fp1))) hE22 (y_not rfl) rfl rfl rfl ?_; intro a25 hE26; clear hE22
  refine c_nil ?_
  have hE27 := hE26.sub (L' := [(1, .pointer (some ⟨b2, 0, none⟩)), (2, .pointer (some ⟨b8, 0, none⟩)), (6, .bool (!(F_l05Is fp0 fp1)))]) ⟨rfl, rfl, rfl, trivial⟩; clear hE26
  refine p_tn ?_
  refine c_cond hE27 rfl (fun ht28 => ?_) (fun ht28 => ?_)
  ·
   have ht29 := bn_t ht28
   have hE30 := hE27; rw [ht28] at hE30; clear hE27
   refine c_seq ?_
   refine c_reg ?_
   refine q_step (v := .agg #[.int .i64 0, .slice none 0 0]) hE30 (y_build (vs := #[]) (fun a n hE => by simp) (fun _ => by kernel_rfl)) rfl rfl rfl ?_; intro a31 hE32; clear hE30
   refine l_step hE32 rfl (l_storeS (k := 0) (cs' := #[.int .i64 0, .slice none 0 0]) hS23 hE32 (by kernel_rfl) rfl rfl (by kernel_rfl) rfl rfl ?_)
   intro w34 hS37 a35 hE36; clear hS23 hE32
   refine q_step (v := .int .i64 1) hE36 (y_assign rfl) rfl rfl rfl ?_; intro a39 hE40; clear hE36
   refine c_nil ?_
   have hE41 := hE40.sub (L' := [(2, .pointer (some ⟨b8, 0, none⟩)), (3, .int .i64 1)]) ⟨rfl, rfl, trivial⟩; clear hE40
   refine p_tn ?_
   refine wp_ret ?_
   refine p_tr ?_
   have hF : F_s_AlgebraOfFrame fp0 fp1 = ((0, []), 1) := by unfold F_s_AlgebraOfFrame; rw [ht28]; first | done | rfl
   refine c_retC2 hE41 rfl rfl rfl Try.underlying79 rfl (by kernel_rfl) (St.row (i := 0) hS37 rfl _ (Ext.refl _)) ?_
   exact ⟨none, 0, (by rw [hF]; first | done | (dsimp only; done) | rfl), (by rw [hF]; (try dsimp only); exact OwnS.nilS _ _ _ _), hS37.ext⟩
  ·
   have ht42 := bn_f ht28
   have hp43 := l05Is_t ht42
   have hE44 := hE27; rw [ht28] at hE44; clear hE27
   refine wp_skip ?_
   refine p_tn ?_
   refine c_seq ?_
   refine c_seq ?_
   refine c_reg ?_
   refine q_step (v := .pointer (some ⟨b2, 0, none⟩)) hE44 (y_field rfl (fun _ => by kernel_rfl)) rfl rfl rfl ?_; intro a45 hE46; clear hE44
   refine q_step (v := .int .i64 fp0) hE46 (y_load (fun _ => by kernel_rfl) rfl (St.cell (i := 1) hS23 rfl rfl)) rfl rfl rfl ?_; intro a47 hE48; clear hE46
   refine q_step (v := .bool (decide (5 < fp0))) hE48 (y_gtr rfl rfl) rfl rfl rfl ?_; intro a49 hE50; clear hE48
   refine c_nil ?_
   have hE51 := hE50.sub (L' := [(1, .pointer (some ⟨b2, 0, none⟩)), (2, .pointer (some ⟨b8, 0, none⟩)), (10, .bool (decide (5 < fp0)))]) ⟨rfl, rfl, rfl, trivial⟩; clear hE50
   refine p_tn ?_
   refine c_cond hE51 rfl (fun ht52 => ?_) (fun ht52 => ?_)
   ·
    have hp53 := of_decide_eq_true ht52
    have hE54 := hE51; rw [ht52] at hE54; clear hE51
    refine c_seq ?_
    refine c_reg ?_
    refine q_step (v := .agg #[.int .i64 0, .slice none 0 0]) hE54 (y_build (vs := #[]) (fun a n hE => by simp) (fun _ => by kernel_rfl)) rfl rfl rfl ?_; intro a55 hE56; clear hE54
    refine l_step hE56 rfl (l_storeS (k := 0) (cs' := #[.int .i64 0, .slice none 0 0]) hS23 hE56 (by kernel_rfl) rfl rfl (by kernel_rfl) rfl rfl ?_)
    intro w58 hS61 a59 hE60; clear hS23 hE56
    refine q_step (v := .int .i64 3) hE60 (y_assign rfl) rfl rfl rfl ?_; intro a63 hE64; clear hE60
    refine c_nil ?_
    have hE65 := hE64.sub (L' := [(2, .pointer (some ⟨b8, 0, none⟩)), (3, .int .i64 3)]) ⟨rfl, rfl, trivial⟩; clear hE64
    refine p_tn ?_
    refine wp_ret ?_
    refine p_tr ?_
    have hF : F_s_AlgebraOfFrame fp0 fp1 = ((0, []), 3) := by unfold F_s_AlgebraOfFrame; rw [ht52, ht28]; first | done | rfl
    refine c_retC2 hE65 rfl rfl rfl Try.underlying79 rfl (by kernel_rfl) (St.row (i := 0) hS61 rfl _ (Ext.refl _)) ?_
    exact ⟨none, 0, (by rw [hF]; first | done | (dsimp only; done) | rfl), (by rw [hF]; (try dsimp only); exact OwnS.nilS _ _ _ _), hS61.ext⟩
   ·
    have hp66 := of_decide_eq_false ht52
    have hE67 := hE51; rw [ht52] at hE67; clear hE51
    refine wp_skip ?_
    refine p_tn ?_
    refine c_seq ?_
    refine c_reg ?_
    refine q_step (v := .agg #[.int .i64 fp0, .slice fp1A fp1.length fp1C]) hE67 (y_loadS Try.underlying30 rfl (by kernel_rfl) rfl (St.row (i := 1) hS23 rfl)) rfl rfl rfl ?_; intro a68 hE69; clear hE67
    refine l_step hE69 rfl (l_call (f := 136) (argv := [.agg #[.int .i64 fp0, .slice fp1A fp1.length fp1C]]) hE69 (fun _ => cf_l15Of _ _) rfl rfl (c_l15Of fp0 fp1A fp1.length fp1C fp1 w20 (St.rdR (i := 2) hS23 rfl) (by omega) (by omega) (by omega)) ?_)
    rintro _ w71 ⟨b76, c77, rfl, ho78, he75⟩ a72 hE73; clear hE69
    have hS74 := St.own hS23 he75 ho78; clear hS23
    refine l_step hE73 rfl (l_storeS (k := 1) (cs' := #[.int .i64 ((F_l15Of fp0 fp1).1), .slice b76 (((F_l15Of fp0 fp1).2).length) c77]) hS74 hE73 (by kernel_rfl) rfl rfl (by kernel_rfl) rfl rfl ?_)
    intro w80 hS83 a81 hE82; clear hS74 hE73
    refine q_step (v := .int .i64 0) hE82 (y_assign rfl) rfl rfl rfl ?_; intro a85 hE86; clear hE82
    refine c_nil ?_
    have hE87 := hE86.sub (L' := [(2, .pointer (some ⟨b8, 0, none⟩)), (3, .int .i64 0)]) ⟨rfl, rfl, trivial⟩; clear hE86
    refine p_tn ?_
    refine wp_ret ?_
    have hF : F_s_AlgebraOfFrame fp0 fp1 = (((F_l15Of fp0 fp1).1, (F_l15Of fp0 fp1).2), 0) := by unfold F_s_AlgebraOfFrame; rw [ht52, ht28]; first | done | rfl
    refine c_retC2 hE87 rfl rfl rfl Try.underlying79 rfl (by kernel_rfl) (St.row (i := 1) hS83 rfl _ (Ext.refl _)) ?_
    exact ⟨b76, c77, (by rw [hF]; first | done | (dsimp only; done) | rfl), (by rw [hF]; (try dsimp only); exact hS83.ok 0 _ rfl), hS83.ext⟩
def F_algebraOf_L1b (arrows : List Int) (rec : Int → (List Int) → Int × (List Int)) (t11 : Int) (q3_1 : List Int) : Int × (List Int) :=
  bif (decide (t11 < ((fullI (arrows.length : Int)) + 1))) then (rec (t11 + 1) (q3_1 ++ ([F_box arrows t11]))) else (t11, q3_1)
def F_algebraOf_L1 (arrows : List Int) : Nat → Int → (List Int) → Int × (List Int)
  | 0, t11, q3_1 => (t11, q3_1)
  | r + 1, t11, q3_1 => F_algebraOf_L1b arrows (F_algebraOf_L1 arrows r) t11 q3_1
def F_algebraOf (arrows : List Int) : Int × List Int :=
  ((arrows.length : Int), (F_algebraOf_L1 arrows (Int.toNat (((fullI (arrows.length : Int)) + 1) - 0) + 1) 0 ([])).2)
theorem cf_algebraOf (args : Array Value) (w : World) : (callFunc 133 args).run Try.prog w = .ok (.enter 133 args) w := by kernel_rfl
set_option maxRecDepth 100000 in
theorem c_algebraOf (arrowsA : Option Addr) (arrowsN arrowsC : Nat) (arrows : List Int) (w : World) (arrowsR : RdS w 1 arrowsA arrowsN arrowsC arrows) (h1 : arrows.length ≤ 5) :
    Calls Try.prog 133 #[.slice arrowsA arrowsN arrowsC] w (Ret fun v w' => ∃ b1 : Option Addr, ∃ c1 : Nat, v = .agg #[.int .i64 ((F_algebraOf arrows).1), .slice b1 ((F_algebraOf arrows).2).length c1] ∧ OwnS w' w.heap.size 2 1 b1 ((F_algebraOf arrows).2).length c1 ((F_algebraOf arrows).2) ∧ Ext w w') := by
  obtain rfl : arrowsN = arrows.length := arrowsR.len1.symm
  have arrowsLe := arrowsR.le
  have hfl := fullI5 (n := (arrows.length : Int)) (by omega) (by omega)
  have hS := St.nil w
  have hS1 := St.rd0 hS rfl arrowsR; clear hS
  refine enter (args := [.slice arrowsA arrows.length arrowsC]) Try.func133 rfl rfl ?_
  rw [Try.ntmps133]; intro a hE
  have hE := hE.sub (L' := [(0, .slice arrowsA arrows.length arrowsC)]) ⟨rfl, trivial⟩
  refine c_seq ?_
  refine c_reg ?_
  refine l_step hE rfl (l_alloc (z := .agg #[.int .i64 0, .slice none 0 0]) (cs := #[.int .i64 0, .slice none 0 0]) hS1 hE (fun _ => by kernel_rfl) rfl rfl ?_)
  intro b2 w3 hS6 he7 a4 hE5; clear hS1 hE
  refine c_nil ?_
  have hE8 := hE5.sub (L' := [(0, .slice arrowsA arrows.length arrowsC), (2, .pointer (some ⟨b2, 0, none⟩))]) ⟨rfl, rfl, trivial⟩; clear hE5
  refine p_tn ?_
  refine c_seq ?_
  refine c_reg ?_
  refine q_step (v := .slice arrowsA arrows.length arrowsC) hE8 (y_move rfl) rfl rfl rfl ?_; intro a9 hE10; clear hE8
  refine l_step hE10 rfl (l_call (f := 165) (argv := [.slice arrowsA arrows.length arrowsC]) hE10 (fun _ => cf_size _ _) rfl rfl (d_size arrowsA arrows.length arrowsC arrows w3 (St.rdR (i := 1) hS6 rfl)) ?_)
  rintro _ _ ⟨rfl, rfl⟩ a13 hE14; clear hE10
  refine q_step (v := .agg #[.int .i64 (arrows.length : Int), .slice none 0 0]) hE14 (y_build (vs := #[(0, .int .i64 (arrows.length : Int))]) (fun a n hE => by simp only [hE.eval (x := .tmp 6) (v := .int .i64 (arrows.length : Int)) rfl, List.map_toArray, List.map_cons, List.map_nil]) (fun _ => by kernel_rfl)) rfl rfl rfl ?_; intro a17 hE18; clear hE14
  refine l_step hE18 rfl (l_alloc (z := .agg #[.int .i64 0, .slice none 0 0]) (cs := #[.int .i64 0, .slice none 0 0]) hS6 hE18 (fun _ => by kernel_rfl) rfl rfl ?_)
  intro b19 w20 hS23 he24 a21 hE22; clear hS6 hE18
  refine l_step hE22 rfl (l_storeS (k := 0) (cs' := #[.int .i64 (arrows.length : Int), .slice none 0 0]) hS23 hE22 (by kernel_rfl) rfl rfl (by kernel_rfl) rfl rfl ?_)
  intro w26 hS29 a27 hE28; clear hS23 hE22
  refine c_nil ?_
  have hE31 := hE28.sub (L' := [(0, .slice arrowsA arrows.length arrowsC), (2, .pointer (some ⟨b2, 0, none⟩)), (3, .pointer (some ⟨b19, 0, none⟩))]) ⟨rfl, rfl, rfl, trivial⟩; clear hE28
  refine p_tn ?_
  refine c_seq ?_
  refine c_seq ?_
  refine c_reg ?_
  refine q_step (v := .agg #[.int .i64 (arrows.length : Int), .slice none 0 0]) hE31 (y_loadS Try.underlying79 rfl (by kernel_rfl) rfl (St.row (i := 0) hS29 rfl)) rfl rfl rfl ?_; intro a32 hE33; clear hE31
  refine l_step hE33 rfl (l_call (f := 206) (argv := [.agg #[.int .i64 (arrows.length : Int), .slice none 0 0]]) hE33 (fun _ => cf_ModalAlgebra_full _ _) rfl rfl (d_ModalAlgebra_full (arrows.length : Int) none 0 0 [] w26 (RdS.nilS _ _) (by omega) (by omega)) ?_)
  rintro _ w35 ⟨rfl, he39⟩ a36 hE37; clear hE33
  have hf40 := fullI_bd (n := (arrows.length : Int)) (by omega) (by omega)
  have hS38 := St.go hS29 he39; clear hS29
  refine q_step (v := .int .i64 ((fullI (arrows.length : Int)) + 1)) hE37 (y_add rfl rfl ⟨(by omega), (by omega)⟩) rfl rfl rfl ?_; intro a41 hE42; clear hE37
  refine q_step (v := .int .i64 0) hE42 (y_move rfl) rfl rfl rfl ?_; intro a43 hE44; clear hE42
  refine c_nil ?_
  have hE45 := hE44.sub (L' := [(0, .slice arrowsA arrows.length arrowsC), (2, .pointer (some ⟨b2, 0, none⟩)), (3, .pointer (some ⟨b19, 0, none⟩)), (10, .int .i64 ((fullI (arrows.length : Int)) + 1)), (11, .int .i64 0)]) ⟨rfl, rfl, rfl, rfl, rfl, trivial⟩; clear hE44
  refine p_tn ?_
  have hS46 := St.nils hS38 2 1; clear hS38
  have hS47 := St.nils hS46 2 1; clear hS46
  refine c_cut1 (fun a' w' => ∃ q3_1A_48 : Option Addr, ∃ q3_1C_48 : Nat, (0 ≤ ((F_algebraOf_L1 arrows (Int.toNat (((fullI (arrows.length : Int)) + 1) - 0) + 1) 0 ([])).1)) ∧ ((((F_algebraOf_L1 arrows (Int.toNat (((fullI (arrows.length : Int)) + 1) - 0) + 1) 0 ([])).2).length : Int) = ((F_algebraOf_L1 arrows (Int.toNat (((fullI (arrows.length : Int)) + 1) - 0) + 1) 0 ([])).1)) ∧ ((((F_algebraOf_L1 arrows (Int.toNat (((fullI (arrows.length : Int)) + 1) - 0) + 1) 0 ([])).2).length : Int) ≤ ((F_algebraOf_L1 arrows (Int.toNat (((fullI (arrows.length : Int)) + 1) - 0) + 1) 0 ([])).1)) ∧ E a' 24 [(0, .slice arrowsA arrows.length arrowsC), (2, .pointer (some ⟨b2, 0, none⟩)), (3, .pointer (some ⟨b19, 0, none⟩)), (10, .int .i64 ((fullI (arrows.length : Int)) + 1)), (11, .int .i64 ((F_algebraOf_L1 arrows (Int.toNat (((fullI (arrows.length : Int)) + 1) - 0) + 1) 0 ([])).1))] ∧ St w w' [.own 2 1 none 0 0 ([]), .own 2 1 q3_1A_48 (((F_algebraOf_L1 arrows (Int.toNat (((fullI (arrows.length : Int)) + 1) - 0) + 1) 0 ([])).2).length) q3_1C_48 ((F_algebraOf_L1 arrows (Int.toNat (((fullI (arrows.length : Int)) + 1) - 0) + 1) 0 ([])).2), .blk b19 #[.int .i64 (arrows.length : Int), .slice q3_1A_48 (((F_algebraOf_L1 arrows (Int.toNat (((fullI (arrows.length : Int)) + 1) - 0) + 1) 0 ([])).2).length) q3_1C_48] 79, .blk b2 #[.int .i64 0, .slice none 0 0] 79, .rd 1 arrowsA arrows.length arrowsC arrows]) ?_ ?_
  ·
   refine wp_block ?_
   refine c_loop (fun r a' w' => ∃ t11 : Int, ∃ q3_1 : List Int, ∃ q3_1A : Option Addr, ∃ q3_1C : Nat, F_algebraOf_L1 arrows r t11 q3_1 = F_algebraOf_L1 arrows (Int.toNat (((fullI (arrows.length : Int)) + 1) - 0) + 1) 0 ([]) ∧ Int.toNat (((fullI (arrows.length : Int)) + 1) - t11) < r ∧ (0 ≤ t11) ∧ ((q3_1.length : Int) = t11) ∧ ((q3_1.length : Int) ≤ t11) ∧ E a' 24 [(0, .slice arrowsA arrows.length arrowsC), (2, .pointer (some ⟨b2, 0, none⟩)), (3, .pointer (some ⟨b19, 0, none⟩)), (10, .int .i64 ((fullI (arrows.length : Int)) + 1)), (11, .int .i64 t11)] ∧ St w w' [.own 2 1 none 0 0 ([]), .own 2 1 q3_1A ((q3_1).length) q3_1C q3_1, .blk b19 #[.int .i64 (arrows.length : Int), .slice q3_1A ((q3_1).length) q3_1C] 79, .blk b2 #[.int .i64 0, .slice none 0 0] 79, .rd 1 arrowsA arrows.length arrowsC arrows]) (r := (Int.toNat (((fullI (arrows.length : Int)) + 1) - 0) + 1)) ?_ ?_
   · exact ⟨0, [], none, 0, rfl, Nat.lt_succ_self _, (by first | omega | (simp only [sS_len, sL_len]; omega) | (simp only [List.length_replicate, sI_len]; omega) | (simp only [List.length_append, List.length_cons, List.length_nil, sI_len, cond_true, cond_false]; omega) | (simp only [List.length_append, List.length_cons, List.length_nil, sI_len, cond_eq_ite, apply_ite List.length]; split <;> simp only [List.length_append, List.length_cons, List.length_nil, sI_len] <;> omega) | grind), (by first | omega | (simp only [sS_len, sL_len]; omega) | (simp only [List.length_replicate, sI_len]; omega) | (simp only [List.length_append, List.length_cons, List.length_nil, sI_len, cond_true, cond_false]; omega) | (simp only [List.length_append, List.length_cons, List.length_nil, sI_len, cond_eq_ite, apply_ite List.length]; split <;> simp only [List.length_append, List.length_cons, List.length_nil, sI_len] <;> omega) | grind), (by first | omega | (simp only [sS_len, sL_len]; omega) | (simp only [List.length_replicate, sI_len]; omega) | (simp only [List.length_append, List.length_cons, List.length_nil, sI_len, cond_true, cond_false]; omega) | (simp only [List.length_append, List.length_cons, List.length_nil, sI_len, cond_eq_ite, apply_ite List.length]; split <;> simp only [List.length_append, List.length_cons, List.length_nil, sI_len] <;> omega) | grind), (hE45.sub (L' := [(0, .slice arrowsA arrows.length arrowsC), (2, .pointer (some ⟨b2, 0, none⟩)), (3, .pointer (some ⟨b19, 0, none⟩)), (10, .int .i64 ((fullI (arrows.length : Int)) + 1)), (11, .int .i64 0)]) ⟨rfl, rfl, rfl, rfl, rfl, trivial⟩), (St.pick (Γ' := [.own 2 1 none 0 0 ([]), .own 2 1 none 0 0 ([]), .blk b19 #[.int .i64 (arrows.length : Int), .slice none 0 0] 79, .blk b2 #[.int .i64 0, .slice none 0 0] 79, .rd 1 arrowsA arrows.length arrowsC arrows]) hS47 [0, 1, 2, 3, 4] (by decide) rfl)⟩
   ·
    clear hE45 hS47
    rintro r58 a49 w50 ⟨t11, q3_1, q3_1A, q3_1C, hT53, hr54, hi55, hi56, hi57, hE51, hS52⟩
    obtain ⟨r58, rfl⟩ : ∃ r', r58 = r' + 1 := ⟨r58 - 1, by omega⟩
    refine c_seq ?_
    refine c_reg ?_
    refine q_step (v := .bool (decide (t11 < ((fullI (arrows.length : Int)) + 1)))) hE51 (y_lss rfl rfl) rfl rfl rfl ?_; intro a59 hE60; clear hE51
    refine c_nil ?_
    have hE61 := hE60.sub (L' := [(0, .slice arrowsA arrows.length arrowsC), (2, .pointer (some ⟨b2, 0, none⟩)), (3, .pointer (some ⟨b19, 0, none⟩)), (10, .int .i64 ((fullI (arrows.length : Int)) + 1)), (11, .int .i64 t11), (12, .bool (decide (t11 < ((fullI (arrows.length : Int)) + 1))))]) ⟨rfl, rfl, rfl, rfl, rfl, rfl, trivial⟩; clear hE60
    refine p_tn ?_
    refine c_seq ?_
    refine c_cond hE61 rfl (fun ht62 => ?_) (fun ht62 => ?_)
    ·
     have hp63 := of_decide_eq_true ht62
     have hE64 := hE61; rw [ht62] at hE64; clear hE61
     refine wp_skip ?_
     refine p_tn ?_
     refine c_seq ?_
     refine wp_block ?_
     refine c_seq ?_
     refine c_reg ?_
     refine q_step (v := .int .i64 t11) hE64 (y_move rfl) rfl rfl rfl ?_; intro a65 hE66; clear hE64
     refine q_step (v := .int .i64 t11) hE66 (y_assign rfl) rfl rfl rfl ?_; intro a67 hE68; clear hE66
     refine c_nil ?_
     have hE69 := hE68.sub (L' := [(0, .slice arrowsA arrows.length arrowsC), (2, .pointer (some ⟨b2, 0, none⟩)), (3, .pointer (some ⟨b19, 0, none⟩)), (4, .int .i64 t11), (10, .int .i64 ((fullI (arrows.length : Int)) + 1)), (11, .int .i64 t11)]) ⟨rfl, rfl, rfl, rfl, rfl, rfl, trivial⟩; clear hE68
     refine p_tn ?_
     refine d_start (fun w w' => (fun w' => w'.cell? ⟨b19, 1, none⟩ = some (.slice q3_1A ((q3_1).length) q3_1C) ∧ True) w → (fun w' => w'.cell? ⟨b19, 1, none⟩ = some (.slice q3_1A ((q3_1).length) q3_1C) ∧ True) w') [1] 9 (by kernel_rfl) rfl ?_
     intro w70 he71; have hS72 := St.go hS52 he71; clear hS52
     refine d_pure (fun _ h => h) (v := .pointer (some ⟨b19, 1, none⟩)) 0 rfl hE69 (y_field rfl (fun _ => by kernel_rfl)) rfl (by kernel_rfl) (by kernel_rfl) (by kernel_rfl) rfl rfl (fun _ _ _ h => h) ?_; intro a73 hE74; clear hE69
     refine d_take (fun _ h => h) (fun _ _ h k => h k) (v := .slice q3_1A ((q3_1).length) q3_1C) 1 rfl hE74 (S := fun w' => w'.cell? ⟨b19, 1, none⟩ = some (.slice q3_1A ((q3_1).length) q3_1C) ∧ True) ⟨(St.cell (i := 2) hS72 rfl rfl _ (Ext.refl _)), trivial⟩ (y_load (fun _ => by kernel_rfl) rfl (fun _ h => h.1)) rfl rfl (by kernel_rfl) (by kernel_rfl) (by kernel_rfl) (by kernel_rfl) rfl rfl (fun _ _ _ h => h) ?_; intro a75 hE76; clear hE74
     refine d_pure (fun _ h => h) (v := .slice arrowsA arrows.length arrowsC) 2 rfl hE76 (y_move rfl) rfl (by kernel_rfl) (by kernel_rfl) (by kernel_rfl) rfl rfl (fun _ _ _ h => h) ?_; intro a77 hE78; clear hE76
     refine d_pure (fun _ h => h) (v := .int .i64 t11) 3 rfl hE78 (y_move rfl) rfl (by kernel_rfl) (by kernel_rfl) (by kernel_rfl) rfl rfl (fun _ _ _ h => h) ?_; intro a79 hE80; clear hE78
     refine d_only 4 (by kernel_rfl) rfl hE80 rfl (l_call (f := 124) (argv := [.slice arrowsA arrows.length arrowsC, .int .i64 t11]) hE80 (fun _ => cf_box _ _) rfl rfl (c_box arrowsA arrows.length arrowsC arrows t11 w70 (St.rdR (i := 4) hS72 rfl) (by omega)) ?_)
     rintro _ w82 ⟨rfl, he86⟩ a83 hE84; clear hE80
     have hS85 := St.go hS72 he86; clear hS72
     refine ⟨fun _ _ => ⟨(St.cell (i := 2) hS85 rfl rfl _ (Ext.refl _)), trivial⟩, ?_⟩
     refine d_only 5 (by kernel_rfl) rfl hE84 rfl (l_lit (e := 2) (s := 1) (xs := [F_box arrows t11]) (vs := [.int .i64 (F_box arrows t11)]) hS85 hE84 rfl (fun _ => by kernel_rfl) rfl rfl rfl ?_)
     intro b87 w88 hS91 he92 a89 hE90; clear hS85 hE84
     refine ⟨fun _ _ => ⟨(St.cell (i := 3) hS91 rfl rfl _ (Ext.refl _)), trivial⟩, ?_⟩
     obtain ⟨_, hi1, hi2, hi3, hi4⟩ := info_parts (show (Try.prog.info? 2).map (fun i => (i.zero, i.size, i.bytes)) = some (some (.int .i64 0), 1, 8) by kernel_rfl)
     refine d_only 6 (by kernel_rfl) rfl hE90 rfl (l_append (k := 2) (n' := (q3_1 ++ ([F_box arrows t11])).length) hS91 hE90 (by kernel_rfl) hi1 hi2 hi3 rfl (by decide) (by rw [hi4]; decide) rfl rfl rfl (St.rdO (i := 0) hS91 rfl) (by first | omega | (simp only [List.length_append, List.length_cons, List.length_nil]; omega)) (by have h1 := (St.rdO (i := 2) hS91 rfl).len1; have h2 := (St.rdO (i := 0) hS91 rfl).len1; first | rw [List.length_append, h1, h2] | (simp only [List.length_append])) rfl ?_)
     intro b93 c99 w94 hS97 a95 hE96; clear hS91 hE90 hi1 hi2 hi3 hi4
     refine ⟨fun h => Bool.noConfusion (h.symm.trans (show exm _ _ _ = true by kernel_rfl)), ?_⟩
     refine d_pure (fun _ h => h) (v := .pointer (some ⟨b19, 1, none⟩)) 7 rfl hE96 (y_field rfl (fun _ => by kernel_rfl)) rfl (by kernel_rfl) (by kernel_rfl) (by kernel_rfl) rfl rfl (fun _ _ _ h => h) ?_; intro a100 hE101; clear hE96
     refine d_only 8 (by kernel_rfl) rfl hE101 rfl (l_storeB (k := 3) (cs' := #[.int .i64 (arrows.length : Int), .slice b93 ((q3_1 ++ ([F_box arrows t11])).length) c99]) hS97 hE101 (fun _ => by kernel_rfl) rfl rfl rfl rfl rfl rfl rfl ?_)
     intro w103 hS106 a104 hE105; clear hS97 hE101
     refine ⟨fun h => Bool.noConfusion (h.symm.trans (show exm _ _ _ = true by kernel_rfl)), ?_⟩
     refine d_done (by kernel_rfl) ?_
     have hE108 := hE105.sub (L' := [(0, .slice arrowsA arrows.length arrowsC), (2, .pointer (some ⟨b2, 0, none⟩)), (3, .pointer (some ⟨b19, 0, none⟩)), (10, .int .i64 ((fullI (arrows.length : Int)) + 1)), (11, .int .i64 t11)]) ⟨rfl, rfl, rfl, rfl, rfl, trivial⟩; clear hE105
     refine p_bn ?_
     refine p_tn ?_
     refine c_reg ?_
     refine q_step (v := .int .i64 (t11 + 1)) hE108 (y_add rfl rfl ⟨(by omega), (by omega)⟩) rfl rfl rfl ?_; intro a109 hE110; clear hE108
     refine q_step (v := .int .i64 (t11 + 1)) hE110 (y_move rfl) rfl rfl rfl ?_; intro a111 hE112; clear hE110
     refine c_nil ?_
     have hE113 := hE112.sub (L' := [(0, .slice arrowsA arrows.length arrowsC), (2, .pointer (some ⟨b2, 0, none⟩)), (3, .pointer (some ⟨b19, 0, none⟩)), (10, .int .i64 ((fullI (arrows.length : Int)) + 1)), (11, .int .i64 (t11 + 1))]) ⟨rfl, rfl, rfl, rfl, rfl, trivial⟩; clear hE112
     refine p_tn ⟨r58, Nat.lt_succ_self _, t11 + 1, q3_1 ++ ([F_box arrows t11]), b93, c99, (hT53.symm.trans (show F_algebraOf_L1b arrows (F_algebraOf_L1 arrows r58) t11 q3_1 = F_algebraOf_L1 arrows r58 (t11 + 1) (q3_1 ++ ([F_box arrows t11])) by unfold F_algebraOf_L1b; rw [ht62]; first | done | rfl)).symm, (by omega), (by first | omega | (simp only [sS_len, sL_len]; omega) | (simp only [List.length_replicate, sI_len]; omega) | (simp only [List.length_append, List.length_cons, List.length_nil, sI_len, cond_true, cond_false]; omega) | (simp only [List.length_append, List.length_cons, List.length_nil, sI_len, cond_eq_ite, apply_ite List.length]; split <;> simp only [List.length_append, List.length_cons, List.length_nil, sI_len] <;> omega) | grind), (by first | omega | (simp only [sS_len, sL_len]; omega) | (simp only [List.length_replicate, sI_len]; omega) | (simp only [List.length_append, List.length_cons, List.length_nil, sI_len, cond_true, cond_false]; omega) | (simp only [List.length_append, List.length_cons, List.length_nil, sI_len, cond_eq_ite, apply_ite List.length]; split <;> simp only [List.length_append, List.length_cons, List.length_nil, sI_len] <;> omega) | grind), (by first | omega | (simp only [sS_len, sL_len]; omega) | (simp only [List.length_replicate, sI_len]; omega) | (simp only [List.length_append, List.length_cons, List.length_nil, sI_len, cond_true, cond_false]; omega) | (simp only [List.length_append, List.length_cons, List.length_nil, sI_len, cond_eq_ite, apply_ite List.length]; split <;> simp only [List.length_append, List.length_cons, List.length_nil, sI_len] <;> omega) | grind), (hE113.sub (L' := [(0, .slice arrowsA arrows.length arrowsC), (2, .pointer (some ⟨b2, 0, none⟩)), (3, .pointer (some ⟨b19, 0, none⟩)), (10, .int .i64 ((fullI (arrows.length : Int)) + 1)), (11, .int .i64 (t11 + 1))]) ⟨rfl, rfl, rfl, rfl, rfl, trivial⟩), (St.pick (Γ' := [.own 2 1 none 0 0 ([]), .own 2 1 b93 ((q3_1 ++ ([F_box arrows t11])).length) c99 (q3_1 ++ ([F_box arrows t11])), .blk b19 #[.int .i64 (arrows.length : Int), .slice b93 ((q3_1 ++ ([F_box arrows t11])).length) c99] 79, .blk b2 #[.int .i64 0, .slice none 0 0] 79, .rd 1 arrowsA arrows.length arrowsC arrows]) hS106 [1, 2, 3, 4, 5] (by decide) rfl)⟩
    ·
     have hp114 := of_decide_eq_false ht62
     have hE115 := hE61; rw [ht62] at hE115; clear hE61
     refine wp_exit ?_
     refine p_te ?_
     have hX116 : F_algebraOf_L1 arrows (Int.toNat (((fullI (arrows.length : Int)) + 1) - 0) + 1) 0 ([]) = (t11, q3_1) := hT53.symm.trans (show F_algebraOf_L1b arrows (F_algebraOf_L1 arrows r58) t11 q3_1 = (t11, q3_1) by unfold F_algebraOf_L1b; rw [ht62]; first | done | rfl)
     refine p_te (p_be (p_tn ?_))
     exact ⟨q3_1A, q3_1C, (by rw [hX116]; exact (show 0 ≤ t11 from (by first | omega | (simp only [sS_len, sL_len]; omega) | (simp only [List.length_replicate, sI_len]; omega) | (simp only [List.length_append, List.length_cons, List.length_nil, sI_len, cond_true, cond_false]; omega) | (simp only [List.length_append, List.length_cons, List.length_nil, sI_len, cond_eq_ite, apply_ite List.length]; split <;> simp only [List.length_append, List.length_cons, List.length_nil, sI_len] <;> omega) | grind))), (by rw [hX116]; exact (show (q3_1.length : Int) = t11 from (by first | omega | (simp only [sS_len, sL_len]; omega) | (simp only [List.length_replicate, sI_len]; omega) | (simp only [List.length_append, List.length_cons, List.length_nil, sI_len, cond_true, cond_false]; omega) | (simp only [List.length_append, List.length_cons, List.length_nil, sI_len, cond_eq_ite, apply_ite List.length]; split <;> simp only [List.length_append, List.length_cons, List.length_nil, sI_len] <;> omega) | grind))), (by rw [hX116]; exact (show (q3_1.length : Int) ≤ t11 from (by first | omega | (simp only [sS_len, sL_len]; omega) | (simp only [List.length_replicate, sI_len]; omega) | (simp only [List.length_append, List.length_cons, List.length_nil, sI_len, cond_true, cond_false]; omega) | (simp only [List.length_append, List.length_cons, List.length_nil, sI_len, cond_eq_ite, apply_ite List.length]; split <;> simp only [List.length_append, List.length_cons, List.length_nil, sI_len] <;> omega) | grind))), (by rw [hX116]; exact (hE115.sub (L' := [(0, .slice arrowsA arrows.length arrowsC), (2, .pointer (some ⟨b2, 0, none⟩)), (3, .pointer (some ⟨b19, 0, none⟩)), (10, .int .i64 ((fullI (arrows.length : Int)) + 1)), (11, .int .i64 t11)]) ⟨rfl, rfl, rfl, rfl, rfl, trivial⟩)), (by rw [hX116]; exact (St.pick (Γ' := [.own 2 1 none 0 0 ([]), .own 2 1 q3_1A ((q3_1).length) q3_1C q3_1, .blk b19 #[.int .i64 (arrows.length : Int), .slice q3_1A ((q3_1).length) q3_1C] 79, .blk b2 #[.int .i64 0, .slice none 0 0] 79, .rd 1 arrowsA arrows.length arrowsC arrows]) hS52 [0, 1, 2, 3, 4] (by decide) rfl))⟩
  ·
   rintro a117 w118 ⟨q3_1A_48, q3_1C_48, hi122, hi123, hi124, hE119, hS120⟩; clear hE45 hS47
   refine p_tn ?_
   refine c_seq ?_
   refine c_reg ?_
   refine q_step (v := .agg #[.int .i64 (arrows.length : Int), .slice q3_1A_48 (((F_algebraOf_L1 arrows (Int.toNat (((fullI (arrows.length : Int)) + 1) - 0) + 1) 0 ([])).2).length) q3_1C_48]) hE119 (y_loadS Try.underlying79 rfl (by kernel_rfl) rfl (St.row (i := 2) hS120 rfl)) rfl rfl rfl ?_; intro a125 hE126; clear hE119
   refine l_step hE126 rfl (l_storeS (k := 3) (cs' := #[.int .i64 (arrows.length : Int), .slice q3_1A_48 (((F_algebraOf_L1 arrows (Int.toNat (((fullI (arrows.length : Int)) + 1) - 0) + 1) 0 ([])).2).length) q3_1C_48]) hS120 hE126 (by kernel_rfl) rfl rfl (by kernel_rfl) rfl rfl ?_)
   intro w128 hS131 a129 hE130; clear hS120 hE126
   refine c_nil ?_
   have hE133 := hE130.sub (L' := [(2, .pointer (some ⟨b2, 0, none⟩))]) ⟨rfl, trivial⟩; clear hE130
   refine p_tn ?_
   refine wp_ret ?_
   have hF : F_algebraOf arrows = ((arrows.length : Int), (F_algebraOf_L1 arrows (Int.toNat (((fullI (arrows.length : Int)) + 1) - 0) + 1) 0 ([])).2) := by unfold F_algebraOf; rfl
   refine c_retC hE133 rfl rfl Try.underlying79 rfl (by kernel_rfl) (St.row (i := 3) hS131 rfl _ (Ext.refl _)) ?_
   exact ⟨q3_1A_48, q3_1C_48, (by rw [hF]; first | done | (dsimp only; done) | rfl), (by rw [hF]; (try dsimp only); exact hS131.ok 1 _ rfl), hS131.ext⟩
def F_AlgebraOfFrame (fp0 : Int) (fp1 : List Int) : (Int × List Int) × (Int) :=
  bif (!(F_isFrame fp0 fp1)) then ((0, []), 1) else (bif (decide (5 < fp0)) then ((0, []), 3) else (((F_algebraOf fp1).1, (F_algebraOf fp1).2), 0))
theorem cf_AlgebraOfFrame (args : Array Value) (w : World) : (callFunc 70 args).run Try.prog w = .ok (.enter 70 args) w := by kernel_rfl
set_option maxRecDepth 100000 in
theorem c_AlgebraOfFrame (fp0 : Int) (fp1A : Option Addr) (fp1N fp1C : Nat) (fp1 : List Int) (w : World) (fp1R : RdS w 1 fp1A fp1N fp1C fp1) :
    Calls Try.prog 70 #[.agg #[.int .i64 fp0, .slice fp1A fp1N fp1C]] w (Ret fun v w' => ∃ b1 : Option Addr, ∃ c1 : Nat, v = .tuple #[.agg #[.int .i64 (((F_AlgebraOfFrame fp0 fp1).1).1), .slice b1 (((F_AlgebraOfFrame fp0 fp1).1).2).length c1], .int .i64 ((F_AlgebraOfFrame fp0 fp1).2)] ∧ OwnS w' w.heap.size 2 1 b1 (((F_AlgebraOfFrame fp0 fp1).1).2).length c1 (((F_AlgebraOfFrame fp0 fp1).1).2) ∧ Ext w w') := by
  obtain rfl : fp1N = fp1.length := fp1R.len1.symm
  have fp1Le := fp1R.le
  have hS := St.nil w
  have hS1 := St.rd0 hS rfl fp1R; clear hS
  refine enter (args := [.agg #[.int .i64 fp0, .slice fp1A fp1.length fp1C]]) Try.func70 rfl rfl ?_
  rw [Try.ntmps70]; intro a hE
  have hE := hE.sub (L' := [(0, .agg #[.int .i64 fp0, .slice fp1A fp1.length fp1C])]) ⟨rfl, trivial⟩
  refine c_seq ?_
  refine c_reg ?_
  refine l_step hE rfl (l_box (v := .agg #[.int .i64 fp0, .slice fp1A fp1.length fp1C]) (cs := #[.int .i64 fp0, .slice fp1A fp1.length fp1C]) hS1 hE rfl rfl rfl ?_)
  intro b2 w3 hS6 he7 a4 hE5; clear hS1 hE
  refine l_step hE5 rfl (l_alloc (z := .agg #[.int .i64 0, .slice none 0 0]) (cs := #[.int .i64 0, .slice none 0 0]) hS6 hE5 (fun _ => by kernel_rfl) rfl rfl ?_)
  intro b8 w9 hS12 he13 a10 hE11; clear hS6 hE5
  refine q_step (v := .int .i64 0) hE11 (y_assign rfl) rfl rfl rfl ?_; intro a14 hE15; clear hE11
  refine c_nil ?_
  have hE16 := hE15.sub (L' := [(1, .pointer (some ⟨b2, 0, none⟩)), (2, .pointer (some ⟨b8, 0, none⟩))]) ⟨rfl, rfl, trivial⟩; clear hE15
  refine p_tn ?_
  refine c_seq ?_
  refine wp_block ?_
  refine c_seq ?_
  refine c_reg ?_
  refine q_step (v := .agg #[.int .i64 fp0, .slice fp1A fp1.length fp1C]) hE16 (y_loadS Try.underlying30 rfl (by kernel_rfl) rfl (St.row (i := 1) hS12 rfl)) rfl rfl rfl ?_; intro a17 hE18; clear hE16
  refine l_step hE18 rfl (l_call (f := 96) (argv := [.agg #[.int .i64 fp0, .slice fp1A fp1.length fp1C]]) hE18 (fun _ => cf_isFrame _ _) rfl rfl (c_isFrame fp0 fp1A fp1.length fp1C fp1 w9 (St.rdR (i := 2) hS12 rfl)) ?_)
  rintro _ w20 ⟨rfl, he24⟩ a21 hE22; clear hE18
  have hS23 := St.go hS12 he24; clear hS12
  refine q_step (v := .bool (!(F_isFrame fp0 fp1))) hE22 (y_not rfl) rfl rfl rfl ?_; intro a25 hE26; clear hE22
  refine q_step (v := .bool (!(F_isFrame fp0 fp1))) hE26 (y_assign rfl) rfl rfl rfl ?_; intro a27 hE28; clear hE26
  refine c_nil ?_
  have hE29 := hE28.sub (L' := [(1, .pointer (some ⟨b2, 0, none⟩)), (2, .pointer (some ⟨b8, 0, none⟩)), (4, .bool (!(F_isFrame fp0 fp1)))]) ⟨rfl, rfl, rfl, trivial⟩; clear hE28
  refine p_tn ?_
  refine c_cond hE29 rfl (fun ht30 => ?_) (fun ht30 => ?_)
  ·
   have ht31 := bn_t ht30
   have hE32 := hE29; rw [ht30] at hE32; clear hE29
   refine c_seq ?_
   refine c_reg ?_
   refine q_step (v := .agg #[.int .i64 0, .slice none 0 0]) hE32 (y_build (vs := #[]) (fun a n hE => by simp) (fun _ => by kernel_rfl)) rfl rfl rfl ?_; intro a33 hE34; clear hE32
   refine l_step hE34 rfl (l_storeS (k := 0) (cs' := #[.int .i64 0, .slice none 0 0]) hS23 hE34 (by kernel_rfl) rfl rfl (by kernel_rfl) rfl rfl ?_)
   intro w36 hS39 a37 hE38; clear hS23 hE34
   refine q_step (v := .int .i64 1) hE38 (y_assign rfl) rfl rfl rfl ?_; intro a41 hE42; clear hE38
   refine c_nil ?_
   have hE43 := hE42.sub (L' := [(2, .pointer (some ⟨b8, 0, none⟩)), (3, .int .i64 1)]) ⟨rfl, rfl, trivial⟩; clear hE42
   refine p_tn ?_
   refine wp_ret ?_
   refine p_br ?_
   refine p_tr ?_
   have hF : F_AlgebraOfFrame fp0 fp1 = ((0, []), 1) := by unfold F_AlgebraOfFrame; rw [ht30]; first | done | rfl
   refine c_retC2 hE43 rfl rfl rfl Try.underlying79 rfl (by kernel_rfl) (St.row (i := 0) hS39 rfl _ (Ext.refl _)) ?_
   exact ⟨none, 0, (by rw [hF]; first | done | (dsimp only; done) | rfl), (by rw [hF]; (try dsimp only); exact OwnS.nilS _ _ _ _), hS39.ext⟩
  ·
   have ht44 := bn_f ht30
   have hp45 := isFrame_t ht44
   have hE46 := hE29; rw [ht30] at hE46; clear hE29
   refine c_seq ?_
   refine c_reg ?_
   refine q_step (v := .pointer (some ⟨b2, 0, none⟩)) hE46 (y_field rfl (fun _ => by kernel_rfl)) rfl rfl rfl ?_; intro a47 hE48; clear hE46
   refine q_step (v := .int .i64 fp0) hE48 (y_load (fun _ => by kernel_rfl) rfl (St.cell (i := 1) hS23 rfl rfl)) rfl rfl rfl ?_; intro a49 hE50; clear hE48
   refine q_step (v := .bool (decide (5 < fp0))) hE50 (y_gtr rfl rfl) rfl rfl rfl ?_; intro a51 hE52; clear hE50
   refine q_step (v := .bool (decide (5 < fp0))) hE52 (y_assign rfl) rfl rfl rfl ?_; intro a53 hE54; clear hE52
   refine c_nil ?_
   have hE55 := hE54.sub (L' := [(1, .pointer (some ⟨b2, 0, none⟩)), (2, .pointer (some ⟨b8, 0, none⟩)), (9, .bool (decide (5 < fp0)))]) ⟨rfl, rfl, rfl, trivial⟩; clear hE54
   refine p_tn ?_
   refine c_cond hE55 rfl (fun ht56 => ?_) (fun ht56 => ?_)
   ·
    have hp57 := of_decide_eq_true ht56
    have hE58 := hE55; rw [ht56] at hE58; clear hE55
    refine c_seq ?_
    refine c_reg ?_
    refine q_step (v := .agg #[.int .i64 0, .slice none 0 0]) hE58 (y_build (vs := #[]) (fun a n hE => by simp) (fun _ => by kernel_rfl)) rfl rfl rfl ?_; intro a59 hE60; clear hE58
    refine l_step hE60 rfl (l_storeS (k := 0) (cs' := #[.int .i64 0, .slice none 0 0]) hS23 hE60 (by kernel_rfl) rfl rfl (by kernel_rfl) rfl rfl ?_)
    intro w62 hS65 a63 hE64; clear hS23 hE60
    refine q_step (v := .int .i64 3) hE64 (y_assign rfl) rfl rfl rfl ?_; intro a67 hE68; clear hE64
    refine c_nil ?_
    have hE69 := hE68.sub (L' := [(2, .pointer (some ⟨b8, 0, none⟩)), (3, .int .i64 3)]) ⟨rfl, rfl, trivial⟩; clear hE68
    refine p_tn ?_
    refine wp_ret ?_
    refine p_br ?_
    refine p_tr ?_
    have hF : F_AlgebraOfFrame fp0 fp1 = ((0, []), 3) := by unfold F_AlgebraOfFrame; rw [ht56, ht30]; first | done | rfl
    refine c_retC2 hE69 rfl rfl rfl Try.underlying79 rfl (by kernel_rfl) (St.row (i := 0) hS65 rfl _ (Ext.refl _)) ?_
    exact ⟨none, 0, (by rw [hF]; first | done | (dsimp only; done) | rfl), (by rw [hF]; (try dsimp only); exact OwnS.nilS _ _ _ _), hS65.ext⟩
   ·
    have hp70 := of_decide_eq_false ht56
    have hE71 := hE55; rw [ht56] at hE71; clear hE55
    refine wp_skip ?_
    refine p_bn ?_
    refine p_tn ?_
    refine c_seq ?_
    refine c_reg ?_
    refine q_step (v := .pointer (some ⟨b2, 1, none⟩)) hE71 (y_field rfl (fun _ => by kernel_rfl)) rfl rfl rfl ?_; intro a72 hE73; clear hE71
    refine q_step (v := .slice fp1A fp1.length fp1C) hE73 (y_load (fun _ => by kernel_rfl) rfl (St.cell (i := 1) hS23 rfl rfl)) rfl rfl rfl ?_; intro a74 hE75; clear hE73
    refine l_step hE75 rfl (l_call (f := 133) (argv := [.slice fp1A fp1.length fp1C]) hE75 (fun _ => cf_algebraOf _ _) rfl rfl (c_algebraOf fp1A fp1.length fp1C fp1 w20 (St.rdR (i := 2) hS23 rfl) (by omega)) ?_)
    rintro _ w77 ⟨b82, c83, rfl, ho84, he81⟩ a78 hE79; clear hE75
    have hS80 := St.own hS23 he81 ho84; clear hS23
    refine l_step hE79 rfl (l_storeS (k := 1) (cs' := #[.int .i64 ((F_algebraOf fp1).1), .slice b82 (((F_algebraOf fp1).2).length) c83]) hS80 hE79 (by kernel_rfl) rfl rfl (by kernel_rfl) rfl rfl ?_)
    intro w86 hS89 a87 hE88; clear hS80 hE79
    refine q_step (v := .int .i64 0) hE88 (y_assign rfl) rfl rfl rfl ?_; intro a91 hE92; clear hE88
    refine c_nil ?_
    have hE93 := hE92.sub (L' := [(2, .pointer (some ⟨b8, 0, none⟩)), (3, .int .i64 0)]) ⟨rfl, rfl, trivial⟩; clear hE92
    refine p_tn ?_
    refine wp_ret ?_
    have hF : F_AlgebraOfFrame fp0 fp1 = (((F_algebraOf fp1).1, (F_algebraOf fp1).2), 0) := by unfold F_AlgebraOfFrame; rw [ht56, ht30]; first | done | rfl
    refine c_retC2 hE93 rfl rfl rfl Try.underlying79 rfl (by kernel_rfl) (St.row (i := 1) hS89 rfl _ (Ext.refl _)) ?_
    exact ⟨b82, c83, (by rw [hF]; first | done | (dsimp only; done) | rfl), (by rw [hF]; (try dsimp only); exact hS89.ok 0 _ rfl), hS89.ext⟩
theorem Alg_loop (f0 : Int) (f1 : List Int) (hl : (f1.length : Int) = f0) (h5 : f0 ≤ 5) (hx : ∀ m : Int, 0 ≤ m → m < (f1.length : Int) → 0 ≤ gI f1 m ∧ gI f1 m ≤ fullI f0) (r : Nat) (x : Int) (xs : List Int) (h0 : 0 ≤ x) : F_algebraOf_L1 f1 r x xs = F_l15Of_L1 f0 f1 r x xs := by
  induction r generalizing x xs with
  | zero => rfl
  | succ r ih =>
    have hf := fullI5 (n := f0) (by omega) h5
    show F_algebraOf_L1b f1 _ x xs = F_l15Of_L1b f0 f1 _ x xs
    unfold F_algebraOf_L1b F_l15Of_L1b
    rw [hl, show decide (x < fullI f0 + 1) = decide (x ≤ fullI f0) from decide_eq_decide.2 (by omega)]
    by_cases h : x ≤ fullI f0
    · rw [decide_eq_true h, box_eq (n := f0) (by omega) (by omega) (by omega) hx h0 h]
      simp only [cond_true]
      exact ih _ _ (by omega)
    · rw [decide_eq_false h, cond_false, cond_false]
theorem AlgebraOfFrame_eq (f0 : Int) (f1 : List Int) : F_AlgebraOfFrame f0 f1 = F_s_AlgebraOfFrame f0 f1 := by
  unfold F_AlgebraOfFrame F_s_AlgebraOfFrame F_algebraOf F_l15Of
  rw [isFrame_eq]
  cases h : F_l05Is f0 f1
  · rfl
  · cases h2 : decide (5 < f0)
    · have hl := (l05Is_t h).2
      have h5 := of_decide_eq_false h2
      rw [Alg_loop f0 f1 hl (by omega) (l05Is_m h) _ _ _ (by omega), hl]
    · rfl
theorem Alg_len (f0 : Int) (f1 : List Int) (r : Nat) (x : Int) (xs : List Int) : (F_l15Of_L1 f0 f1 r x xs).2.length ≤ xs.length + r := by
  induction r generalizing xs x with
  | zero => exact Nat.le_refl _
  | succ r ih =>
    show (F_l15Of_L1b f0 f1 _ x xs).2.length ≤ _
    unfold F_l15Of_L1b
    cases decide (x ≤ fullI f0)
    · simp <;> omega
    · simp only [cond_true]
      refine Nat.le_trans (ih _ _) ?_
      simp <;> omega
theorem AlgebraOfFrame_len (f0 : Int) (f1 : List Int) : (F_AlgebraOfFrame f0 f1).1.2.length ≤ 40 := by
  rw [AlgebraOfFrame_eq]
  unfold F_s_AlgebraOfFrame F_l15Of
  cases h : F_l05Is f0 f1
  · simp
  · cases h2 : decide (5 < f0)
    · have hl := l05Is_t h
      have h5 := of_decide_eq_false h2
      have hf := fullI5 (n := f0) (by omega) (by omega)
      have := Alg_len f0 f1 (Int.toNat (fullI f0 + 1 - 0) + 1) 0 []
      simp only [Bool.not_true, cond_false]
      refine Nat.le_trans this ?_
      simp <;> omega
    · simp
end Go.Proofs.Ytlbonhloeefnmaa
