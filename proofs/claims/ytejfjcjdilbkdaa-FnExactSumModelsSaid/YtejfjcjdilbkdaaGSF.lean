/- GSF: models and contracts, printed by wip/gen/gen.py -/
import Derived.Test.YtejfjcjdilbkdaaGD
set_option linter.unusedVariables false
set_option linter.unusedSimpArgs false
namespace Go.Proofs.Ytejfjcjdilbkdaa
open Go.RowKit

def F_l05Sum_L1b (f0 : Int) (g1 : List Int) (rec : (List Int) → Int → (List Int) × Int) (arrows5 : List Int) (w6 : Int) : (List Int) × Int :=
  bif (decide (w6 < (g1.length : Int))) then (rec (arrows5 ++ ([shlI (gI g1 w6) f0])) (w6 + 1)) else (arrows5, w6)
def F_l05Sum_L1 (f0 : Int) (g1 : List Int) : Nat → (List Int) → Int → (List Int) × Int
  | 0, arrows5, w6 => (arrows5, w6)
  | r + 1, arrows5, w6 => F_l05Sum_L1b f0 g1 (F_l05Sum_L1 f0 g1 r) arrows5 w6
def F_l05Sum (f0 : Int) (f1 : List Int) (g0 : Int) (g1 : List Int) : Int × List Int :=
  ((((F_l05Sum_L1 f0 g1 (Int.toNat ((g1.length : Int) - 0) + 1) f1 0).1).length : Int), ((F_l05Sum_L1 f0 g1 (Int.toNat ((g1.length : Int) - 0) + 1) f1 0).1))
theorem cf_l05Sum (args : Array Value) (w : World) : (callFunc 64 args).run Try.prog w = .ok (.enter 64 args) w := by kernel_rfl
set_option maxRecDepth 100000 in
theorem c_l05Sum (f0 : Int) (f1A : Option Addr) (f1N f1C : Nat) (f1 : List Int) (g0 : Int) (g1A : Option Addr) (g1N g1C : Nat) (g1 : List Int) (w : World) (f1R : RdS w 1 f1A f1N f1C f1) (g1R : RdS w 1 g1A g1N g1C g1) (h0 : 0 ≤ f0) (h1 : f0 ≤ 8) (h2 : f1.length ≤ 8) (h3 : g1.length ≤ 8) :
    Calls Try.prog 64 #[.agg #[.int .i64 f0, .slice f1A f1N f1C], .agg #[.int .i64 g0, .slice g1A g1N g1C]] w (Ret fun v w' => ∃ b1 : Option Addr, ∃ c1 : Nat, v = .agg #[.int .i64 ((F_l05Sum f0 f1 g0 g1).1), .slice b1 ((F_l05Sum f0 f1 g0 g1).2).length c1] ∧ OwnS w' w.heap.size 2 1 b1 ((F_l05Sum f0 f1 g0 g1).2).length c1 ((F_l05Sum f0 f1 g0 g1).2) ∧ Ext w w') := by
  obtain rfl : f1N = f1.length := f1R.len1.symm
  have f1Le := f1R.le
  obtain rfl : g1N = g1.length := g1R.len1.symm
  have g1Le := g1R.le
  have hS := St.nil w
  have hS1 := St.rd0 hS rfl f1R; clear hS
  have hS2 := St.rd0 hS1 rfl g1R; clear hS1
  refine enter (args := [.agg #[.int .i64 f0, .slice f1A f1.length f1C], .agg #[.int .i64 g0, .slice g1A g1.length g1C]]) Try.func64 rfl rfl ?_
  rw [Try.ntmps64]; intro a hE
  have hE := hE.sub (L' := [(0, .agg #[.int .i64 f0, .slice f1A f1.length f1C]), (1, .agg #[.int .i64 g0, .slice g1A g1.length g1C])]) ⟨rfl, rfl, trivial⟩
  refine c_seq ?_
  refine c_reg ?_
  refine l_step hE rfl (l_box (v := .agg #[.int .i64 f0, .slice f1A f1.length f1C]) (cs := #[.int .i64 f0, .slice f1A f1.length f1C]) hS2 hE rfl rfl rfl ?_)
  intro b3 w4 hS7 he8 a5 hE6; clear hS2 hE
  refine l_step hE6 rfl (l_box (v := .agg #[.int .i64 g0, .slice g1A g1.length g1C]) (cs := #[.int .i64 g0, .slice g1A g1.length g1C]) hS7 hE6 rfl rfl rfl ?_)
  intro b9 w10 hS13 he14 a11 hE12; clear hS7 hE6
  refine l_step hE12 rfl (l_alloc (z := .agg #[.int .i64 0, .slice none 0 0]) (cs := #[.int .i64 0, .slice none 0 0]) hS13 hE12 (fun _ => by kernel_rfl) rfl rfl ?_)
  intro b15 w16 hS19 he20 a17 hE18; clear hS13 hE12
  refine c_nil ?_
  have hE21 := hE18.sub (L' := [(2, .pointer (some ⟨b3, 0, none⟩)), (3, .pointer (some ⟨b9, 0, none⟩)), (4, .pointer (some ⟨b15, 0, none⟩))]) ⟨rfl, rfl, rfl, trivial⟩; clear hE18
  refine p_tn ?_
  refine c_seq ?_
  refine c_reg ?_
  refine q_step (v := .pointer (some ⟨b3, 1, none⟩)) hE21 (y_field rfl (fun _ => by kernel_rfl)) rfl rfl rfl ?_; intro a22 hE23; clear hE21
  refine q_step (v := .slice f1A f1.length f1C) hE23 (y_load (fun _ => by kernel_rfl) rfl (St.cell (i := 2) hS19 rfl rfl)) rfl rfl rfl ?_; intro a24 hE25; clear hE23
  refine l_step hE25 rfl (l_call (f := 90) (argv := [.slice f1A f1.length f1C]) hE25 (fun _ => cf_l01Own _ _) rfl rfl (d_l01Own f1A f1.length f1C f1 w16 (St.rdR (i := 4) hS19 rfl) (by omega)) ?_)
  rintro _ w27 ⟨b32, c33, rfl, ho34, he31⟩ a28 hE29; clear hE25
  have hS30 := St.own hS19 he31 ho34; clear hS19
  refine q_step (v := .slice b32 ((f1).length) c33) hE29 (y_assign rfl) rfl rfl rfl ?_; intro a35 hE36; clear hE29
  refine c_nil ?_
  have hE37 := hE36.sub (L' := [(2, .pointer (some ⟨b3, 0, none⟩)), (3, .pointer (some ⟨b9, 0, none⟩)), (4, .pointer (some ⟨b15, 0, none⟩)), (5, .slice b32 ((f1).length) c33)]) ⟨rfl, rfl, rfl, rfl, trivial⟩; clear hE36
  refine p_tn ?_
  refine c_seq ?_
  refine c_seq ?_
  refine c_reg ?_
  refine q_step (v := .int .i64 0) hE37 (y_assign rfl) rfl rfl rfl ?_; intro a38 hE39; clear hE37
  refine c_nil ?_
  have hE40 := hE39.sub (L' := [(2, .pointer (some ⟨b3, 0, none⟩)), (3, .pointer (some ⟨b9, 0, none⟩)), (4, .pointer (some ⟨b15, 0, none⟩)), (5, .slice b32 ((f1).length) c33), (6, .int .i64 0)]) ⟨rfl, rfl, rfl, rfl, rfl, trivial⟩; clear hE39
  refine p_tn ?_
  refine c_cut1 (fun a' w' => ∃ arrows5A_41 : Option Addr, ∃ arrows5C_41 : Nat, (0 ≤ ((F_l05Sum_L1 f0 g1 (Int.toNat ((g1.length : Int) - 0) + 1) f1 0).2)) ∧ ((((F_l05Sum_L1 f0 g1 (Int.toNat ((g1.length : Int) - 0) + 1) f1 0).1).length : Int) = (f1.length : Int) + ((F_l05Sum_L1 f0 g1 (Int.toNat ((g1.length : Int) - 0) + 1) f1 0).2)) ∧ (((F_l05Sum_L1 f0 g1 (Int.toNat ((g1.length : Int) - 0) + 1) f1 0).2) ≤ (g1.length : Int)) ∧ E a' 31 [(2, .pointer (some ⟨b3, 0, none⟩)), (3, .pointer (some ⟨b9, 0, none⟩)), (4, .pointer (some ⟨b15, 0, none⟩)), (5, .slice arrows5A_41 (((F_l05Sum_L1 f0 g1 (Int.toNat ((g1.length : Int) - 0) + 1) f1 0).1).length) arrows5C_41), (6, .int .i64 ((F_l05Sum_L1 f0 g1 (Int.toNat ((g1.length : Int) - 0) + 1) f1 0).2))] ∧ St w w' [.own 2 1 arrows5A_41 (((F_l05Sum_L1 f0 g1 (Int.toNat ((g1.length : Int) - 0) + 1) f1 0).1).length) arrows5C_41 ((F_l05Sum_L1 f0 g1 (Int.toNat ((g1.length : Int) - 0) + 1) f1 0).1), .blk b15 #[.int .i64 0, .slice none 0 0] 28, .blk b9 #[.int .i64 g0, .slice g1A g1.length g1C] 28, .blk b3 #[.int .i64 f0, .slice f1A f1.length f1C] 28, .rd 1 g1A g1.length g1C g1, .rd 1 f1A f1.length f1C f1]) ?_ ?_
  ·
    refine wp_block ?_
    refine c_loop (fun r a' w' => ∃ arrows5 : List Int, ∃ w6 : Int, ∃ arrows5A : Option Addr, ∃ arrows5C : Nat, F_l05Sum_L1 f0 g1 r arrows5 w6 = F_l05Sum_L1 f0 g1 (Int.toNat ((g1.length : Int) - 0) + 1) f1 0 ∧ Int.toNat ((g1.length : Int) - w6) < r ∧ (0 ≤ w6) ∧ ((arrows5.length : Int) = (f1.length : Int) + w6) ∧ (w6 ≤ (g1.length : Int)) ∧ E a' 31 [(2, .pointer (some ⟨b3, 0, none⟩)), (3, .pointer (some ⟨b9, 0, none⟩)), (4, .pointer (some ⟨b15, 0, none⟩)), (5, .slice arrows5A ((arrows5).length) arrows5C), (6, .int .i64 w6)] ∧ St w w' [.own 2 1 arrows5A ((arrows5).length) arrows5C arrows5, .blk b15 #[.int .i64 0, .slice none 0 0] 28, .blk b9 #[.int .i64 g0, .slice g1A g1.length g1C] 28, .blk b3 #[.int .i64 f0, .slice f1A f1.length f1C] 28, .rd 1 g1A g1.length g1C g1, .rd 1 f1A f1.length f1C f1]) (r := (Int.toNat ((g1.length : Int) - 0) + 1)) ?_ ?_
    · exact ⟨f1, 0, b32, c33, rfl, Nat.lt_succ_self _, (by first | omega | (simp only [List.length_append, List.length_cons, List.length_nil, sI_len, cond_true, cond_false]; omega) | (simp only [List.length_append, List.length_cons, List.length_nil, sI_len, cond_eq_ite, apply_ite List.length]; split <;> simp only [List.length_append, List.length_cons, List.length_nil, sI_len] <;> omega) | grind), (by first | omega | (simp only [List.length_append, List.length_cons, List.length_nil, sI_len, cond_true, cond_false]; omega) | (simp only [List.length_append, List.length_cons, List.length_nil, sI_len, cond_eq_ite, apply_ite List.length]; split <;> simp only [List.length_append, List.length_cons, List.length_nil, sI_len] <;> omega) | grind), (by first | omega | (simp only [List.length_append, List.length_cons, List.length_nil, sI_len, cond_true, cond_false]; omega) | (simp only [List.length_append, List.length_cons, List.length_nil, sI_len, cond_eq_ite, apply_ite List.length]; split <;> simp only [List.length_append, List.length_cons, List.length_nil, sI_len] <;> omega) | grind), (hE40.sub (L' := [(2, .pointer (some ⟨b3, 0, none⟩)), (3, .pointer (some ⟨b9, 0, none⟩)), (4, .pointer (some ⟨b15, 0, none⟩)), (5, .slice b32 ((f1).length) c33), (6, .int .i64 0)]) ⟨rfl, rfl, rfl, rfl, rfl, trivial⟩), (St.pick (Γ' := [.own 2 1 b32 ((f1).length) c33 f1, .blk b15 #[.int .i64 0, .slice none 0 0] 28, .blk b9 #[.int .i64 g0, .slice g1A g1.length g1C] 28, .blk b3 #[.int .i64 f0, .slice f1A f1.length f1C] 28, .rd 1 g1A g1.length g1C g1, .rd 1 f1A f1.length f1C f1]) hS30 [0, 1, 2, 3, 4, 5] (by decide) rfl)⟩
    ·
      clear hE40 hS30
      rintro r51 a42 w43 ⟨arrows5, w6, arrows5A, arrows5C, hT46, hr47, hi48, hi49, hi50, hE44, hS45⟩
      obtain ⟨r51, rfl⟩ : ∃ r', r51 = r' + 1 := ⟨r51 - 1, by omega⟩
      refine c_seq ?_
      refine c_seq ?_
      refine c_reg ?_
      refine q_step (v := .int .i64 w6) hE44 (y_move rfl) rfl rfl rfl ?_; intro a52 hE53; clear hE44
      refine q_step (v := .pointer (some ⟨b9, 1, none⟩)) hE53 (y_field rfl (fun _ => by kernel_rfl)) rfl rfl rfl ?_; intro a54 hE55; clear hE53
      refine q_step (v := .slice g1A g1.length g1C) hE55 (y_load (fun _ => by kernel_rfl) rfl (St.cell (i := 2) hS45 rfl rfl)) rfl rfl rfl ?_; intro a56 hE57; clear hE55
      refine q_step (v := .int .i64 (g1.length : Int)) hE57 (y_len (e := 2) (by kernel_rfl) rfl) rfl rfl rfl ?_; intro a58 hE59; clear hE57
      refine q_step (v := .bool (decide (w6 < (g1.length : Int)))) hE59 (y_lss rfl rfl) rfl rfl rfl ?_; intro a60 hE61; clear hE59
      refine c_nil ?_
      have hE62 := hE61.sub (L' := [(2, .pointer (some ⟨b3, 0, none⟩)), (3, .pointer (some ⟨b9, 0, none⟩)), (4, .pointer (some ⟨b15, 0, none⟩)), (5, .slice arrows5A ((arrows5).length) arrows5C), (6, .int .i64 w6), (14, .bool (decide (w6 < (g1.length : Int))))]) ⟨rfl, rfl, rfl, rfl, rfl, rfl, trivial⟩; clear hE61
      refine p_tn ?_
      refine c_cond hE62 rfl (fun ht63 => ?_) (fun ht63 => ?_)
      ·
        have hp64 := of_decide_eq_true ht63
        have hE65 := hE62; rw [ht63] at hE65; clear hE62
        refine wp_skip ?_
        refine p_tn ?_
        refine c_seq ?_
        refine wp_block ?_
        refine d_start (fun w' => w'.cell? ⟨b9, 1, none⟩ = some (.slice g1A g1.length g1C) ∧ w'.cell? (adr g1A (Int.toNat w6)) = some (.int .i64 (gI g1 w6)) ∧ w'.cell? ⟨b3, 0, none⟩ = some (.int .i64 f0) ∧ True) [2, 5, 7] 13 (by kernel_rfl) rfl ?_
        intro w66 he67; have hS68 := St.go hS45 he67; clear hS45
        refine d_pure (v := .slice arrows5A ((arrows5).length) arrows5C) 0 rfl hE65 (y_move rfl) rfl (by kernel_rfl) (by kernel_rfl) (by kernel_rfl) rfl rfl (fun _ _ _ h => h) ?_; intro a69 hE70; clear hE65
        refine d_pure (v := .pointer (some ⟨b9, 1, none⟩)) 1 rfl hE70 (y_field rfl (fun _ => by kernel_rfl)) rfl (by kernel_rfl) (by kernel_rfl) (by kernel_rfl) rfl rfl (fun _ _ _ h => h) ?_; intro a71 hE72; clear hE70
        refine d_take (v := .slice g1A g1.length g1C) 2 rfl hE72 ⟨(St.cell (i := 2) hS68 rfl rfl _ (Ext.refl _)), (RdS.elt (St.rdR (i := 4) hS68 rfl) (by omega) (by omega) _ (Ext.refl _)), (St.cell (i := 3) hS68 rfl rfl _ (Ext.refl _)), trivial⟩ (y_load (fun _ => by kernel_rfl) rfl (fun _ h => h.1)) rfl rfl (by kernel_rfl) (by kernel_rfl) (by kernel_rfl) rfl rfl (fun _ _ _ h => h) ?_; intro a73 hE74; clear hE72
        refine d_pure (v := .int .i64 w6) 3 rfl hE74 (y_move rfl) rfl (by kernel_rfl) (by kernel_rfl) (by kernel_rfl) rfl rfl (fun _ _ _ h => h) ?_; intro a75 hE76; clear hE74
        refine d_pure (v := .pointer (some (adr g1A (Int.toNat w6)))) 4 rfl hE76 (y_idx (by kernel_rfl) (fun _ => by kernel_rfl) rfl rfl (RdS.isS (m := w6) (St.rdR (i := 4) hS68 rfl) (by omega) (by omega)) (by omega) (by omega) (Nat.mul_one _).symm) rfl (by kernel_rfl) (by kernel_rfl) (by kernel_rfl) rfl rfl (fun _ _ _ h => h) ?_; intro a77 hE78; clear hE76
        refine d_take (v := .int .i64 (gI g1 w6)) 5 rfl hE78 ⟨(St.cell (i := 2) hS68 rfl rfl _ (Ext.refl _)), (RdS.elt (St.rdR (i := 4) hS68 rfl) (by omega) (by omega) _ (Ext.refl _)), (St.cell (i := 3) hS68 rfl rfl _ (Ext.refl _)), trivial⟩ (y_load (fun _ => by kernel_rfl) rfl (fun _ h => h.2.1)) rfl rfl (by kernel_rfl) (by kernel_rfl) (by kernel_rfl) rfl rfl (fun _ _ _ h => h) ?_; intro a79 hE80; clear hE78
        refine d_pure (v := .pointer (some ⟨b3, 0, none⟩)) 6 rfl hE80 (y_field rfl (fun _ => by kernel_rfl)) rfl (by kernel_rfl) (by kernel_rfl) (by kernel_rfl) rfl rfl (fun _ _ _ h => h) ?_; intro a81 hE82; clear hE80
        refine d_take (v := .int .i64 f0) 7 rfl hE82 ⟨(St.cell (i := 2) hS68 rfl rfl _ (Ext.refl _)), (RdS.elt (St.rdR (i := 4) hS68 rfl) (by omega) (by omega) _ (Ext.refl _)), (St.cell (i := 3) hS68 rfl rfl _ (Ext.refl _)), trivial⟩ (y_load (fun _ => by kernel_rfl) rfl (fun _ h => h.2.2.1)) rfl rfl (by kernel_rfl) (by kernel_rfl) (by kernel_rfl) rfl rfl (fun _ _ _ h => h) ?_; intro a83 hE84; clear hE82
        refine d_pure (v := .int .u64 f0) 8 rfl hE84 (y_conv (ds := .int .i64) (by kernel_rfl) (by kernel_rfl) rfl (wU64 (by omega) (by omega))) rfl (by kernel_rfl) (by kernel_rfl) (by kernel_rfl) rfl rfl (fun _ _ _ h => h) ?_; intro a85 hE86; clear hE84
        refine d_pure (v := .int .i64 (shlI (gI g1 w6) f0)) 9 rfl hE86 (y_shl rfl rfl (by omega)) rfl (by kernel_rfl) (by kernel_rfl) (by kernel_rfl) rfl rfl (fun _ _ _ h => h) ?_; intro a87 hE88; clear hE86
        refine d_only 10 (by kernel_rfl) rfl hE88 rfl (l_lit (e := 2) (s := 1) (xs := [shlI (gI g1 w6) f0]) (vs := [.int .i64 (shlI (gI g1 w6) f0)]) hS68 hE88 rfl (fun _ => by kernel_rfl) rfl rfl rfl ?_)
        intro b89 w90 hS93 he94 a91 hE92; clear hS68 hE88
        refine ⟨fun _ _ => ⟨(St.cell (i := 3) hS93 rfl rfl _ (Ext.refl _)), (RdS.elt (St.rdR (i := 5) hS93 rfl) (by omega) (by omega) _ (Ext.refl _)), (St.cell (i := 4) hS93 rfl rfl _ (Ext.refl _)), trivial⟩, ?_⟩
        obtain ⟨_, hi1, hi2, hi3, hi4⟩ := info_parts (show (Try.prog.info? 2).map (fun i => (i.zero, i.size, i.bytes)) = some (some (.int .i64 0), 1, 8) by kernel_rfl)
        refine d_only 11 (by kernel_rfl) rfl hE92 rfl (l_append (k := 1) (n' := (arrows5 ++ ([shlI (gI g1 w6) f0])).length) hS93 hE92 (by kernel_rfl) hi1 hi2 hi3 rfl (by decide) (by rw [hi4]; decide) rfl rfl rfl (St.rdO (i := 0) hS93 rfl) (by first | omega | (simp only [List.length_append, List.length_cons, List.length_nil]; omega)) (by have h1 := (St.rdO (i := 1) hS93 rfl).len1; have h2 := (St.rdO (i := 0) hS93 rfl).len1; rw [List.length_append, h1, h2]) rfl ?_)
        intro b95 c101 w96 hS99 a97 hE98; clear hS93 hE92 hi1 hi2 hi3 hi4
        refine ⟨fun _ _ => ⟨(St.cell (i := 3) hS99 rfl rfl _ (Ext.refl _)), (RdS.elt (St.rdR (i := 5) hS99 rfl) (by omega) (by omega) _ (Ext.refl _)), (St.cell (i := 4) hS99 rfl rfl _ (Ext.refl _)), trivial⟩, ?_⟩
        refine d_pure (v := .slice b95 ((arrows5 ++ ([shlI (gI g1 w6) f0])).length) c101) 12 rfl hE98 (y_assign rfl) rfl (by kernel_rfl) (by kernel_rfl) (by kernel_rfl) rfl rfl (fun _ _ _ h => h) ?_; intro a102 hE103; clear hE98
        refine d_done (by kernel_rfl) ?_
        have hE104 := hE103.sub (L' := [(2, .pointer (some ⟨b3, 0, none⟩)), (3, .pointer (some ⟨b9, 0, none⟩)), (4, .pointer (some ⟨b15, 0, none⟩)), (5, .slice b95 ((arrows5 ++ ([shlI (gI g1 w6) f0])).length) c101), (6, .int .i64 w6)]) ⟨rfl, rfl, rfl, rfl, rfl, trivial⟩; clear hE103
        refine p_bn ?_
        refine p_tn ?_
        refine c_reg ?_
        refine q_step (v := .int .i64 w6) hE104 (y_move rfl) rfl rfl rfl ?_; intro a105 hE106; clear hE104
        refine q_step (v := .int .i64 (w6 + 1)) hE106 (y_add rfl rfl ⟨(by omega), (by omega)⟩) rfl rfl rfl ?_; intro a107 hE108; clear hE106
        refine q_step (v := .int .i64 (w6 + 1)) hE108 (y_assign rfl) rfl rfl rfl ?_; intro a109 hE110; clear hE108
        refine c_nil ?_
        have hE111 := hE110.sub (L' := [(2, .pointer (some ⟨b3, 0, none⟩)), (3, .pointer (some ⟨b9, 0, none⟩)), (4, .pointer (some ⟨b15, 0, none⟩)), (5, .slice b95 ((arrows5 ++ ([shlI (gI g1 w6) f0])).length) c101), (6, .int .i64 (w6 + 1))]) ⟨rfl, rfl, rfl, rfl, rfl, trivial⟩; clear hE110
        refine p_tn ⟨r51, Nat.lt_succ_self _, arrows5 ++ ([shlI (gI g1 w6) f0]), w6 + 1, b95, c101, (hT46.symm.trans (show F_l05Sum_L1b f0 g1 (F_l05Sum_L1 f0 g1 r51) arrows5 w6 = F_l05Sum_L1 f0 g1 r51 (arrows5 ++ ([shlI (gI g1 w6) f0])) (w6 + 1) by unfold F_l05Sum_L1b; rw [ht63]; first | done | rfl)).symm, (by omega), (by first | omega | (simp only [List.length_append, List.length_cons, List.length_nil, sI_len, cond_true, cond_false]; omega) | (simp only [List.length_append, List.length_cons, List.length_nil, sI_len, cond_eq_ite, apply_ite List.length]; split <;> simp only [List.length_append, List.length_cons, List.length_nil, sI_len] <;> omega) | grind), (by first | omega | (simp only [List.length_append, List.length_cons, List.length_nil, sI_len, cond_true, cond_false]; omega) | (simp only [List.length_append, List.length_cons, List.length_nil, sI_len, cond_eq_ite, apply_ite List.length]; split <;> simp only [List.length_append, List.length_cons, List.length_nil, sI_len] <;> omega) | grind), (by first | omega | (simp only [List.length_append, List.length_cons, List.length_nil, sI_len, cond_true, cond_false]; omega) | (simp only [List.length_append, List.length_cons, List.length_nil, sI_len, cond_eq_ite, apply_ite List.length]; split <;> simp only [List.length_append, List.length_cons, List.length_nil, sI_len] <;> omega) | grind), (hE111.sub (L' := [(2, .pointer (some ⟨b3, 0, none⟩)), (3, .pointer (some ⟨b9, 0, none⟩)), (4, .pointer (some ⟨b15, 0, none⟩)), (5, .slice b95 ((arrows5 ++ ([shlI (gI g1 w6) f0])).length) c101), (6, .int .i64 (w6 + 1))]) ⟨rfl, rfl, rfl, rfl, rfl, trivial⟩), (St.pick (Γ' := [.own 2 1 b95 ((arrows5 ++ ([shlI (gI g1 w6) f0])).length) c101 (arrows5 ++ ([shlI (gI g1 w6) f0])), .blk b15 #[.int .i64 0, .slice none 0 0] 28, .blk b9 #[.int .i64 g0, .slice g1A g1.length g1C] 28, .blk b3 #[.int .i64 f0, .slice f1A f1.length f1C] 28, .rd 1 g1A g1.length g1C g1, .rd 1 f1A f1.length f1C f1]) hS99 [1, 2, 3, 4, 5, 6] (by decide) rfl)⟩
      ·
        have hp112 := of_decide_eq_false ht63
        have hE113 := hE62; rw [ht63] at hE113; clear hE62
        refine wp_exit ?_
        refine p_te ?_
        have hX114 : F_l05Sum_L1 f0 g1 (Int.toNat ((g1.length : Int) - 0) + 1) f1 0 = (arrows5, w6) := hT46.symm.trans (show F_l05Sum_L1b f0 g1 (F_l05Sum_L1 f0 g1 r51) arrows5 w6 = (arrows5, w6) by unfold F_l05Sum_L1b; rw [ht63]; first | done | rfl)
        refine p_te (p_be (p_tn ?_))
        exact ⟨arrows5A, arrows5C, (by rw [hX114]; exact (show 0 ≤ w6 from (by first | omega | (simp only [List.length_append, List.length_cons, List.length_nil, sI_len, cond_true, cond_false]; omega) | (simp only [List.length_append, List.length_cons, List.length_nil, sI_len, cond_eq_ite, apply_ite List.length]; split <;> simp only [List.length_append, List.length_cons, List.length_nil, sI_len] <;> omega) | grind))), (by rw [hX114]; exact (show (arrows5.length : Int) = (f1.length : Int) + w6 from (by first | omega | (simp only [List.length_append, List.length_cons, List.length_nil, sI_len, cond_true, cond_false]; omega) | (simp only [List.length_append, List.length_cons, List.length_nil, sI_len, cond_eq_ite, apply_ite List.length]; split <;> simp only [List.length_append, List.length_cons, List.length_nil, sI_len] <;> omega) | grind))), (by rw [hX114]; exact (show w6 ≤ (g1.length : Int) from (by first | omega | (simp only [List.length_append, List.length_cons, List.length_nil, sI_len, cond_true, cond_false]; omega) | (simp only [List.length_append, List.length_cons, List.length_nil, sI_len, cond_eq_ite, apply_ite List.length]; split <;> simp only [List.length_append, List.length_cons, List.length_nil, sI_len] <;> omega) | grind))), (by rw [hX114]; exact (hE113.sub (L' := [(2, .pointer (some ⟨b3, 0, none⟩)), (3, .pointer (some ⟨b9, 0, none⟩)), (4, .pointer (some ⟨b15, 0, none⟩)), (5, .slice arrows5A ((arrows5).length) arrows5C), (6, .int .i64 w6)]) ⟨rfl, rfl, rfl, rfl, rfl, trivial⟩)), (by rw [hX114]; exact (St.pick (Γ' := [.own 2 1 arrows5A ((arrows5).length) arrows5C arrows5, .blk b15 #[.int .i64 0, .slice none 0 0] 28, .blk b9 #[.int .i64 g0, .slice g1A g1.length g1C] 28, .blk b3 #[.int .i64 f0, .slice f1A f1.length f1C] 28, .rd 1 g1A g1.length g1C g1, .rd 1 f1A f1.length f1C f1]) hS45 [0, 1, 2, 3, 4, 5] (by decide) rfl))⟩
  ·
    rintro a115 w116 ⟨arrows5A_41, arrows5C_41, hi120, hi121, hi122, hE117, hS118⟩; clear hE40 hS30
    refine p_tn ?_
    refine c_seq ?_
    refine c_reg ?_
    refine q_step (v := .slice arrows5A_41 (((F_l05Sum_L1 f0 g1 (Int.toNat ((g1.length : Int) - 0) + 1) f1 0).1).length) arrows5C_41) hE117 (y_move rfl) rfl rfl rfl ?_; intro a123 hE124; clear hE117
    refine l_step hE124 rfl (l_call (f := 94) (argv := [.slice arrows5A_41 (((F_l05Sum_L1 f0 g1 (Int.toNat ((g1.length : Int) - 0) + 1) f1 0).1).length) arrows5C_41]) hE124 (fun _ => cf_l05Make _ _) rfl rfl (d_l05Make arrows5A_41 (((F_l05Sum_L1 f0 g1 (Int.toNat ((g1.length : Int) - 0) + 1) f1 0).1).length) arrows5C_41 ((F_l05Sum_L1 f0 g1 (Int.toNat ((g1.length : Int) - 0) + 1) f1 0).1) w116 (St.rdO (i := 0) hS118 rfl) (by omega)) ?_)
    rintro _ w126 ⟨b131, c132, rfl, ho133, he130⟩ a127 hE128; clear hE124
    have hS129 := St.own hS118 he130 ho133; clear hS118
    refine l_step hE128 rfl (l_storeS (k := 2) (cs' := #[.int .i64 (((F_l05Sum_L1 f0 g1 (Int.toNat ((g1.length : Int) - 0) + 1) f1 0).1).length : Int), .slice b131 ((((F_l05Sum_L1 f0 g1 (Int.toNat ((g1.length : Int) - 0) + 1) f1 0).1)).length) c132]) hS129 hE128 (by kernel_rfl) rfl rfl (by kernel_rfl) rfl rfl ?_)
    intro w135 hS138 a136 hE137; clear hS129 hE128
    refine c_nil ?_
    have hE140 := hE137.sub (L' := [(4, .pointer (some ⟨b15, 0, none⟩))]) ⟨rfl, trivial⟩; clear hE137
    refine p_tn ?_
    refine wp_ret ?_
    have hF : F_l05Sum f0 f1 g0 g1 = ((((F_l05Sum_L1 f0 g1 (Int.toNat ((g1.length : Int) - 0) + 1) f1 0).1).length : Int), ((F_l05Sum_L1 f0 g1 (Int.toNat ((g1.length : Int) - 0) + 1) f1 0).1)) := by unfold F_l05Sum; rfl
    refine c_retC hE140 rfl rfl Try.underlying28 rfl (by kernel_rfl) (St.row (i := 2) hS138 rfl _ (Ext.refl _)) ?_
    exact ⟨b131, c132, (by rw [hF]; first | done | rfl), (by rw [hF]; exact hS138.ok 0 _ rfl), hS138.ext⟩

def F_SumFrames_L1b (f0 : Int) (g1 : List Int) (rec : (List Int) → Int → (List Int) × Int) (out6 : List Int) (t33 : Int) : (List Int) × Int :=
  bif (decide (t33 < (g1.length : Int))) then (rec (out6 ++ ([shlI (gI g1 t33) f0])) (t33 + 1)) else (out6, t33)
def F_SumFrames_L1 (f0 : Int) (g1 : List Int) : Nat → (List Int) → Int → (List Int) × Int
  | 0, out6, t33 => (out6, t33)
  | r + 1, out6, t33 => F_SumFrames_L1b f0 g1 (F_SumFrames_L1 f0 g1 r) out6 t33
def F_SumFrames (f0 : Int) (f1 : List Int) (g0 : Int) (g1 : List Int) : (Int × List Int) × (Int) :=
  bif ((!(F_isFrame f0 f1)) || (!(F_isFrame g0 g1))) then ((0, []), 1) else (bif (decide (8 < (f0 + g0))) then ((0, []), 3) else (((F_frameOf ((F_SumFrames_L1 f0 g1 (Int.toNat ((g1.length : Int) - 0) + 1) f1 0).1)).1, (F_SumFrames_L1 f0 g1 (Int.toNat ((g1.length : Int) - 0) + 1) f1 0).1), 0))
theorem cf_SumFrames (args : Array Value) (w : World) : (callFunc 66 args).run Try.prog w = .ok (.enter 66 args) w := by kernel_rfl
set_option maxRecDepth 100000 in
theorem c_SumFrames (f0 : Int) (f1A : Option Addr) (f1N f1C : Nat) (f1 : List Int) (g0 : Int) (g1A : Option Addr) (g1N g1C : Nat) (g1 : List Int) (w : World) (f1R : RdS w 1 f1A f1N f1C f1) (g1R : RdS w 1 g1A g1N g1C g1) :
    Calls Try.prog 66 #[.agg #[.int .i64 f0, .slice f1A f1N f1C], .agg #[.int .i64 g0, .slice g1A g1N g1C]] w (Ret fun v w' => ∃ b1 : Option Addr, ∃ c1 : Nat, v = .tuple #[.agg #[.int .i64 (((F_SumFrames f0 f1 g0 g1).1).1), .slice b1 (((F_SumFrames f0 f1 g0 g1).1).2).length c1], .int .i64 ((F_SumFrames f0 f1 g0 g1).2)] ∧ OwnS w' w.heap.size 2 1 b1 (((F_SumFrames f0 f1 g0 g1).1).2).length c1 (((F_SumFrames f0 f1 g0 g1).1).2) ∧ Ext w w') := by
  obtain rfl : f1N = f1.length := f1R.len1.symm
  have f1Le := f1R.le
  obtain rfl : g1N = g1.length := g1R.len1.symm
  have g1Le := g1R.le
  have hS := St.nil w
  have hS1 := St.rd0 hS rfl f1R; clear hS
  have hS2 := St.rd0 hS1 rfl g1R; clear hS1
  refine enter (args := [.agg #[.int .i64 f0, .slice f1A f1.length f1C], .agg #[.int .i64 g0, .slice g1A g1.length g1C]]) Try.func66 rfl rfl ?_
  rw [Try.ntmps66]; intro a hE
  have hE := hE.sub (L' := [(0, .agg #[.int .i64 f0, .slice f1A f1.length f1C]), (1, .agg #[.int .i64 g0, .slice g1A g1.length g1C])]) ⟨rfl, rfl, trivial⟩
  refine c_seq ?_
  refine c_reg ?_
  refine l_step hE rfl (l_box (v := .agg #[.int .i64 f0, .slice f1A f1.length f1C]) (cs := #[.int .i64 f0, .slice f1A f1.length f1C]) hS2 hE rfl rfl rfl ?_)
  intro b3 w4 hS7 he8 a5 hE6; clear hS2 hE
  refine l_step hE6 rfl (l_box (v := .agg #[.int .i64 g0, .slice g1A g1.length g1C]) (cs := #[.int .i64 g0, .slice g1A g1.length g1C]) hS7 hE6 rfl rfl rfl ?_)
  intro b9 w10 hS13 he14 a11 hE12; clear hS7 hE6
  refine l_step hE12 rfl (l_alloc (z := .agg #[.int .i64 0, .slice none 0 0]) (cs := #[.int .i64 0, .slice none 0 0]) hS13 hE12 (fun _ => by kernel_rfl) rfl rfl ?_)
  intro b15 w16 hS19 he20 a17 hE18; clear hS13 hE12
  refine q_step (v := .int .i64 0) hE18 (y_assign rfl) rfl rfl rfl ?_; intro a21 hE22; clear hE18
  refine c_nil ?_
  have hE23 := hE22.sub (L' := [(2, .pointer (some ⟨b3, 0, none⟩)), (3, .pointer (some ⟨b9, 0, none⟩)), (4, .pointer (some ⟨b15, 0, none⟩))]) ⟨rfl, rfl, rfl, trivial⟩; clear hE22
  refine p_tn ?_
  refine c_seq ?_
  refine wp_block ?_
  refine c_cut (fun a' w' => E a' 47 [(2, .pointer (some ⟨b3, 0, none⟩)), (3, .pointer (some ⟨b9, 0, none⟩)), (4, .pointer (some ⟨b15, 0, none⟩)), (9, .bool ((!(F_isFrame f0 f1)) || (!(F_isFrame g0 g1))))] ∧ St w w' [.blk b15 #[.int .i64 0, .slice none 0 0] 28, .rd 1 g1A g1.length g1C g1, .blk b9 #[.int .i64 g0, .slice g1A g1.length g1C] 28, .rd 1 f1A f1.length f1C f1, .blk b3 #[.int .i64 f0, .slice f1A f1.length f1C] 28]) ?_ ?_
  ·
    refine c_reg ?_
    refine q_step (v := .agg #[.int .i64 f0, .slice f1A f1.length f1C]) hE23 (y_loadS Try.underlying28 rfl (by kernel_rfl) rfl (St.row (i := 2) hS19 rfl)) rfl rfl rfl ?_; intro a24 hE25; clear hE23
    refine l_step hE25 rfl (l_call (f := 61) (argv := [.agg #[.int .i64 f0, .slice f1A f1.length f1C]]) hE25 (fun _ => cf_isFrame _ _) rfl rfl (c_isFrame f0 f1A f1.length f1C f1 w16 (St.rdR (i := 4) hS19 rfl)) ?_)
    rintro _ w27 ⟨rfl, he31⟩ a28 hE29; clear hE25
    have hS30 := St.go hS19 he31; clear hS19
    refine q_step (v := .bool (!(F_isFrame f0 f1))) hE29 (y_not rfl) rfl rfl rfl ?_; intro a32 hE33; clear hE29
    refine q_step (v := .bool (!(F_isFrame f0 f1))) hE33 (y_move rfl) rfl rfl rfl ?_; intro a34 hE35; clear hE33
    rcases Bool.eq_false_or_eq_true (!(F_isFrame f0 f1)) with hb36 | hb36
    ·
      have hE37 := hE35; rw [hb36] at hE37; clear hE35
      have ht38 := bn_t hb36
      refine q_skip hE37 rfl rfl rfl ?_; intro a39 hE40; clear hE37
      refine q_skip hE40 rfl rfl rfl ?_; intro a41 hE42; clear hE40
      refine q_skip hE42 rfl rfl rfl ?_; intro a43 hE44; clear hE42
      refine q_step (v := .bool true) hE44 (y_pick (b := true) rfl rfl) rfl rfl rfl ?_; intro a45 hE46; clear hE44
      refine q_step (v := .bool true) hE46 (y_assign rfl) rfl rfl rfl ?_; intro a47 hE48; clear hE46
      refine c_nil ?_
      have hE49 := hE48.sub (L' := [(2, .pointer (some ⟨b3, 0, none⟩)), (3, .pointer (some ⟨b9, 0, none⟩)), (4, .pointer (some ⟨b15, 0, none⟩)), (9, .bool true)]) ⟨rfl, rfl, rfl, rfl, trivial⟩; clear hE48
      refine p_tn ?_
      have hE50 := hE49.sub (L' := [(2, .pointer (some ⟨b3, 0, none⟩)), (3, .pointer (some ⟨b9, 0, none⟩)), (4, .pointer (some ⟨b15, 0, none⟩)), (9, .bool true)]) ⟨rfl, rfl, rfl, rfl, trivial⟩
      have hS51 := (St.pick (Γ' := [.blk b15 #[.int .i64 0, .slice none 0 0] 28, .rd 1 g1A g1.length g1C g1, .blk b9 #[.int .i64 g0, .slice g1A g1.length g1C] 28, .rd 1 f1A f1.length f1C f1, .blk b3 #[.int .i64 f0, .slice f1A f1.length f1C] 28]) hS30 [0, 3, 1, 4, 2] (by decide) rfl)
      exact ⟨(by rw [hb36]; exact hE50), hS51⟩
    ·
      have hE52 := hE35; rw [hb36] at hE52; clear hE35
      have ht53 := bn_f hb36
      have hp54 := isFrame_t ht53
      refine q_step (v := .agg #[.int .i64 g0, .slice g1A g1.length g1C]) hE52 (y_loadS Try.underlying28 rfl (by kernel_rfl) rfl (St.row (i := 1) hS30 rfl)) rfl rfl rfl ?_; intro a55 hE56; clear hE52
      refine l_step hE56 rfl (l_call (f := 61) (argv := [.agg #[.int .i64 g0, .slice g1A g1.length g1C]]) hE56 (fun _ => cf_isFrame _ _) rfl rfl (c_isFrame g0 g1A g1.length g1C g1 w27 (St.rdR (i := 3) hS30 rfl)) ?_)
      rintro _ w58 ⟨rfl, he62⟩ a59 hE60; clear hE56
      have hS61 := St.go hS30 he62; clear hS30
      refine q_step (v := .bool (!(F_isFrame g0 g1))) hE60 (y_not rfl) rfl rfl rfl ?_; intro a63 hE64; clear hE60
      refine q_step (v := .bool (!(F_isFrame g0 g1))) hE64 (y_pick (b := false) rfl rfl) rfl rfl rfl ?_; intro a65 hE66; clear hE64
      refine q_step (v := .bool (!(F_isFrame g0 g1))) hE66 (y_assign rfl) rfl rfl rfl ?_; intro a67 hE68; clear hE66
      refine c_nil ?_
      have hE69 := hE68.sub (L' := [(2, .pointer (some ⟨b3, 0, none⟩)), (3, .pointer (some ⟨b9, 0, none⟩)), (4, .pointer (some ⟨b15, 0, none⟩)), (9, .bool (!(F_isFrame g0 g1)))]) ⟨rfl, rfl, rfl, rfl, trivial⟩; clear hE68
      refine p_tn ?_
      have hE70 := hE69.sub (L' := [(2, .pointer (some ⟨b3, 0, none⟩)), (3, .pointer (some ⟨b9, 0, none⟩)), (4, .pointer (some ⟨b15, 0, none⟩)), (9, .bool (!(F_isFrame g0 g1)))]) ⟨rfl, rfl, rfl, rfl, trivial⟩
      have hS71 := (St.pick (Γ' := [.blk b15 #[.int .i64 0, .slice none 0 0] 28, .rd 1 g1A g1.length g1C g1, .blk b9 #[.int .i64 g0, .slice g1A g1.length g1C] 28, .rd 1 f1A f1.length f1C f1, .blk b3 #[.int .i64 f0, .slice f1A f1.length f1C] 28]) hS61 [0, 3, 1, 4, 2] (by decide) rfl)
      exact ⟨(by rw [hb36]; exact hE70), hS71⟩
  ·
    rintro a72 w73 ⟨hE74, hS75⟩; clear hE23 hS19
    refine c_cond hE74 rfl (fun ht76 => ?_) (fun ht76 => ?_)
    ·
      have hE77 := hE74; rw [ht76] at hE77; clear hE74
      refine c_seq ?_
      refine c_reg ?_
      refine q_step (v := .agg #[.int .i64 0, .slice none 0 0]) hE77 (y_build (vs := #[]) (fun a n hE => by simp) (fun _ => by kernel_rfl)) rfl rfl rfl ?_; intro a78 hE79; clear hE77
      refine l_step hE79 rfl (l_storeS (k := 0) (cs' := #[.int .i64 0, .slice none 0 0]) hS75 hE79 (by kernel_rfl) rfl rfl (by kernel_rfl) rfl rfl ?_)
      intro w81 hS84 a82 hE83; clear hS75 hE79
      refine q_step (v := .int .i64 1) hE83 (y_assign rfl) rfl rfl rfl ?_; intro a86 hE87; clear hE83
      refine c_nil ?_
      have hE88 := hE87.sub (L' := [(4, .pointer (some ⟨b15, 0, none⟩)), (5, .int .i64 1)]) ⟨rfl, rfl, trivial⟩; clear hE87
      refine p_tn ?_
      refine wp_ret ?_
      refine p_br ?_
      refine p_tr ?_
      have hF : F_SumFrames f0 f1 g0 g1 = ((0, []), 1) := by unfold F_SumFrames; rw [ht76]; first | done | rfl
      refine c_retC2 hE88 rfl rfl rfl Try.underlying28 rfl (by kernel_rfl) (St.row (i := 0) hS84 rfl _ (Ext.refl _)) ?_
      exact ⟨none, 0, (by rw [hF]; first | done | rfl), (by rw [hF]; exact OwnS.nilS _ _ _ _), hS84.ext⟩
    ·
      obtain ⟨ht89, ht90⟩ := bor_f ht76
      have ht91 := bn_f ht89
      have hp92 := isFrame_t ht91
      have ht93 := bn_f ht90
      have hp94 := isFrame_t ht93
      have hE95 := hE74; rw [ht76] at hE95; clear hE74
      refine c_seq ?_
      refine c_reg ?_
      refine q_step (v := .pointer (some ⟨b3, 0, none⟩)) hE95 (y_field rfl (fun _ => by kernel_rfl)) rfl rfl rfl ?_; intro a96 hE97; clear hE95
      refine q_step (v := .int .i64 f0) hE97 (y_load (fun _ => by kernel_rfl) rfl (St.cell (i := 4) hS75 rfl rfl)) rfl rfl rfl ?_; intro a98 hE99; clear hE97
      refine q_step (v := .pointer (some ⟨b9, 0, none⟩)) hE99 (y_field rfl (fun _ => by kernel_rfl)) rfl rfl rfl ?_; intro a100 hE101; clear hE99
      refine q_step (v := .int .i64 g0) hE101 (y_load (fun _ => by kernel_rfl) rfl (St.cell (i := 2) hS75 rfl rfl)) rfl rfl rfl ?_; intro a102 hE103; clear hE101
      refine q_step (v := .int .i64 (f0 + g0)) hE103 (y_add rfl rfl ⟨(by omega), (by omega)⟩) rfl rfl rfl ?_; intro a104 hE105; clear hE103
      refine q_step (v := .bool (decide (8 < (f0 + g0)))) hE105 (y_gtr rfl rfl) rfl rfl rfl ?_; intro a106 hE107; clear hE105
      refine q_step (v := .bool (decide (8 < (f0 + g0)))) hE107 (y_assign rfl) rfl rfl rfl ?_; intro a108 hE109; clear hE107
      refine c_nil ?_
      have hE110 := hE109.sub (L' := [(2, .pointer (some ⟨b3, 0, none⟩)), (3, .pointer (some ⟨b9, 0, none⟩)), (4, .pointer (some ⟨b15, 0, none⟩)), (19, .bool (decide (8 < (f0 + g0))))]) ⟨rfl, rfl, rfl, rfl, trivial⟩; clear hE109
      refine p_tn ?_
      refine c_cond hE110 rfl (fun ht111 => ?_) (fun ht111 => ?_)
      ·
        have hp112 := of_decide_eq_true ht111
        have hE113 := hE110; rw [ht111] at hE113; clear hE110
        refine c_seq ?_
        refine c_reg ?_
        refine q_step (v := .agg #[.int .i64 0, .slice none 0 0]) hE113 (y_build (vs := #[]) (fun a n hE => by simp) (fun _ => by kernel_rfl)) rfl rfl rfl ?_; intro a114 hE115; clear hE113
        refine l_step hE115 rfl (l_storeS (k := 0) (cs' := #[.int .i64 0, .slice none 0 0]) hS75 hE115 (by kernel_rfl) rfl rfl (by kernel_rfl) rfl rfl ?_)
        intro w117 hS120 a118 hE119; clear hS75 hE115
        refine q_step (v := .int .i64 3) hE119 (y_assign rfl) rfl rfl rfl ?_; intro a122 hE123; clear hE119
        refine c_nil ?_
        have hE124 := hE123.sub (L' := [(4, .pointer (some ⟨b15, 0, none⟩)), (5, .int .i64 3)]) ⟨rfl, rfl, trivial⟩; clear hE123
        refine p_tn ?_
        refine wp_ret ?_
        refine p_br ?_
        refine p_tr ?_
        have hF : F_SumFrames f0 f1 g0 g1 = ((0, []), 3) := by unfold F_SumFrames; rw [ht111, ht76]; first | done | rfl
        refine c_retC2 hE124 rfl rfl rfl Try.underlying28 rfl (by kernel_rfl) (St.row (i := 0) hS120 rfl _ (Ext.refl _)) ?_
        exact ⟨none, 0, (by rw [hF]; first | done | rfl), (by rw [hF]; exact OwnS.nilS _ _ _ _), hS120.ext⟩
      ·
        have hp125 := of_decide_eq_false ht111
        have hE126 := hE110; rw [ht111] at hE126; clear hE110
        refine wp_skip ?_
        refine p_bn ?_
        refine p_tn ?_
        refine c_seq ?_
        refine c_reg ?_
        refine q_step (v := .pointer (some ⟨b3, 1, none⟩)) hE126 (y_field rfl (fun _ => by kernel_rfl)) rfl rfl rfl ?_; intro a127 hE128; clear hE126
        refine q_step (v := .slice f1A f1.length f1C) hE128 (y_load (fun _ => by kernel_rfl) rfl (St.cell (i := 4) hS75 rfl rfl)) rfl rfl rfl ?_; intro a129 hE130; clear hE128
        refine l_step hE130 rfl (l_call (f := 129) (argv := [.slice f1A f1.length f1C]) hE130 (fun _ => cf_z_CloneS _ _) rfl rfl (c_z_Clone f1A f1.length f1C f1 w73 (St.rdR (i := 3) hS75 rfl) (by omega)) ?_)
        rintro _ w132 ⟨b137, c138, rfl, ho139, he136⟩ a133 hE134; clear hE130
        have hS135 := St.own hS75 he136 ho139; clear hS75
        refine q_step (v := .slice b137 ((f1).length) c138) hE134 (y_assign rfl) rfl rfl rfl ?_; intro a140 hE141; clear hE134
        refine c_nil ?_
        have hE142 := hE141.sub (L' := [(2, .pointer (some ⟨b3, 0, none⟩)), (3, .pointer (some ⟨b9, 0, none⟩)), (4, .pointer (some ⟨b15, 0, none⟩)), (6, .slice b137 ((f1).length) c138)]) ⟨rfl, rfl, rfl, rfl, trivial⟩; clear hE141
        refine p_tn ?_
        refine c_seq ?_
        refine c_seq ?_
        refine c_reg ?_
        refine q_step (v := .pointer (some ⟨b9, 1, none⟩)) hE142 (y_field rfl (fun _ => by kernel_rfl)) rfl rfl rfl ?_; intro a143 hE144; clear hE142
        refine q_step (v := .slice g1A g1.length g1C) hE144 (y_load (fun _ => by kernel_rfl) rfl (St.cell (i := 3) hS135 rfl rfl)) rfl rfl rfl ?_; intro a145 hE146; clear hE144
        refine q_step (v := .int .i64 (g1.length : Int)) hE146 (y_len (e := 2) (by kernel_rfl) rfl) rfl rfl rfl ?_; intro a147 hE148; clear hE146
        refine q_step (v := .int .i64 0) hE148 (y_move rfl) rfl rfl rfl ?_; intro a149 hE150; clear hE148
        refine c_nil ?_
        have hE151 := hE150.sub (L' := [(2, .pointer (some ⟨b3, 0, none⟩)), (4, .pointer (some ⟨b15, 0, none⟩)), (6, .slice b137 ((f1).length) c138), (31, .slice g1A g1.length g1C), (32, .int .i64 (g1.length : Int)), (33, .int .i64 0)]) ⟨rfl, rfl, rfl, rfl, rfl, rfl, trivial⟩; clear hE150
        refine p_tn ?_
        refine c_cut1 (fun a' w' => ∃ out6A_152 : Option Addr, ∃ out6C_152 : Nat, (0 ≤ ((F_SumFrames_L1 f0 g1 (Int.toNat ((g1.length : Int) - 0) + 1) f1 0).2)) ∧ ((((F_SumFrames_L1 f0 g1 (Int.toNat ((g1.length : Int) - 0) + 1) f1 0).1).length : Int) = (f1.length : Int) + ((F_SumFrames_L1 f0 g1 (Int.toNat ((g1.length : Int) - 0) + 1) f1 0).2)) ∧ (((F_SumFrames_L1 f0 g1 (Int.toNat ((g1.length : Int) - 0) + 1) f1 0).2) ≤ (g1.length : Int)) ∧ E a' 47 [(2, .pointer (some ⟨b3, 0, none⟩)), (4, .pointer (some ⟨b15, 0, none⟩)), (6, .slice out6A_152 (((F_SumFrames_L1 f0 g1 (Int.toNat ((g1.length : Int) - 0) + 1) f1 0).1).length) out6C_152), (31, .slice g1A g1.length g1C), (32, .int .i64 (g1.length : Int)), (33, .int .i64 ((F_SumFrames_L1 f0 g1 (Int.toNat ((g1.length : Int) - 0) + 1) f1 0).2))] ∧ St w w' [.own 2 1 out6A_152 (((F_SumFrames_L1 f0 g1 (Int.toNat ((g1.length : Int) - 0) + 1) f1 0).1).length) out6C_152 ((F_SumFrames_L1 f0 g1 (Int.toNat ((g1.length : Int) - 0) + 1) f1 0).1), .blk b15 #[.int .i64 0, .slice none 0 0] 28, .rd 1 g1A g1.length g1C g1, .blk b9 #[.int .i64 g0, .slice g1A g1.length g1C] 28, .rd 1 f1A f1.length f1C f1, .blk b3 #[.int .i64 f0, .slice f1A f1.length f1C] 28]) ?_ ?_
        ·
          refine wp_block ?_
          refine c_loop (fun r a' w' => ∃ out6 : List Int, ∃ t33 : Int, ∃ out6A : Option Addr, ∃ out6C : Nat, F_SumFrames_L1 f0 g1 r out6 t33 = F_SumFrames_L1 f0 g1 (Int.toNat ((g1.length : Int) - 0) + 1) f1 0 ∧ Int.toNat ((g1.length : Int) - t33) < r ∧ (0 ≤ t33) ∧ ((out6.length : Int) = (f1.length : Int) + t33) ∧ (t33 ≤ (g1.length : Int)) ∧ E a' 47 [(2, .pointer (some ⟨b3, 0, none⟩)), (4, .pointer (some ⟨b15, 0, none⟩)), (6, .slice out6A ((out6).length) out6C), (31, .slice g1A g1.length g1C), (32, .int .i64 (g1.length : Int)), (33, .int .i64 t33)] ∧ St w w' [.own 2 1 out6A ((out6).length) out6C out6, .blk b15 #[.int .i64 0, .slice none 0 0] 28, .rd 1 g1A g1.length g1C g1, .blk b9 #[.int .i64 g0, .slice g1A g1.length g1C] 28, .rd 1 f1A f1.length f1C f1, .blk b3 #[.int .i64 f0, .slice f1A f1.length f1C] 28]) (r := (Int.toNat ((g1.length : Int) - 0) + 1)) ?_ ?_
          · exact ⟨f1, 0, b137, c138, rfl, Nat.lt_succ_self _, (by first | omega | (simp only [List.length_append, List.length_cons, List.length_nil, sI_len, cond_true, cond_false]; omega) | (simp only [List.length_append, List.length_cons, List.length_nil, sI_len, cond_eq_ite, apply_ite List.length]; split <;> simp only [List.length_append, List.length_cons, List.length_nil, sI_len] <;> omega) | grind), (by first | omega | (simp only [List.length_append, List.length_cons, List.length_nil, sI_len, cond_true, cond_false]; omega) | (simp only [List.length_append, List.length_cons, List.length_nil, sI_len, cond_eq_ite, apply_ite List.length]; split <;> simp only [List.length_append, List.length_cons, List.length_nil, sI_len] <;> omega) | grind), (by first | omega | (simp only [List.length_append, List.length_cons, List.length_nil, sI_len, cond_true, cond_false]; omega) | (simp only [List.length_append, List.length_cons, List.length_nil, sI_len, cond_eq_ite, apply_ite List.length]; split <;> simp only [List.length_append, List.length_cons, List.length_nil, sI_len] <;> omega) | grind), (hE151.sub (L' := [(2, .pointer (some ⟨b3, 0, none⟩)), (4, .pointer (some ⟨b15, 0, none⟩)), (6, .slice b137 ((f1).length) c138), (31, .slice g1A g1.length g1C), (32, .int .i64 (g1.length : Int)), (33, .int .i64 0)]) ⟨rfl, rfl, rfl, rfl, rfl, rfl, trivial⟩), (St.pick (Γ' := [.own 2 1 b137 ((f1).length) c138 f1, .blk b15 #[.int .i64 0, .slice none 0 0] 28, .rd 1 g1A g1.length g1C g1, .blk b9 #[.int .i64 g0, .slice g1A g1.length g1C] 28, .rd 1 f1A f1.length f1C f1, .blk b3 #[.int .i64 f0, .slice f1A f1.length f1C] 28]) hS135 [0, 1, 2, 3, 4, 5] (by decide) rfl)⟩
          ·
            clear hE151 hS135
            rintro r162 a153 w154 ⟨out6, t33, out6A, out6C, hT157, hr158, hi159, hi160, hi161, hE155, hS156⟩
            obtain ⟨r162, rfl⟩ : ∃ r', r162 = r' + 1 := ⟨r162 - 1, by omega⟩
            refine c_seq ?_
            refine c_reg ?_
            refine q_step (v := .bool (decide (t33 < (g1.length : Int)))) hE155 (y_lss rfl rfl) rfl rfl rfl ?_; intro a163 hE164; clear hE155
            refine c_nil ?_
            have hE165 := hE164.sub (L' := [(2, .pointer (some ⟨b3, 0, none⟩)), (4, .pointer (some ⟨b15, 0, none⟩)), (6, .slice out6A ((out6).length) out6C), (31, .slice g1A g1.length g1C), (32, .int .i64 (g1.length : Int)), (33, .int .i64 t33), (34, .bool (decide (t33 < (g1.length : Int))))]) ⟨rfl, rfl, rfl, rfl, rfl, rfl, rfl, trivial⟩; clear hE164
            refine p_tn ?_
            refine c_seq ?_
            refine c_cond hE165 rfl (fun ht166 => ?_) (fun ht166 => ?_)
            ·
              have hp167 := of_decide_eq_true ht166
              have hE168 := hE165; rw [ht166] at hE168; clear hE165
              refine wp_skip ?_
              refine p_tn ?_
              refine c_seq ?_
              refine wp_block ?_
              refine c_seq ?_
              refine c_reg ?_
              refine q_step (v := .pointer (some (adr g1A (Int.toNat t33)))) hE168 (y_idx (by kernel_rfl) (fun _ => by kernel_rfl) rfl rfl (RdS.isS (m := t33) (St.rdR (i := 2) hS156 rfl) (by omega) (by omega)) (by omega) (by omega) (Nat.mul_one _).symm) rfl rfl rfl ?_; intro a169 hE170; clear hE168
              refine q_step (v := .int .i64 (gI g1 t33)) hE170 (y_load (fun _ => by kernel_rfl) rfl (RdS.elt (St.rdR (i := 2) hS156 rfl) (by omega) (by omega))) rfl rfl rfl ?_; intro a171 hE172; clear hE170
              refine q_step (v := .int .i64 (gI g1 t33)) hE172 (y_assign rfl) rfl rfl rfl ?_; intro a173 hE174; clear hE172
              refine c_nil ?_
              have hE175 := hE174.sub (L' := [(2, .pointer (some ⟨b3, 0, none⟩)), (4, .pointer (some ⟨b15, 0, none⟩)), (6, .slice out6A ((out6).length) out6C), (8, .int .i64 (gI g1 t33)), (31, .slice g1A g1.length g1C), (32, .int .i64 (g1.length : Int)), (33, .int .i64 t33)]) ⟨rfl, rfl, rfl, rfl, rfl, rfl, rfl, trivial⟩; clear hE174
              refine p_tn ?_
              refine c_reg ?_
              refine q_step (v := .slice out6A ((out6).length) out6C) hE175 (y_move rfl) rfl rfl rfl ?_; intro a176 hE177; clear hE175
              refine q_step (v := .int .i64 (gI g1 t33)) hE177 (y_move rfl) rfl rfl rfl ?_; intro a178 hE179; clear hE177
              refine q_step (v := .pointer (some ⟨b3, 0, none⟩)) hE179 (y_field rfl (fun _ => by kernel_rfl)) rfl rfl rfl ?_; intro a180 hE181; clear hE179
              refine q_step (v := .int .i64 f0) hE181 (y_load (fun _ => by kernel_rfl) rfl (St.cell (i := 5) hS156 rfl rfl)) rfl rfl rfl ?_; intro a182 hE183; clear hE181
              refine q_step (v := .int .i64 (shlI (gI g1 t33) f0)) hE183 (y_shl rfl rfl (by omega)) rfl rfl rfl ?_; intro a184 hE185; clear hE183
              refine l_step hE185 rfl (l_lit (e := 2) (s := 1) (xs := [shlI (gI g1 t33) f0]) (vs := [.int .i64 (shlI (gI g1 t33) f0)]) hS156 hE185 rfl (fun _ => by kernel_rfl) rfl rfl rfl ?_)
              intro b186 w187 hS190 he191 a188 hE189; clear hS156 hE185
              obtain ⟨_, hi1, hi2, hi3, hi4⟩ := info_parts (show (Try.prog.info? 2).map (fun i => (i.zero, i.size, i.bytes)) = some (some (.int .i64 0), 1, 8) by kernel_rfl)
              refine l_step hE189 rfl (l_append (k := 1) (n' := (out6 ++ ([shlI (gI g1 t33) f0])).length) hS190 hE189 (by kernel_rfl) hi1 hi2 hi3 rfl (by decide) (by rw [hi4]; decide) rfl rfl rfl (St.rdO (i := 0) hS190 rfl) (by first | omega | (simp only [List.length_append, List.length_cons, List.length_nil]; omega)) (by have h1 := (St.rdO (i := 1) hS190 rfl).len1; have h2 := (St.rdO (i := 0) hS190 rfl).len1; rw [List.length_append, h1, h2]) rfl ?_)
              intro b192 c198 w193 hS196 a194 hE195; clear hS190 hE189 hi1 hi2 hi3 hi4
              refine q_step (v := .slice b192 ((out6 ++ ([shlI (gI g1 t33) f0])).length) c198) hE195 (y_assign rfl) rfl rfl rfl ?_; intro a199 hE200; clear hE195
              refine c_nil ?_
              have hE201 := hE200.sub (L' := [(2, .pointer (some ⟨b3, 0, none⟩)), (4, .pointer (some ⟨b15, 0, none⟩)), (6, .slice b192 ((out6 ++ ([shlI (gI g1 t33) f0])).length) c198), (31, .slice g1A g1.length g1C), (32, .int .i64 (g1.length : Int)), (33, .int .i64 t33)]) ⟨rfl, rfl, rfl, rfl, rfl, rfl, trivial⟩; clear hE200
              refine p_bn ?_
              refine p_tn ?_
              refine c_reg ?_
              refine q_step (v := .int .i64 (t33 + 1)) hE201 (y_add rfl rfl ⟨(by omega), (by omega)⟩) rfl rfl rfl ?_; intro a202 hE203; clear hE201
              refine q_step (v := .int .i64 (t33 + 1)) hE203 (y_move rfl) rfl rfl rfl ?_; intro a204 hE205; clear hE203
              refine c_nil ?_
              have hE206 := hE205.sub (L' := [(2, .pointer (some ⟨b3, 0, none⟩)), (4, .pointer (some ⟨b15, 0, none⟩)), (6, .slice b192 ((out6 ++ ([shlI (gI g1 t33) f0])).length) c198), (31, .slice g1A g1.length g1C), (32, .int .i64 (g1.length : Int)), (33, .int .i64 (t33 + 1))]) ⟨rfl, rfl, rfl, rfl, rfl, rfl, trivial⟩; clear hE205
              refine p_tn ⟨r162, Nat.lt_succ_self _, out6 ++ ([shlI (gI g1 t33) f0]), t33 + 1, b192, c198, (hT157.symm.trans (show F_SumFrames_L1b f0 g1 (F_SumFrames_L1 f0 g1 r162) out6 t33 = F_SumFrames_L1 f0 g1 r162 (out6 ++ ([shlI (gI g1 t33) f0])) (t33 + 1) by unfold F_SumFrames_L1b; rw [ht166]; first | done | rfl)).symm, (by omega), (by first | omega | (simp only [List.length_append, List.length_cons, List.length_nil, sI_len, cond_true, cond_false]; omega) | (simp only [List.length_append, List.length_cons, List.length_nil, sI_len, cond_eq_ite, apply_ite List.length]; split <;> simp only [List.length_append, List.length_cons, List.length_nil, sI_len] <;> omega) | grind), (by first | omega | (simp only [List.length_append, List.length_cons, List.length_nil, sI_len, cond_true, cond_false]; omega) | (simp only [List.length_append, List.length_cons, List.length_nil, sI_len, cond_eq_ite, apply_ite List.length]; split <;> simp only [List.length_append, List.length_cons, List.length_nil, sI_len] <;> omega) | grind), (by first | omega | (simp only [List.length_append, List.length_cons, List.length_nil, sI_len, cond_true, cond_false]; omega) | (simp only [List.length_append, List.length_cons, List.length_nil, sI_len, cond_eq_ite, apply_ite List.length]; split <;> simp only [List.length_append, List.length_cons, List.length_nil, sI_len] <;> omega) | grind), (hE206.sub (L' := [(2, .pointer (some ⟨b3, 0, none⟩)), (4, .pointer (some ⟨b15, 0, none⟩)), (6, .slice b192 ((out6 ++ ([shlI (gI g1 t33) f0])).length) c198), (31, .slice g1A g1.length g1C), (32, .int .i64 (g1.length : Int)), (33, .int .i64 (t33 + 1))]) ⟨rfl, rfl, rfl, rfl, rfl, rfl, trivial⟩), (St.pick (Γ' := [.own 2 1 b192 ((out6 ++ ([shlI (gI g1 t33) f0])).length) c198 (out6 ++ ([shlI (gI g1 t33) f0])), .blk b15 #[.int .i64 0, .slice none 0 0] 28, .rd 1 g1A g1.length g1C g1, .blk b9 #[.int .i64 g0, .slice g1A g1.length g1C] 28, .rd 1 f1A f1.length f1C f1, .blk b3 #[.int .i64 f0, .slice f1A f1.length f1C] 28]) hS196 [1, 2, 3, 4, 5, 6] (by decide) rfl)⟩
            ·
              have hp207 := of_decide_eq_false ht166
              have hE208 := hE165; rw [ht166] at hE208; clear hE165
              refine wp_exit ?_
              refine p_te ?_
              have hX209 : F_SumFrames_L1 f0 g1 (Int.toNat ((g1.length : Int) - 0) + 1) f1 0 = (out6, t33) := hT157.symm.trans (show F_SumFrames_L1b f0 g1 (F_SumFrames_L1 f0 g1 r162) out6 t33 = (out6, t33) by unfold F_SumFrames_L1b; rw [ht166]; first | done | rfl)
              refine p_te (p_be (p_tn ?_))
              exact ⟨out6A, out6C, (by rw [hX209]; exact (show 0 ≤ t33 from (by first | omega | (simp only [List.length_append, List.length_cons, List.length_nil, sI_len, cond_true, cond_false]; omega) | (simp only [List.length_append, List.length_cons, List.length_nil, sI_len, cond_eq_ite, apply_ite List.length]; split <;> simp only [List.length_append, List.length_cons, List.length_nil, sI_len] <;> omega) | grind))), (by rw [hX209]; exact (show (out6.length : Int) = (f1.length : Int) + t33 from (by first | omega | (simp only [List.length_append, List.length_cons, List.length_nil, sI_len, cond_true, cond_false]; omega) | (simp only [List.length_append, List.length_cons, List.length_nil, sI_len, cond_eq_ite, apply_ite List.length]; split <;> simp only [List.length_append, List.length_cons, List.length_nil, sI_len] <;> omega) | grind))), (by rw [hX209]; exact (show t33 ≤ (g1.length : Int) from (by first | omega | (simp only [List.length_append, List.length_cons, List.length_nil, sI_len, cond_true, cond_false]; omega) | (simp only [List.length_append, List.length_cons, List.length_nil, sI_len, cond_eq_ite, apply_ite List.length]; split <;> simp only [List.length_append, List.length_cons, List.length_nil, sI_len] <;> omega) | grind))), (by rw [hX209]; exact (hE208.sub (L' := [(2, .pointer (some ⟨b3, 0, none⟩)), (4, .pointer (some ⟨b15, 0, none⟩)), (6, .slice out6A ((out6).length) out6C), (31, .slice g1A g1.length g1C), (32, .int .i64 (g1.length : Int)), (33, .int .i64 t33)]) ⟨rfl, rfl, rfl, rfl, rfl, rfl, trivial⟩)), (by rw [hX209]; exact (St.pick (Γ' := [.own 2 1 out6A ((out6).length) out6C out6, .blk b15 #[.int .i64 0, .slice none 0 0] 28, .rd 1 g1A g1.length g1C g1, .blk b9 #[.int .i64 g0, .slice g1A g1.length g1C] 28, .rd 1 f1A f1.length f1C f1, .blk b3 #[.int .i64 f0, .slice f1A f1.length f1C] 28]) hS156 [0, 1, 2, 3, 4, 5] (by decide) rfl))⟩
        ·
          rintro a210 w211 ⟨out6A_152, out6C_152, hi215, hi216, hi217, hE212, hS213⟩; clear hE151 hS135
          refine p_tn ?_
          refine c_seq ?_
          refine c_reg ?_
          refine q_step (v := .slice out6A_152 (((F_SumFrames_L1 f0 g1 (Int.toNat ((g1.length : Int) - 0) + 1) f1 0).1).length) out6C_152) hE212 (y_move rfl) rfl rfl rfl ?_; intro a218 hE219; clear hE212
          refine l_step hE219 rfl (l_call (f := 68) (argv := [.slice out6A_152 (((F_SumFrames_L1 f0 g1 (Int.toNat ((g1.length : Int) - 0) + 1) f1 0).1).length) out6C_152]) hE219 (fun _ => cf_frameOf _ _) rfl rfl (c_frameOf out6A_152 (((F_SumFrames_L1 f0 g1 (Int.toNat ((g1.length : Int) - 0) + 1) f1 0).1).length) out6C_152 ((F_SumFrames_L1 f0 g1 (Int.toNat ((g1.length : Int) - 0) + 1) f1 0).1) w211 (St.rdO (i := 0) hS213 rfl)) ?_)
          rintro _ w221 ⟨rfl, he225⟩ a222 hE223; clear hE219
          have hS224 := St.go hS213 he225; clear hS213
          refine l_step hE223 rfl (l_storeS (k := 1) (cs' := #[.int .i64 ((F_frameOf ((F_SumFrames_L1 f0 g1 (Int.toNat ((g1.length : Int) - 0) + 1) f1 0).1)).1), .slice out6A_152 (((F_SumFrames_L1 f0 g1 (Int.toNat ((g1.length : Int) - 0) + 1) f1 0).1).length) out6C_152]) hS224 hE223 (by kernel_rfl) rfl rfl (by kernel_rfl) rfl rfl ?_)
          intro w227 hS230 a228 hE229; clear hS224 hE223
          refine q_step (v := .int .i64 0) hE229 (y_assign rfl) rfl rfl rfl ?_; intro a232 hE233; clear hE229
          refine c_nil ?_
          have hE234 := hE233.sub (L' := [(4, .pointer (some ⟨b15, 0, none⟩)), (5, .int .i64 0)]) ⟨rfl, rfl, trivial⟩; clear hE233
          refine p_tn ?_
          refine wp_ret ?_
          have hF : F_SumFrames f0 f1 g0 g1 = (((F_frameOf ((F_SumFrames_L1 f0 g1 (Int.toNat ((g1.length : Int) - 0) + 1) f1 0).1)).1, (F_SumFrames_L1 f0 g1 (Int.toNat ((g1.length : Int) - 0) + 1) f1 0).1), 0) := by unfold F_SumFrames; rw [ht111, ht76]; first | done | rfl
          refine c_retC2 hE234 rfl rfl rfl Try.underlying28 rfl (by kernel_rfl) (St.row (i := 1) hS230 rfl _ (Ext.refl _)) ?_
          exact ⟨out6A_152, out6C_152, (by rw [hF]; first | done | rfl), (by rw [hF]; exact hS230.ok 0 _ rfl), hS230.ext⟩

theorem sum_loop (f0 : Int) (g1 : List Int) (L : Nat → List Int → Int → List Int × Int) (hL : ∀ r xs i, L (r + 1) xs i = bif decide (i < (g1.length : Int)) then L r (xs ++ [shlI (gI g1 i) f0]) (i + 1) else (xs, i)) :
    ∀ (k : Nat) (i : Int) (xs : List Int), (g1.length : Int) - i = (k : Int) → (L (k + 1) xs i).1 = xs ++ (List.range k).map fun (j : Nat) => shlI (gI g1 (i + (j : Int))) f0 := by
  intro k
  induction k with
  | zero => intro i xs h; rw [hL, decide_eq_false (by omega)]; simp
  | succ k ih =>
    intro i xs h
    rw [hL, decide_eq_true (by omega)]
    simp only [cond_true]
    rw [ih (i + 1) _ (by omega), List.range_succ_eq_map, List.map_cons, List.map_map, List.append_assoc]
    simp only [Int.natCast_zero, Int.add_zero, List.singleton_append, Function.comp_def]
    congr 2
    apply List.map_congr_left; intro j _; congr 2; rw [Int.natCast_succ]; omega
theorem SumFrames_len (f0 : Int) (f1 : List Int) (g0 : Int) (g1 : List Int) : (F_SumFrames f0 f1 g0 g1).1.2.length ≤ f1.length + g1.length := by
  unfold F_SumFrames
  have e : Int.toNat ((g1.length : Int) - 0) = g1.length := by omega
  rw [e, sum_loop f0 g1 (F_SumFrames_L1 f0 g1) (fun _ _ _ => rfl) g1.length 0 f1 (by omega)]
  cases (!(F_isFrame f0 f1)) || (!(F_isFrame g0 g1))
  · cases decide (8 < f0 + g0) <;> simp
  · simp

end Go.Proofs.Ytejfjcjdilbkdaa
