/- GFF: models and contracts, printed by wip/gen/gen.py -/
import Derived.Test.YtlbonhloeefnmaaKCXGFGS
import Derived.Test.YtlbonhloeefnmaaKCXNest
set_option linter.unusedVariables false
set_option linter.unusedSimpArgs false
namespace Go.Proofs.Ytlbonhloeefnmaa
open Go.RowKit
def F_one (bp : Bool) : Int :=
  bif bp then 1 else 0
theorem cf_one (args : Array Value) (w : World) : (callFunc 180 args).run Try.prog w = .ok (.enter 180 args) w := by kernel_rfl
set_option maxRecDepth 100000 in
theorem c_one (bp : Bool) (w : World) :
    Calls Try.prog 180 #[.bool bp] w (Ret fun v w' => v = .int .i64 (F_one bp) ∧ w = w') := by
  have hS := St.nil w
  refine enter (args := [.bool bp]) Try.func180 rfl rfl ?_
  rw [Try.ntmps180]; intro a hE
  have hE := hE.sub (L' := [(0, .bool bp)]) ⟨rfl, trivial⟩
  refine c_seq ?_
  refine c_reg ?_
  refine q_step (v := .int .i64 0) hE (y_assign rfl) rfl rfl rfl ?_; intro a1 hE2; clear hE
  refine c_nil ?_
  have hE3 := hE2.sub (L' := [(0, .bool bp)]) ⟨rfl, trivial⟩; clear hE2
  refine p_tn ?_
  refine c_seq ?_
  refine c_seq ?_
  refine c_reg ?_
  refine q_step (v := .bool bp) hE3 (y_move rfl) rfl rfl rfl ?_; intro a4 hE5; clear hE3
  refine c_nil ?_
  have hE6 := hE5.sub (L' := [(3, .bool bp)]) ⟨rfl, trivial⟩; clear hE5
  refine p_tn ?_
  refine c_cond hE6 rfl (fun ht7 => ?_) (fun ht7 => ?_)
  ·
   have hE8 := hE6; rw [ht7] at hE8; clear hE6
   refine c_seq ?_
   refine c_reg ?_
   refine q_step (v := .int .i64 1) hE8 (y_assign rfl) rfl rfl rfl ?_; intro a9 hE10; clear hE8
   refine c_nil ?_
   have hE11 := hE10.sub (L' := [(2, .int .i64 1)]) ⟨rfl, trivial⟩; clear hE10
   refine p_tn ?_
   refine wp_ret ?_
   refine p_tr ?_
   have hF : F_one bp = 1 := by unfold F_one; rw [ht7]; first | done | rfl
   refine c_ret1 hE11 rfl rfl ?_
   exact ⟨(by rw [hF]; first | done | (dsimp only; done) | rfl), rfl⟩
  ·
   have hE12 := hE6; rw [ht7] at hE12; clear hE6
   refine wp_skip ?_
   refine p_tn ?_
   refine c_seq ?_
   refine c_reg ?_
   refine q_step (v := .int .i64 0) hE12 (y_assign rfl) rfl rfl rfl ?_; intro a13 hE14; clear hE12
   refine c_nil ?_
   have hE15 := hE14.sub (L' := [(2, .int .i64 0)]) ⟨rfl, trivial⟩; clear hE14
   refine p_tn ?_
   refine wp_ret ?_
   have hF : F_one bp = 0 := by unfold F_one; rw [ht7]; first | done | rfl
   refine c_ret1 hE15 rfl rfl ?_
   exact ⟨(by rw [hF]; first | done | (dsimp only; done) | rfl), rfl⟩
def F_flagsOf_L1b (f0 : Int) (f1 : List Int) (rec : Int → (List Int) → Int × (List Int)) (t5 : Int) (x4a : List Int) : Int × (List Int) :=
  bif (decide (t5 < 11)) then (rec (t5 + 1) (sI x4a t5 (F_one (F_Frame_hasFlag f0 f1 t5)))) else (t5, x4a)
def F_flagsOf_L1 (f0 : Int) (f1 : List Int) : Nat → Int → (List Int) → Int × (List Int)
  | 0, t5, x4a => (t5, x4a)
  | r + 1, t5, x4a => F_flagsOf_L1b f0 f1 (F_flagsOf_L1 f0 f1 r) t5 x4a
def F_flagsOf (f0 : Int) (f1 : List Int) : List Int :=
  (F_flagsOf_L1 f0 f1 (Int.toNat (11 - 0) + 1) 0 (List.replicate 11 0)).2
theorem cf_flagsOf (args : Array Value) (w : World) : (callFunc 103 args).run Try.prog w = .ok (.enter 103 args) w := by kernel_rfl
set_option maxRecDepth 100000 in
theorem c_flagsOf (f0 : Int) (f1A : Option Addr) (f1N f1C : Nat) (f1 : List Int) (w : World) (f1R : RdS w 1 f1A f1N f1C f1) (hf : 0 ≤ f0 ∧ f0 ≤ 8) (hfl : (f1.length : Int) = f0) (hfm : ∀ m : Int, 0 ≤ m → m < (f1.length : Int) → 0 ≤ gI f1 m ∧ gI f1 m ≤ fullI f0) :
    Calls Try.prog 103 #[.agg #[.int .i64 f0, .slice f1A f1N f1C]] w (Ret fun v w' => v = .agg (intV (F_flagsOf f0 f1)).toArray ∧ Ext w w') := by
  obtain rfl : f1N = f1.length := f1R.len1.symm
  have f1Le := f1R.le
  have hS := St.nil w
  have hS1 := St.rd0 hS rfl f1R; clear hS
  refine enter (args := [.agg #[.int .i64 f0, .slice f1A f1.length f1C]]) Try.func103 rfl rfl ?_
  rw [Try.ntmps103]; intro a hE
  have hE := hE.sub (L' := [(0, .agg #[.int .i64 f0, .slice f1A f1.length f1C])]) ⟨rfl, trivial⟩
  refine c_seq ?_
  refine c_reg ?_
  refine l_step hE rfl (l_box (v := .agg #[.int .i64 f0, .slice f1A f1.length f1C]) (cs := #[.int .i64 f0, .slice f1A f1.length f1C]) hS1 hE rfl rfl rfl ?_)
  intro b2 w3 hS6 he7 a4 hE5; clear hS1 hE
  refine l_step hE5 rfl (l_alloc (z := .agg (intV (List.replicate 11 0)).toArray) (cs := (intV (List.replicate 11 0)).toArray) hS6 hE5 (fun _ => by kernel_rfl) rfl rfl ?_)
  intro b8 w9 hS12 he13 a10 hE11; clear hS6 hE5
  have hv14 : (List.replicate 11 (0 : Int)).length = 11 := rfl
  refine c_nil ?_
  have hE15 := hE11.sub (L' := [(1, .pointer (some ⟨b2, 0, none⟩)), (2, .pointer (some ⟨b8, 0, none⟩))]) ⟨rfl, rfl, trivial⟩; clear hE11
  refine p_tn ?_
  refine c_seq ?_
  refine c_reg ?_
  refine l_step hE15 rfl (l_alloc (z := .agg (intV (List.replicate 11 0)).toArray) (cs := (intV (List.replicate 11 0)).toArray) hS12 hE15 (fun _ => by kernel_rfl) rfl rfl ?_)
  intro b16 w17 hS20 he21 a18 hE19; clear hS12 hE15
  have hv22 : (List.replicate 11 (0 : Int)).length = 11 := rfl
  refine c_nil ?_
  have hE23 := hE19.sub (L' := [(1, .pointer (some ⟨b2, 0, none⟩)), (2, .pointer (some ⟨b8, 0, none⟩)), (3, .pointer (some ⟨b16, 0, none⟩))]) ⟨rfl, rfl, rfl, trivial⟩; clear hE19
  refine p_tn ?_
  refine c_seq ?_
  refine c_seq ?_
  refine c_reg ?_
  refine q_step (v := .int .i64 0) hE23 (y_move rfl) rfl rfl rfl ?_; intro a24 hE25; clear hE23
  refine c_nil ?_
  have hE26 := hE25.sub (L' := [(1, .pointer (some ⟨b2, 0, none⟩)), (2, .pointer (some ⟨b8, 0, none⟩)), (3, .pointer (some ⟨b16, 0, none⟩)), (5, .int .i64 0)]) ⟨rfl, rfl, rfl, rfl, trivial⟩; clear hE25
  refine p_tn ?_
  refine c_cut1 (fun a' w' => (0 ≤ ((F_flagsOf_L1 f0 f1 (Int.toNat (11 - 0) + 1) 0 (List.replicate 11 0)).1)) ∧ (((F_flagsOf_L1 f0 f1 (Int.toNat (11 - 0) + 1) 0 (List.replicate 11 0)).2).length = 11) ∧ E a' 16 [(1, .pointer (some ⟨b2, 0, none⟩)), (2, .pointer (some ⟨b8, 0, none⟩)), (3, .pointer (some ⟨b16, 0, none⟩)), (5, .int .i64 ((F_flagsOf_L1 f0 f1 (Int.toNat (11 - 0) + 1) 0 (List.replicate 11 0)).1))] ∧ St w w' [.blk b16 (intV ((F_flagsOf_L1 f0 f1 (Int.toNat (11 - 0) + 1) 0 (List.replicate 11 0)).2)).toArray 108, .blk b8 (intV (List.replicate 11 0)).toArray 108, .blk b2 #[.int .i64 f0, .slice f1A f1.length f1C] 30, .rd 1 f1A f1.length f1C f1]) ?_ ?_
  ·
   refine wp_block ?_
   refine c_loop (fun r a' w' => ∃ t5 : Int, ∃ x4a : List Int, F_flagsOf_L1 f0 f1 r t5 x4a = F_flagsOf_L1 f0 f1 (Int.toNat (11 - 0) + 1) 0 (List.replicate 11 0) ∧ Int.toNat (11 - t5) < r ∧ (0 ≤ t5) ∧ (x4a.length = 11) ∧ E a' 16 [(1, .pointer (some ⟨b2, 0, none⟩)), (2, .pointer (some ⟨b8, 0, none⟩)), (3, .pointer (some ⟨b16, 0, none⟩)), (5, .int .i64 t5)] ∧ St w w' [.blk b16 (intV x4a).toArray 108, .blk b8 (intV (List.replicate 11 0)).toArray 108, .blk b2 #[.int .i64 f0, .slice f1A f1.length f1C] 30, .rd 1 f1A f1.length f1C f1]) (r := (Int.toNat (11 - 0) + 1)) ?_ ?_
   · exact ⟨0, List.replicate 11 0, rfl, Nat.lt_succ_self _, (by first | omega | (simp only [sS_len, sL_len]; omega) | (simp only [List.length_replicate, sI_len]; omega) | (simp only [List.length_append, List.length_cons, List.length_nil, sI_len, cond_true, cond_false]; omega) | (simp only [List.length_append, List.length_cons, List.length_nil, sI_len, cond_eq_ite, apply_ite List.length]; split <;> simp only [List.length_append, List.length_cons, List.length_nil, sI_len] <;> omega) | grind), rfl, (hE26.sub (L' := [(1, .pointer (some ⟨b2, 0, none⟩)), (2, .pointer (some ⟨b8, 0, none⟩)), (3, .pointer (some ⟨b16, 0, none⟩)), (5, .int .i64 0)]) ⟨rfl, rfl, rfl, rfl, trivial⟩), (St.pick (Γ' := [.blk b16 (intV (List.replicate 11 0)).toArray 108, .blk b8 (intV (List.replicate 11 0)).toArray 108, .blk b2 #[.int .i64 f0, .slice f1A f1.length f1C] 30, .rd 1 f1A f1.length f1C f1]) hS20 [0, 1, 2, 3] (by decide) rfl)⟩
   ·
    clear hE26 hS20
    rintro r36 a28 w29 ⟨t5, x4a, hT32, hr33, hi34, hi35, hE30, hS31⟩
    obtain ⟨r36, rfl⟩ : ∃ r', r36 = r' + 1 := ⟨r36 - 1, by omega⟩
    refine c_seq ?_
    refine c_reg ?_
    refine q_step (v := .bool (decide (t5 < 11))) hE30 (y_lss rfl rfl) rfl rfl rfl ?_; intro a37 hE38; clear hE30
    refine c_nil ?_
    have hE39 := hE38.sub (L' := [(1, .pointer (some ⟨b2, 0, none⟩)), (2, .pointer (some ⟨b8, 0, none⟩)), (3, .pointer (some ⟨b16, 0, none⟩)), (5, .int .i64 t5), (6, .bool (decide (t5 < 11)))]) ⟨rfl, rfl, rfl, rfl, rfl, trivial⟩; clear hE38
    refine p_tn ?_
    refine c_seq ?_
    refine c_cond hE39 rfl (fun ht40 => ?_) (fun ht40 => ?_)
    ·
     have hp41 := of_decide_eq_true ht40
     have hE42 := hE39; rw [ht40] at hE42; clear hE39
     refine wp_skip ?_
     refine p_tn ?_
     refine c_seq ?_
     refine wp_block ?_
     refine c_seq ?_
     refine c_reg ?_
     refine q_step (v := .int .i64 t5) hE42 (y_move rfl) rfl rfl rfl ?_; intro a43 hE44; clear hE42
     refine q_step (v := .int .i64 t5) hE44 (y_assign rfl) rfl rfl rfl ?_; intro a45 hE46; clear hE44
     refine c_nil ?_
     have hE47 := hE46.sub (L' := [(1, .pointer (some ⟨b2, 0, none⟩)), (2, .pointer (some ⟨b8, 0, none⟩)), (3, .pointer (some ⟨b16, 0, none⟩)), (4, .int .i64 t5), (5, .int .i64 t5)]) ⟨rfl, rfl, rfl, rfl, rfl, trivial⟩; clear hE46
     refine p_tn ?_
     refine c_reg ?_
     refine q_step (v := .int .i64 t5) hE47 (y_move rfl) rfl rfl rfl ?_; intro a48 hE49; clear hE47
     refine q_step (v := .agg #[.int .i64 f0, .slice f1A f1.length f1C]) hE49 (y_loadS Try.underlying30 rfl (by kernel_rfl) rfl (St.row (i := 2) hS31 rfl)) rfl rfl rfl ?_; intro a50 hE51; clear hE49
     refine q_step (v := .int .i64 t5) hE51 (y_move rfl) rfl rfl rfl ?_; intro a52 hE53; clear hE51
     refine l_step hE53 rfl (l_call (f := 176) (argv := [.agg #[.int .i64 f0, .slice f1A f1.length f1C], .int .i64 t5]) hE53 (fun _ => cf_Frame_hasFlag _ _) rfl rfl (c_Frame_hasFlag f0 f1A f1.length f1C f1 t5 w29 (St.rdR (i := 3) hS31 rfl) (by omega) (by omega) hfm) ?_)
     rintro _ w55 ⟨rfl, he59⟩ a56 hE57; clear hE53
     have hS58 := St.go hS31 he59; clear hS31
     refine l_step hE57 rfl (l_call (f := 180) (argv := [.bool (F_Frame_hasFlag f0 f1 t5)]) hE57 (fun _ => cf_one _ _) rfl rfl (c_one (F_Frame_hasFlag f0 f1 t5) w55) ?_)
     rintro _ _ ⟨rfl, rfl⟩ a62 hE63; clear hE57
     refine q_step (v := .pointer (some ⟨b16, Int.toNat t5, none⟩)) hE63 (y_idxA (by kernel_rfl) (fun _ => by kernel_rfl) rfl rfl (by omega) (show t5 < (11 : Int) from (by omega))) rfl rfl rfl ?_; intro a66 hE67; clear hE63
     refine l_step hE67 rfl (l_storeA (k := 0) hS58 hE67 (fun _ => by kernel_rfl) rfl rfl rfl (by omega) (by omega) ?_)
     intro w69 hS72 a70 hE71; clear hS58 hE67
     refine c_nil ?_
     have hE74 := hE71.sub (L' := [(1, .pointer (some ⟨b2, 0, none⟩)), (2, .pointer (some ⟨b8, 0, none⟩)), (3, .pointer (some ⟨b16, 0, none⟩)), (5, .int .i64 t5)]) ⟨rfl, rfl, rfl, rfl, trivial⟩; clear hE71
     refine p_bn ?_
     refine p_tn ?_
     refine c_reg ?_
     refine q_step (v := .int .i64 (t5 + 1)) hE74 (y_add rfl rfl ⟨(by omega), (by omega)⟩) rfl rfl rfl ?_; intro a75 hE76; clear hE74
     refine q_step (v := .int .i64 (t5 + 1)) hE76 (y_move rfl) rfl rfl rfl ?_; intro a77 hE78; clear hE76
     refine c_nil ?_
     have hE79 := hE78.sub (L' := [(1, .pointer (some ⟨b2, 0, none⟩)), (2, .pointer (some ⟨b8, 0, none⟩)), (3, .pointer (some ⟨b16, 0, none⟩)), (5, .int .i64 (t5 + 1))]) ⟨rfl, rfl, rfl, rfl, trivial⟩; clear hE78
     refine p_tn ⟨r36, Nat.lt_succ_self _, t5 + 1, sI x4a t5 (F_one (F_Frame_hasFlag f0 f1 t5)), (hT32.symm.trans (show F_flagsOf_L1b f0 f1 (F_flagsOf_L1 f0 f1 r36) t5 x4a = F_flagsOf_L1 f0 f1 r36 (t5 + 1) (sI x4a t5 (F_one (F_Frame_hasFlag f0 f1 t5))) by unfold F_flagsOf_L1b; rw [ht40]; first | done | rfl)).symm, (by omega), (by first | omega | (simp only [sS_len, sL_len]; omega) | (simp only [List.length_replicate, sI_len]; omega) | (simp only [List.length_append, List.length_cons, List.length_nil, sI_len, cond_true, cond_false]; omega) | (simp only [List.length_append, List.length_cons, List.length_nil, sI_len, cond_eq_ite, apply_ite List.length]; split <;> simp only [List.length_append, List.length_cons, List.length_nil, sI_len] <;> omega) | grind), (by rw [sI_len]; assumption), (hE79.sub (L' := [(1, .pointer (some ⟨b2, 0, none⟩)), (2, .pointer (some ⟨b8, 0, none⟩)), (3, .pointer (some ⟨b16, 0, none⟩)), (5, .int .i64 (t5 + 1))]) ⟨rfl, rfl, rfl, rfl, trivial⟩), (St.pick (Γ' := [.blk b16 (intV (sI x4a t5 (F_one (F_Frame_hasFlag f0 f1 t5)))).toArray 108, .blk b8 (intV (List.replicate 11 0)).toArray 108, .blk b2 #[.int .i64 f0, .slice f1A f1.length f1C] 30, .rd 1 f1A f1.length f1C f1]) hS72 [0, 1, 2, 3] (by decide) rfl)⟩
    ·
     have hp80 := of_decide_eq_false ht40
     have hE81 := hE39; rw [ht40] at hE81; clear hE39
     refine wp_exit ?_
     refine p_te ?_
     have hX82 : F_flagsOf_L1 f0 f1 (Int.toNat (11 - 0) + 1) 0 (List.replicate 11 0) = (t5, x4a) := hT32.symm.trans (show F_flagsOf_L1b f0 f1 (F_flagsOf_L1 f0 f1 r36) t5 x4a = (t5, x4a) by unfold F_flagsOf_L1b; rw [ht40]; first | done | rfl)
     refine p_te (p_be (p_tn ?_))
     exact ⟨(by rw [hX82]; exact (show 0 ≤ t5 from (by first | omega | (simp only [sS_len, sL_len]; omega) | (simp only [List.length_replicate, sI_len]; omega) | (simp only [List.length_append, List.length_cons, List.length_nil, sI_len, cond_true, cond_false]; omega) | (simp only [List.length_append, List.length_cons, List.length_nil, sI_len, cond_eq_ite, apply_ite List.length]; split <;> simp only [List.length_append, List.length_cons, List.length_nil, sI_len] <;> omega) | grind))), (by rw [hX82]; exact (show x4a.length = 11 from (by first | omega | (simp only [sS_len, sL_len]; omega) | (simp only [List.length_replicate, sI_len]; omega) | (simp only [List.length_append, List.length_cons, List.length_nil, sI_len, cond_true, cond_false]; omega) | (simp only [List.length_append, List.length_cons, List.length_nil, sI_len, cond_eq_ite, apply_ite List.length]; split <;> simp only [List.length_append, List.length_cons, List.length_nil, sI_len] <;> omega) | grind))), (by rw [hX82]; exact (hE81.sub (L' := [(1, .pointer (some ⟨b2, 0, none⟩)), (2, .pointer (some ⟨b8, 0, none⟩)), (3, .pointer (some ⟨b16, 0, none⟩)), (5, .int .i64 t5)]) ⟨rfl, rfl, rfl, rfl, trivial⟩)), (by rw [hX82]; exact (St.pick (Γ' := [.blk b16 (intV x4a).toArray 108, .blk b8 (intV (List.replicate 11 0)).toArray 108, .blk b2 #[.int .i64 f0, .slice f1A f1.length f1C] 30, .rd 1 f1A f1.length f1C f1]) hS31 [0, 1, 2, 3] (by decide) rfl))⟩
  ·
   rintro a83 w84 ⟨hi88, hi89, hE85, hS86⟩; clear hE26 hS20
   refine p_tn ?_
   refine c_seq ?_
   refine c_reg ?_
   refine q_step (v := .agg (intV ((F_flagsOf_L1 f0 f1 (Int.toNat (11 - 0) + 1) 0 (List.replicate 11 0)).2)).toArray) hE85 (y_loadS Try.underlying108 rfl (intV_size (show (Try.prog.info? 108).map (·.size) = some 11 by kernel_rfl) (by first | rfl | omega | assumption | (simp only [sI_len]; omega) | (simp only [sI_len]))) rfl (St.row (i := 0) hS86 rfl)) rfl rfl rfl ?_; intro a90 hE91; clear hE85
   refine l_step hE91 rfl (l_storeS (k := 1) (cs' := (intV ((F_flagsOf_L1 f0 f1 (Int.toNat (11 - 0) + 1) 0 (List.replicate 11 0)).2)).toArray) hS86 hE91 (intV_size (show (Try.prog.info? 108).map (·.size) = some 11 by kernel_rfl) (by first | rfl | omega | assumption | (simp only [sI_len]; omega) | (simp only [sI_len]))) rfl rfl (intV_one _) rfl (by rw [List.size_toArray, List.size_toArray, intV_len, intV_len]; exact Eq.trans (show (List.replicate 11 0).length = 11 from (by first | rfl | omega | assumption | (simp only [sI_len]; omega) | (simp only [sI_len]))) (show 11 = ((F_flagsOf_L1 f0 f1 (Int.toNat (11 - 0) + 1) 0 (List.replicate 11 0)).2).length from Eq.symm (by first | rfl | omega | assumption | (simp only [sI_len]; omega) | (simp only [sI_len])))) ?_)
   intro w93 hS96 a94 hE95; clear hS86 hE91
   refine c_nil ?_
   have hE98 := hE95.sub (L' := [(2, .pointer (some ⟨b8, 0, none⟩))]) ⟨rfl, trivial⟩; clear hE95
   refine p_tn ?_
   refine wp_ret ?_
   have hF : F_flagsOf f0 f1 = (F_flagsOf_L1 f0 f1 (Int.toNat (11 - 0) + 1) 0 (List.replicate 11 0)).2 := by unfold F_flagsOf; rfl
   refine c_retC hE98 rfl rfl Try.underlying108 rfl (intV_size (show (Try.prog.info? 108).map (·.size) = some 11 by kernel_rfl) (by first | rfl | omega | assumption | (simp only [sI_len]; omega) | (simp only [sI_len]))) (St.row (i := 1) hS96 rfl _ (Ext.refl _)) ?_
   exact ⟨(by rw [hF]; first | done | (dsimp only; done) | rfl), hS96.ext⟩
theorem flagsOf_map (f0 : Int) (f1 : List Int) : F_flagsOf f0 f1 = (List.range 11).map fun (j : Nat) => F_one (F_Frame_hasFlag f0 f1 (j : Int)) := by
  unfold F_flagsOf
  obtain ⟨h1, h2⟩ := mapLoop 11 (fun t _ => F_one (F_Frame_hasFlag f0 f1 t)) (F_flagsOf_L1 f0 f1) (fun _ _ _ _ _ => rfl) (List.replicate 11 0) rfl
  exact list_map_ext (by omega) fun j hj => h2 j (by omega)
theorem flagsOf_len (f0 : Int) (f1 : List Int) : (F_flagsOf f0 f1).length = 11 := by rw [flagsOf_map]; simp
def F_FrameFlags (f0 : Int) (f1 : List Int) : (List Int) × (Int) :=
  bif (!(F_isFrame f0 f1)) then ([], 1) else (F_flagsOf f0 f1, 0)
theorem cf_FrameFlags (args : Array Value) (w : World) : (callFunc 40 args).run Try.prog w = .ok (.enter 40 args) w := by kernel_rfl
set_option maxRecDepth 100000 in
theorem c_FrameFlags (f0 : Int) (f1A : Option Addr) (f1N f1C : Nat) (f1 : List Int) (w : World) (f1R : RdS w 1 f1A f1N f1C f1) :
    Calls Try.prog 40 #[.agg #[.int .i64 f0, .slice f1A f1N f1C]] w (Ret fun v w' => ∃ b1 : Option Addr, ∃ c1 : Nat, v = .tuple #[.slice b1 ((F_FrameFlags f0 f1).1).length c1, .int .i64 ((F_FrameFlags f0 f1).2)] ∧ OwnS w' w.heap.size 108 1 b1 ((F_FrameFlags f0 f1).1).length c1 ((F_FrameFlags f0 f1).1) ∧ Ext w w') := by
  obtain rfl : f1N = f1.length := f1R.len1.symm
  have f1Le := f1R.le
  have hS := St.nil w
  have hS1 := St.rd0 hS rfl f1R; clear hS
  refine enter (args := [.agg #[.int .i64 f0, .slice f1A f1.length f1C]]) Try.func40 rfl rfl ?_
  rw [Try.ntmps40]; intro a hE
  have hE := hE.sub (L' := [(0, .agg #[.int .i64 f0, .slice f1A f1.length f1C])]) ⟨rfl, trivial⟩
  refine c_seq ?_
  refine c_reg ?_
  refine l_step hE rfl (l_box (v := .agg #[.int .i64 f0, .slice f1A f1.length f1C]) (cs := #[.int .i64 f0, .slice f1A f1.length f1C]) hS1 hE rfl rfl rfl ?_)
  intro b2 w3 hS6 he7 a4 hE5; clear hS1 hE
  refine q_step (v := .slice none 0 0) hE5 (y_assign rfl) rfl rfl rfl ?_; intro a8 hE9; clear hE5
  refine q_step (v := .int .i64 0) hE9 (y_assign rfl) rfl rfl rfl ?_; intro a10 hE11; clear hE9
  refine c_nil ?_
  have hE12 := hE11.sub (L' := [(1, .pointer (some ⟨b2, 0, none⟩))]) ⟨rfl, trivial⟩; clear hE11
  refine p_tn ?_
  refine c_seq ?_
  refine c_seq ?_
  refine c_reg ?_
  refine q_step (v := .agg #[.int .i64 f0, .slice f1A f1.length f1C]) hE12 (y_loadS Try.underlying30 rfl (by kernel_rfl) rfl (St.row (i := 0) hS6 rfl)) rfl rfl rfl ?_; intro a13 hE14; clear hE12
  refine l_step hE14 rfl (l_call (f := 96) (argv := [.agg #[.int .i64 f0, .slice f1A f1.length f1C]]) hE14 (fun _ => cf_isFrame _ _) rfl rfl (c_isFrame f0 f1A f1.length f1C f1 w3 (St.rdR (i := 1) hS6 rfl)) ?_)
  rintro _ w16 ⟨rfl, he20⟩ a17 hE18; clear hE14
  have hS19 := St.go hS6 he20; clear hS6
  refine q_step (v := .bool (!(F_isFrame f0 f1))) hE18 (y_not rfl) rfl rfl rfl ?_; intro a21 hE22; clear hE18
  refine c_nil ?_
  have hE23 := hE22.sub (L' := [(1, .pointer (some ⟨b2, 0, none⟩)), (7, .bool (!(F_isFrame f0 f1)))]) ⟨rfl, rfl, trivial⟩; clear hE22
  refine p_tn ?_
  refine c_cond hE23 rfl (fun ht24 => ?_) (fun ht24 => ?_)
  ·
   have ht25 := bn_t ht24
   have hE26 := hE23; rw [ht24] at hE26; clear hE23
   refine c_seq ?_
   refine c_reg ?_
   refine q_step (v := .slice none 0 0) hE26 (y_assign rfl) rfl rfl rfl ?_; intro a27 hE28; clear hE26
   refine q_step (v := .int .i64 1) hE28 (y_assign rfl) rfl rfl rfl ?_; intro a29 hE30; clear hE28
   refine c_nil ?_
   have hE31 := hE30.sub (L' := [(2, .slice none 0 0), (3, .int .i64 1)]) ⟨rfl, rfl, trivial⟩; clear hE30
   refine p_tn ?_
   refine wp_ret ?_
   refine p_tr ?_
   have hF : F_FrameFlags f0 f1 = ([], 1) := by unfold F_FrameFlags; rw [ht24]; first | done | rfl
   refine c_ret2 hE31 rfl rfl rfl ?_
   exact ⟨none, 0, (by rw [hF]; first | done | (dsimp only; done) | rfl), (by rw [hF]; (try dsimp only); exact OwnS.nilS _ _ _ _), hS19.ext⟩
  ·
   have ht32 := bn_f ht24
   have hp33 := isFrame_t ht32
   have hE34 := hE23; rw [ht24] at hE34; clear hE23
   refine wp_skip ?_
   refine p_tn ?_
   refine c_seq ?_
   refine c_reg ?_
   refine q_step (v := .agg #[.int .i64 f0, .slice f1A f1.length f1C]) hE34 (y_loadS Try.underlying30 rfl (by kernel_rfl) rfl (St.row (i := 0) hS19 rfl)) rfl rfl rfl ?_; intro a35 hE36; clear hE34
   refine l_step hE36 rfl (l_call (f := 103) (argv := [.agg #[.int .i64 f0, .slice f1A f1.length f1C]]) hE36 (fun _ => cf_flagsOf _ _) rfl rfl (c_flagsOf f0 f1A f1.length f1C f1 w16 (St.rdR (i := 1) hS19 rfl) (by omega) (by omega) (l05Is_m (by rw [← isFrame_eq]; assumption))) ?_)
   rintro _ w38 ⟨rfl, he42⟩ a39 hE40; clear hE36
   have hf43 := flagsOf_len f0 f1
   have hS41 := St.go hS19 he42; clear hS19
   refine l_step hE40 rfl (l_alloc (z := .agg (intV (List.replicate 11 0)).toArray) (cs := (intV (List.replicate 11 0)).toArray) hS41 hE40 (fun _ => by kernel_rfl) rfl rfl ?_)
   intro b44 w45 hS48 he49 a46 hE47; clear hS41 hE40
   have hv50 : (List.replicate 11 (0 : Int)).length = 11 := rfl
   refine l_step hE47 rfl (l_storeS (k := 0) (cs' := (intV (F_flagsOf f0 f1)).toArray) hS48 hE47 (intV_size (show (Try.prog.info? 108).map (·.size) = some 11 by kernel_rfl) (by first | rfl | omega | assumption | (simp only [sI_len]; omega) | (simp only [sI_len, flagsOf_len]))) rfl rfl (intV_one _) rfl (by rw [List.size_toArray, List.size_toArray, intV_len, intV_len]; exact Eq.trans (show (List.replicate 11 0).length = 11 from (by first | rfl | omega | assumption | (simp only [sI_len]; omega) | (simp only [sI_len, flagsOf_len]))) (show 11 = (F_flagsOf f0 f1).length from Eq.symm (by first | rfl | omega | assumption | (simp only [sI_len]; omega) | (simp only [sI_len, flagsOf_len])))) ?_)
   intro w52 hS55 a53 hE54; clear hS48 hE47
   refine c_nil ?_
   have hE57 := hE54.sub (L' := [(4, .pointer (some ⟨b44, 0, none⟩))]) ⟨rfl, trivial⟩; clear hE54
   refine p_tn ?_
   refine c_seq ?_
   refine c_reg ?_
   have hS58 := St.arrOwn (k := 0) (n' := 11) hS55 rfl (by first | rfl | omega | assumption | (simp only [sI_len]; omega) | (simp only [sI_len, flagsOf_len])) (by decide); clear hS55
   refine q_step (v := .slice (some ⟨b44, 0, none⟩) 11 11) hE57 (y_sliceA (by kernel_rfl) (fun _ => by kernel_rfl) rfl (by kernel_rfl)) rfl rfl rfl ?_; intro a59 hE60; clear hE57
   refine q_step (v := .slice (some ⟨b44, 0, none⟩) 11 11) hE60 (y_assign rfl) rfl rfl rfl ?_; intro a61 hE62; clear hE60
   refine q_step (v := .int .i64 0) hE62 (y_assign rfl) rfl rfl rfl ?_; intro a63 hE64; clear hE62
   refine c_nil ?_
   have hE65 := hE64.sub (L' := [(2, .slice (some ⟨b44, 0, none⟩) 11 11), (3, .int .i64 0)]) ⟨rfl, rfl, trivial⟩; clear hE64
   refine p_tn ?_
   refine wp_ret ?_
   have hF : F_FrameFlags f0 f1 = (F_flagsOf f0 f1, 0) := by unfold F_FrameFlags; rw [ht24]; first | done | rfl
   refine c_ret2 hE65 rfl rfl rfl ?_
   exact ⟨some ⟨b44, 0, none⟩, 11, (by rw [hF]; first | rfl | (rw [(St.rdO (i := 0) hS58 rfl).len1])), (by rw [hF, (St.rdO (i := 0) hS58 rfl).len1]; (try dsimp only); exact hS58.ok 0 _ rfl), hS58.ext⟩
theorem FrameFlags_cd (f0 : Int) (f1 : List Int) : 0 ≤ (F_FrameFlags f0 f1).2 ∧ (F_FrameFlags f0 f1).2 ≤ 1 := by
  unfold F_FrameFlags
  cases F_isFrame f0 f1 <;> simp only [Bool.not_true, Bool.not_false, cond_true, cond_false] <;> omega
theorem FrameFlags_len (f0 : Int) (f1 : List Int) : (F_FrameFlags f0 f1).1.length ≤ 11 := by
  unfold F_FrameFlags
  have := flagsOf_len f0 f1
  cases F_isFrame f0 f1
  · simp
  · simp only [Bool.not_true, cond_false]; omega
end Go.Proofs.Ytlbonhloeefnmaa
