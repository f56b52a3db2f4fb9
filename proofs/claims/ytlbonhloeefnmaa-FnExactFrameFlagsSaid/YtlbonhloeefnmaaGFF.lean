/- GFF: models and contracts, printed by wip/gen/gen.py -/
import Derived.Test.YtlbonhloeefnmaaGFGS
import Derived.Test.YtlbonhloeefnmaaNest
set_option linter.unusedVariables false
set_option linter.unusedSimpArgs false
namespace Go.Proofs.Ytlbonhloeefnmaa
open Go.RowKit


def F_one (bp : Bool) : Int :=
  bif bp then 1 else 0
theorem cf_one (args : Array Value) (w : World) : (callFunc 180 args).run Try.prog w = .ok (.enter 180 args) w := by kernel_rfl
set_option maxRecDepth 100000 in
theorem c_one (bp : Bool) (w : World) :
    Calls Try.prog 180 #[.bool bp] w (Ret fun v w' => v = .int .i64 (F_one bp) ∧ w = w') := by
  have hS := St.nil w
  refine enter (args := [.bool bp]) Try.func180 rfl rfl ?_
  rw [Try.ntmps180]; intro a hE
  have hE := hE.sub (L' := [(0, .bool bp)]) ⟨rfl, trivial⟩
  refine c_seq ?_
  refine c_reg ?_
  refine q_step (v := .int .i64 0) hE (y_assign rfl) rfl rfl rfl ?_; intro a1 hE2; clear hE
  refine c_nil ?_
  have hE3 := hE2.sub (L' := [(0, .bool bp)]) ⟨rfl, trivial⟩; clear hE2
  refine p_tn ?_
  refine c_seq ?_
  refine c_seq ?_
  refine c_reg ?_
  refine q_step (v := .bool bp) hE3 (y_move rfl) rfl rfl rfl ?_; intro a4 hE5; clear hE3
  refine c_nil ?_
  have hE6 := hE5.sub (L' := [(3, .bool bp)]) ⟨rfl, trivial⟩; clear hE5
  refine p_tn ?_
  refine c_cond hE6 rfl (fun ht7 => ?_) (fun ht7 => ?_)
  ·
   have hE8 := hE6; rw [ht7] at hE8; clear hE6
   refine c_seq ?_
   refine c_reg ?_
   refine q_step (v := .int .i64 1) hE8 (y_assign rfl) rfl rfl rfl ?_; intro a9 hE10; clear hE8
   refine c_nil ?_
   have hE11 := hE10.sub (L' := [(2, .int .i64 1)]) ⟨rfl, trivial⟩; clear hE10
   refine p_tn ?_
   refine wp_ret ?_
   refine p_tr ?_
   have hF : F_one bp = 1 := by unfold F_one; rw [ht7]; first | done | rfl
   refine c_ret1 hE11 rfl rfl ?_
   exact ⟨(by rw [hF]; first | done | (dsimp only; done) | rfl), rfl⟩
  ·
   have hE12 := hE6; rw [ht7] at hE12; clear hE6
   refine wp_skip ?_
   refine p_tn ?_
   refine c_seq ?_
   refine c_reg ?_
   refine q_step (v := .int .i64 0) hE12 (y_assign rfl) rfl rfl rfl ?_; intro a13 hE14; clear hE12
   refine c_nil ?_
   have hE15 := hE14.sub (L' := [(2, .int .i64 0)]) ⟨rfl, trivial⟩; clear hE14
   refine p_tn ?_
   refine wp_ret ?_
   have hF : F_one bp = 0 := by unfold F_one; rw [ht7]; first | done | rfl
   refine c_ret1 hE15 rfl rfl ?_
   exact ⟨(by rw [hF]; first | done | (dsimp only; done) | rfl), rfl⟩

def F_flagsOf_L1b (f0 : Int) (f1 : List Int) (rec : Int → (List Int) → Int × (List Int)) (t5 : Int) (x4a : List Int) : Int × (List Int) :=
  bif (decide (t5 < 11)) then (rec (t5 + 1) (sI x4a t5 (F_one (F_Frame_hasFlag f0 f1 t5)))) else (t5, x4a)
def F_flagsOf_L1 (f0 : Int) (f1 : List Int) : Nat → Int → (List Int) → Int × (List Int)
  | 0, t5, x4a => (t5, x4a)
  | r + 1, t5, x4a => F_flagsOf_L1b f0 f1 (F_flagsOf_L1 f0 f1 r) t5 x4a
def F_flagsOf (f0 : Int) (f1 : List Int) : List Int :=
  (F_flagsOf_L1 f0 f1 (Int.toNat (11 - 0) + 1) 0 (List.replicate 11 0)).2
theorem cf_flagsOf (args : Array Value) (w : World) : (callFunc 103 args).run Try.prog w = .ok (.enter 103 args) w := by kernel_rfl
set_option maxRecDepth 100000 in
theorem c_flagsOf (f0 : Int) (f1A : Option Addr) (f1N f1C : Nat) (f1 : List Int) (w : World) (f1R : RdS w 1 f1A f1N f1C f1) (hf : 0 ≤ f0 ∧ f0 ≤ 8) (hfl : (f1.length : Int) = f0) (hfm : ∀ m : Int, 0 ≤ m → m < (f1.length : Int) → 0 ≤ gI f1 m ∧ gI f1 m ≤ fullI f0) :
    Calls Try.prog 103 #[.agg #[.int .i64 f0, .slice f1A f1N f1C]] w (Ret fun v w' => v = .agg (intV (F_flagsOf f0 f1)).toArray ∧ Ext w w') := by
  obtain rfl : f1N = f1.length := f1R.len1.symm
  have f1Le := f1R.le
  have hS := St.nil w
  have hS1 := St.rd0 hS rfl f1R; clear hS
  refine enter (args := [.agg #[.int .i64 f0, .slice f1A f1.length f1C]]) Try.func103 rfl rfl ?_
  rw [Try.ntmps103]; intro a hE
  have hE := hE.sub (L' := [(0, .agg #[.int .i64 f0, .slice f1A f1.length f1C])]) ⟨rfl, trivial⟩
  refine c_seq ?_
  refine c_reg ?_
  refine l_step hE rfl (l_box (v := .agg #[.int .i64 f0, .slice f1A f1.length f1C]) (cs := #[.int .i64 f0, .slice f1A f1.length f1C]) hS1 hE rfl rfl rfl ?_)
  intro b2 w3 hS6 he7 a4 hE5; clear hS1 hE
  refine l_step hE5 rfl (l_alloc (z := .agg (intV (List.replicate 11 0)).toArray) (cs := (intV (List.replicate 11 0)).toArray) hS6 hE5 (fun _ => by kernel_rfl) rfl rfl ?_)
  intro b8 w9 hS12 he13 a10 hE11; clear hS6 hE5
  have hv14 : (List.replicate 11 (0 : Int)).length = 11 := rfl
  refine c_nil ?_
  have hE15 := hE11.sub (L' := [(1, .pointer (some ⟨b2, 0, none⟩)), (2, .pointer (some ⟨b8, 0, none⟩))]) ⟨rfl, rfl, trivial⟩; clear hE11
  refine p_tn ?_
  refine c_seq ?_
  refine c_reg ?_
  refine l_step hE15 rfl (l_alloc (z := .agg (intV (List.replicate 11 0)).toArray) (cs := (intV (List.replicate 11 0)).toArray) hS12 hE15 (fun _ => by kernel_rfl) rfl rfl ?_)
  intro b16 w17 hS20 he21 a18 hE19; clear hS12 hE15
  have hv22 : (List.replicate 11 (0 : Int)).length = 11 := rfl
  refine c_nil ?_
  have hE23 := hE19.sub (L' := [(1, .pointer (some ⟨b2, 0, none⟩)), (2, .pointer (some ⟨b8, 0, none⟩)), (3, .pointer (some ⟨b16, 0, none⟩))]) ⟨rfl, rfl, rfl, trivial⟩; clear hE19
  refine p_tn ?_
  refine c_seq ?_
  refine c_seq ?_
  refine c_reg ?_
  refine q_step (v := .int .i64 0) hE23 (y_move rfl) rfl rfl rfl ?_; intro a24 hE25; clear hE23
  refine c_nil ?_
  have hE26 := hE25.sub (L' := [(1, .pointer (some ⟨b2, 0, none⟩)), (2, .pointer (some ⟨b8, 0, none⟩)), (3, .pointer (some ⟨b16, 0, none⟩)), (5, .int .i64 0)]) ⟨rfl, rfl, rfl, rfl, trivial⟩; clear hE25
  refine p_tn ?_
  refine c_cut1 (fun a' w' => (0 ≤ ((F_flagsOf_L1 f0 f1 (Int.toNat (11 - 0) + 1) 0 (List.replicate 11 0)).1)) ∧ (((F_flagsOf_L1 f0 f1 (Int.toNat (11 - 0) + 1) 0 (List.replicate 11 0)).2).length = 11) ∧ E a' 16 [(1, .pointer (some ⟨b2, 0, none⟩)), (2, .pointer (some ⟨b8, 0, none⟩)), (3, .pointer (some ⟨b16, 0, none⟩)), (5, .int .i64 ((F_flagsOf_L1 f0 f1 (Int.toNat (11 - 0) + 1) 0 (List.replicate 11 0)).1))] ∧ St w w' [.blk b16 (intV ((F_flagsOf_L1 f0 f1 (Int.toNat (11 - 0) + 1) 0 (List.replicate 11 0)).2)).toArray 108, .blk b8 (intV (List.replicate 11 0)).toArray 108, .blk b2 #[.int .i64 f0, .slice f1A f1.length f1C] 30, .rd 1 f1A f1.length f1C f1]) ?_ ?_
  ·
   refine wp_block ?_
   refine c_loop (fun r a' w' => ∃ t5 : Int, ∃ x4a : List Int, F_flagsOf_L1 f0 f1 r t5 x4a = F_flagsOf_L1 f0 f1 (Int.toNat (11 - 0) + 1) 0 (List.replicate 11 0) ∧ Int.toNat (11 - t5) < r ∧ (0 ≤ t5) ∧ (x4a.length = 11) ∧ E a' 16 [(1, .pointer (some ⟨b2, 0, none⟩)), (2, .pointer (some ⟨b8, 0, none⟩)), (3, .pointer (some ⟨b16, 0, none⟩)), (5, .int .i64 t5)] ∧ St w w' [.blk b16 (intV x4a).toArray 108, .blk b8 (intV (List.replicate 11 0)).toArray 108, .blk b2 #[.int .i64 f0, .slice f1A f1.length f1C] 30, .rd 1 f1A f1.length f1C f1]) (r := (Int.toNat (11 - 0) + 1)) ?_ ?_
   · exact ⟨0, List.replicate 11 0, rfl, Nat.lt_succ_self _, (by first | omega | (simp only [sS_len, sL_len]; omega) | (simp only [List.length_replicate, sI_len]; omega) | (simp only [List.length_append, List.length_cons, List.length_nil, sI_len, cond_true, cond_false]; omega) | (simp only [List.length_append, List.length_cons, List.length_nil, sI_len, cond_eq_ite, apply_ite List.length]; split <;> simp only [List.length_append, List.length_cons, List.length_nil, sI_len] <;> omega) | grind), rfl, (hE26.sub (L' := [(1, .pointer (some ⟨b2, 0, none⟩)), (2, .pointer (some ⟨b8, 0, none⟩)), (3, .pointer (some ⟨b16, 0, none⟩)), (5, .int .i64 0)]) ⟨rfl, rfl, rfl, rfl, trivial⟩), (St.pick (Γ' := [.blk b16 (intV (List.replicate 11 0)).toArray 108, .blk b8 (intV (List.replicate 11 0)).toArray 108, .blk b2 #[.int .i64 f0, .slice f1A f1.length f1C] 30, .rd 1 f1A f1.length f1C f1]) hS20 [0, 1, 2, 3] (by decide) rfl)⟩
   ·
    clear hE26 hS20
    rintro r36 a28 w29 ⟨t5, x4a, hT32, hr33, hi34, hi35, hE30, hS31⟩
    obtain ⟨r36, rfl⟩ : ∃ r', r36 = r' + 1 := ⟨r36 - 1, by omega⟩
    refine c_seq ?_
    refine c_reg ?_
    refine q_step (v := .bool (decide (t5 < 11))) hE30 (y_lss rfl rfl) rfl rfl rfl ?_; intro a37 hE38; clear hE30
    refine c_nil ?_
    have hE39 := hE38.sub (L' := [(1, .pointer (some ⟨b2, 0, none⟩)), (2, .pointer (some ⟨b8, 0, none⟩)), (3, .pointer (some ⟨b16, 0, none⟩)), (5, .int .i64 t5), (6, .bool (decide (t5 < 11)))]) ⟨rfl, rfl, rfl, rfl, rfl, trivial⟩; clear hE38
    refine p_tn ?_
    refine c_seq ?_
    refine c_cond hE39 rfl (fun ht40 => ?_) (fun ht40 => ?_)
    ·
     have hp41 := of_decide_eq_true ht40
     have hE42 := hE39; rw [ht40] at hE42; clear hE39
     refine wp_skip ?_
     refine p_tn ?_
     refine c_seq ?_
     refine wp_block ?_
     refine c_seq ?_
     refine c_reg ?_
     refine q_step (v := .int .i64 t5) hE42 (y_move rfl) rfl rfl rfl ?_; intro a43 hE44; clear hE42
     refine q_step (v := .int .i64 t5) hE44 (y_assign rfl) rfl rfl rfl ?_; intro a45 hE46; clear hE44
     refine c_nil ?_
     have hE47 := hE46.sub (L' := [(1, .pointer (some ⟨b2, 0, none⟩)), (2, .pointer (some ⟨b8, 0, none⟩)), (3, .pointer (some ⟨b16, 0, none⟩)), (4, .int .i64 t5), (5, .int .i64 t5)]) ⟨rfl, rfl, rfl, rfl, rfl, trivial⟩; clear hE46
     refine p_tn ?_
     refine c_reg ?_
     refine q_step (v := .int .i64 t5) hE47 (y_move rfl) rfl rfl rfl ?_; intro a48 hE49; clear hE47
     refine q_step (v := .agg #[.int .i64 f0, .slice f1A f1.length f1C]) hE49 (y_loadS Try.underlying30 rfl (by kernel_rfl) rfl (St.row (i := 2) hS31 rfl)) rfl rfl rfl ?_; intro a50 hE51; clear hE49
     refine q_step (v := .int .i64 t5) hE51 (y_move rfl) rfl rfl rfl ?_; intro a52 hE53; clear hE51
     refine l_step hE53 rfl (l_call (f := 176) (argv := [.agg #[.int .i64 f0, .slice f1A f1.length f1C], .int .i64 t5]) hE53 (fun _ => cf_Frame_hasFlag _ _) rfl rfl (c_Frame_hasFlag f0 f1A f1.length f1C f1 t5 w29 (St.rdR (i := 3) hS31 rfl) (by omega) (by omega) hfm) ?_)
     rintro _ w55 ⟨rfl, he59⟩ a56 hE57; clear hE53
     have hS58 := St.go hS31 he59; clear hS31
     refine l_step hE57 rfl (l_call (f := 180) (argv := [.bool (F_Frame_hasFlag f0 f1 t5)]) hE57 (fun _ => cf_one _ _) rfl rfl (c_one (F_Frame_hasFlag f0 f1 t5) w55) ?_)
     rintro _ _ ⟨rfl, rfl⟩ a62 hE63; clear hE57
     refine q_step (v := .pointer (some ⟨b16, Int.toNat t5, none⟩)) hE63 (y_idxA (by kernel_rfl) (fun _ => by kernel_rfl) rfl rfl (by omega) (show t5 < (11 : Int) from (by omega))) rfl rfl rfl ?_; intro a66 hE67; clear hE63
     refine l_step hE67 rfl (l_storeA (k := 0) hS58 hE67 (fun _ => by kernel_rfl) rfl rfl rfl (by omega) (by omega) ?_)
     intro w69 hS72 a70 hE71; clear hS58 hE67
     refine c_nil ?_
     have hE74 := hE71.sub (L' := [(1, .pointer (some ⟨b2, 0, none⟩)), (2, .pointer (some ⟨b8, 0, none⟩)), (3, .pointer (some ⟨b16, 0, none⟩)), (5, .int .i64 t5)]) ⟨rfl, rfl, rfl, rfl, trivial⟩; clear hE71
     refine p_bn ?_
     refine p_tn ?_
     refine c_reg ?_
     refine q_step (v := .int .i64 (t5 + 1)) hE74 (y_add rfl rfl ⟨(by omega), (by omega)⟩) rfl rfl rfl ?_; intro a75 hE76; clear hE74
     refine q_step (v := .int .i64 (t5 + 1)) hE76 (y_move rfl) rfl rfl rfl ?_; intro a77 hE78; clear hE76
     refine c_nil ?_
     have hE79 := hE78.sub (L' := [(1, .pointer (some ⟨b2, 0, none⟩)), (2, .pointer (some ⟨b8, 0, none⟩)), (3, .pointer (some ⟨b16, 0, none⟩)), (5, .int .i64 (t5 + 1))]) ⟨rfl, rfl, rfl, rfl, trivial⟩; clear hE78
     refine p_tn ⟨r36, Nat.lt_succ_self _, t5 + 1, sI x4a t5 (F_one (F_Frame_hasFlag f0 f1 t5)), (hT32.symm.trans (show F_flagsOf_L1b f0 f1 (F_flagsOf_L1 f0 f1 r36) t5 x4a = F_flagsOf_L1 f0 f1 r36 (t5 + 1) (sI x4a t5 (F_one (F_Frame_hasFlag f0 f1 t5))) by unfold F_flagsOf_L1b; rw [ht40]; first | done | rfl)).symm, (by omega), (by first | omega | (simp only [sS_len, sL_len]; omega) | (simp only [List.length_replicate, sI_len]; omega) | (simp only [List.length_append, List.length_cons, List.length_nil, sI_len, cond_true, cond_false]; omega) | (simp only [List.length_append, List.length_cons, List.length_nil, sI_len, cond_eq_ite, apply_ite List.length]; split <;> simp only [List.length_append, List.length_cons, List.length_nil, sI_len] <;> omega) | grind), (by rw [sI_len]; assumption), (hE79.sub (L' := [(1, .pointer (some ⟨b2, 0, none⟩)), (2, .pointer (some ⟨b8, 0, none⟩)), (3, .pointer (some ⟨b16, 0, none⟩)), (5, .int .i64 (t5 + 1))]) ⟨rfl, rfl, rfl, rfl, trivial⟩), (St.pick (Γ' := [.blk b16 (intV (sI x4a t5 (F_one (F_Frame_hasFlag f0 f1 t5)))).toArray 108, .blk b8 (intV (List.replicate 11 0)).toArray 108, .blk b2 #[.int .i64 f0, .slice f1A f1.length f1C] 30, .rd 1 f1A f1.length f1C f1]) hS72 [0, 1, 2, 3] (by decide) rfl)⟩
    ·
     have hp80 := of_decide_eq_false ht40
     have hE81 := hE39; rw [ht40] at hE81; clear hE39
     refine wp_exit ?_
     refine p_te ?_
     have hX82 : F_flagsOf_L1 f0 f1 (Int.toNat (11 - 0) + 1) 0 (List.replicate 11 0) = (t5, x4a) := hT32.symm.trans (show F_flagsOf_L1b f0 f1 (F_flagsOf_L1 f0 f1 r36) t5 x4a = (t5, x4a) by unfold F_flagsOf_L1b; rw [ht40]; first | done | rfl)
     refine p_te (p_be (p_tn ?_))
     exact ⟨(by rw [hX82]; exact (show 0 ≤ t5 from (by first | omega | (simp only [sS_len, sL_len]; omega) | (simp only [List.length_replicate, sI_len]; omega) | (simp only [List.length_append, List.length_cons, List.length_nil, sI_len, cond_true, cond_false]; omega) | (simp only [List.length_append, List.length_cons, List.length_nil, sI_len, cond_eq_ite, apply_ite List.length]; split <;> simp only [List.length_append, List.length_cons, List.length_nil, sI_len] <;> omega) | grind))), (by rw [hX82]; exact (show x4a.length = 11 from (by first | omega | (simp only [sS_len, sL_len]; omega) | (simp only [List.length_replicate, sI_len]; omega) | (simp only [List.length_append, List.length_cons, List.length_nil, sI_len, cond_true, cond_false]; omega) | (simp only [List.length_append, List.length_cons, List.length_nil, sI_len, cond_eq_ite, apply_ite List.length]; split <;> simp only [List.length_append, List.length_cons, List.length_nil, sI_len] <;> omega) | grind))), (by rw [hX82]; exact (hE81.sub (L' := [(1, .pointer (some ⟨b2, 0, none⟩)), (2, .pointer (some ⟨b8, 0, none⟩)), (3, .pointer (some ⟨b16, 0, none⟩)), (5, .int .i64 t5)]) ⟨rfl, rfl, rfl, rfl, trivial⟩)), (by rw [hX82]; exact (St.pick (Γ' := [.blk b16 (intV x4a).toArray 108, .blk b8 (intV (List.replicate 11 0)).toArray 108, .blk b2 #[.int .i64 f0, .slice f1A f1.length f1C] 30, .rd 1 f1A f1.length f1C f1]) hS31 [0, 1, 2, 3] (by decide) rfl))⟩
  ·
   rintro a83 w84 ⟨hi88, hi89, hE85, hS86⟩; clear hE26 hS20
   refine p_tn ?_
   refine c_seq ?_
   refine c_reg ?_
   refine q_step (v := .agg (intV ((F_flagsOf_L1 f0 f1 (Int.toNat (11 - 0) + 1) 0 (List.replicate 11 0)).2)).toArray) hE85 (y_loadS Try.underlying108 rfl (intV_size (show (Try.prog.info? 108).map (·.size) = some 11 by kernel_rfl) (by first | rfl | omega | assumption | (simp only [sI_len]; omega) | (simp only [sI_len]))) rfl (St.row (i := 0) hS86 rfl)) rfl rfl rfl ?_; intro a90 hE91; clear hE85
   refine l_step hE91 rfl (l_storeS (k := 1) (cs' := (intV ((F_flagsOf_L1 f0 f1 (Int.toNat (11 - 0) + 1) 0 (List.replicate 11 0)).2)).toArray) hS86 hE91 (intV_size (show (Try.prog.info? 108).map (·.size) = some 11 by kernel_rfl) (by first | rfl | omega | assumption | (simp only [sI_len]; omega) | (simp only [sI_len]))) rfl rfl (intV_one _) rfl (by rw [List.size_toArray, List.size_toArray, intV_len, intV_len]; exact Eq.trans (show (List.replicate 11 0).length = 11 from (by first | rfl | omega | assumption | (simp only [sI_len]; omega) | (simp only [sI_len]))) (show 11 = ((F_flagsOf_L1 f0 f1 (Int.toNat (11 - 0) + 1) 0 (List.replicate 11 0)).2).length from Eq.symm (by first | rfl | omega | assumption | (simp only [sI_len]; omega) | (simp only [sI_len])))) ?_)
   intro w93 hS96 a94 hE95; clear hS86 hE91
   refine c_nil ?_
   have hE98 := hE95.sub (L' := [(2, .pointer (some ⟨b8, 0, none⟩))]) ⟨rfl, trivial⟩; clear hE95
   refine p_tn ?_
   refine wp_ret ?_
   have hF : F_flagsOf f0 f1 = (F_flagsOf_L1 f0 f1 (Int.toNat (11 - 0) + 1) 0 (List.replicate 11 0)).2 := by unfold F_flagsOf; rfl
   refine c_retC hE98 rfl rfl Try.underlying108 rfl (intV_size (show (Try.prog.info? 108).map (·.size) = some 11 by kernel_rfl) (by first | rfl | omega | assumption | (simp only [sI_len]; omega) | (simp only [sI_len]))) (St.row (i := 1) hS96 rfl _ (Ext.refl _)) ?_
   exact ⟨(by rw [hF]; first | done | (dsimp only; done) | rfl), hS96.ext⟩

theorem flagsOf_map (f0 : Int) (f1 : List Int) : F_flagsOf f0 f1 = (List.range 11).map fun (j : Nat) => F_one (F_Frame_hasFlag f0 f1 (j : Int)) := by
  unfold F_flagsOf
  obtain ⟨h1, h2⟩ := mapLoop 11 (fun t _ => F_one (F_Frame_hasFlag f0 f1 t)) (F_flagsOf_L1 f0 f1) (fun _ _ _ _ _ => rfl) (List.replicate 11 0) rfl
  exact list_map_ext (by omega) fun j hj => h2 j (by omega)
theorem flagsOf_len (f0 : Int) (f1 : List Int) : (F_flagsOf f0 f1).length = 11 := by rw [flagsOf_map]; simp

def F_l05Flags_L1b (f0 : Int) (f1 : List Int) (rec : (List Int) → Int → (List Int) × Int) (out3 : List Int) (flag4 : Int) : (List Int) × Int :=
  bif (decide (flag4 ≤ 10)) then (rec (bif (F_l05Flag f0 f1 flag4) then out3 ++ ([1]) else out3 ++ ([0])) (flag4 + 1)) else (out3, flag4)
def F_l05Flags_L1 (f0 : Int) (f1 : List Int) : Nat → (List Int) → Int → (List Int) × Int
  | 0, out3, flag4 => (out3, flag4)
  | r + 1, out3, flag4 => F_l05Flags_L1b f0 f1 (F_l05Flags_L1 f0 f1 r) out3 flag4
def F_l05Flags (f0 : Int) (f1 : List Int) : List Int :=
  (F_l05Flags_L1 f0 f1 (Int.toNat (10 + 1 - 0) + 1) ([]) 0).1
theorem cf_l05Flags (args : Array Value) (w : World) : (callFunc 102 args).run Try.prog w = .ok (.enter 102 args) w := by kernel_rfl
set_option maxRecDepth 100000 in
theorem c_l05Flags (f0 : Int) (f1A : Option Addr) (f1N f1C : Nat) (f1 : List Int) (w : World) (f1R : RdS w 1 f1A f1N f1C f1) (hf : 0 ≤ f0 ∧ f0 ≤ 8) (hfl : (f1.length : Int) = f0) (hfm : ∀ m : Int, 0 ≤ m → m < (f1.length : Int) → 0 ≤ gI f1 m ∧ gI f1 m ≤ fullI f0) :
    Calls Try.prog 102 #[.agg #[.int .i64 f0, .slice f1A f1N f1C]] w (Ret fun v w' => ∃ b1 : Option Addr, ∃ c1 : Nat, v = .slice b1 (F_l05Flags f0 f1).length c1 ∧ OwnS w' w.heap.size 2 1 b1 (F_l05Flags f0 f1).length c1 (F_l05Flags f0 f1) ∧ Ext w w') := by
  obtain rfl : f1N = f1.length := f1R.len1.symm
  have f1Le := f1R.le
  have hS := St.nil w
  have hS1 := St.rd0 hS rfl f1R; clear hS
  refine enter (args := [.agg #[.int .i64 f0, .slice f1A f1.length f1C]]) Try.func102 rfl rfl ?_
  rw [Try.ntmps102]; intro a hE
  have hE := hE.sub (L' := [(0, .agg #[.int .i64 f0, .slice f1A f1.length f1C])]) ⟨rfl, trivial⟩
  refine c_seq ?_
  refine c_reg ?_
  refine l_step hE rfl (l_box (v := .agg #[.int .i64 f0, .slice f1A f1.length f1C]) (cs := #[.int .i64 f0, .slice f1A f1.length f1C]) hS1 hE rfl rfl rfl ?_)
  intro b2 w3 hS6 he7 a4 hE5; clear hS1 hE
  refine q_step (v := .slice none 0 0) hE5 (y_assign rfl) rfl rfl rfl ?_; intro a8 hE9; clear hE5
  refine c_nil ?_
  have hE10 := hE9.sub (L' := [(1, .pointer (some ⟨b2, 0, none⟩))]) ⟨rfl, trivial⟩; clear hE9
  refine p_tn ?_
  refine c_seq ?_
  refine c_reg ?_
  refine l_step hE10 rfl (l_lit (e := 2) (s := 1) (xs := []) (vs := []) hS6 hE10 rfl (fun _ => by kernel_rfl) rfl rfl rfl ?_)
  intro b11 w12 hS15 he16 a13 hE14; clear hS6 hE10
  refine q_step (v := .slice (some ⟨b11, 0, none⟩) 0 0) hE14 (y_assign rfl) rfl rfl rfl ?_; intro a17 hE18; clear hE14
  refine c_nil ?_
  have hE19 := hE18.sub (L' := [(1, .pointer (some ⟨b2, 0, none⟩)), (3, .slice (some ⟨b11, 0, none⟩) 0 0)]) ⟨rfl, rfl, trivial⟩; clear hE18
  refine p_tn ?_
  refine c_seq ?_
  refine c_seq ?_
  refine c_reg ?_
  refine q_step (v := .int .i64 0) hE19 (y_assign rfl) rfl rfl rfl ?_; intro a20 hE21; clear hE19
  refine c_nil ?_
  have hE22 := hE21.sub (L' := [(1, .pointer (some ⟨b2, 0, none⟩)), (3, .slice (some ⟨b11, 0, none⟩) 0 0), (4, .int .i64 0)]) ⟨rfl, rfl, rfl, trivial⟩; clear hE21
  refine p_tn ?_
  refine c_cut1 (fun a' w' => ∃ out3A_23 : Option Addr, ∃ out3C_23 : Nat, (0 ≤ ((F_l05Flags_L1 f0 f1 (Int.toNat (10 + 1 - 0) + 1) ([]) 0).2)) ∧ ((((F_l05Flags_L1 f0 f1 (Int.toNat (10 + 1 - 0) + 1) ([]) 0).1).length : Int) = ((F_l05Flags_L1 f0 f1 (Int.toNat (10 + 1 - 0) + 1) ([]) 0).2)) ∧ ((((F_l05Flags_L1 f0 f1 (Int.toNat (10 + 1 - 0) + 1) ([]) 0).1).length : Int) ≤ ((F_l05Flags_L1 f0 f1 (Int.toNat (10 + 1 - 0) + 1) ([]) 0).2)) ∧ E a' 20 [(1, .pointer (some ⟨b2, 0, none⟩)), (3, .slice out3A_23 (((F_l05Flags_L1 f0 f1 (Int.toNat (10 + 1 - 0) + 1) ([]) 0).1).length) out3C_23), (4, .int .i64 ((F_l05Flags_L1 f0 f1 (Int.toNat (10 + 1 - 0) + 1) ([]) 0).2))] ∧ St w w' [.own 2 1 out3A_23 (((F_l05Flags_L1 f0 f1 (Int.toNat (10 + 1 - 0) + 1) ([]) 0).1).length) out3C_23 ((F_l05Flags_L1 f0 f1 (Int.toNat (10 + 1 - 0) + 1) ([]) 0).1), .blk b2 #[.int .i64 f0, .slice f1A f1.length f1C] 30, .rd 1 f1A f1.length f1C f1]) ?_ ?_
  ·
   refine wp_block ?_
   refine c_loop (fun r a' w' => ∃ out3 : List Int, ∃ flag4 : Int, ∃ out3A : Option Addr, ∃ out3C : Nat, F_l05Flags_L1 f0 f1 r out3 flag4 = F_l05Flags_L1 f0 f1 (Int.toNat (10 + 1 - 0) + 1) ([]) 0 ∧ Int.toNat (10 + 1 - flag4) < r ∧ (0 ≤ flag4) ∧ ((out3.length : Int) = flag4) ∧ ((out3.length : Int) ≤ flag4) ∧ E a' 20 [(1, .pointer (some ⟨b2, 0, none⟩)), (3, .slice out3A ((out3).length) out3C), (4, .int .i64 flag4)] ∧ St w w' [.own 2 1 out3A ((out3).length) out3C out3, .blk b2 #[.int .i64 f0, .slice f1A f1.length f1C] 30, .rd 1 f1A f1.length f1C f1]) (r := (Int.toNat (10 + 1 - 0) + 1)) ?_ ?_
   · exact ⟨[], 0, some ⟨b11, 0, none⟩, 0, rfl, Nat.lt_succ_self _, (by first | omega | (simp only [sS_len, sL_len]; omega) | (simp only [List.length_replicate, sI_len]; omega) | (simp only [List.length_append, List.length_cons, List.length_nil, sI_len, cond_true, cond_false]; omega) | (simp only [List.length_append, List.length_cons, List.length_nil, sI_len, cond_eq_ite, apply_ite List.length]; split <;> simp only [List.length_append, List.length_cons, List.length_nil, sI_len] <;> omega) | grind), (by first | omega | (simp only [sS_len, sL_len]; omega) | (simp only [List.length_replicate, sI_len]; omega) | (simp only [List.length_append, List.length_cons, List.length_nil, sI_len, cond_true, cond_false]; omega) | (simp only [List.length_append, List.length_cons, List.length_nil, sI_len, cond_eq_ite, apply_ite List.length]; split <;> simp only [List.length_append, List.length_cons, List.length_nil, sI_len] <;> omega) | grind), (by first | omega | (simp only [sS_len, sL_len]; omega) | (simp only [List.length_replicate, sI_len]; omega) | (simp only [List.length_append, List.length_cons, List.length_nil, sI_len, cond_true, cond_false]; omega) | (simp only [List.length_append, List.length_cons, List.length_nil, sI_len, cond_eq_ite, apply_ite List.length]; split <;> simp only [List.length_append, List.length_cons, List.length_nil, sI_len] <;> omega) | grind), (hE22.sub (L' := [(1, .pointer (some ⟨b2, 0, none⟩)), (3, .slice (some ⟨b11, 0, none⟩) 0 0), (4, .int .i64 0)]) ⟨rfl, rfl, rfl, trivial⟩), (St.pick (Γ' := [.own 2 1 (some ⟨b11, 0, none⟩) 0 0 ([]), .blk b2 #[.int .i64 f0, .slice f1A f1.length f1C] 30, .rd 1 f1A f1.length f1C f1]) hS15 [0, 1, 2] (by decide) rfl)⟩
   ·
    clear hE22 hS15
    rintro r33 a24 w25 ⟨out3, flag4, out3A, out3C, hT28, hr29, hi30, hi31, hi32, hE26, hS27⟩
    obtain ⟨r33, rfl⟩ : ∃ r', r33 = r' + 1 := ⟨r33 - 1, by omega⟩
    refine c_seq ?_
    refine c_seq ?_
    refine c_reg ?_
    refine q_step (v := .int .i64 flag4) hE26 (y_move rfl) rfl rfl rfl ?_; intro a34 hE35; clear hE26
    refine q_step (v := .bool (decide (flag4 ≤ 10))) hE35 (y_leq rfl rfl) rfl rfl rfl ?_; intro a36 hE37; clear hE35
    refine c_nil ?_
    have hE38 := hE37.sub (L' := [(1, .pointer (some ⟨b2, 0, none⟩)), (3, .slice out3A ((out3).length) out3C), (4, .int .i64 flag4), (7, .bool (decide (flag4 ≤ 10)))]) ⟨rfl, rfl, rfl, rfl, trivial⟩; clear hE37
    refine p_tn ?_
    refine c_cond hE38 rfl (fun ht39 => ?_) (fun ht39 => ?_)
    ·
     have hp40 := of_decide_eq_true ht39
     have hE41 := hE38; rw [ht39] at hE41; clear hE38
     refine wp_skip ?_
     refine p_tn ?_
     refine c_cut (fun a' w' => ∃ b42 : Option Addr, ∃ c43 : Nat, E a' 20 [(1, .pointer (some ⟨b2, 0, none⟩)), (3, .slice b42 ((bif (F_l05Flag f0 f1 flag4) then out3 ++ ([1]) else out3 ++ ([0])).length) c43), (4, .int .i64 flag4)] ∧ St w w' [.own 2 1 b42 ((bif (F_l05Flag f0 f1 flag4) then out3 ++ ([1]) else out3 ++ ([0])).length) c43 (bif (F_l05Flag f0 f1 flag4) then out3 ++ ([1]) else out3 ++ ([0])), .rd 1 f1A f1.length f1C f1, .blk b2 #[.int .i64 f0, .slice f1A f1.length f1C] 30]) ?_ ?_
     ·
      refine wp_block ?_
      refine c_seq ?_
      refine c_reg ?_
      refine q_step (v := .agg #[.int .i64 f0, .slice f1A f1.length f1C]) hE41 (y_loadS Try.underlying30 rfl (by kernel_rfl) rfl (St.row (i := 1) hS27 rfl)) rfl rfl rfl ?_; intro a44 hE45; clear hE41
      refine q_step (v := .int .i64 flag4) hE45 (y_move rfl) rfl rfl rfl ?_; intro a46 hE47; clear hE45
      refine l_step hE47 rfl (l_call (f := 171) (argv := [.agg #[.int .i64 f0, .slice f1A f1.length f1C], .int .i64 flag4]) hE47 (fun _ => cf_l05Flag _ _) rfl rfl (c_l05Flag f0 f1A f1.length f1C f1 flag4 w25 (St.rdR (i := 2) hS27 rfl) (by omega) (by omega) hfm) ?_)
      rintro _ w49 ⟨rfl, he53⟩ a50 hE51; clear hE47
      have hS52 := St.go hS27 he53; clear hS27
      refine c_nil ?_
      have hE54 := hE51.sub (L' := [(1, .pointer (some ⟨b2, 0, none⟩)), (3, .slice out3A ((out3).length) out3C), (4, .int .i64 flag4), (12, .bool (F_l05Flag f0 f1 flag4))]) ⟨rfl, rfl, rfl, rfl, trivial⟩; clear hE51
      refine p_tn ?_
      refine c_cond hE54 rfl (fun ht55 => ?_) (fun ht55 => ?_)
      ·
       have hE56 := hE54; rw [ht55] at hE56; clear hE54
       refine c_reg ?_
       refine q_step (v := .slice out3A ((out3).length) out3C) hE56 (y_move rfl) rfl rfl rfl ?_; intro a57 hE58; clear hE56
       refine l_step hE58 rfl (l_lit (e := 2) (s := 1) (xs := [1]) (vs := [.int .i64 1]) hS52 hE58 rfl (fun _ => by kernel_rfl) rfl rfl rfl ?_)
       intro b59 w60 hS63 he64 a61 hE62; clear hS52 hE58
       obtain ⟨_, hi1, hi2, hi3, hi4⟩ := info_parts (show (Try.prog.info? 2).map (fun i => (i.zero, i.size, i.bytes)) = some (some (.int .i64 0), 1, 8) by kernel_rfl)
       refine l_step hE62 rfl (l_append (k := 1) (n' := (out3 ++ ([1])).length) hS63 hE62 (by kernel_rfl) hi1 hi2 hi3 rfl (by decide) (by rw [hi4]; decide) rfl rfl rfl (St.rdO (i := 0) hS63 rfl) (by first | omega | (simp only [List.length_append, List.length_cons, List.length_nil]; omega)) (by have h1 := (St.rdO (i := 1) hS63 rfl).len1; have h2 := (St.rdO (i := 0) hS63 rfl).len1; rw [List.length_append, h1, h2]) rfl ?_)
       intro b65 c71 w66 hS69 a67 hE68; clear hS63 hE62 hi1 hi2 hi3 hi4
       refine q_step (v := .slice b65 ((out3 ++ ([1])).length) c71) hE68 (y_assign rfl) rfl rfl rfl ?_; intro a72 hE73; clear hE68
       refine c_nil ?_
       have hE74 := hE73.sub (L' := [(1, .pointer (some ⟨b2, 0, none⟩)), (3, .slice b65 ((out3 ++ ([1])).length) c71), (4, .int .i64 flag4)]) ⟨rfl, rfl, rfl, trivial⟩; clear hE73
       refine p_bn ?_
       refine p_tn ?_
       have hE75 := hE74.sub (L' := [(1, .pointer (some ⟨b2, 0, none⟩)), (3, .slice b65 ((out3 ++ ([1])).length) c71), (4, .int .i64 flag4)]) ⟨rfl, rfl, rfl, trivial⟩
       have hS76 := (St.pick (Γ' := [.own 2 1 b65 ((out3 ++ ([1])).length) c71 (out3 ++ ([1])), .rd 1 f1A f1.length f1C f1, .blk b2 #[.int .i64 f0, .slice f1A f1.length f1C] 30]) hS69 [1, 3, 2] (by decide) rfl)
       exact ⟨b65, c71, (by rw [ht55]; exact hE75), (by rw [ht55]; exact hS76)⟩
      ·
       have hE77 := hE54; rw [ht55] at hE77; clear hE54
       refine c_reg ?_
       refine q_step (v := .slice out3A ((out3).length) out3C) hE77 (y_move rfl) rfl rfl rfl ?_; intro a78 hE79; clear hE77
       refine l_step hE79 rfl (l_lit (e := 2) (s := 1) (xs := [0]) (vs := [.int .i64 0]) hS52 hE79 rfl (fun _ => by kernel_rfl) rfl rfl rfl ?_)
       intro b80 w81 hS84 he85 a82 hE83; clear hS52 hE79
       obtain ⟨_, hi1, hi2, hi3, hi4⟩ := info_parts (show (Try.prog.info? 2).map (fun i => (i.zero, i.size, i.bytes)) = some (some (.int .i64 0), 1, 8) by kernel_rfl)
       refine l_step hE83 rfl (l_append (k := 1) (n' := (out3 ++ ([0])).length) hS84 hE83 (by kernel_rfl) hi1 hi2 hi3 rfl (by decide) (by rw [hi4]; decide) rfl rfl rfl (St.rdO (i := 0) hS84 rfl) (by first | omega | (simp only [List.length_append, List.length_cons, List.length_nil]; omega)) (by have h1 := (St.rdO (i := 1) hS84 rfl).len1; have h2 := (St.rdO (i := 0) hS84 rfl).len1; rw [List.length_append, h1, h2]) rfl ?_)
       intro b86 c92 w87 hS90 a88 hE89; clear hS84 hE83 hi1 hi2 hi3 hi4
       refine q_step (v := .slice b86 ((out3 ++ ([0])).length) c92) hE89 (y_assign rfl) rfl rfl rfl ?_; intro a93 hE94; clear hE89
       refine c_nil ?_
       have hE95 := hE94.sub (L' := [(1, .pointer (some ⟨b2, 0, none⟩)), (3, .slice b86 ((out3 ++ ([0])).length) c92), (4, .int .i64 flag4)]) ⟨rfl, rfl, rfl, trivial⟩; clear hE94
       refine p_bn ?_
       refine p_tn ?_
       have hE96 := hE95.sub (L' := [(1, .pointer (some ⟨b2, 0, none⟩)), (3, .slice b86 ((out3 ++ ([0])).length) c92), (4, .int .i64 flag4)]) ⟨rfl, rfl, rfl, trivial⟩
       have hS97 := (St.pick (Γ' := [.own 2 1 b86 ((out3 ++ ([0])).length) c92 (out3 ++ ([0])), .rd 1 f1A f1.length f1C f1, .blk b2 #[.int .i64 f0, .slice f1A f1.length f1C] 30]) hS90 [1, 3, 2] (by decide) rfl)
       exact ⟨b86, c92, (by rw [ht55]; exact hE96), (by rw [ht55]; exact hS97)⟩
     ·
      rintro a98 w99 ⟨b42, c43, hE100, hS101⟩; clear hE41 hS27
      refine c_reg ?_
      refine q_step (v := .int .i64 flag4) hE100 (y_move rfl) rfl rfl rfl ?_; intro a103 hE104; clear hE100
      refine q_step (v := .int .i64 (flag4 + 1)) hE104 (y_add rfl rfl ⟨(by omega), (by omega)⟩) rfl rfl rfl ?_; intro a105 hE106; clear hE104
      refine q_step (v := .int .i64 (flag4 + 1)) hE106 (y_assign rfl) rfl rfl rfl ?_; intro a107 hE108; clear hE106
      refine c_nil ?_
      have hE109 := hE108.sub (L' := [(1, .pointer (some ⟨b2, 0, none⟩)), (3, .slice b42 ((bif (F_l05Flag f0 f1 flag4) then out3 ++ ([1]) else out3 ++ ([0])).length) c43), (4, .int .i64 (flag4 + 1))]) ⟨rfl, rfl, rfl, trivial⟩; clear hE108
      have hl110 := (St.rdO (i := 0) hS101 rfl).len1
      refine p_tn ⟨r33, Nat.lt_succ_self _, bif (F_l05Flag f0 f1 flag4) then out3 ++ ([1]) else out3 ++ ([0]), flag4 + 1, b42, c43, (hT28.symm.trans (show F_l05Flags_L1b f0 f1 (F_l05Flags_L1 f0 f1 r33) out3 flag4 = F_l05Flags_L1 f0 f1 r33 (bif (F_l05Flag f0 f1 flag4) then out3 ++ ([1]) else out3 ++ ([0])) (flag4 + 1) by unfold F_l05Flags_L1b; rw [ht39]; first | done | rfl)).symm, (by omega), (by first | omega | (simp only [sS_len, sL_len]; omega) | (simp only [List.length_replicate, sI_len]; omega) | (simp only [List.length_append, List.length_cons, List.length_nil, sI_len, cond_true, cond_false]; omega) | (simp only [List.length_append, List.length_cons, List.length_nil, sI_len, cond_eq_ite, apply_ite List.length]; split <;> simp only [List.length_append, List.length_cons, List.length_nil, sI_len] <;> omega) | grind), (by first | omega | (simp only [sS_len, sL_len]; omega) | (simp only [List.length_replicate, sI_len]; omega) | (simp only [List.length_append, List.length_cons, List.length_nil, sI_len, cond_true, cond_false]; omega) | (simp only [List.length_append, List.length_cons, List.length_nil, sI_len, cond_eq_ite, apply_ite List.length]; split <;> simp only [List.length_append, List.length_cons, List.length_nil, sI_len] <;> omega) | grind), (by first | omega | (simp only [sS_len, sL_len]; omega) | (simp only [List.length_replicate, sI_len]; omega) | (simp only [List.length_append, List.length_cons, List.length_nil, sI_len, cond_true, cond_false]; omega) | (simp only [List.length_append, List.length_cons, List.length_nil, sI_len, cond_eq_ite, apply_ite List.length]; split <;> simp only [List.length_append, List.length_cons, List.length_nil, sI_len] <;> omega) | grind), (hE109.sub (L' := [(1, .pointer (some ⟨b2, 0, none⟩)), (3, .slice b42 ((bif (F_l05Flag f0 f1 flag4) then out3 ++ ([1]) else out3 ++ ([0])).length) c43), (4, .int .i64 (flag4 + 1))]) ⟨rfl, rfl, rfl, trivial⟩), (St.pick (Γ' := [.own 2 1 b42 ((bif (F_l05Flag f0 f1 flag4) then out3 ++ ([1]) else out3 ++ ([0])).length) c43 (bif (F_l05Flag f0 f1 flag4) then out3 ++ ([1]) else out3 ++ ([0])), .blk b2 #[.int .i64 f0, .slice f1A f1.length f1C] 30, .rd 1 f1A f1.length f1C f1]) hS101 [0, 2, 1] (by decide) rfl)⟩
    ·
     have hp111 := of_decide_eq_false ht39
     have hE112 := hE38; rw [ht39] at hE112; clear hE38
     refine wp_exit ?_
     refine p_te ?_
     have hX113 : F_l05Flags_L1 f0 f1 (Int.toNat (10 + 1 - 0) + 1) ([]) 0 = (out3, flag4) := hT28.symm.trans (show F_l05Flags_L1b f0 f1 (F_l05Flags_L1 f0 f1 r33) out3 flag4 = (out3, flag4) by unfold F_l05Flags_L1b; rw [ht39]; first | done | rfl)
     refine p_te (p_be (p_tn ?_))
     exact ⟨out3A, out3C, (by rw [hX113]; exact (show 0 ≤ flag4 from (by first | omega | (simp only [sS_len, sL_len]; omega) | (simp only [List.length_replicate, sI_len]; omega) | (simp only [List.length_append, List.length_cons, List.length_nil, sI_len, cond_true, cond_false]; omega) | (simp only [List.length_append, List.length_cons, List.length_nil, sI_len, cond_eq_ite, apply_ite List.length]; split <;> simp only [List.length_append, List.length_cons, List.length_nil, sI_len] <;> omega) | grind))), (by rw [hX113]; exact (show (out3.length : Int) = flag4 from (by first | omega | (simp only [sS_len, sL_len]; omega) | (simp only [List.length_replicate, sI_len]; omega) | (simp only [List.length_append, List.length_cons, List.length_nil, sI_len, cond_true, cond_false]; omega) | (simp only [List.length_append, List.length_cons, List.length_nil, sI_len, cond_eq_ite, apply_ite List.length]; split <;> simp only [List.length_append, List.length_cons, List.length_nil, sI_len] <;> omega) | grind))), (by rw [hX113]; exact (show (out3.length : Int) ≤ flag4 from (by first | omega | (simp only [sS_len, sL_len]; omega) | (simp only [List.length_replicate, sI_len]; omega) | (simp only [List.length_append, List.length_cons, List.length_nil, sI_len, cond_true, cond_false]; omega) | (simp only [List.length_append, List.length_cons, List.length_nil, sI_len, cond_eq_ite, apply_ite List.length]; split <;> simp only [List.length_append, List.length_cons, List.length_nil, sI_len] <;> omega) | grind))), (by rw [hX113]; exact (hE112.sub (L' := [(1, .pointer (some ⟨b2, 0, none⟩)), (3, .slice out3A ((out3).length) out3C), (4, .int .i64 flag4)]) ⟨rfl, rfl, rfl, trivial⟩)), (by rw [hX113]; exact (St.pick (Γ' := [.own 2 1 out3A ((out3).length) out3C out3, .blk b2 #[.int .i64 f0, .slice f1A f1.length f1C] 30, .rd 1 f1A f1.length f1C f1]) hS27 [0, 1, 2] (by decide) rfl))⟩
  ·
   rintro a114 w115 ⟨out3A_23, out3C_23, hi119, hi120, hi121, hE116, hS117⟩; clear hE22 hS15
   refine p_tn ?_
   refine c_seq ?_
   refine c_reg ?_
   refine q_step (v := .slice out3A_23 (((F_l05Flags_L1 f0 f1 (Int.toNat (10 + 1 - 0) + 1) ([]) 0).1).length) out3C_23) hE116 (y_move rfl) rfl rfl rfl ?_; intro a122 hE123; clear hE116
   refine q_step (v := .slice out3A_23 (((F_l05Flags_L1 f0 f1 (Int.toNat (10 + 1 - 0) + 1) ([]) 0).1).length) out3C_23) hE123 (y_assign rfl) rfl rfl rfl ?_; intro a124 hE125; clear hE123
   refine c_nil ?_
   have hE126 := hE125.sub (L' := [(2, .slice out3A_23 (((F_l05Flags_L1 f0 f1 (Int.toNat (10 + 1 - 0) + 1) ([]) 0).1).length) out3C_23)]) ⟨rfl, trivial⟩; clear hE125
   refine p_tn ?_
   refine wp_ret ?_
   have hF : F_l05Flags f0 f1 = (F_l05Flags_L1 f0 f1 (Int.toNat (10 + 1 - 0) + 1) ([]) 0).1 := by unfold F_l05Flags; rfl
   refine c_ret1 hE126 rfl rfl ?_
   exact ⟨out3A_23, out3C_23, (by rw [hF]; first | done | (dsimp only; done) | rfl), (by rw [hF]; (try dsimp only); exact hS117.ok 0 _ rfl), hS117.ext⟩

theorem l05Flags_map (f0 : Int) (f1 : List Int) : F_l05Flags f0 f1 = (List.range 11).map fun (j : Nat) => F_one (F_l05Flag f0 f1 (j : Int)) := by
  unfold F_l05Flags
  have := mapLoop0 (10 + 1) (by decide) (fun t => F_one (F_l05Flag f0 f1 t)) (F_l05Flags_L1 f0 f1) (fun r o t => by
    show F_l05Flags_L1b f0 f1 _ o t = _
    unfold F_l05Flags_L1b
    rw [show decide (t ≤ 10) = decide (t < 10 + 1) from decide_eq_decide.2 (by omega)]
    cases F_l05Flag f0 f1 t <;> rfl)
  rw [this]; rfl
theorem l05Flags_len (f0 : Int) (f1 : List Int) : (F_l05Flags f0 f1).length = 11 := by rw [l05Flags_map]; simp

def F_s_FrameFlags (f0 : Int) (f1 : List Int) : (List Int) × (Int) :=
  bif (!(F_l05Is f0 f1)) then ([], 1) else (F_l05Flags f0 f1, 0)
theorem cf_s_FrameFlags (args : Array Value) (w : World) : (callFunc 39 args).run Try.prog w = .ok (.enter 39 args) w := by kernel_rfl
set_option maxRecDepth 100000 in
theorem c_s_FrameFlags (f0 : Int) (f1A : Option Addr) (f1N f1C : Nat) (f1 : List Int) (w : World) (f1R : RdS w 1 f1A f1N f1C f1) :
    Calls Try.prog 39 #[.agg #[.int .i64 f0, .slice f1A f1N f1C]] w (Ret fun v w' => ∃ b1 : Option Addr, ∃ c1 : Nat, v = .tuple #[.slice b1 ((F_s_FrameFlags f0 f1).1).length c1, .int .i64 ((F_s_FrameFlags f0 f1).2)] ∧ OwnS w' w.heap.size 2 1 b1 ((F_s_FrameFlags f0 f1).1).length c1 ((F_s_FrameFlags f0 f1).1) ∧ Ext w w') := by
  obtain rfl : f1N = f1.length := f1R.len1.symm
  have f1Le := f1R.le
  have hS := St.nil w
  have hS1 := St.rd0 hS rfl f1R; clear hS
  refine enter (args := [.agg #[.int .i64 f0, .slice f1A f1.length f1C]]) Try.func39 rfl rfl ?_
  rw [Try.ntmps39]; intro a hE
  have hE := hE.sub (L' := [(0, .agg #[.int .i64 f0, .slice f1A f1.length f1C])]) ⟨rfl, trivial⟩
  refine c_seq ?_
  refine c_reg ?_
  refine l_step hE rfl (l_box (v := .agg #[.int .i64 f0, .slice f1A f1.length f1C]) (cs := #[.int .i64 f0, .slice f1A f1.length f1C]) hS1 hE rfl rfl rfl ?_)
  intro b2 w3 hS6 he7 a4 hE5; clear hS1 hE
  refine q_step (v := .slice none 0 0) hE5 (y_assign rfl) rfl rfl rfl ?_; intro a8 hE9; clear hE5
  refine q_step (v := .int .i64 0) hE9 (y_assign rfl) rfl rfl rfl ?_; intro a10 hE11; clear hE9
  refine c_nil ?_
  have hE12 := hE11.sub (L' := [(1, .pointer (some ⟨b2, 0, none⟩))]) ⟨rfl, trivial⟩; clear hE11
  refine p_tn ?_
  refine c_seq ?_
  refine c_seq ?_
  refine c_reg ?_
  refine q_step (v := .agg #[.int .i64 f0, .slice f1A f1.length f1C]) hE12 (y_loadS Try.underlying30 rfl (by kernel_rfl) rfl (St.row (i := 0) hS6 rfl)) rfl rfl rfl ?_; intro a13 hE14; clear hE12
  refine l_step hE14 rfl (l_call (f := 94) (argv := [.agg #[.int .i64 f0, .slice f1A f1.length f1C]]) hE14 (fun _ => cf_l05Is _ _) rfl rfl (c_l05Is f0 f1A f1.length f1C f1 w3 (St.rdR (i := 1) hS6 rfl)) ?_)
  rintro _ w16 ⟨rfl, he20⟩ a17 hE18; clear hE14
  have hS19 := St.go hS6 he20; clear hS6
  refine q_step (v := .bool (!(F_l05Is f0 f1))) hE18 (y_not rfl) rfl rfl rfl ?_; intro a21 hE22; clear hE18
  refine c_nil ?_
  have hE23 := hE22.sub (L' := [(1, .pointer (some ⟨b2, 0, none⟩)), (6, .bool (!(F_l05Is f0 f1)))]) ⟨rfl, rfl, trivial⟩; clear hE22
  refine p_tn ?_
  refine c_cond hE23 rfl (fun ht24 => ?_) (fun ht24 => ?_)
  ·
   have ht25 := bn_t ht24
   have hE26 := hE23; rw [ht24] at hE26; clear hE23
   refine c_seq ?_
   refine c_reg ?_
   refine q_step (v := .slice none 0 0) hE26 (y_assign rfl) rfl rfl rfl ?_; intro a27 hE28; clear hE26
   refine q_step (v := .int .i64 1) hE28 (y_assign rfl) rfl rfl rfl ?_; intro a29 hE30; clear hE28
   refine c_nil ?_
   have hE31 := hE30.sub (L' := [(2, .slice none 0 0), (3, .int .i64 1)]) ⟨rfl, rfl, trivial⟩; clear hE30
   refine p_tn ?_
   refine wp_ret ?_
   refine p_tr ?_
   have hF : F_s_FrameFlags f0 f1 = ([], 1) := by unfold F_s_FrameFlags; rw [ht24]; first | done | rfl
   refine c_ret2 hE31 rfl rfl rfl ?_
   exact ⟨none, 0, (by rw [hF]; first | done | (dsimp only; done) | rfl), (by rw [hF]; (try dsimp only); exact OwnS.nilS _ _ _ _), hS19.ext⟩
  ·
   have ht32 := bn_f ht24
   have hp33 := l05Is_t ht32
   have hE34 := hE23; rw [ht24] at hE34; clear hE23
   refine wp_skip ?_
   refine p_tn ?_
   refine c_seq ?_
   refine c_reg ?_
   refine q_step (v := .agg #[.int .i64 f0, .slice f1A f1.length f1C]) hE34 (y_loadS Try.underlying30 rfl (by kernel_rfl) rfl (St.row (i := 0) hS19 rfl)) rfl rfl rfl ?_; intro a35 hE36; clear hE34
   refine l_step hE36 rfl (l_call (f := 102) (argv := [.agg #[.int .i64 f0, .slice f1A f1.length f1C]]) hE36 (fun _ => cf_l05Flags _ _) rfl rfl (c_l05Flags f0 f1A f1.length f1C f1 w16 (St.rdR (i := 1) hS19 rfl) (by omega) (by omega) (l05Is_m (by assumption))) ?_)
   rintro _ w38 ⟨b43, c44, rfl, ho45, he42⟩ a39 hE40; clear hE36
   have hf46 := l05Flags_len f0 f1
   have hS41 := St.own hS19 he42 ho45; clear hS19
   refine q_step (v := .slice b43 ((F_l05Flags f0 f1).length) c44) hE40 (y_assign rfl) rfl rfl rfl ?_; intro a47 hE48; clear hE40
   refine q_step (v := .int .i64 0) hE48 (y_assign rfl) rfl rfl rfl ?_; intro a49 hE50; clear hE48
   refine c_nil ?_
   have hE51 := hE50.sub (L' := [(2, .slice b43 ((F_l05Flags f0 f1).length) c44), (3, .int .i64 0)]) ⟨rfl, rfl, trivial⟩; clear hE50
   refine p_tn ?_
   refine wp_ret ?_
   have hF : F_s_FrameFlags f0 f1 = (F_l05Flags f0 f1, 0) := by unfold F_s_FrameFlags; rw [ht24]; first | done | rfl
   refine c_ret2 hE51 rfl rfl rfl ?_
   exact ⟨b43, c44, (by rw [hF]; first | done | (dsimp only; done) | rfl), (by rw [hF]; (try dsimp only); exact hS41.ok 0 _ rfl), hS41.ext⟩

def F_FrameFlags (f0 : Int) (f1 : List Int) : (List Int) × (Int) :=
  bif (!(F_isFrame f0 f1)) then ([], 1) else (F_flagsOf f0 f1, 0)
theorem cf_FrameFlags (args : Array Value) (w : World) : (callFunc 40 args).run Try.prog w = .ok (.enter 40 args) w := by kernel_rfl
set_option maxRecDepth 100000 in
theorem c_FrameFlags (f0 : Int) (f1A : Option Addr) (f1N f1C : Nat) (f1 : List Int) (w : World) (f1R : RdS w 1 f1A f1N f1C f1) :
    Calls Try.prog 40 #[.agg #[.int .i64 f0, .slice f1A f1N f1C]] w (Ret fun v w' => ∃ b1 : Option Addr, ∃ c1 : Nat, v = .tuple #[.slice b1 ((F_FrameFlags f0 f1).1).length c1, .int .i64 ((F_FrameFlags f0 f1).2)] ∧ OwnS w' w.heap.size 108 1 b1 ((F_FrameFlags f0 f1).1).length c1 ((F_FrameFlags f0 f1).1) ∧ Ext w w') := by
  obtain rfl : f1N = f1.length := f1R.len1.symm
  have f1Le := f1R.le
  have hS := St.nil w
  have hS1 := St.rd0 hS rfl f1R; clear hS
  refine enter (args := [.agg #[.int .i64 f0, .slice f1A f1.length f1C]]) Try.func40 rfl rfl ?_
  rw [Try.ntmps40]; intro a hE
  have hE := hE.sub (L' := [(0, .agg #[.int .i64 f0, .slice f1A f1.length f1C])]) ⟨rfl, trivial⟩
  refine c_seq ?_
  refine c_reg ?_
  refine l_step hE rfl (l_box (v := .agg #[.int .i64 f0, .slice f1A f1.length f1C]) (cs := #[.int .i64 f0, .slice f1A f1.length f1C]) hS1 hE rfl rfl rfl ?_)
  intro b2 w3 hS6 he7 a4 hE5; clear hS1 hE
  refine q_step (v := .slice none 0 0) hE5 (y_assign rfl) rfl rfl rfl ?_; intro a8 hE9; clear hE5
  refine q_step (v := .int .i64 0) hE9 (y_assign rfl) rfl rfl rfl ?_; intro a10 hE11; clear hE9
  refine c_nil ?_
  have hE12 := hE11.sub (L' := [(1, .pointer (some ⟨b2, 0, none⟩))]) ⟨rfl, trivial⟩; clear hE11
  refine p_tn ?_
  refine c_seq ?_
  refine c_seq ?_
  refine c_reg ?_
  refine q_step (v := .agg #[.int .i64 f0, .slice f1A f1.length f1C]) hE12 (y_loadS Try.underlying30 rfl (by kernel_rfl) rfl (St.row (i := 0) hS6 rfl)) rfl rfl rfl ?_; intro a13 hE14; clear hE12
  refine l_step hE14 rfl (l_call (f := 96) (argv := [.agg #[.int .i64 f0, .slice f1A f1.length f1C]]) hE14 (fun _ => cf_isFrame _ _) rfl rfl (c_isFrame f0 f1A f1.length f1C f1 w3 (St.rdR (i := 1) hS6 rfl)) ?_)
  rintro _ w16 ⟨rfl, he20⟩ a17 hE18; clear hE14
  have hS19 := St.go hS6 he20; clear hS6
  refine q_step (v := .bool (!(F_isFrame f0 f1))) hE18 (y_not rfl) rfl rfl rfl ?_; intro a21 hE22; clear hE18
  refine c_nil ?_
  have hE23 := hE22.sub (L' := [(1, .pointer (some ⟨b2, 0, none⟩)), (7, .bool (!(F_isFrame f0 f1)))]) ⟨rfl, rfl, trivial⟩; clear hE22
  refine p_tn ?_
  refine c_cond hE23 rfl (fun ht24 => ?_) (fun ht24 => ?_)
  ·
   have ht25 := bn_t ht24
   have hE26 := hE23; rw [ht24] at hE26; clear hE23
   refine c_seq ?_
   refine c_reg ?_
   refine q_step (v := .slice none 0 0) hE26 (y_assign rfl) rfl rfl rfl ?_; intro a27 hE28; clear hE26
   refine q_step (v := .int .i64 1) hE28 (y_assign rfl) rfl rfl rfl ?_; intro a29 hE30; clear hE28
   refine c_nil ?_
   have hE31 := hE30.sub (L' := [(2, .slice none 0 0), (3, .int .i64 1)]) ⟨rfl, rfl, trivial⟩; clear hE30
   refine p_tn ?_
   refine wp_ret ?_
   refine p_tr ?_
   have hF : F_FrameFlags f0 f1 = ([], 1) := by unfold F_FrameFlags; rw [ht24]; first | done | rfl
   refine c_ret2 hE31 rfl rfl rfl ?_
   exact ⟨none, 0, (by rw [hF]; first | done | (dsimp only; done) | rfl), (by rw [hF]; (try dsimp only); exact OwnS.nilS _ _ _ _), hS19.ext⟩
  ·
   have ht32 := bn_f ht24
   have hp33 := isFrame_t ht32
   have hE34 := hE23; rw [ht24] at hE34; clear hE23
   refine wp_skip ?_
   refine p_tn ?_
   refine c_seq ?_
   refine c_reg ?_
   refine q_step (v := .agg #[.int .i64 f0, .slice f1A f1.length f1C]) hE34 (y_loadS Try.underlying30 rfl (by kernel_rfl) rfl (St.row (i := 0) hS19 rfl)) rfl rfl rfl ?_; intro a35 hE36; clear hE34
   refine l_step hE36 rfl (l_call (f := 103) (argv := [.agg #[.int .i64 f0, .slice f1A f1.length f1C]]) hE36 (fun _ => cf_flagsOf _ _) rfl rfl (c_flagsOf f0 f1A f1.length f1C f1 w16 (St.rdR (i := 1) hS19 rfl) (by omega) (by omega) (l05Is_m (by rw [← isFrame_eq]; assumption))) ?_)
   rintro _ w38 ⟨rfl, he42⟩ a39 hE40; clear hE36
   have hf43 := flagsOf_len f0 f1
   have hS41 := St.go hS19 he42; clear hS19
   refine l_step hE40 rfl (l_alloc (z := .agg (intV (List.replicate 11 0)).toArray) (cs := (intV (List.replicate 11 0)).toArray) hS41 hE40 (fun _ => by kernel_rfl) rfl rfl ?_)
   intro b44 w45 hS48 he49 a46 hE47; clear hS41 hE40
   have hv50 : (List.replicate 11 (0 : Int)).length = 11 := rfl
   refine l_step hE47 rfl (l_storeS (k := 0) (cs' := (intV (F_flagsOf f0 f1)).toArray) hS48 hE47 (intV_size (show (Try.prog.info? 108).map (·.size) = some 11 by kernel_rfl) (by first | rfl | omega | assumption | (simp only [sI_len]; omega) | (simp only [sI_len, flagsOf_len]))) rfl rfl (intV_one _) rfl (by rw [List.size_toArray, List.size_toArray, intV_len, intV_len]; exact Eq.trans (show (List.replicate 11 0).length = 11 from (by first | rfl | omega | assumption | (simp only [sI_len]; omega) | (simp only [sI_len, flagsOf_len]))) (show 11 = (F_flagsOf f0 f1).length from Eq.symm (by first | rfl | omega | assumption | (simp only [sI_len]; omega) | (simp only [sI_len, flagsOf_len])))) ?_)
   intro w52 hS55 a53 hE54; clear hS48 hE47
   refine c_nil ?_
   have hE57 := hE54.sub (L' := [(4, .pointer (some ⟨b44, 0, none⟩))]) ⟨rfl, trivial⟩; clear hE54
   refine p_tn ?_
   refine c_seq ?_
   refine c_reg ?_
   have hS58 := St.arrOwn (k := 0) (n' := 11) hS55 rfl (by first | rfl | omega | assumption | (simp only [sI_len]; omega) | (simp only [sI_len, flagsOf_len])) (by decide); clear hS55
   refine q_step (v := .slice (some ⟨b44, 0, none⟩) 11 11) hE57 (y_sliceA (by kernel_rfl) (fun _ => by kernel_rfl) rfl (by kernel_rfl)) rfl rfl rfl ?_; intro a59 hE60; clear hE57
   refine q_step (v := .slice (some ⟨b44, 0, none⟩) 11 11) hE60 (y_assign rfl) rfl rfl rfl ?_; intro a61 hE62; clear hE60
   refine q_step (v := .int .i64 0) hE62 (y_assign rfl) rfl rfl rfl ?_; intro a63 hE64; clear hE62
   refine c_nil ?_
   have hE65 := hE64.sub (L' := [(2, .slice (some ⟨b44, 0, none⟩) 11 11), (3, .int .i64 0)]) ⟨rfl, rfl, trivial⟩; clear hE64
   refine p_tn ?_
   refine wp_ret ?_
   have hF : F_FrameFlags f0 f1 = (F_flagsOf f0 f1, 0) := by unfold F_FrameFlags; rw [ht24]; first | done | rfl
   refine c_ret2 hE65 rfl rfl rfl ?_
   exact ⟨some ⟨b44, 0, none⟩, 11, (by rw [hF]; first | rfl | (rw [(St.rdO (i := 0) hS58 rfl).len1])), (by rw [hF, (St.rdO (i := 0) hS58 rfl).len1]; (try dsimp only); exact hS58.ok 0 _ rfl), hS58.ext⟩

theorem FrameFlags_eq (f0 : Int) (f1 : List Int) : F_FrameFlags f0 f1 = F_s_FrameFlags f0 f1 := by
  unfold F_FrameFlags F_s_FrameFlags
  rw [isFrame_eq]
  cases h : F_l05Is f0 f1
  · rfl
  · have hb := l05Is_t h
    have hm := l05Is_m h
    simp only [Bool.not_true, cond_false]
    congr 1
    rw [flagsOf_map, l05Flags_map]
    refine List.map_congr_left fun j hj => ?_
    have := List.mem_range.1 hj
    rw [hasFlag_eq (n := f0.toNat) (by omega) (by omega) ⟨by omega, fun i hi => ?_⟩ (by omega) (by omega)]
    have := hm (i : Int) (by omega) (by omega)
    unfold Mk; rw [Int.toNat_of_nonneg (by omega)]; exact this
theorem FrameFlags_len (f0 : Int) (f1 : List Int) : (F_FrameFlags f0 f1).1.length ≤ 11 := by
  unfold F_FrameFlags
  have := flagsOf_len f0 f1
  cases F_isFrame f0 f1
  · simp
  · simp only [Bool.not_true, cond_false]; omega


end Go.Proofs.Ytlbonhloeefnmaa
