/- GQF: models and contracts, printed by wip/gen/gen.py -/
import Derived.Test.YtlbonhloeefnmaaKCNGCG
set_option linter.unusedVariables false
set_option linter.unusedSimpArgs false
namespace Go.Proofs.Ytlbonhloeefnmaa
open Go.RowKit
def F_l08Quotient_L1b (classes : List Int) (rec : Int → Int → Int × Int) (count5 : Int) (x6 : Int) : Int × Int :=
  bif (decide (x6 < (classes.length : Int))) then (rec (max count5 ((gI classes x6) + 1)) (x6 + 1)) else (count5, x6)
def F_l08Quotient_L1 (classes : List Int) : Nat → Int → Int → Int × Int
  | 0, count5, x6 => (count5, x6)
  | r + 1, count5, x6 => F_l08Quotient_L1b classes (F_l08Quotient_L1 classes r) count5 x6
def F_l08Quotient_L2b (f1 : List Int) (classes : List Int) (rec : Int → (List Int) → Int × (List Int)) (x8L2 : Int) (arrows7L2 : List Int) : Int × (List Int) :=
  bif (decide (x8L2 < (classes.length : Int))) then (rec (x8L2 + 1) (sI arrows7L2 (gI classes x8L2) (F_l08Image classes (gI f1 x8L2)))) else (x8L2, arrows7L2)
def F_l08Quotient_L2 (f1 : List Int) (classes : List Int) : Nat → Int → (List Int) → Int × (List Int)
  | 0, x8L2, arrows7L2 => (x8L2, arrows7L2)
  | r + 1, x8L2, arrows7L2 => F_l08Quotient_L2b f1 classes (F_l08Quotient_L2 f1 classes r) x8L2 arrows7L2
def F_l08Quotient (f0 : Int) (f1 : List Int) (classes : List Int) : Int × List Int :=
  ((F_l08Quotient_L1 classes (Int.toNat ((classes.length : Int) - 0) + 1) 0 0).1, (F_l08Quotient_L2 f1 classes (Int.toNat ((classes.length : Int) - 0) + 1) 0 (List.replicate (Int.toNat ((F_l08Quotient_L1 classes (Int.toNat ((classes.length : Int) - 0) + 1) 0 0).1)) 0)).2)
theorem cf_l08Quotient (args : Array Value) (w : World) : (callFunc 114 args).run Try.prog w = .ok (.enter 114 args) w := by kernel_rfl
theorem l08Q_fold (classes : List Int) : (F_l08Quotient_L1 classes (Int.toNat ((classes.length : Int) - 0) + 1) 0 0).1 = (List.range classes.length).foldl (fun o (j : Nat) => max o (gI classes (j : Int) + 1)) 0 := by
  rw [rangeLoop0 (classes.length : Int) (by omega) (fun o j => max o (gI classes j + 1)) (F_l08Quotient_L1 classes) (fun _ _ _ => rfl), Int.toNat_natCast]
theorem l08Q_count {classes : List Int} (hcl : ∀ m : Int, 0 ≤ m → m < (classes.length : Int) → 0 ≤ gI classes m ∧ gI classes m ≤ 7) : (0 ≤ (F_l08Quotient_L1 classes (Int.toNat ((classes.length : Int) - 0) + 1) 0 0).1 ∧ (F_l08Quotient_L1 classes (Int.toNat ((classes.length : Int) - 0) + 1) 0 0).1 ≤ 8) ∧ (∀ m : Int, 0 ≤ m → m < (classes.length : Int) → gI classes m < (F_l08Quotient_L1 classes (Int.toNat ((classes.length : Int) - 0) + 1) 0 0).1) ∧ (F_l08Quotient_L1 classes (Int.toNat ((classes.length : Int) - 0) + 1) 0 0).1 = F_classCount classes := by
  rw [l08Q_fold]
  obtain ⟨h1, h2, h3⟩ := foldl_max (fun (j : Nat) => gI classes (j : Int) + 1) (List.range classes.length) 0
  have hcc := classCount_bd hcl
  have hlt : ∀ m : Int, 0 ≤ m → m < (classes.length : Int) → gI classes m < (List.range classes.length).foldl (fun o (j : Nat) => max o (gI classes (j : Int) + 1)) 0 := fun m h0 hm => by
    have := h2 m.toNat (List.mem_range.2 (by omega))
    rw [show ((m.toNat : Nat) : Int) = m by omega] at this
    omega
  have e : (List.range classes.length).foldl (fun o (j : Nat) => max o (gI classes (j : Int) + 1)) 0 = F_classCount classes := by
    apply Int.le_antisymm
    · rcases h3 with h3 | ⟨j, hj, h3⟩
      · rw [h3]; exact hcc.1.1
      · rw [h3]
        have := List.mem_range.1 hj
        have := hcc.2.1 (j : Int) (by omega) (by omega)
        omega
    · rcases hcc.2.2 with h4 | ⟨m, hm, h4⟩
      · rw [h4]; exact h1
      · rw [h4]; have := hlt m hm.1 hm.2; omega
  exact ⟨by rw [e]; exact hcc.1, hlt, e⟩
set_option maxRecDepth 100000 in
theorem c_l08Quotient (f0 : Int) (f1A : Option Addr) (f1N f1C : Nat) (f1 : List Int) (classesA : Option Addr) (classesN classesC : Nat) (classes : List Int) (w : World) (f1R : RdS w 1 f1A f1N f1C f1) (classesR : RdS w 1 classesA classesN classesC classes) (hf : 0 ≤ f0 ∧ f0 ≤ 8) (hfl : (f1.length : Int) = f0) (hfm : ∀ m : Int, 0 ≤ m → m < (f1.length : Int) → 0 ≤ gI f1 m ∧ gI f1 m ≤ fullI f0) (hl : (classes.length : Int) = f0) (hcl : ∀ m : Int, 0 ≤ m → m < (classes.length : Int) → 0 ≤ gI classes m ∧ gI classes m ≤ 7) :
    Calls Try.prog 114 #[.agg #[.int .i64 f0, .slice f1A f1N f1C], .slice classesA classesN classesC] w (Ret fun v w' => ∃ b1 : Option Addr, ∃ c1 : Nat, v = .agg #[.int .i64 ((F_l08Quotient f0 f1 classes).1), .slice b1 ((F_l08Quotient f0 f1 classes).2).length c1] ∧ OwnS w' w.heap.size 2 1 b1 ((F_l08Quotient f0 f1 classes).2).length c1 ((F_l08Quotient f0 f1 classes).2) ∧ Ext w w') := by
  obtain rfl : f1N = f1.length := f1R.len1.symm
  have f1Le := f1R.le
  obtain rfl : classesN = classes.length := classesR.len1.symm
  have classesLe := classesR.le
  have hS := St.nil w
  have hS1 := St.rd0 hS rfl f1R; clear hS
  have hS2 := St.rd0 hS1 rfl classesR; clear hS1
  refine enter (args := [.agg #[.int .i64 f0, .slice f1A f1.length f1C], .slice classesA classes.length classesC]) Try.func114 rfl rfl ?_
  rw [Try.ntmps114]; intro a hE
  have hE := hE.sub (L' := [(0, .agg #[.int .i64 f0, .slice f1A f1.length f1C]), (1, .slice classesA classes.length classesC)]) ⟨rfl, rfl, trivial⟩
  refine c_seq ?_
  refine c_reg ?_
  refine l_step hE rfl (l_box (v := .agg #[.int .i64 f0, .slice f1A f1.length f1C]) (cs := #[.int .i64 f0, .slice f1A f1.length f1C]) hS2 hE rfl rfl rfl ?_)
  intro b3 w4 hS7 he8 a5 hE6; clear hS2 hE
  refine l_step hE6 rfl (l_alloc (z := .agg #[.int .i64 0, .slice none 0 0]) (cs := #[.int .i64 0, .slice none 0 0]) hS7 hE6 (fun _ => by kernel_rfl) rfl rfl ?_)
  intro b9 w10 hS13 he14 a11 hE12; clear hS7 hE6
  refine c_nil ?_
  have hE15 := hE12.sub (L' := [(1, .slice classesA classes.length classesC), (2, .pointer (some ⟨b3, 0, none⟩)), (4, .pointer (some ⟨b9, 0, none⟩))]) ⟨rfl, rfl, rfl, trivial⟩; clear hE12
  refine p_tn ?_
  refine c_seq ?_
  refine c_reg ?_
  refine q_step (v := .int .i64 0) hE15 (y_assign rfl) rfl rfl rfl ?_; intro a16 hE17; clear hE15
  refine c_nil ?_
  have hE18 := hE17.sub (L' := [(1, .slice classesA classes.length classesC), (2, .pointer (some ⟨b3, 0, none⟩)), (4, .pointer (some ⟨b9, 0, none⟩)), (5, .int .i64 0)]) ⟨rfl, rfl, rfl, rfl, trivial⟩; clear hE17
  refine p_tn ?_
  refine c_seq ?_
  refine c_seq ?_
  refine c_reg ?_
  refine q_step (v := .int .i64 0) hE18 (y_assign rfl) rfl rfl rfl ?_; intro a19 hE20; clear hE18
  refine c_nil ?_
  have hE21 := hE20.sub (L' := [(1, .slice classesA classes.length classesC), (2, .pointer (some ⟨b3, 0, none⟩)), (4, .pointer (some ⟨b9, 0, none⟩)), (5, .int .i64 0), (6, .int .i64 0)]) ⟨rfl, rfl, rfl, rfl, rfl, trivial⟩; clear hE20
  refine p_tn ?_
  refine c_cut1 (fun a' w' => (0 ≤ ((F_l08Quotient_L1 classes (Int.toNat ((classes.length : Int) - 0) + 1) 0 0).2)) ∧ (0 ≤ ((F_l08Quotient_L1 classes (Int.toNat ((classes.length : Int) - 0) + 1) 0 0).1)) ∧ (((F_l08Quotient_L1 classes (Int.toNat ((classes.length : Int) - 0) + 1) 0 0).1) ≤ 8) ∧ (((F_l08Quotient_L1 classes (Int.toNat ((classes.length : Int) - 0) + 1) 0 0).2) ≤ (classes.length : Int)) ∧ E a' 46 [(1, .slice classesA classes.length classesC), (2, .pointer (some ⟨b3, 0, none⟩)), (4, .pointer (some ⟨b9, 0, none⟩)), (5, .int .i64 ((F_l08Quotient_L1 classes (Int.toNat ((classes.length : Int) - 0) + 1) 0 0).1)), (6, .int .i64 ((F_l08Quotient_L1 classes (Int.toNat ((classes.length : Int) - 0) + 1) 0 0).2))] ∧ St w w' [.blk b9 #[.int .i64 0, .slice none 0 0] 30, .blk b3 #[.int .i64 f0, .slice f1A f1.length f1C] 30, .rd 1 classesA classes.length classesC classes, .rd 1 f1A f1.length f1C f1]) ?_ ?_
  ·
   refine wp_block ?_
   refine c_loop (fun r a' w' => ∃ count5 : Int, ∃ x6 : Int, F_l08Quotient_L1 classes r count5 x6 = F_l08Quotient_L1 classes (Int.toNat ((classes.length : Int) - 0) + 1) 0 0 ∧ Int.toNat ((classes.length : Int) - x6) < r ∧ (0 ≤ x6) ∧ (0 ≤ count5) ∧ (count5 ≤ 8) ∧ (x6 ≤ (classes.length : Int)) ∧ E a' 46 [(1, .slice classesA classes.length classesC), (2, .pointer (some ⟨b3, 0, none⟩)), (4, .pointer (some ⟨b9, 0, none⟩)), (5, .int .i64 count5), (6, .int .i64 x6)] ∧ St w w' [.blk b9 #[.int .i64 0, .slice none 0 0] 30, .blk b3 #[.int .i64 f0, .slice f1A f1.length f1C] 30, .rd 1 classesA classes.length classesC classes, .rd 1 f1A f1.length f1C f1]) (r := (Int.toNat ((classes.length : Int) - 0) + 1)) ?_ ?_
   · exact ⟨0, 0, rfl, Nat.lt_succ_self _, (by first | omega | (simp only [sS_len, sL_len]; omega) | (simp only [List.length_replicate, sI_len]; omega) | (simp only [List.length_append, List.length_cons, List.length_nil, sI_len, cond_true, cond_false]; omega) | (simp only [List.length_append, List.length_cons, List.length_nil, sI_len, cond_eq_ite, apply_ite List.length]; split <;> simp only [List.length_append, List.length_cons, List.length_nil, sI_len] <;> omega) | grind), (by first | omega | (simp only [sS_len, sL_len]; omega) | (simp only [List.length_replicate, sI_len]; omega) | (simp only [List.length_append, List.length_cons, List.length_nil, sI_len, cond_true, cond_false]; omega) | (simp only [List.length_append, List.length_cons, List.length_nil, sI_len, cond_eq_ite, apply_ite List.length]; split <;> simp only [List.length_append, List.length_cons, List.length_nil, sI_len] <;> omega) | grind), (by first | omega | (simp only [sS_len, sL_len]; omega) | (simp only [List.length_replicate, sI_len]; omega) | (simp only [List.length_append, List.length_cons, List.length_nil, sI_len, cond_true, cond_false]; omega) | (simp only [List.length_append, List.length_cons, List.length_nil, sI_len, cond_eq_ite, apply_ite List.length]; split <;> simp only [List.length_append, List.length_cons, List.length_nil, sI_len] <;> omega) | grind), (by first | omega | (simp only [sS_len, sL_len]; omega) | (simp only [List.length_replicate, sI_len]; omega) | (simp only [List.length_append, List.length_cons, List.length_nil, sI_len, cond_true, cond_false]; omega) | (simp only [List.length_append, List.length_cons, List.length_nil, sI_len, cond_eq_ite, apply_ite List.length]; split <;> simp only [List.length_append, List.length_cons, List.length_nil, sI_len] <;> omega) | grind), (hE21.sub (L' := [(1, .slice classesA classes.length classesC), (2, .pointer (some ⟨b3, 0, none⟩)), (4, .pointer (some ⟨b9, 0, none⟩)), (5, .int .i64 0), (6, .int .i64 0)]) ⟨rfl, rfl, rfl, rfl, rfl, trivial⟩), (St.pick (Γ' := [.blk b9 #[.int .i64 0, .slice none 0 0] 30, .blk b3 #[.int .i64 f0, .slice f1A f1.length f1C] 30, .rd 1 classesA classes.length classesC classes, .rd 1 f1A f1.length f1C f1]) hS13 [0, 1, 2, 3] (by decide) rfl)⟩
   ·
    clear hE21 hS13
    rintro r33 a23 w24 ⟨count5, x6, hT27, hr28, hi29, hi30, hi31, hi32, hE25, hS26⟩
    obtain ⟨r33, rfl⟩ : ∃ r', r33 = r' + 1 := ⟨r33 - 1, by omega⟩
    refine c_seq ?_
    refine c_seq ?_
    refine c_reg ?_
    refine q_step (v := .int .i64 x6) hE25 (y_move rfl) rfl rfl rfl ?_; intro a34 hE35; clear hE25
    refine q_step (v := .slice classesA classes.length classesC) hE35 (y_move rfl) rfl rfl rfl ?_; intro a36 hE37; clear hE35
    refine q_step (v := .int .i64 (classes.length : Int)) hE37 (y_len (e := 2) (by kernel_rfl) rfl) rfl rfl rfl ?_; intro a38 hE39; clear hE37
    refine q_step (v := .bool (decide (x6 < (classes.length : Int)))) hE39 (y_lss rfl rfl) rfl rfl rfl ?_; intro a40 hE41; clear hE39
    refine c_nil ?_
    have hE42 := hE41.sub (L' := [(1, .slice classesA classes.length classesC), (2, .pointer (some ⟨b3, 0, none⟩)), (4, .pointer (some ⟨b9, 0, none⟩)), (5, .int .i64 count5), (6, .int .i64 x6), (12, .bool (decide (x6 < (classes.length : Int))))]) ⟨rfl, rfl, rfl, rfl, rfl, rfl, trivial⟩; clear hE41
    refine p_tn ?_
    refine c_cond hE42 rfl (fun ht43 => ?_) (fun ht43 => ?_)
    ·
     have hp44 := of_decide_eq_true ht43
     have hE45 := hE42; rw [ht43] at hE45; clear hE42
     have hx1 := hcl x6 (by omega) (by omega)
     refine wp_skip ?_
     refine p_tn ?_
     refine c_seq ?_
     refine wp_block ?_
     refine c_reg ?_
     refine q_step (v := .int .i64 count5) hE45 (y_move rfl) rfl rfl rfl ?_; intro a46 hE47; clear hE45
     refine q_step (v := .slice classesA classes.length classesC) hE47 (y_move rfl) rfl rfl rfl ?_; intro a48 hE49; clear hE47
     refine q_step (v := .int .i64 x6) hE49 (y_move rfl) rfl rfl rfl ?_; intro a50 hE51; clear hE49
     refine q_step (v := .pointer (some (adr classesA (Int.toNat x6)))) hE51 (y_idx (by kernel_rfl) (fun _ => by kernel_rfl) rfl rfl (RdS.isS (m := x6) (St.rdR (i := 2) hS26 rfl) (by omega) (by omega)) (by omega) (by omega) (Nat.mul_one _).symm) rfl rfl rfl ?_; intro a52 hE53; clear hE51
     refine q_step (v := .int .i64 (gI classes x6)) hE53 (y_load (fun _ => by kernel_rfl) rfl (RdS.elt (St.rdR (i := 2) hS26 rfl) (by omega) (by omega))) rfl rfl rfl ?_; intro a54 hE55; clear hE53
     refine q_step (v := .int .i64 ((gI classes x6) + 1)) hE55 (y_add rfl rfl ⟨(by omega), (by omega)⟩) rfl rfl rfl ?_; intro a56 hE57; clear hE55
     refine q_step (v := .int .i64 (max count5 ((gI classes x6) + 1))) hE57 (y_max rfl rfl) rfl rfl rfl ?_; intro a58 hE59; clear hE57
     refine q_step (v := .int .i64 (max count5 ((gI classes x6) + 1))) hE59 (y_assign rfl) rfl rfl rfl ?_; intro a60 hE61; clear hE59
     refine c_nil ?_
     have hE62 := hE61.sub (L' := [(1, .slice classesA classes.length classesC), (2, .pointer (some ⟨b3, 0, none⟩)), (4, .pointer (some ⟨b9, 0, none⟩)), (5, .int .i64 (max count5 ((gI classes x6) + 1))), (6, .int .i64 x6)]) ⟨rfl, rfl, rfl, rfl, rfl, trivial⟩; clear hE61
     refine p_bn ?_
     refine p_tn ?_
     refine c_reg ?_
     refine q_step (v := .int .i64 x6) hE62 (y_move rfl) rfl rfl rfl ?_; intro a63 hE64; clear hE62
     refine q_step (v := .int .i64 (x6 + 1)) hE64 (y_add rfl rfl ⟨(by omega), (by omega)⟩) rfl rfl rfl ?_; intro a65 hE66; clear hE64
     refine q_step (v := .int .i64 (x6 + 1)) hE66 (y_assign rfl) rfl rfl rfl ?_; intro a67 hE68; clear hE66
     refine c_nil ?_
     have hE69 := hE68.sub (L' := [(1, .slice classesA classes.length classesC), (2, .pointer (some ⟨b3, 0, none⟩)), (4, .pointer (some ⟨b9, 0, none⟩)), (5, .int .i64 (max count5 ((gI classes x6) + 1))), (6, .int .i64 (x6 + 1))]) ⟨rfl, rfl, rfl, rfl, rfl, trivial⟩; clear hE68
     refine p_tn ⟨r33, Nat.lt_succ_self _, max count5 ((gI classes x6) + 1), x6 + 1, (hT27.symm.trans (show F_l08Quotient_L1b classes (F_l08Quotient_L1 classes r33) count5 x6 = F_l08Quotient_L1 classes r33 (max count5 ((gI classes x6) + 1)) (x6 + 1) by unfold F_l08Quotient_L1b; rw [ht43]; first | done | rfl)).symm, (by omega), (by first | omega | (simp only [sS_len, sL_len]; omega) | (simp only [List.length_replicate, sI_len]; omega) | (simp only [List.length_append, List.length_cons, List.length_nil, sI_len, cond_true, cond_false]; omega) | (simp only [List.length_append, List.length_cons, List.length_nil, sI_len, cond_eq_ite, apply_ite List.length]; split <;> simp only [List.length_append, List.length_cons, List.length_nil, sI_len] <;> omega) | grind), (by first | omega | (simp only [sS_len, sL_len]; omega) | (simp only [List.length_replicate, sI_len]; omega) | (simp only [List.length_append, List.length_cons, List.length_nil, sI_len, cond_true, cond_false]; omega) | (simp only [List.length_append, List.length_cons, List.length_nil, sI_len, cond_eq_ite, apply_ite List.length]; split <;> simp only [List.length_append, List.length_cons, List.length_nil, sI_len] <;> omega) | grind), (by first | omega | (simp only [sS_len, sL_len]; omega) | (simp only [List.length_replicate, sI_len]; omega) | (simp only [List.length_append, List.length_cons, List.length_nil, sI_len, cond_true, cond_false]; omega) | (simp only [List.length_append, List.length_cons, List.length_nil, sI_len, cond_eq_ite, apply_ite List.length]; split <;> simp only [List.length_append, List.length_cons, List.length_nil, sI_len] <;> omega) | grind), (by first | omega | (simp only [sS_len, sL_len]; omega) | (simp only [List.length_replicate, sI_len]; omega) | (simp only [List.length_append, List.length_cons, List.length_nil, sI_len, cond_true, cond_false]; omega) | (simp only [List.length_append, List.length_cons, List.length_nil, sI_len, cond_eq_ite, apply_ite List.length]; split <;> simp only [List.length_append, List.length_cons, List.length_nil, sI_len] <;> omega) | grind), (hE69.sub (L' := [(1, .slice classesA classes.length classesC), (2, .pointer (some ⟨b3, 0, none⟩)), (4, .pointer (some ⟨b9, 0, none⟩)), (5, .int .i64 (max count5 ((gI classes x6) + 1))), (6, .int .i64 (x6 + 1))]) ⟨rfl, rfl, rfl, rfl, rfl, trivial⟩), (St.pick (Γ' := [.blk b9 #[.int .i64 0, .slice none 0 0] 30, .blk b3 #[.int .i64 f0, .slice f1A f1.length f1C] 30, .rd 1 classesA classes.length classesC classes, .rd 1 f1A f1.length f1C f1]) hS26 [0, 1, 2, 3] (by decide) rfl)⟩
    ·
     have hp70 := of_decide_eq_false ht43
     have hE71 := hE42; rw [ht43] at hE71; clear hE42
     refine wp_exit ?_
     refine p_te ?_
     have hX72 : F_l08Quotient_L1 classes (Int.toNat ((classes.length : Int) - 0) + 1) 0 0 = (count5, x6) := hT27.symm.trans (show F_l08Quotient_L1b classes (F_l08Quotient_L1 classes r33) count5 x6 = (count5, x6) by unfold F_l08Quotient_L1b; rw [ht43]; first | done | rfl)
     refine p_te (p_be (p_tn ?_))
     exact ⟨(by rw [hX72]; exact (show 0 ≤ x6 from (by first | omega | (simp only [sS_len, sL_len]; omega) | (simp only [List.length_replicate, sI_len]; omega) | (simp only [List.length_append, List.length_cons, List.length_nil, sI_len, cond_true, cond_false]; omega) | (simp only [List.length_append, List.length_cons, List.length_nil, sI_len, cond_eq_ite, apply_ite List.length]; split <;> simp only [List.length_append, List.length_cons, List.length_nil, sI_len] <;> omega) | grind))), (by rw [hX72]; exact (show 0 ≤ count5 from (by first | omega | (simp only [sS_len, sL_len]; omega) | (simp only [List.length_replicate, sI_len]; omega) | (simp only [List.length_append, List.length_cons, List.length_nil, sI_len, cond_true, cond_false]; omega) | (simp only [List.length_append, List.length_cons, List.length_nil, sI_len, cond_eq_ite, apply_ite List.length]; split <;> simp only [List.length_append, List.length_cons, List.length_nil, sI_len] <;> omega) | grind))), (by rw [hX72]; exact (show count5 ≤ 8 from (by first | omega | (simp only [sS_len, sL_len]; omega) | (simp only [List.length_replicate, sI_len]; omega) | (simp only [List.length_append, List.length_cons, List.length_nil, sI_len, cond_true, cond_false]; omega) | (simp only [List.length_append, List.length_cons, List.length_nil, sI_len, cond_eq_ite, apply_ite List.length]; split <;> simp only [List.length_append, List.length_cons, List.length_nil, sI_len] <;> omega) | grind))), (by rw [hX72]; exact (show x6 ≤ (classes.length : Int) from (by first | omega | (simp only [sS_len, sL_len]; omega) | (simp only [List.length_replicate, sI_len]; omega) | (simp only [List.length_append, List.length_cons, List.length_nil, sI_len, cond_true, cond_false]; omega) | (simp only [List.length_append, List.length_cons, List.length_nil, sI_len, cond_eq_ite, apply_ite List.length]; split <;> simp only [List.length_append, List.length_cons, List.length_nil, sI_len] <;> omega) | grind))), (by rw [hX72]; exact (hE71.sub (L' := [(1, .slice classesA classes.length classesC), (2, .pointer (some ⟨b3, 0, none⟩)), (4, .pointer (some ⟨b9, 0, none⟩)), (5, .int .i64 count5), (6, .int .i64 x6)]) ⟨rfl, rfl, rfl, rfl, rfl, trivial⟩)), (St.pick (Γ' := [.blk b9 #[.int .i64 0, .slice none 0 0] 30, .blk b3 #[.int .i64 f0, .slice f1A f1.length f1C] 30, .rd 1 classesA classes.length classesC classes, .rd 1 f1A f1.length f1C f1]) hS26 [0, 1, 2, 3] (by decide) rfl)⟩
  ·
   rintro a73 w74 ⟨hi78, hi79, hi80, hi81, hE75, hS76⟩; clear hE21 hS13
   have hcc := l08Q_count hcl
   refine p_tn ?_
   refine c_seq ?_
   refine c_reg ?_
   refine q_step (v := .int .i64 ((F_l08Quotient_L1 classes (Int.toNat ((classes.length : Int) - 0) + 1) 0 0).1)) hE75 (y_move rfl) rfl rfl rfl ?_; intro a82 hE83; clear hE75
   refine l_step hE83 rfl (l_make (e := 2) (m := (F_l08Quotient_L1 classes (Int.toNat ((classes.length : Int) - 0) + 1) 0 0).1) hS76 hE83 (by kernel_rfl) (by kernel_rfl) rfl rfl (by omega) (by omega) rfl ?_)
   intro b84 w85 hS88 he89 a86 hE87; clear hS76 hE83
   refine q_step (v := .slice b84 (Int.toNat ((F_l08Quotient_L1 classes (Int.toNat ((classes.length : Int) - 0) + 1) 0 0).1)) (Int.toNat ((F_l08Quotient_L1 classes (Int.toNat ((classes.length : Int) - 0) + 1) 0 0).1))) hE87 (y_assign rfl) rfl rfl rfl ?_; intro a90 hE91; clear hE87
   refine c_nil ?_
   have hE92 := hE91.sub (L' := [(1, .slice classesA classes.length classesC), (2, .pointer (some ⟨b3, 0, none⟩)), (4, .pointer (some ⟨b9, 0, none⟩)), (5, .int .i64 ((F_l08Quotient_L1 classes (Int.toNat ((classes.length : Int) - 0) + 1) 0 0).1)), (7, .slice b84 (Int.toNat ((F_l08Quotient_L1 classes (Int.toNat ((classes.length : Int) - 0) + 1) 0 0).1)) (Int.toNat ((F_l08Quotient_L1 classes (Int.toNat ((classes.length : Int) - 0) + 1) 0 0).1)))]) ⟨rfl, rfl, rfl, rfl, rfl, trivial⟩; clear hE91
   refine p_tn ?_
   refine c_seq ?_
   refine c_seq ?_
   refine c_reg ?_
   refine q_step (v := .int .i64 0) hE92 (y_assign rfl) rfl rfl rfl ?_; intro a93 hE94; clear hE92
   refine c_nil ?_
   have hE95 := hE94.sub (L' := [(1, .slice classesA classes.length classesC), (2, .pointer (some ⟨b3, 0, none⟩)), (4, .pointer (some ⟨b9, 0, none⟩)), (5, .int .i64 ((F_l08Quotient_L1 classes (Int.toNat ((classes.length : Int) - 0) + 1) 0 0).1)), (7, .slice b84 (Int.toNat ((F_l08Quotient_L1 classes (Int.toNat ((classes.length : Int) - 0) + 1) 0 0).1)) (Int.toNat ((F_l08Quotient_L1 classes (Int.toNat ((classes.length : Int) - 0) + 1) 0 0).1))), (8, .int .i64 0)]) ⟨rfl, rfl, rfl, rfl, rfl, rfl, trivial⟩; clear hE94
   refine p_tn ?_
   refine c_cut1 (fun a' w' => (0 ≤ ((F_l08Quotient_L2 f1 classes (Int.toNat ((classes.length : Int) - 0) + 1) 0 (List.replicate (Int.toNat ((F_l08Quotient_L1 classes (Int.toNat ((classes.length : Int) - 0) + 1) 0 0).1)) 0)).1)) ∧ ((((F_l08Quotient_L2 f1 classes (Int.toNat ((classes.length : Int) - 0) + 1) 0 (List.replicate (Int.toNat ((F_l08Quotient_L1 classes (Int.toNat ((classes.length : Int) - 0) + 1) 0 0).1)) 0)).2).length : Int) = (F_l08Quotient_L1 classes (Int.toNat ((classes.length : Int) - 0) + 1) 0 0).1) ∧ (((F_l08Quotient_L2 f1 classes (Int.toNat ((classes.length : Int) - 0) + 1) 0 (List.replicate (Int.toNat ((F_l08Quotient_L1 classes (Int.toNat ((classes.length : Int) - 0) + 1) 0 0).1)) 0)).1) ≤ (classes.length : Int)) ∧ E a' 46 [(1, .slice classesA classes.length classesC), (2, .pointer (some ⟨b3, 0, none⟩)), (4, .pointer (some ⟨b9, 0, none⟩)), (5, .int .i64 ((F_l08Quotient_L1 classes (Int.toNat ((classes.length : Int) - 0) + 1) 0 0).1)), (7, .slice b84 (Int.toNat ((F_l08Quotient_L1 classes (Int.toNat ((classes.length : Int) - 0) + 1) 0 0).1)) (Int.toNat ((F_l08Quotient_L1 classes (Int.toNat ((classes.length : Int) - 0) + 1) 0 0).1))), (8, .int .i64 ((F_l08Quotient_L2 f1 classes (Int.toNat ((classes.length : Int) - 0) + 1) 0 (List.replicate (Int.toNat ((F_l08Quotient_L1 classes (Int.toNat ((classes.length : Int) - 0) + 1) 0 0).1)) 0)).1))] ∧ St w w' [.own 2 1 b84 (Int.toNat ((F_l08Quotient_L1 classes (Int.toNat ((classes.length : Int) - 0) + 1) 0 0).1)) (Int.toNat ((F_l08Quotient_L1 classes (Int.toNat ((classes.length : Int) - 0) + 1) 0 0).1)) ((F_l08Quotient_L2 f1 classes (Int.toNat ((classes.length : Int) - 0) + 1) 0 (List.replicate (Int.toNat ((F_l08Quotient_L1 classes (Int.toNat ((classes.length : Int) - 0) + 1) 0 0).1)) 0)).2), .blk b9 #[.int .i64 0, .slice none 0 0] 30, .blk b3 #[.int .i64 f0, .slice f1A f1.length f1C] 30, .rd 1 classesA classes.length classesC classes, .rd 1 f1A f1.length f1C f1]) ?_ ?_
   ·
    refine wp_block ?_
    refine c_loop (fun r a' w' => ∃ x8L2 : Int, ∃ arrows7L2 : List Int, F_l08Quotient_L2 f1 classes r x8L2 arrows7L2 = F_l08Quotient_L2 f1 classes (Int.toNat ((classes.length : Int) - 0) + 1) 0 (List.replicate (Int.toNat ((F_l08Quotient_L1 classes (Int.toNat ((classes.length : Int) - 0) + 1) 0 0).1)) 0) ∧ Int.toNat ((classes.length : Int) - x8L2) < r ∧ (0 ≤ x8L2) ∧ ((arrows7L2.length : Int) = (F_l08Quotient_L1 classes (Int.toNat ((classes.length : Int) - 0) + 1) 0 0).1) ∧ (x8L2 ≤ (classes.length : Int)) ∧ E a' 46 [(1, .slice classesA classes.length classesC), (2, .pointer (some ⟨b3, 0, none⟩)), (4, .pointer (some ⟨b9, 0, none⟩)), (5, .int .i64 ((F_l08Quotient_L1 classes (Int.toNat ((classes.length : Int) - 0) + 1) 0 0).1)), (7, .slice b84 (Int.toNat ((F_l08Quotient_L1 classes (Int.toNat ((classes.length : Int) - 0) + 1) 0 0).1)) (Int.toNat ((F_l08Quotient_L1 classes (Int.toNat ((classes.length : Int) - 0) + 1) 0 0).1))), (8, .int .i64 x8L2)] ∧ St w w' [.own 2 1 b84 (Int.toNat ((F_l08Quotient_L1 classes (Int.toNat ((classes.length : Int) - 0) + 1) 0 0).1)) (Int.toNat ((F_l08Quotient_L1 classes (Int.toNat ((classes.length : Int) - 0) + 1) 0 0).1)) arrows7L2, .blk b9 #[.int .i64 0, .slice none 0 0] 30, .blk b3 #[.int .i64 f0, .slice f1A f1.length f1C] 30, .rd 1 classesA classes.length classesC classes, .rd 1 f1A f1.length f1C f1]) (r := (Int.toNat ((classes.length : Int) - 0) + 1)) ?_ ?_
    · exact ⟨0, List.replicate (Int.toNat ((F_l08Quotient_L1 classes (Int.toNat ((classes.length : Int) - 0) + 1) 0 0).1)) 0, rfl, Nat.lt_succ_self _, (by first | omega | (simp only [sS_len, sL_len]; omega) | (simp only [List.length_replicate, sI_len]; omega) | (simp only [List.length_append, List.length_cons, List.length_nil, sI_len, cond_true, cond_false]; omega) | (simp only [List.length_append, List.length_cons, List.length_nil, sI_len, cond_eq_ite, apply_ite List.length]; split <;> simp only [List.length_append, List.length_cons, List.length_nil, sI_len] <;> omega) | grind), (by first | omega | (simp only [sS_len, sL_len]; omega) | (simp only [List.length_replicate, sI_len]; omega) | (simp only [List.length_append, List.length_cons, List.length_nil, sI_len, cond_true, cond_false]; omega) | (simp only [List.length_append, List.length_cons, List.length_nil, sI_len, cond_eq_ite, apply_ite List.length]; split <;> simp only [List.length_append, List.length_cons, List.length_nil, sI_len] <;> omega) | grind), (by first | omega | (simp only [sS_len, sL_len]; omega) | (simp only [List.length_replicate, sI_len]; omega) | (simp only [List.length_append, List.length_cons, List.length_nil, sI_len, cond_true, cond_false]; omega) | (simp only [List.length_append, List.length_cons, List.length_nil, sI_len, cond_eq_ite, apply_ite List.length]; split <;> simp only [List.length_append, List.length_cons, List.length_nil, sI_len] <;> omega) | grind), (hE95.sub (L' := [(1, .slice classesA classes.length classesC), (2, .pointer (some ⟨b3, 0, none⟩)), (4, .pointer (some ⟨b9, 0, none⟩)), (5, .int .i64 ((F_l08Quotient_L1 classes (Int.toNat ((classes.length : Int) - 0) + 1) 0 0).1)), (7, .slice b84 (Int.toNat ((F_l08Quotient_L1 classes (Int.toNat ((classes.length : Int) - 0) + 1) 0 0).1)) (Int.toNat ((F_l08Quotient_L1 classes (Int.toNat ((classes.length : Int) - 0) + 1) 0 0).1))), (8, .int .i64 0)]) ⟨rfl, rfl, rfl, rfl, rfl, rfl, trivial⟩), (St.pick (Γ' := [.own 2 1 b84 (Int.toNat ((F_l08Quotient_L1 classes (Int.toNat ((classes.length : Int) - 0) + 1) 0 0).1)) (Int.toNat ((F_l08Quotient_L1 classes (Int.toNat ((classes.length : Int) - 0) + 1) 0 0).1)) (List.replicate (Int.toNat ((F_l08Quotient_L1 classes (Int.toNat ((classes.length : Int) - 0) + 1) 0 0).1)) 0), .blk b9 #[.int .i64 0, .slice none 0 0] 30, .blk b3 #[.int .i64 f0, .slice f1A f1.length f1C] 30, .rd 1 classesA classes.length classesC classes, .rd 1 f1A f1.length f1C f1]) hS88 [0, 1, 2, 3, 4] (by decide) rfl)⟩
    ·
     clear hE95 hS88
     rintro r106 a97 w98 ⟨x8L2, arrows7L2, hT101, hr102, hi103, hi104, hi105, hE99, hS100⟩
     obtain ⟨r106, rfl⟩ : ∃ r', r106 = r' + 1 := ⟨r106 - 1, by omega⟩
     refine c_seq ?_
     refine c_seq ?_
     refine c_reg ?_
     refine q_step (v := .int .i64 x8L2) hE99 (y_move rfl) rfl rfl rfl ?_; intro a107 hE108; clear hE99
     refine q_step (v := .slice classesA classes.length classesC) hE108 (y_move rfl) rfl rfl rfl ?_; intro a109 hE110; clear hE108
     refine q_step (v := .int .i64 (classes.length : Int)) hE110 (y_len (e := 2) (by kernel_rfl) rfl) rfl rfl rfl ?_; intro a111 hE112; clear hE110
     refine q_step (v := .bool (decide (x8L2 < (classes.length : Int)))) hE112 (y_lss rfl rfl) rfl rfl rfl ?_; intro a113 hE114; clear hE112
     refine c_nil ?_
     have hE115 := hE114.sub (L' := [(1, .slice classesA classes.length classesC), (2, .pointer (some ⟨b3, 0, none⟩)), (4, .pointer (some ⟨b9, 0, none⟩)), (5, .int .i64 ((F_l08Quotient_L1 classes (Int.toNat ((classes.length : Int) - 0) + 1) 0 0).1)), (7, .slice b84 (Int.toNat ((F_l08Quotient_L1 classes (Int.toNat ((classes.length : Int) - 0) + 1) 0 0).1)) (Int.toNat ((F_l08Quotient_L1 classes (Int.toNat ((classes.length : Int) - 0) + 1) 0 0).1))), (8, .int .i64 x8L2), (27, .bool (decide (x8L2 < (classes.length : Int))))]) ⟨rfl, rfl, rfl, rfl, rfl, rfl, rfl, trivial⟩; clear hE114
     refine p_tn ?_
     refine c_cond hE115 rfl (fun ht116 => ?_) (fun ht116 => ?_)
     ·
      have hp117 := of_decide_eq_true ht116
      have hE118 := hE115; rw [ht116] at hE118; clear hE115
      have hx1 := hcl x8L2 (by omega) (by omega)
      have hx2 := hcc.2.1 x8L2 (by omega) (by omega)
      refine wp_skip ?_
      refine p_tn ?_
      refine c_seq ?_
      refine wp_block ?_
      refine d_start (fun w w' => (fun w' => w'.cell? (adr classesA (Int.toNat x8L2)) = some (.int .i64 (gI classes x8L2)) ∧ w'.cell? ⟨b3, 1, none⟩ = some (.slice f1A f1.length f1C) ∧ w'.cell? (adr f1A (Int.toNat x8L2)) = some (.int .i64 (gI f1 x8L2)) ∧ True) w → (fun w' => w'.cell? (adr classesA (Int.toNat x8L2)) = some (.int .i64 (gI classes x8L2)) ∧ w'.cell? ⟨b3, 1, none⟩ = some (.slice f1A f1.length f1C) ∧ w'.cell? (adr f1A (Int.toNat x8L2)) = some (.int .i64 (gI f1 x8L2)) ∧ True) w') [4, 7, 10] 14 (by kernel_rfl) rfl ?_
      intro w119 he120; have hS121 := St.go hS100 he120; clear hS100
      refine d_pure (fun _ h => h) (v := .slice b84 (Int.toNat ((F_l08Quotient_L1 classes (Int.toNat ((classes.length : Int) - 0) + 1) 0 0).1)) (Int.toNat ((F_l08Quotient_L1 classes (Int.toNat ((classes.length : Int) - 0) + 1) 0 0).1))) 0 rfl hE118 (y_move rfl) rfl (by kernel_rfl) (by kernel_rfl) (by kernel_rfl) rfl rfl (fun _ _ _ h => h) ?_; intro a122 hE123; clear hE118
      refine d_pure (fun _ h => h) (v := .slice classesA classes.length classesC) 1 rfl hE123 (y_move rfl) rfl (by kernel_rfl) (by kernel_rfl) (by kernel_rfl) rfl rfl (fun _ _ _ h => h) ?_; intro a124 hE125; clear hE123
      refine d_pure (fun _ h => h) (v := .int .i64 x8L2) 2 rfl hE125 (y_move rfl) rfl (by kernel_rfl) (by kernel_rfl) (by kernel_rfl) rfl rfl (fun _ _ _ h => h) ?_; intro a126 hE127; clear hE125
      refine d_pure (fun _ h => h) (v := .pointer (some (adr classesA (Int.toNat x8L2)))) 3 rfl hE127 (y_idx (by kernel_rfl) (fun _ => by kernel_rfl) rfl rfl (RdS.isS (m := x8L2) (St.rdR (i := 3) hS121 rfl) (by omega) (by omega)) (by omega) (by omega) (Nat.mul_one _).symm) rfl (by kernel_rfl) (by kernel_rfl) (by kernel_rfl) rfl rfl (fun _ _ _ h => h) ?_; intro a128 hE129; clear hE127
      refine d_take (fun _ h => h) (fun _ _ h k => h k) (v := .int .i64 (gI classes x8L2)) 4 rfl hE129 (S := fun w' => w'.cell? (adr classesA (Int.toNat x8L2)) = some (.int .i64 (gI classes x8L2)) ∧ w'.cell? ⟨b3, 1, none⟩ = some (.slice f1A f1.length f1C) ∧ w'.cell? (adr f1A (Int.toNat x8L2)) = some (.int .i64 (gI f1 x8L2)) ∧ True) ⟨(RdS.elt (St.rdR (i := 3) hS121 rfl) (by omega) (by omega) _ (Ext.refl _)), (St.cell (i := 2) hS121 rfl rfl _ (Ext.refl _)), (RdS.elt (St.rdR (i := 4) hS121 rfl) (by omega) (by omega) _ (Ext.refl _)), trivial⟩ (y_load (fun _ => by kernel_rfl) rfl (fun _ h => h.1)) rfl rfl (by kernel_rfl) (by kernel_rfl) (by kernel_rfl) (by kernel_rfl) rfl rfl (fun _ _ _ h => h) ?_; intro a130 hE131; clear hE129
      refine d_pure (fun _ h => h) (v := .slice classesA classes.length classesC) 5 rfl hE131 (y_move rfl) rfl (by kernel_rfl) (by kernel_rfl) (by kernel_rfl) rfl rfl (fun _ _ _ h => h) ?_; intro a132 hE133; clear hE131
      refine d_pure (fun _ h => h) (v := .pointer (some ⟨b3, 1, none⟩)) 6 rfl hE133 (y_field rfl (fun _ => by kernel_rfl)) rfl (by kernel_rfl) (by kernel_rfl) (by kernel_rfl) rfl rfl (fun _ _ _ h => h) ?_; intro a134 hE135; clear hE133
      refine d_take (fun _ h => h) (fun _ _ h k => h k) (v := .slice f1A f1.length f1C) 7 rfl hE135 (S := fun w' => w'.cell? (adr classesA (Int.toNat x8L2)) = some (.int .i64 (gI classes x8L2)) ∧ w'.cell? ⟨b3, 1, none⟩ = some (.slice f1A f1.length f1C) ∧ w'.cell? (adr f1A (Int.toNat x8L2)) = some (.int .i64 (gI f1 x8L2)) ∧ True) ⟨(RdS.elt (St.rdR (i := 3) hS121 rfl) (by omega) (by omega) _ (Ext.refl _)), (St.cell (i := 2) hS121 rfl rfl _ (Ext.refl _)), (RdS.elt (St.rdR (i := 4) hS121 rfl) (by omega) (by omega) _ (Ext.refl _)), trivial⟩ (y_load (fun _ => by kernel_rfl) rfl (fun _ h => h.2.1)) rfl rfl (by kernel_rfl) (by kernel_rfl) (by kernel_rfl) (by kernel_rfl) rfl rfl (fun _ _ _ h => h) ?_; intro a136 hE137; clear hE135
      refine d_pure (fun _ h => h) (v := .int .i64 x8L2) 8 rfl hE137 (y_move rfl) rfl (by kernel_rfl) (by kernel_rfl) (by kernel_rfl) rfl rfl (fun _ _ _ h => h) ?_; intro a138 hE139; clear hE137
      refine d_pure (fun _ h => h) (v := .pointer (some (adr f1A (Int.toNat x8L2)))) 9 rfl hE139 (y_idx (by kernel_rfl) (fun _ => by kernel_rfl) rfl rfl (RdS.isS (m := x8L2) (St.rdR (i := 4) hS121 rfl) (by omega) (by omega)) (by omega) (by omega) (Nat.mul_one _).symm) rfl (by kernel_rfl) (by kernel_rfl) (by kernel_rfl) rfl rfl (fun _ _ _ h => h) ?_; intro a140 hE141; clear hE139
      refine d_take (fun _ h => h) (fun _ _ h k => h k) (v := .int .i64 (gI f1 x8L2)) 10 rfl hE141 (S := fun w' => w'.cell? (adr classesA (Int.toNat x8L2)) = some (.int .i64 (gI classes x8L2)) ∧ w'.cell? ⟨b3, 1, none⟩ = some (.slice f1A f1.length f1C) ∧ w'.cell? (adr f1A (Int.toNat x8L2)) = some (.int .i64 (gI f1 x8L2)) ∧ True) ⟨(RdS.elt (St.rdR (i := 3) hS121 rfl) (by omega) (by omega) _ (Ext.refl _)), (St.cell (i := 2) hS121 rfl rfl _ (Ext.refl _)), (RdS.elt (St.rdR (i := 4) hS121 rfl) (by omega) (by omega) _ (Ext.refl _)), trivial⟩ (y_load (fun _ => by kernel_rfl) rfl (fun _ h => h.2.2.1)) rfl rfl (by kernel_rfl) (by kernel_rfl) (by kernel_rfl) (by kernel_rfl) rfl rfl (fun _ _ _ h => h) ?_; intro a142 hE143; clear hE141
      refine d_only 11 (by kernel_rfl) rfl hE143 rfl (l_call (f := 196) (argv := [.slice classesA classes.length classesC, .int .i64 (gI f1 x8L2)]) hE143 (fun _ => cf_l08Image _ _) rfl rfl (c_l08Image classesA classes.length classesC classes (gI f1 x8L2) w119 (St.rdR (i := 3) hS121 rfl) (by omega) hcl) ?_)
      rintro _ w145 ⟨rfl, he149⟩ a146 hE147; clear hE143
      have hS148 := St.go hS121 he149; clear hS121
      refine ⟨fun _ _ => ⟨(RdS.elt (St.rdR (i := 3) hS148 rfl) (by omega) (by omega) _ (Ext.refl _)), (St.cell (i := 2) hS148 rfl rfl _ (Ext.refl _)), (RdS.elt (St.rdR (i := 4) hS148 rfl) (by omega) (by omega) _ (Ext.refl _)), trivial⟩, ?_⟩
      refine d_pure (fun _ h => h) (v := .pointer (some (adr b84 (Int.toNat (gI classes x8L2))))) 12 rfl hE147 (y_idx (by kernel_rfl) (fun _ => by kernel_rfl) rfl rfl (RdS.isS (m := gI classes x8L2) (St.rdO (i := 0) hS148 rfl) (by omega) (by omega)) (by omega) (by omega) (Nat.mul_one _).symm) rfl (by kernel_rfl) (by kernel_rfl) (by kernel_rfl) rfl rfl (fun _ _ _ h => h) ?_; intro a150 hE151; clear hE147
      refine d_only 13 (by kernel_rfl) rfl hE151 rfl (l_store (k := 0) hS148 hE151 (fun _ => by kernel_rfl) rfl rfl rfl (by omega) (by omega) ?_)
      intro w153 hS156 a154 hE155; clear hS148 hE151
      refine ⟨fun h => Bool.noConfusion (h.symm.trans (show exm _ _ _ = true by kernel_rfl)), ?_⟩
      refine d_done (by kernel_rfl) ?_
      have hE158 := hE155.sub (L' := [(1, .slice classesA classes.length classesC), (2, .pointer (some ⟨b3, 0, none⟩)), (4, .pointer (some ⟨b9, 0, none⟩)), (5, .int .i64 ((F_l08Quotient_L1 classes (Int.toNat ((classes.length : Int) - 0) + 1) 0 0).1)), (7, .slice b84 (Int.toNat ((F_l08Quotient_L1 classes (Int.toNat ((classes.length : Int) - 0) + 1) 0 0).1)) (Int.toNat ((F_l08Quotient_L1 classes (Int.toNat ((classes.length : Int) - 0) + 1) 0 0).1))), (8, .int .i64 x8L2)]) ⟨rfl, rfl, rfl, rfl, rfl, rfl, trivial⟩; clear hE155
      refine p_bn ?_
      refine p_tn ?_
      refine c_reg ?_
      refine q_step (v := .int .i64 x8L2) hE158 (y_move rfl) rfl rfl rfl ?_; intro a159 hE160; clear hE158
      refine q_step (v := .int .i64 (x8L2 + 1)) hE160 (y_add rfl rfl ⟨(by omega), (by omega)⟩) rfl rfl rfl ?_; intro a161 hE162; clear hE160
      refine q_step (v := .int .i64 (x8L2 + 1)) hE162 (y_assign rfl) rfl rfl rfl ?_; intro a163 hE164; clear hE162
      refine c_nil ?_
      have hE165 := hE164.sub (L' := [(1, .slice classesA classes.length classesC), (2, .pointer (some ⟨b3, 0, none⟩)), (4, .pointer (some ⟨b9, 0, none⟩)), (5, .int .i64 ((F_l08Quotient_L1 classes (Int.toNat ((classes.length : Int) - 0) + 1) 0 0).1)), (7, .slice b84 (Int.toNat ((F_l08Quotient_L1 classes (Int.toNat ((classes.length : Int) - 0) + 1) 0 0).1)) (Int.toNat ((F_l08Quotient_L1 classes (Int.toNat ((classes.length : Int) - 0) + 1) 0 0).1))), (8, .int .i64 (x8L2 + 1))]) ⟨rfl, rfl, rfl, rfl, rfl, rfl, trivial⟩; clear hE164
      refine p_tn ⟨r106, Nat.lt_succ_self _, x8L2 + 1, sI arrows7L2 (gI classes x8L2) (F_l08Image classes (gI f1 x8L2)), (hT101.symm.trans (show F_l08Quotient_L2b f1 classes (F_l08Quotient_L2 f1 classes r106) x8L2 arrows7L2 = F_l08Quotient_L2 f1 classes r106 (x8L2 + 1) (sI arrows7L2 (gI classes x8L2) (F_l08Image classes (gI f1 x8L2))) by unfold F_l08Quotient_L2b; rw [ht116]; first | done | rfl)).symm, (by omega), (by first | omega | (simp only [sS_len, sL_len]; omega) | (simp only [List.length_replicate, sI_len]; omega) | (simp only [List.length_append, List.length_cons, List.length_nil, sI_len, cond_true, cond_false]; omega) | (simp only [List.length_append, List.length_cons, List.length_nil, sI_len, cond_eq_ite, apply_ite List.length]; split <;> simp only [List.length_append, List.length_cons, List.length_nil, sI_len] <;> omega) | grind), (by first | omega | (simp only [sS_len, sL_len]; omega) | (simp only [List.length_replicate, sI_len]; omega) | (simp only [List.length_append, List.length_cons, List.length_nil, sI_len, cond_true, cond_false]; omega) | (simp only [List.length_append, List.length_cons, List.length_nil, sI_len, cond_eq_ite, apply_ite List.length]; split <;> simp only [List.length_append, List.length_cons, List.length_nil, sI_len] <;> omega) | grind), (by first | omega | (simp only [sS_len, sL_len]; omega) | (simp only [List.length_replicate, sI_len]; omega) | (simp only [List.length_append, List.length_cons, List.length_nil, sI_len, cond_true, cond_false]; omega) | (simp only [List.length_append, List.length_cons, List.length_nil, sI_len, cond_eq_ite, apply_ite List.length]; split <;> simp only [List.length_append, List.length_cons, List.length_nil, sI_len] <;> omega) | grind), (hE165.sub (L' := [(1, .slice classesA classes.length classesC), (2, .pointer (some ⟨b3, 0, none⟩)), (4, .pointer (some ⟨b9, 0, none⟩)), (5, .int .i64 ((F_l08Quotient_L1 classes (Int.toNat ((classes.length : Int) - 0) + 1) 0 0).1)), (7, .slice b84 (Int.toNat ((F_l08Quotient_L1 classes (Int.toNat ((classes.length : Int) - 0) + 1) 0 0).1)) (Int.toNat ((F_l08Quotient_L1 classes (Int.toNat ((classes.length : Int) - 0) + 1) 0 0).1))), (8, .int .i64 (x8L2 + 1))]) ⟨rfl, rfl, rfl, rfl, rfl, rfl, trivial⟩), (St.pick (Γ' := [.own 2 1 b84 (Int.toNat ((F_l08Quotient_L1 classes (Int.toNat ((classes.length : Int) - 0) + 1) 0 0).1)) (Int.toNat ((F_l08Quotient_L1 classes (Int.toNat ((classes.length : Int) - 0) + 1) 0 0).1)) (sI arrows7L2 (gI classes x8L2) (F_l08Image classes (gI f1 x8L2))), .blk b9 #[.int .i64 0, .slice none 0 0] 30, .blk b3 #[.int .i64 f0, .slice f1A f1.length f1C] 30, .rd 1 classesA classes.length classesC classes, .rd 1 f1A f1.length f1C f1]) hS156 [0, 1, 2, 3, 4] (by decide) rfl)⟩
     ·
      have hp166 := of_decide_eq_false ht116
      have hE167 := hE115; rw [ht116] at hE167; clear hE115
      refine wp_exit ?_
      refine p_te ?_
      have hX168 : F_l08Quotient_L2 f1 classes (Int.toNat ((classes.length : Int) - 0) + 1) 0 (List.replicate (Int.toNat ((F_l08Quotient_L1 classes (Int.toNat ((classes.length : Int) - 0) + 1) 0 0).1)) 0) = (x8L2, arrows7L2) := hT101.symm.trans (show F_l08Quotient_L2b f1 classes (F_l08Quotient_L2 f1 classes r106) x8L2 arrows7L2 = (x8L2, arrows7L2) by unfold F_l08Quotient_L2b; rw [ht116]; first | done | rfl)
      refine p_te (p_be (p_tn ?_))
      exact ⟨(by rw [hX168]; exact (show 0 ≤ x8L2 from (by first | omega | (simp only [sS_len, sL_len]; omega) | (simp only [List.length_replicate, sI_len]; omega) | (simp only [List.length_append, List.length_cons, List.length_nil, sI_len, cond_true, cond_false]; omega) | (simp only [List.length_append, List.length_cons, List.length_nil, sI_len, cond_eq_ite, apply_ite List.length]; split <;> simp only [List.length_append, List.length_cons, List.length_nil, sI_len] <;> omega) | grind))), (by rw [hX168]; exact (show (arrows7L2.length : Int) = (F_l08Quotient_L1 classes (Int.toNat ((classes.length : Int) - 0) + 1) 0 0).1 from (by first | omega | (simp only [sS_len, sL_len]; omega) | (simp only [List.length_replicate, sI_len]; omega) | (simp only [List.length_append, List.length_cons, List.length_nil, sI_len, cond_true, cond_false]; omega) | (simp only [List.length_append, List.length_cons, List.length_nil, sI_len, cond_eq_ite, apply_ite List.length]; split <;> simp only [List.length_append, List.length_cons, List.length_nil, sI_len] <;> omega) | grind))), (by rw [hX168]; exact (show x8L2 ≤ (classes.length : Int) from (by first | omega | (simp only [sS_len, sL_len]; omega) | (simp only [List.length_replicate, sI_len]; omega) | (simp only [List.length_append, List.length_cons, List.length_nil, sI_len, cond_true, cond_false]; omega) | (simp only [List.length_append, List.length_cons, List.length_nil, sI_len, cond_eq_ite, apply_ite List.length]; split <;> simp only [List.length_append, List.length_cons, List.length_nil, sI_len] <;> omega) | grind))), (by rw [hX168]; exact (hE167.sub (L' := [(1, .slice classesA classes.length classesC), (2, .pointer (some ⟨b3, 0, none⟩)), (4, .pointer (some ⟨b9, 0, none⟩)), (5, .int .i64 ((F_l08Quotient_L1 classes (Int.toNat ((classes.length : Int) - 0) + 1) 0 0).1)), (7, .slice b84 (Int.toNat ((F_l08Quotient_L1 classes (Int.toNat ((classes.length : Int) - 0) + 1) 0 0).1)) (Int.toNat ((F_l08Quotient_L1 classes (Int.toNat ((classes.length : Int) - 0) + 1) 0 0).1))), (8, .int .i64 x8L2)]) ⟨rfl, rfl, rfl, rfl, rfl, rfl, trivial⟩)), (by rw [hX168]; exact (St.pick (Γ' := [.own 2 1 b84 (Int.toNat ((F_l08Quotient_L1 classes (Int.toNat ((classes.length : Int) - 0) + 1) 0 0).1)) (Int.toNat ((F_l08Quotient_L1 classes (Int.toNat ((classes.length : Int) - 0) + 1) 0 0).1)) arrows7L2, .blk b9 #[.int .i64 0, .slice none 0 0] 30, .blk b3 #[.int .i64 f0, .slice f1A f1.length f1C] 30, .rd 1 classesA classes.length classesC classes, .rd 1 f1A f1.length f1C f1]) hS100 [0, 1, 2, 3, 4] (by decide) rfl))⟩
   ·
    rintro a169 w170 ⟨hi174, hi175, hi176, hE171, hS172⟩; clear hE95 hS88
    refine p_tn ?_
    refine c_seq ?_
    refine c_reg ?_
    refine q_step (v := .int .i64 ((F_l08Quotient_L1 classes (Int.toNat ((classes.length : Int) - 0) + 1) 0 0).1)) hE171 (y_move rfl) rfl rfl rfl ?_; intro a177 hE178; clear hE171
    refine q_step (v := .slice b84 (Int.toNat ((F_l08Quotient_L1 classes (Int.toNat ((classes.length : Int) - 0) + 1) 0 0).1)) (Int.toNat ((F_l08Quotient_L1 classes (Int.toNat ((classes.length : Int) - 0) + 1) 0 0).1))) hE178 (y_move rfl) rfl rfl rfl ?_; intro a179 hE180; clear hE178
    refine q_step (v := .agg #[.int .i64 ((F_l08Quotient_L1 classes (Int.toNat ((classes.length : Int) - 0) + 1) 0 0).1), .slice b84 (Int.toNat ((F_l08Quotient_L1 classes (Int.toNat ((classes.length : Int) - 0) + 1) 0 0).1)) (Int.toNat ((F_l08Quotient_L1 classes (Int.toNat ((classes.length : Int) - 0) + 1) 0 0).1))]) hE180 (y_build (vs := #[(0, .int .i64 ((F_l08Quotient_L1 classes (Int.toNat ((classes.length : Int) - 0) + 1) 0 0).1)), (1, .slice b84 (Int.toNat ((F_l08Quotient_L1 classes (Int.toNat ((classes.length : Int) - 0) + 1) 0 0).1)) (Int.toNat ((F_l08Quotient_L1 classes (Int.toNat ((classes.length : Int) - 0) + 1) 0 0).1)))]) (fun a n hE => by simp only [hE.eval (x := .tmp 43) (v := .int .i64 ((F_l08Quotient_L1 classes (Int.toNat ((classes.length : Int) - 0) + 1) 0 0).1)) rfl, hE.eval (x := .tmp 44) (v := .slice b84 (Int.toNat ((F_l08Quotient_L1 classes (Int.toNat ((classes.length : Int) - 0) + 1) 0 0).1)) (Int.toNat ((F_l08Quotient_L1 classes (Int.toNat ((classes.length : Int) - 0) + 1) 0 0).1))) rfl, List.map_toArray, List.map_cons, List.map_nil]) (fun _ => by kernel_rfl)) rfl rfl rfl ?_; intro a181 hE182; clear hE180
    refine l_step hE182 rfl (l_storeS (k := 1) (cs' := #[.int .i64 ((F_l08Quotient_L1 classes (Int.toNat ((classes.length : Int) - 0) + 1) 0 0).1), .slice b84 (Int.toNat ((F_l08Quotient_L1 classes (Int.toNat ((classes.length : Int) - 0) + 1) 0 0).1)) (Int.toNat ((F_l08Quotient_L1 classes (Int.toNat ((classes.length : Int) - 0) + 1) 0 0).1))]) hS172 hE182 (by kernel_rfl) rfl rfl (by kernel_rfl) rfl rfl ?_)
    intro w184 hS187 a185 hE186; clear hS172 hE182
    refine c_nil ?_
    have hE189 := hE186.sub (L' := [(4, .pointer (some ⟨b9, 0, none⟩))]) ⟨rfl, trivial⟩; clear hE186
    refine p_tn ?_
    refine wp_ret ?_
    have hF : F_l08Quotient f0 f1 classes = ((F_l08Quotient_L1 classes (Int.toNat ((classes.length : Int) - 0) + 1) 0 0).1, (F_l08Quotient_L2 f1 classes (Int.toNat ((classes.length : Int) - 0) + 1) 0 (List.replicate (Int.toNat ((F_l08Quotient_L1 classes (Int.toNat ((classes.length : Int) - 0) + 1) 0 0).1)) 0)).2) := by unfold F_l08Quotient; rfl
    refine c_retC hE189 rfl rfl Try.underlying30 rfl (by kernel_rfl) (St.row (i := 1) hS187 rfl _ (Ext.refl _)) ?_
    exact ⟨b84, Int.toNat ((F_l08Quotient_L1 classes (Int.toNat ((classes.length : Int) - 0) + 1) 0 0).1), (by rw [hF]; first | rfl | (rw [(St.rdO (i := 0) hS187 rfl).len1])), (by rw [hF, (St.rdO (i := 0) hS187 rfl).len1]; (try dsimp only); exact hS187.ok 0 _ rfl), hS187.ext⟩
def F_s_QuotientFrame (f0 : Int) (f1 : List Int) (classes : List Int) : (Int × List Int) × (Int) :=
  bif ((!(F_l05Is f0 f1)) || (!(F_l08Congruence f0 f1 classes))) then ((0, []), 1) else (((F_l08Quotient f0 f1 classes).1, (F_l08Quotient f0 f1 classes).2), 0)
theorem cf_s_QuotientFrame (args : Array Value) (w : World) : (callFunc 52 args).run Try.prog w = .ok (.enter 52 args) w := by kernel_rfl
set_option maxRecDepth 100000 in
theorem c_s_QuotientFrame (f0 : Int) (f1A : Option Addr) (f1N f1C : Nat) (f1 : List Int) (classesA : Option Addr) (classesN classesC : Nat) (classes : List Int) (w : World) (f1R : RdS w 1 f1A f1N f1C f1) (classesR : RdS w 1 classesA classesN classesC classes) (hl : classes.length ≤ 1048576) :
    Calls Try.prog 52 #[.agg #[.int .i64 f0, .slice f1A f1N f1C], .slice classesA classesN classesC] w (Ret fun v w' => ∃ b1 : Option Addr, ∃ c1 : Nat, v = .tuple #[.agg #[.int .i64 (((F_s_QuotientFrame f0 f1 classes).1).1), .slice b1 (((F_s_QuotientFrame f0 f1 classes).1).2).length c1], .int .i64 ((F_s_QuotientFrame f0 f1 classes).2)] ∧ OwnS w' w.heap.size 2 1 b1 (((F_s_QuotientFrame f0 f1 classes).1).2).length c1 (((F_s_QuotientFrame f0 f1 classes).1).2) ∧ Ext w w') := by
  obtain rfl : f1N = f1.length := f1R.len1.symm
  have f1Le := f1R.le
  obtain rfl : classesN = classes.length := classesR.len1.symm
  have classesLe := classesR.le
  have hS := St.nil w
  have hS1 := St.rd0 hS rfl f1R; clear hS
  have hS2 := St.rd0 hS1 rfl classesR; clear hS1
  refine enter (args := [.agg #[.int .i64 f0, .slice f1A f1.length f1C], .slice classesA classes.length classesC]) Try.func52 rfl rfl ?_
  rw [Try.ntmps52]; intro a hE
  have hE := hE.sub (L' := [(0, .agg #[.int .i64 f0, .slice f1A f1.length f1C]), (1, .slice classesA classes.length classesC)]) ⟨rfl, rfl, trivial⟩
  refine c_seq ?_
  refine c_reg ?_
  refine l_step hE rfl (l_box (v := .agg #[.int .i64 f0, .slice f1A f1.length f1C]) (cs := #[.int .i64 f0, .slice f1A f1.length f1C]) hS2 hE rfl rfl rfl ?_)
  intro b3 w4 hS7 he8 a5 hE6; clear hS2 hE
  refine l_step hE6 rfl (l_alloc (z := .agg #[.int .i64 0, .slice none 0 0]) (cs := #[.int .i64 0, .slice none 0 0]) hS7 hE6 (fun _ => by kernel_rfl) rfl rfl ?_)
  intro b9 w10 hS13 he14 a11 hE12; clear hS7 hE6
  refine q_step (v := .int .i64 0) hE12 (y_assign rfl) rfl rfl rfl ?_; intro a15 hE16; clear hE12
  refine c_nil ?_
  have hE17 := hE16.sub (L' := [(1, .slice classesA classes.length classesC), (2, .pointer (some ⟨b3, 0, none⟩)), (4, .pointer (some ⟨b9, 0, none⟩))]) ⟨rfl, rfl, rfl, trivial⟩; clear hE16
  refine p_tn ?_
  refine c_seq ?_
  refine c_cut (fun a' w' => E a' 19 [(1, .slice classesA classes.length classesC), (2, .pointer (some ⟨b3, 0, none⟩)), (4, .pointer (some ⟨b9, 0, none⟩)), (14, .bool ((!(F_l05Is f0 f1)) || (!(F_l08Congruence f0 f1 classes))))] ∧ St w w' [.blk b9 #[.int .i64 0, .slice none 0 0] 30, .rd 1 f1A f1.length f1C f1, .blk b3 #[.int .i64 f0, .slice f1A f1.length f1C] 30, .rd 1 classesA classes.length classesC classes]) ?_ ?_
  ·
   refine c_reg ?_
   refine q_step (v := .agg #[.int .i64 f0, .slice f1A f1.length f1C]) hE17 (y_loadS Try.underlying30 rfl (by kernel_rfl) rfl (St.row (i := 1) hS13 rfl)) rfl rfl rfl ?_; intro a18 hE19; clear hE17
   refine l_step hE19 rfl (l_call (f := 94) (argv := [.agg #[.int .i64 f0, .slice f1A f1.length f1C]]) hE19 (fun _ => cf_l05Is _ _) rfl rfl (c_l05Is f0 f1A f1.length f1C f1 w10 (St.rdR (i := 3) hS13 rfl)) ?_)
   rintro _ w21 ⟨rfl, he25⟩ a22 hE23; clear hE19
   have hS24 := St.go hS13 he25; clear hS13
   refine q_step (v := .bool (!(F_l05Is f0 f1))) hE23 (y_not rfl) rfl rfl rfl ?_; intro a26 hE27; clear hE23
   refine q_step (v := .bool (!(F_l05Is f0 f1))) hE27 (y_move rfl) rfl rfl rfl ?_; intro a28 hE29; clear hE27
   rcases Bool.eq_false_or_eq_true (!(F_l05Is f0 f1)) with hb30 | hb30
   ·
    have hE31 := hE29; (try rw [hb30] at hE31); clear hE29
    have ht32 := bn_t hb30
    refine q_skip hE31 rfl rfl rfl ?_; intro a33 hE34; clear hE31
    refine q_skip hE34 rfl rfl rfl ?_; intro a35 hE36; clear hE34
    refine q_skip hE36 rfl rfl rfl ?_; intro a37 hE38; clear hE36
    refine q_skip hE38 rfl rfl rfl ?_; intro a39 hE40; clear hE38
    refine q_step (v := .bool true) hE40 (y_pick (b := true) rfl rfl) rfl rfl rfl ?_; intro a41 hE42; clear hE40
    refine c_nil ?_
    have hE43 := hE42.sub (L' := [(1, .slice classesA classes.length classesC), (2, .pointer (some ⟨b3, 0, none⟩)), (4, .pointer (some ⟨b9, 0, none⟩)), (14, .bool true)]) ⟨rfl, rfl, rfl, rfl, trivial⟩; clear hE42
    refine p_tn ?_
    have hE44 := hE43.sub (L' := [(1, .slice classesA classes.length classesC), (2, .pointer (some ⟨b3, 0, none⟩)), (4, .pointer (some ⟨b9, 0, none⟩)), (14, .bool true)]) ⟨rfl, rfl, rfl, rfl, trivial⟩
    have hS45 := (St.pick (Γ' := [.blk b9 #[.int .i64 0, .slice none 0 0] 30, .rd 1 f1A f1.length f1C f1, .blk b3 #[.int .i64 f0, .slice f1A f1.length f1C] 30, .rd 1 classesA classes.length classesC classes]) hS24 [0, 3, 1, 2] (by decide) rfl)
    exact ⟨(by rw [hb30]; exact hE44), hS45⟩
   ·
    have hE46 := hE29; (try rw [hb30] at hE46); clear hE29
    have ht47 := bn_f hb30
    have hp48 := l05Is_t ht47
    refine q_step (v := .agg #[.int .i64 f0, .slice f1A f1.length f1C]) hE46 (y_loadS Try.underlying30 rfl (by kernel_rfl) rfl (St.row (i := 1) hS24 rfl)) rfl rfl rfl ?_; intro a49 hE50; clear hE46
    refine q_step (v := .slice classesA classes.length classesC) hE50 (y_move rfl) rfl rfl rfl ?_; intro a51 hE52; clear hE50
    refine l_step hE52 rfl (l_call (f := 113) (argv := [.agg #[.int .i64 f0, .slice f1A f1.length f1C], .slice classesA classes.length classesC]) hE52 (fun _ => cf_l08Congruence _ _) rfl rfl (c_l08Congruence f0 f1A f1.length f1C f1 classesA classes.length classesC classes w21 (St.rdR (i := 3) hS24 rfl) (St.rdR (i := 2) hS24 rfl) (by omega) (by omega) (l05Is_m (by assumption)) (by omega)) ?_)
    rintro _ w54 ⟨rfl, he58⟩ a55 hE56; clear hE52
    have hS57 := St.go hS24 he58; clear hS24
    refine q_step (v := .bool (!(F_l08Congruence f0 f1 classes))) hE56 (y_not rfl) rfl rfl rfl ?_; intro a59 hE60; clear hE56
    refine q_step (v := .bool (!(F_l08Congruence f0 f1 classes))) hE60 (y_pick (b := false) rfl rfl) rfl rfl rfl ?_; intro a61 hE62; clear hE60
    refine c_nil ?_
    have hE63 := hE62.sub (L' := [(1, .slice classesA classes.length classesC), (2, .pointer (some ⟨b3, 0, none⟩)), (4, .pointer (some ⟨b9, 0, none⟩)), (14, .bool (!(F_l08Congruence f0 f1 classes)))]) ⟨rfl, rfl, rfl, rfl, trivial⟩; clear hE62
    refine p_tn ?_
    have hE64 := hE63.sub (L' := [(1, .slice classesA classes.length classesC), (2, .pointer (some ⟨b3, 0, none⟩)), (4, .pointer (some ⟨b9, 0, none⟩)), (14, .bool (!(F_l08Congruence f0 f1 classes)))]) ⟨rfl, rfl, rfl, rfl, trivial⟩
    have hS65 := (St.pick (Γ' := [.blk b9 #[.int .i64 0, .slice none 0 0] 30, .rd 1 f1A f1.length f1C f1, .blk b3 #[.int .i64 f0, .slice f1A f1.length f1C] 30, .rd 1 classesA classes.length classesC classes]) hS57 [0, 3, 1, 2] (by decide) rfl)
    exact ⟨(by rw [hb30]; exact hE64), hS65⟩
  ·
   rintro a66 w67 ⟨hE68, hS69⟩; clear hE17 hS13
   refine c_cond hE68 rfl (fun ht71 => ?_) (fun ht71 => ?_)
   ·
    have hE72 := hE68; rw [ht71] at hE72; clear hE68
    refine c_seq ?_
    refine c_reg ?_
    refine q_step (v := .agg #[.int .i64 0, .slice none 0 0]) hE72 (y_build (vs := #[]) (fun a n hE => by simp) (fun _ => by kernel_rfl)) rfl rfl rfl ?_; intro a73 hE74; clear hE72
    refine l_step hE74 rfl (l_storeS (k := 0) (cs' := #[.int .i64 0, .slice none 0 0]) hS69 hE74 (by kernel_rfl) rfl rfl (by kernel_rfl) rfl rfl ?_)
    intro w76 hS79 a77 hE78; clear hS69 hE74
    refine q_step (v := .int .i64 1) hE78 (y_assign rfl) rfl rfl rfl ?_; intro a81 hE82; clear hE78
    refine c_nil ?_
    have hE83 := hE82.sub (L' := [(4, .pointer (some ⟨b9, 0, none⟩)), (5, .int .i64 1)]) ⟨rfl, rfl, trivial⟩; clear hE82
    refine p_tn ?_
    refine wp_ret ?_
    refine p_tr ?_
    have hF : F_s_QuotientFrame f0 f1 classes = ((0, []), 1) := by unfold F_s_QuotientFrame; rw [ht71]; first | done | rfl
    refine c_retC2 hE83 rfl rfl rfl Try.underlying30 rfl (by kernel_rfl) (St.row (i := 0) hS79 rfl _ (Ext.refl _)) ?_
    exact ⟨none, 0, (by rw [hF]; first | done | (dsimp only; done) | rfl), (by rw [hF]; (try dsimp only); exact OwnS.nilS _ _ _ _), hS79.ext⟩
   ·
    obtain ⟨ht84, ht85⟩ := bor_f ht71
    have ht86 := bn_f ht84
    have hp87 := l05Is_t ht86
    have ht88 := bn_f ht85
    have hp89 := l08Congruence_t ht88
    have hE90 := hE68; rw [ht71] at hE90; clear hE68
    refine wp_skip ?_
    refine p_tn ?_
    refine c_seq ?_
    refine c_reg ?_
    refine q_step (v := .agg #[.int .i64 f0, .slice f1A f1.length f1C]) hE90 (y_loadS Try.underlying30 rfl (by kernel_rfl) rfl (St.row (i := 2) hS69 rfl)) rfl rfl rfl ?_; intro a91 hE92; clear hE90
    refine q_step (v := .slice classesA classes.length classesC) hE92 (y_move rfl) rfl rfl rfl ?_; intro a93 hE94; clear hE92
    refine l_step hE94 rfl (l_call (f := 114) (argv := [.agg #[.int .i64 f0, .slice f1A f1.length f1C], .slice classesA classes.length classesC]) hE94 (fun _ => cf_l08Quotient _ _) rfl rfl (c_l08Quotient f0 f1A f1.length f1C f1 classesA classes.length classesC classes w67 (St.rdR (i := 1) hS69 rfl) (St.rdR (i := 3) hS69 rfl) (by omega) (by omega) (l05Is_m (by assumption)) (by omega) (l08Congruence_7 (by assumption) (by omega))) ?_)
    rintro _ w96 ⟨b101, c102, rfl, ho103, he100⟩ a97 hE98; clear hE94
    have hS99 := St.own hS69 he100 ho103; clear hS69
    refine l_step hE98 rfl (l_storeS (k := 1) (cs' := #[.int .i64 ((F_l08Quotient f0 f1 classes).1), .slice b101 (((F_l08Quotient f0 f1 classes).2).length) c102]) hS99 hE98 (by kernel_rfl) rfl rfl (by kernel_rfl) rfl rfl ?_)
    intro w105 hS108 a106 hE107; clear hS99 hE98
    refine q_step (v := .int .i64 0) hE107 (y_assign rfl) rfl rfl rfl ?_; intro a110 hE111; clear hE107
    refine c_nil ?_
    have hE112 := hE111.sub (L' := [(4, .pointer (some ⟨b9, 0, none⟩)), (5, .int .i64 0)]) ⟨rfl, rfl, trivial⟩; clear hE111
    refine p_tn ?_
    refine wp_ret ?_
    have hF : F_s_QuotientFrame f0 f1 classes = (((F_l08Quotient f0 f1 classes).1, (F_l08Quotient f0 f1 classes).2), 0) := by unfold F_s_QuotientFrame; rw [ht71]; first | done | rfl
    refine c_retC2 hE112 rfl rfl rfl Try.underlying30 rfl (by kernel_rfl) (St.row (i := 1) hS108 rfl _ (Ext.refl _)) ?_
    exact ⟨b101, c102, (by rw [hF]; first | done | (dsimp only; done) | rfl), (by rw [hF]; (try dsimp only); exact hS108.ok 0 _ rfl), hS108.ext⟩
theorem frame_mm {f0 : Int} {f1 : List Int} (h : F_isFrame f0 f1 = true) : ∀ m : Int, 0 ≤ m → m < (f1.length : Int) → 0 ≤ gI f1 m ∧ gI f1 m ≤ fullI (f1.length : Int) := by
  rw [isFrame_eq] at h
  intro m h0 h1
  rw [(l05Is_t h).2]; exact l05Is_m h m h0 h1
def F_QuotientFrame (f0 : Int) (f1 : List Int) (classes : List Int) : (Int × List Int) × (Int) :=
  bif ((!(F_isFrame f0 f1)) || (!(F_isCongruence f0 f1 classes))) then ((0, []), 1) else (((F_frameOf (F_quotientRelation f1 classes)).1, F_quotientRelation f1 classes), 0)
theorem cf_QuotientFrame (args : Array Value) (w : World) : (callFunc 51 args).run Try.prog w = .ok (.enter 51 args) w := by kernel_rfl
set_option maxRecDepth 100000 in
theorem c_QuotientFrame (f0 : Int) (f1A : Option Addr) (f1N f1C : Nat) (f1 : List Int) (classesA : Option Addr) (classesN classesC : Nat) (classes : List Int) (w : World) (f1R : RdS w 1 f1A f1N f1C f1) (classesR : RdS w 1 classesA classesN classesC classes) (hl : classes.length ≤ 1048576) :
    Calls Try.prog 51 #[.agg #[.int .i64 f0, .slice f1A f1N f1C], .slice classesA classesN classesC] w (Ret fun v w' => ∃ b1 : Option Addr, ∃ c1 : Nat, v = .tuple #[.agg #[.int .i64 (((F_QuotientFrame f0 f1 classes).1).1), .slice b1 (((F_QuotientFrame f0 f1 classes).1).2).length c1], .int .i64 ((F_QuotientFrame f0 f1 classes).2)] ∧ OwnS w' w.heap.size 2 1 b1 (((F_QuotientFrame f0 f1 classes).1).2).length c1 (((F_QuotientFrame f0 f1 classes).1).2) ∧ Ext w w') := by
  obtain rfl : f1N = f1.length := f1R.len1.symm
  have f1Le := f1R.le
  obtain rfl : classesN = classes.length := classesR.len1.symm
  have classesLe := classesR.le
  have hS := St.nil w
  have hS1 := St.rd0 hS rfl f1R; clear hS
  have hS2 := St.rd0 hS1 rfl classesR; clear hS1
  refine enter (args := [.agg #[.int .i64 f0, .slice f1A f1.length f1C], .slice classesA classes.length classesC]) Try.func51 rfl rfl ?_
  rw [Try.ntmps51]; intro a hE
  have hE := hE.sub (L' := [(0, .agg #[.int .i64 f0, .slice f1A f1.length f1C]), (1, .slice classesA classes.length classesC)]) ⟨rfl, rfl, trivial⟩
  refine c_seq ?_
  refine c_reg ?_
  refine l_step hE rfl (l_box (v := .agg #[.int .i64 f0, .slice f1A f1.length f1C]) (cs := #[.int .i64 f0, .slice f1A f1.length f1C]) hS2 hE rfl rfl rfl ?_)
  intro b3 w4 hS7 he8 a5 hE6; clear hS2 hE
  refine l_step hE6 rfl (l_alloc (z := .agg #[.int .i64 0, .slice none 0 0]) (cs := #[.int .i64 0, .slice none 0 0]) hS7 hE6 (fun _ => by kernel_rfl) rfl rfl ?_)
  intro b9 w10 hS13 he14 a11 hE12; clear hS7 hE6
  refine q_step (v := .int .i64 0) hE12 (y_assign rfl) rfl rfl rfl ?_; intro a15 hE16; clear hE12
  refine c_nil ?_
  have hE17 := hE16.sub (L' := [(1, .slice classesA classes.length classesC), (2, .pointer (some ⟨b3, 0, none⟩)), (4, .pointer (some ⟨b9, 0, none⟩))]) ⟨rfl, rfl, rfl, trivial⟩; clear hE16
  refine p_tn ?_
  refine c_seq ?_
  refine c_cut (fun a' w' => E a' 21 [(1, .slice classesA classes.length classesC), (2, .pointer (some ⟨b3, 0, none⟩)), (4, .pointer (some ⟨b9, 0, none⟩)), (14, .bool ((!(F_isFrame f0 f1)) || (!(F_isCongruence f0 f1 classes))))] ∧ St w w' [.blk b9 #[.int .i64 0, .slice none 0 0] 30, .rd 1 f1A f1.length f1C f1, .blk b3 #[.int .i64 f0, .slice f1A f1.length f1C] 30, .rd 1 classesA classes.length classesC classes]) ?_ ?_
  ·
   refine c_reg ?_
   refine q_step (v := .agg #[.int .i64 f0, .slice f1A f1.length f1C]) hE17 (y_loadS Try.underlying30 rfl (by kernel_rfl) rfl (St.row (i := 1) hS13 rfl)) rfl rfl rfl ?_; intro a18 hE19; clear hE17
   refine l_step hE19 rfl (l_call (f := 96) (argv := [.agg #[.int .i64 f0, .slice f1A f1.length f1C]]) hE19 (fun _ => cf_isFrame _ _) rfl rfl (c_isFrame f0 f1A f1.length f1C f1 w10 (St.rdR (i := 3) hS13 rfl)) ?_)
   rintro _ w21 ⟨rfl, he25⟩ a22 hE23; clear hE19
   have hS24 := St.go hS13 he25; clear hS13
   refine q_step (v := .bool (!(F_isFrame f0 f1))) hE23 (y_not rfl) rfl rfl rfl ?_; intro a26 hE27; clear hE23
   refine q_step (v := .bool (!(F_isFrame f0 f1))) hE27 (y_move rfl) rfl rfl rfl ?_; intro a28 hE29; clear hE27
   rcases Bool.eq_false_or_eq_true (!(F_isFrame f0 f1)) with hb30 | hb30
   ·
    have hE31 := hE29; (try rw [hb30] at hE31); clear hE29
    have ht32 := bn_t hb30
    refine q_skip hE31 rfl rfl rfl ?_; intro a33 hE34; clear hE31
    refine q_skip hE34 rfl rfl rfl ?_; intro a35 hE36; clear hE34
    refine q_skip hE36 rfl rfl rfl ?_; intro a37 hE38; clear hE36
    refine q_skip hE38 rfl rfl rfl ?_; intro a39 hE40; clear hE38
    refine q_step (v := .bool true) hE40 (y_pick (b := true) rfl rfl) rfl rfl rfl ?_; intro a41 hE42; clear hE40
    refine c_nil ?_
    have hE43 := hE42.sub (L' := [(1, .slice classesA classes.length classesC), (2, .pointer (some ⟨b3, 0, none⟩)), (4, .pointer (some ⟨b9, 0, none⟩)), (14, .bool true)]) ⟨rfl, rfl, rfl, rfl, trivial⟩; clear hE42
    refine p_tn ?_
    have hE44 := hE43.sub (L' := [(1, .slice classesA classes.length classesC), (2, .pointer (some ⟨b3, 0, none⟩)), (4, .pointer (some ⟨b9, 0, none⟩)), (14, .bool true)]) ⟨rfl, rfl, rfl, rfl, trivial⟩
    have hS45 := (St.pick (Γ' := [.blk b9 #[.int .i64 0, .slice none 0 0] 30, .rd 1 f1A f1.length f1C f1, .blk b3 #[.int .i64 f0, .slice f1A f1.length f1C] 30, .rd 1 classesA classes.length classesC classes]) hS24 [0, 3, 1, 2] (by decide) rfl)
    exact ⟨(by rw [hb30]; exact hE44), hS45⟩
   ·
    have hE46 := hE29; (try rw [hb30] at hE46); clear hE29
    have ht47 := bn_f hb30
    have hp48 := isFrame_t ht47
    refine q_step (v := .agg #[.int .i64 f0, .slice f1A f1.length f1C]) hE46 (y_loadS Try.underlying30 rfl (by kernel_rfl) rfl (St.row (i := 1) hS24 rfl)) rfl rfl rfl ?_; intro a49 hE50; clear hE46
    refine q_step (v := .slice classesA classes.length classesC) hE50 (y_move rfl) rfl rfl rfl ?_; intro a51 hE52; clear hE50
    refine l_step hE52 rfl (l_call (f := 111) (argv := [.agg #[.int .i64 f0, .slice f1A f1.length f1C], .slice classesA classes.length classesC]) hE52 (fun _ => cf_isCongruence _ _) rfl rfl (c_isCongruence f0 f1A f1.length f1C f1 classesA classes.length classesC classes w21 (St.rdR (i := 3) hS24 rfl) (St.rdR (i := 2) hS24 rfl) (by omega) (by omega) (l05Is_m (by rw [← isFrame_eq]; assumption)) (by omega)) ?_)
    rintro _ w54 ⟨rfl, he58⟩ a55 hE56; clear hE52
    have hS57 := St.go hS24 he58; clear hS24
    refine q_step (v := .bool (!(F_isCongruence f0 f1 classes))) hE56 (y_not rfl) rfl rfl rfl ?_; intro a59 hE60; clear hE56
    refine q_step (v := .bool (!(F_isCongruence f0 f1 classes))) hE60 (y_pick (b := false) rfl rfl) rfl rfl rfl ?_; intro a61 hE62; clear hE60
    refine c_nil ?_
    have hE63 := hE62.sub (L' := [(1, .slice classesA classes.length classesC), (2, .pointer (some ⟨b3, 0, none⟩)), (4, .pointer (some ⟨b9, 0, none⟩)), (14, .bool (!(F_isCongruence f0 f1 classes)))]) ⟨rfl, rfl, rfl, rfl, trivial⟩; clear hE62
    refine p_tn ?_
    have hE64 := hE63.sub (L' := [(1, .slice classesA classes.length classesC), (2, .pointer (some ⟨b3, 0, none⟩)), (4, .pointer (some ⟨b9, 0, none⟩)), (14, .bool (!(F_isCongruence f0 f1 classes)))]) ⟨rfl, rfl, rfl, rfl, trivial⟩
    have hS65 := (St.pick (Γ' := [.blk b9 #[.int .i64 0, .slice none 0 0] 30, .rd 1 f1A f1.length f1C f1, .blk b3 #[.int .i64 f0, .slice f1A f1.length f1C] 30, .rd 1 classesA classes.length classesC classes]) hS57 [0, 3, 1, 2] (by decide) rfl)
    exact ⟨(by rw [hb30]; exact hE64), hS65⟩
  ·
   rintro a66 w67 ⟨hE68, hS69⟩; clear hE17 hS13
   refine c_cond hE68 rfl (fun ht71 => ?_) (fun ht71 => ?_)
   ·
    have hE72 := hE68; rw [ht71] at hE72; clear hE68
    refine c_seq ?_
    refine c_reg ?_
    refine q_step (v := .agg #[.int .i64 0, .slice none 0 0]) hE72 (y_build (vs := #[]) (fun a n hE => by simp) (fun _ => by kernel_rfl)) rfl rfl rfl ?_; intro a73 hE74; clear hE72
    refine l_step hE74 rfl (l_storeS (k := 0) (cs' := #[.int .i64 0, .slice none 0 0]) hS69 hE74 (by kernel_rfl) rfl rfl (by kernel_rfl) rfl rfl ?_)
    intro w76 hS79 a77 hE78; clear hS69 hE74
    refine q_step (v := .int .i64 1) hE78 (y_assign rfl) rfl rfl rfl ?_; intro a81 hE82; clear hE78
    refine c_nil ?_
    have hE83 := hE82.sub (L' := [(4, .pointer (some ⟨b9, 0, none⟩)), (5, .int .i64 1)]) ⟨rfl, rfl, trivial⟩; clear hE82
    refine p_tn ?_
    refine wp_ret ?_
    refine p_tr ?_
    have hF : F_QuotientFrame f0 f1 classes = ((0, []), 1) := by unfold F_QuotientFrame; rw [ht71]; first | done | rfl
    refine c_retC2 hE83 rfl rfl rfl Try.underlying30 rfl (by kernel_rfl) (St.row (i := 0) hS79 rfl _ (Ext.refl _)) ?_
    exact ⟨none, 0, (by rw [hF]; first | done | (dsimp only; done) | rfl), (by rw [hF]; (try dsimp only); exact OwnS.nilS _ _ _ _), hS79.ext⟩
   ·
    obtain ⟨ht84, ht85⟩ := bor_f ht71
    have ht86 := bn_f ht84
    have hp87 := isFrame_t ht86
    have ht88 := bn_f ht85
    have hp89 := isCongruence_t ht88
    have hE90 := hE68; rw [ht71] at hE90; clear hE68
    refine wp_skip ?_
    refine p_tn ?_
    refine c_seq ?_
    refine c_reg ?_
    refine q_step (v := .pointer (some ⟨b3, 1, none⟩)) hE90 (y_field rfl (fun _ => by kernel_rfl)) rfl rfl rfl ?_; intro a91 hE92; clear hE90
    refine q_step (v := .slice f1A f1.length f1C) hE92 (y_load (fun _ => by kernel_rfl) rfl (St.cell (i := 2) hS69 rfl rfl)) rfl rfl rfl ?_; intro a93 hE94; clear hE92
    refine q_step (v := .slice classesA classes.length classesC) hE94 (y_move rfl) rfl rfl rfl ?_; intro a95 hE96; clear hE94
    refine l_step hE96 rfl (l_call (f := 112) (argv := [.slice f1A f1.length f1C, .slice classesA classes.length classesC]) hE96 (fun _ => cf_quotientRelation _ _) rfl rfl (c_quotientRelation f1A f1.length f1C f1 classesA classes.length classesC classes w67 (St.rdR (i := 1) hS69 rfl) (St.rdR (i := 3) hS69 rfl) (by omega) (by omega) (isCongruence_7 (by assumption) (by omega)) (frame_mm (by assumption))) ?_)
    rintro _ w98 ⟨b103, c104, rfl, ho105, he102⟩ a99 hE100; clear hE96
    have hS101 := St.own hS69 he102 ho105; clear hS69
    refine l_step hE100 rfl (l_call (f := 106) (argv := [.slice b103 ((F_quotientRelation f1 classes).length) c104]) hE100 (fun _ => cf_frameOf _ _) rfl rfl (c_frameOf b103 ((F_quotientRelation f1 classes).length) c104 (F_quotientRelation f1 classes) w98 (St.rdO (i := 0) hS101 rfl)) ?_)
    rintro _ w107 ⟨rfl, he111⟩ a108 hE109; clear hE100
    have hS110 := St.go hS101 he111; clear hS101
    refine l_step hE109 rfl (l_storeS (k := 1) (cs' := #[.int .i64 ((F_frameOf (F_quotientRelation f1 classes)).1), .slice b103 ((F_quotientRelation f1 classes).length) c104]) hS110 hE109 (by kernel_rfl) rfl rfl (by kernel_rfl) rfl rfl ?_)
    intro w113 hS116 a114 hE115; clear hS110 hE109
    refine q_step (v := .int .i64 0) hE115 (y_assign rfl) rfl rfl rfl ?_; intro a118 hE119; clear hE115
    refine c_nil ?_
    have hE120 := hE119.sub (L' := [(4, .pointer (some ⟨b9, 0, none⟩)), (5, .int .i64 0)]) ⟨rfl, rfl, trivial⟩; clear hE119
    refine p_tn ?_
    refine wp_ret ?_
    have hF : F_QuotientFrame f0 f1 classes = (((F_frameOf (F_quotientRelation f1 classes)).1, F_quotientRelation f1 classes), 0) := by unfold F_QuotientFrame; rw [ht71]; first | done | rfl
    refine c_retC2 hE120 rfl rfl rfl Try.underlying30 rfl (by kernel_rfl) (St.row (i := 1) hS116 rfl _ (Ext.refl _)) ?_
    exact ⟨b103, c104, (by rw [hF]; first | done | (dsimp only; done) | rfl), (by rw [hF]; (try dsimp only); exact hS116.ok 0 _ rfl), hS116.ext⟩
theorem setLoop_key (N : Nat) (c v : Int → Int) (L : Nat → Int → List Int → Int × List Int) (hL : ∀ r t xs, L (r + 1) t xs = bif decide (t < (N : Int)) then L r (t + 1) (sI xs (c t) (v t)) else (t, xs)) (V : Nat → Int) (hV : ∀ x : Nat, x < N → V (c x).toNat = v x) :
    ∀ (k t : Nat) (xs : List Int), t + k = N → (∀ x : Nat, x < N → 0 ≤ c x ∧ c x < (xs.length : Int)) → (∀ j : Nat, j < xs.length → (∃ x : Nat, x < t ∧ c x = (j : Int)) → gI xs (j : Int) = V j) → (∀ j : Nat, j < xs.length → (¬ ∃ x : Nat, x < t ∧ c x = (j : Int)) → gI xs (j : Int) = 0) →
    (L (k + 1) (t : Int) xs).2.length = xs.length ∧ ∀ j : Nat, j < xs.length → ((∃ x : Nat, x < N ∧ c x = (j : Int)) → gI (L (k + 1) (t : Int) xs).2 (j : Int) = V j) ∧ ((¬ ∃ x : Nat, x < N ∧ c x = (j : Int)) → gI (L (k + 1) (t : Int) xs).2 (j : Int) = 0) := by
  intro k
  induction k with
  | zero =>
    intro t xs hk hc hx hx0
    obtain rfl : t = N := by omega
    rw [hL, decide_eq_false (by omega), cond_false]
    exact ⟨rfl, fun j hj => ⟨hx j hj, hx0 j hj⟩⟩
  | succ k ih =>
    intro t xs hk hc hx hx0
    rw [hL, decide_eq_true (by omega), cond_true, show (t : Int) + 1 = ((t + 1 : Nat) : Int) by omega]
    have hct := hc t (by omega)
    have e : ∀ j : Nat, gI (sI xs (c t) (v t)) (j : Int) = if (c t).toNat = j then v t else gI xs (j : Int) := fun j => by
      unfold sI
      show gi _ _ = _
      rw [gi_set (by omega), Int.toNat_natCast]; rfl
    obtain ⟨h1, h2⟩ := ih (t + 1) (sI xs (c t) (v t)) (by omega) (fun x hx => by rw [sI_len]; exact hc x hx) (fun j hj hex => by
      rw [sI_len] at hj
      rw [e j]
      by_cases hd : (c t).toNat = j
      · rw [if_pos hd, ← hd, hV t (by omega)]
      · rw [if_neg hd]
        obtain ⟨x, h3, h4⟩ := hex
        refine hx j hj ⟨x, ?_, h4⟩
        rcases Nat.lt_or_ge x t with h5 | h5
        · exact h5
        · obtain rfl : x = t := by omega
          exact absurd (by omega) hd) (fun j hj hno => by
      rw [sI_len] at hj
      rw [e j]
      by_cases hd : (c t).toNat = j
      · exact absurd ⟨t, by omega, by omega⟩ hno
      · rw [if_neg hd]
        exact hx0 j hj fun ⟨x, h3, h4⟩ => hno ⟨x, by omega, h4⟩)
    rw [sI_len] at h1 h2
    exact ⟨h1, h2⟩
theorem bucket_none {c v : Int → Int} {N k : Nat} (h : ¬ ∃ x : Nat, x < N ∧ c x = (k : Int)) : bucket c v N k = 0 := by
  unfold bucket
  have key : ∀ (l : List Nat) (o : Int), (∀ x ∈ l, ¬ c x = (k : Int)) → l.foldl (fun o (x : Nat) => bif decide (c (x : Int) = (k : Int)) then orI o (v (x : Int)) else o) o = o := by
    intro l
    induction l with
    | nil => intro o _; rfl
    | cons a l ih =>
      intro o hl
      rw [List.foldl_cons, decide_eq_false (hl a (List.mem_cons_self ..)), cond_false]
      exact ih o fun x hx => hl x (List.mem_cons_of_mem _ hx)
  exact key _ _ fun x hx hc => h ⟨x, List.mem_range.1 hx, hc⟩
theorem quot_eq {f0 : Int} {f1 classes : List Int} (hf2 : F_l05Is f0 f1 = true) (hc : F_l08Congruence f0 f1 classes = true) : F_frameOf (F_quotientRelation f1 classes) = F_l08Quotient f0 f1 classes := by
  have hf := l05Is_t hf2
  have hl := l08Congruence_t hc
  have hcl := l08Congruence_7 hc hf.1.2
  have hcc := classCount_bd hcl
  obtain ⟨q1, q2⟩ := quot_spec (ap := f1) (classes := classes) (by omega) hcl
  obtain ⟨n1, n2, n3⟩ := l08Q_count hcl
  unfold F_frameOf F_l08Quotient
  rw [l08Cong_eq, Bool.and_eq_true, List.all_eq_true] at hc
  have sym : ∀ a b : Nat, a < classes.length → b < a → gI classes (a : Int) = gI classes (b : Int) → F_l08Image classes (gI f1 (a : Int)) = F_l08Image classes (gI f1 (b : Int)) := fun a b ha hb hab => by
    have h1 := hc.2 a (List.mem_range.2 ha)
    rw [List.all_eq_true] at h1
    have h2 := h1 b (List.mem_range.2 hb)
    rw [decide_eq_true hab, Bool.true_and, Bool.not_not] at h2
    exact of_decide_eq_true h2
  have all : ∀ x y : Nat, x < classes.length → y < classes.length → gI classes (y : Int) = gI classes (x : Int) → F_l08Image classes (gI f1 (y : Int)) = F_l08Image classes (gI f1 (x : Int)) := fun x y hx hy hyx => by
    rcases Nat.lt_trichotomy x y with hlt | rfl | hgt
    · exact sym y x hy hlt hyx
    · rfl
    · exact (sym x y hx hgt hyx.symm).symm
  have hB : ∀ x : Nat, x < classes.length → bucket (gI classes) (fun y => F_mapMask classes (gI f1 y)) f1.length (gI classes (x : Int)).toNat = F_l08Image classes (gI f1 (x : Int)) := fun x hx => by
    have hxc := hcl (x : Int) (by omega) (by omega)
    rw [← quot_mask hf2 hl hcl x hx]
    refine bucket_same (c := gI classes) (v := fun y => F_mapMask classes (gI f1 y)) (N := f1.length) (fun y hy => ?_) (x := x) (by omega) (by omega) (fun y hy hyx => ?_)
    · show Mk 8 (F_mapMask classes (gI f1 (y : Int)))
      rw [quot_mask hf2 hl hcl y (by omega)]; exact l08Image_mk (by omega) hcl _
    · show F_mapMask classes (gI f1 (y : Int)) = F_mapMask classes (gI f1 (x : Int))
      rw [quot_mask hf2 hl hcl y (by omega), quot_mask hf2 hl hcl x hx]
      exact all x y hx (by omega) hyx
  obtain ⟨s1, s2⟩ := setLoop_key classes.length (gI classes) (fun x => F_l08Image classes (gI f1 x)) (F_l08Quotient_L2 f1 classes) (fun _ _ _ => rfl) (fun k => bucket (gI classes) (fun y => F_mapMask classes (gI f1 y)) f1.length k) hB classes.length 0 (List.replicate (Int.toNat (F_classCount classes)) 0) (by omega)
    (fun x hx => by
      have h1 := hcl (x : Int) (by omega) (by omega)
      have h2 := hcc.2.1 (x : Int) (by omega) (by omega)
      rw [List.length_replicate]; omega)
    (fun j hj => fun ⟨x, hx, _⟩ => by omega) (fun j hj _ => by rw [List.length_replicate] at hj; exact gI_replicate hj)
  rw [List.length_replicate] at s1 s2
  rw [n3, show Int.toNat ((classes.length : Int) - 0) = classes.length by omega]
  have e : F_quotientRelation f1 classes = (F_l08Quotient_L2 f1 classes (classes.length + 1) 0 (List.replicate (Int.toNat (F_classCount classes)) 0)).2 := by
    have s1' : (F_l08Quotient_L2 f1 classes (classes.length + 1) 0 (List.replicate (Int.toNat (F_classCount classes)) 0)).2.length = (F_classCount classes).toNat := s1
    apply ext_gi (by rw [q1, s1'])
    intro j hj
    rw [q1] at hj
    have h1 := q2 j hj
    have h2 := s2 j hj
    unfold gI at h1 h2
    rw [Int.toNat_natCast] at h1 h2
    rw [h1]
    by_cases hex : ∃ x : Nat, x < classes.length ∧ gI classes (x : Int) = (j : Int)
    · exact (h2.1 hex).symm
    · refine (bucket_none (fun ⟨x, hx, hxj⟩ => hex ⟨x, by omega, hxj⟩)).trans (h2.2 hex).symm
  rw [← e, q1, show ((F_classCount classes).toNat : Int) = F_classCount classes by omega]
theorem QuotientFrame_eq (f0 : Int) (f1 classes : List Int) : F_QuotientFrame f0 f1 classes = F_s_QuotientFrame f0 f1 classes := by
  unfold F_QuotientFrame F_s_QuotientFrame
  rw [isFrame_eq]
  cases h : F_l05Is f0 f1
  · rfl
  · rw [isCong_eq h]
    cases hc : F_l08Congruence f0 f1 classes
    · rfl
    · have e2 : F_quotientRelation f1 classes = (F_l08Quotient f0 f1 classes).2 := by have e := congrArg Prod.snd (quot_eq h hc); exact e
      rw [quot_eq h hc, e2]
theorem QuotientFrame_len (f0 : Int) (f1 classes : List Int) : (F_QuotientFrame f0 f1 classes).1.2.length ≤ 8 := by
  unfold F_QuotientFrame
  cases h : ((!(F_isFrame f0 f1)) || (!(F_isCongruence f0 f1 classes)))
  · rw [cond_false]
    obtain ⟨h1, h2⟩ := bor_f h
    have hf := isFrame_t (bn_f h1)
    have hcl := isCongruence_7 (bn_f h2) hf.1.2
    show (F_quotientRelation f1 classes).length ≤ 8
    rw [quotRel_len']
    have := (classCount_bd hcl).1
    omega
  · simp
end Go.Proofs.Ytlbonhloeefnmaa
