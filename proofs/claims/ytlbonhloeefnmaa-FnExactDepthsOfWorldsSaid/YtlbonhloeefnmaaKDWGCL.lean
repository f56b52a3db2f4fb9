/- GCL: models and contracts, printed by wip/gen/gen.py -/
import Derived.Test.YtlbonhloeefnmaaKDWGR
set_option linter.unusedVariables false
set_option linter.unusedSimpArgs false
namespace Go.Proofs.Ytlbonhloeefnmaa
open Go.RowKit
theorem pow_full {n v : Int} (h0 : 0 ≤ v) (h1 : v < n) (h2 : n ≤ 62) : 1 ≤ powI v ∧ powI v ≤ fullI n := by
  have hv : Mk n.toNat (powI ((v.toNat : Nat) : Int)) := Mk.pow (by omega)
  have e1 : ((v.toNat : Nat) : Int) = v := by omega
  have e2 : ((n.toNat : Nat) : Int) = n := by omega
  have := hv.2
  rw [e1, e2] at this
  exact ⟨(powI_bd h0 (by omega)).1, this⟩
def F_l05Clusters_L2b (f0 : Int) (f1 : List Int) (out3 : List Int) (w5 : Int) (rec : Int → Int → Int × Int) (own6L2 : Int) (v7L2 : Int) : Int × Int :=
  bif (decide (v7L2 < w5)) then (rec (bif ((decide (own6L2 < 0)) && ((F_l01Bit (F_l05Reach f0 f1 (powI w5)) v7L2) && (F_l01Bit (F_l05Reach f0 f1 (powI v7L2)) w5))) then gI out3 v7L2 else own6L2) (v7L2 + 1)) else (own6L2, v7L2)
def F_l05Clusters_L2 (f0 : Int) (f1 : List Int) (out3 : List Int) (w5 : Int) : Nat → Int → Int → Int × Int
  | 0, own6L2, v7L2 => (own6L2, v7L2)
  | r + 1, own6L2, v7L2 => F_l05Clusters_L2b f0 f1 out3 w5 (F_l05Clusters_L2 f0 f1 out3 w5 r) own6L2 v7L2
def F_l05Clusters_L1b (f0 : Int) (f1 : List Int) (rec : (List Int) → Int → Int → (List Int) × Int × Int) (out3 : List Int) (next4 : Int) (w5 : Int) : (List Int) × Int × Int :=
  bif (decide (w5 < f0)) then (rec (out3 ++ ([bif (decide (((F_l05Clusters_L2 f0 f1 out3 w5 (Int.toNat (w5 - 0) + 1) (-1) 0).1) < 0)) then next4 else (F_l05Clusters_L2 f0 f1 out3 w5 (Int.toNat (w5 - 0) + 1) (-1) 0).1])) (bif (decide (((F_l05Clusters_L2 f0 f1 out3 w5 (Int.toNat (w5 - 0) + 1) (-1) 0).1) < 0)) then next4 + 1 else next4) (w5 + 1)) else (out3, next4, w5)
def F_l05Clusters_L1 (f0 : Int) (f1 : List Int) : Nat → (List Int) → Int → Int → (List Int) × Int × Int
  | 0, out3, next4, w5 => (out3, next4, w5)
  | r + 1, out3, next4, w5 => F_l05Clusters_L1b f0 f1 (F_l05Clusters_L1 f0 f1 r) out3 next4 w5
def F_l05Clusters (f0 : Int) (f1 : List Int) : List Int :=
  (F_l05Clusters_L1 f0 f1 (Int.toNat (f0 - 0) + 1) ([]) 0 0).1
theorem cf_l05Clusters (args : Array Value) (w : World) : (callFunc 163 args).run Try.prog w = .ok (.enter 163 args) w := by kernel_rfl
set_option maxRecDepth 100000 in
theorem c_l05Clusters (f0 : Int) (f1A : Option Addr) (f1N f1C : Nat) (f1 : List Int) (w : World) (f1R : RdS w 1 f1A f1N f1C f1) (hf : 0 ≤ f0 ∧ f0 ≤ 8) (hfl : (f1.length : Int) = f0) (hfm : ∀ m : Int, 0 ≤ m → m < (f1.length : Int) → 0 ≤ gI f1 m ∧ gI f1 m ≤ fullI f0) :
    Calls Try.prog 163 #[.agg #[.int .i64 f0, .slice f1A f1N f1C]] w (Ret fun v w' => ∃ b1 : Option Addr, ∃ c1 : Nat, v = .slice b1 (F_l05Clusters f0 f1).length c1 ∧ OwnS w' w.heap.size 2 1 b1 (F_l05Clusters f0 f1).length c1 (F_l05Clusters f0 f1) ∧ Ext w w') := by
  obtain rfl : f1N = f1.length := f1R.len1.symm
  have f1Le := f1R.le
  have hS := St.nil w
  have hS1 := St.rd0 hS rfl f1R; clear hS
  refine enter (args := [.agg #[.int .i64 f0, .slice f1A f1.length f1C]]) Try.func163 rfl rfl ?_
  rw [Try.ntmps163]; intro a hE
  have hE := hE.sub (L' := [(0, .agg #[.int .i64 f0, .slice f1A f1.length f1C])]) ⟨rfl, trivial⟩
  refine c_seq ?_
  refine c_reg ?_
  refine l_step hE rfl (l_box (v := .agg #[.int .i64 f0, .slice f1A f1.length f1C]) (cs := #[.int .i64 f0, .slice f1A f1.length f1C]) hS1 hE rfl rfl rfl ?_)
  intro b2 w3 hS6 he7 a4 hE5; clear hS1 hE
  refine q_step (v := .slice none 0 0) hE5 (y_assign rfl) rfl rfl rfl ?_; intro a8 hE9; clear hE5
  refine c_nil ?_
  have hE10 := hE9.sub (L' := [(1, .pointer (some ⟨b2, 0, none⟩))]) ⟨rfl, trivial⟩; clear hE9
  refine p_tn ?_
  refine c_seq ?_
  refine c_reg ?_
  refine l_step hE10 rfl (l_lit (e := 2) (s := 1) (xs := []) (vs := []) hS6 hE10 rfl (fun _ => by kernel_rfl) rfl rfl rfl ?_)
  intro b11 w12 hS15 he16 a13 hE14; clear hS6 hE10
  refine q_step (v := .slice (some ⟨b11, 0, none⟩) 0 0) hE14 (y_assign rfl) rfl rfl rfl ?_; intro a17 hE18; clear hE14
  refine q_step (v := .int .i64 0) hE18 (y_assign rfl) rfl rfl rfl ?_; intro a19 hE20; clear hE18
  refine c_nil ?_
  have hE21 := hE20.sub (L' := [(1, .pointer (some ⟨b2, 0, none⟩)), (3, .slice (some ⟨b11, 0, none⟩) 0 0), (4, .int .i64 0)]) ⟨rfl, rfl, rfl, trivial⟩; clear hE20
  refine p_tn ?_
  refine c_seq ?_
  refine c_seq ?_
  refine c_reg ?_
  refine q_step (v := .int .i64 0) hE21 (y_assign rfl) rfl rfl rfl ?_; intro a22 hE23; clear hE21
  refine c_nil ?_
  have hE24 := hE23.sub (L' := [(1, .pointer (some ⟨b2, 0, none⟩)), (3, .slice (some ⟨b11, 0, none⟩) 0 0), (4, .int .i64 0), (5, .int .i64 0)]) ⟨rfl, rfl, rfl, rfl, trivial⟩; clear hE23
  refine p_tn ?_
  refine c_cut1 (fun a' w' => ∃ out3A_25 : Option Addr, ∃ out3C_25 : Nat, (0 ≤ ((F_l05Clusters_L1 f0 f1 (Int.toNat (f0 - 0) + 1) ([]) 0 0).2.2)) ∧ ((((F_l05Clusters_L1 f0 f1 (Int.toNat (f0 - 0) + 1) ([]) 0 0).1).length : Int) = ((F_l05Clusters_L1 f0 f1 (Int.toNat (f0 - 0) + 1) ([]) 0 0).2.2)) ∧ (0 ≤ ((F_l05Clusters_L1 f0 f1 (Int.toNat (f0 - 0) + 1) ([]) 0 0).2.1)) ∧ (((F_l05Clusters_L1 f0 f1 (Int.toNat (f0 - 0) + 1) ([]) 0 0).2.1) ≤ ((F_l05Clusters_L1 f0 f1 (Int.toNat (f0 - 0) + 1) ([]) 0 0).2.2)) ∧ ((((F_l05Clusters_L1 f0 f1 (Int.toNat (f0 - 0) + 1) ([]) 0 0).1).length : Int) ≤ ((F_l05Clusters_L1 f0 f1 (Int.toNat (f0 - 0) + 1) ([]) 0 0).2.2)) ∧ E a' 52 [(1, .pointer (some ⟨b2, 0, none⟩)), (3, .slice out3A_25 (((F_l05Clusters_L1 f0 f1 (Int.toNat (f0 - 0) + 1) ([]) 0 0).1).length) out3C_25), (4, .int .i64 ((F_l05Clusters_L1 f0 f1 (Int.toNat (f0 - 0) + 1) ([]) 0 0).2.1)), (5, .int .i64 ((F_l05Clusters_L1 f0 f1 (Int.toNat (f0 - 0) + 1) ([]) 0 0).2.2))] ∧ St w w' [.own 2 1 out3A_25 (((F_l05Clusters_L1 f0 f1 (Int.toNat (f0 - 0) + 1) ([]) 0 0).1).length) out3C_25 ((F_l05Clusters_L1 f0 f1 (Int.toNat (f0 - 0) + 1) ([]) 0 0).1), .blk b2 #[.int .i64 f0, .slice f1A f1.length f1C] 30, .rd 1 f1A f1.length f1C f1]) ?_ ?_
  ·
   refine wp_block ?_
   refine c_loop (fun r a' w' => ∃ out3 : List Int, ∃ next4 : Int, ∃ w5 : Int, ∃ out3A : Option Addr, ∃ out3C : Nat, F_l05Clusters_L1 f0 f1 r out3 next4 w5 = F_l05Clusters_L1 f0 f1 (Int.toNat (f0 - 0) + 1) ([]) 0 0 ∧ Int.toNat (f0 - w5) < r ∧ (0 ≤ w5) ∧ ((out3.length : Int) = w5) ∧ (0 ≤ next4) ∧ (next4 ≤ w5) ∧ ((out3.length : Int) ≤ w5) ∧ E a' 52 [(1, .pointer (some ⟨b2, 0, none⟩)), (3, .slice out3A ((out3).length) out3C), (4, .int .i64 next4), (5, .int .i64 w5)] ∧ St w w' [.own 2 1 out3A ((out3).length) out3C out3, .blk b2 #[.int .i64 f0, .slice f1A f1.length f1C] 30, .rd 1 f1A f1.length f1C f1]) (r := (Int.toNat (f0 - 0) + 1)) ?_ ?_
   · exact ⟨[], 0, 0, some ⟨b11, 0, none⟩, 0, rfl, Nat.lt_succ_self _, (by first | omega | (simp only [sS_len, sL_len]; omega) | (simp only [List.length_replicate, sI_len]; omega) | (simp only [List.length_append, List.length_cons, List.length_nil, sI_len, cond_true, cond_false]; omega) | (simp only [List.length_append, List.length_cons, List.length_nil, sI_len, cond_eq_ite, apply_ite List.length]; split <;> simp only [List.length_append, List.length_cons, List.length_nil, sI_len] <;> omega) | grind), (by first | omega | (simp only [sS_len, sL_len]; omega) | (simp only [List.length_replicate, sI_len]; omega) | (simp only [List.length_append, List.length_cons, List.length_nil, sI_len, cond_true, cond_false]; omega) | (simp only [List.length_append, List.length_cons, List.length_nil, sI_len, cond_eq_ite, apply_ite List.length]; split <;> simp only [List.length_append, List.length_cons, List.length_nil, sI_len] <;> omega) | grind), (by first | omega | (simp only [sS_len, sL_len]; omega) | (simp only [List.length_replicate, sI_len]; omega) | (simp only [List.length_append, List.length_cons, List.length_nil, sI_len, cond_true, cond_false]; omega) | (simp only [List.length_append, List.length_cons, List.length_nil, sI_len, cond_eq_ite, apply_ite List.length]; split <;> simp only [List.length_append, List.length_cons, List.length_nil, sI_len] <;> omega) | grind), (by first | omega | (simp only [sS_len, sL_len]; omega) | (simp only [List.length_replicate, sI_len]; omega) | (simp only [List.length_append, List.length_cons, List.length_nil, sI_len, cond_true, cond_false]; omega) | (simp only [List.length_append, List.length_cons, List.length_nil, sI_len, cond_eq_ite, apply_ite List.length]; split <;> simp only [List.length_append, List.length_cons, List.length_nil, sI_len] <;> omega) | grind), (by first | omega | (simp only [sS_len, sL_len]; omega) | (simp only [List.length_replicate, sI_len]; omega) | (simp only [List.length_append, List.length_cons, List.length_nil, sI_len, cond_true, cond_false]; omega) | (simp only [List.length_append, List.length_cons, List.length_nil, sI_len, cond_eq_ite, apply_ite List.length]; split <;> simp only [List.length_append, List.length_cons, List.length_nil, sI_len] <;> omega) | grind), (hE24.sub (L' := [(1, .pointer (some ⟨b2, 0, none⟩)), (3, .slice (some ⟨b11, 0, none⟩) 0 0), (4, .int .i64 0), (5, .int .i64 0)]) ⟨rfl, rfl, rfl, rfl, trivial⟩), (St.pick (Γ' := [.own 2 1 (some ⟨b11, 0, none⟩) 0 0 ([]), .blk b2 #[.int .i64 f0, .slice f1A f1.length f1C] 30, .rd 1 f1A f1.length f1C f1]) hS15 [0, 1, 2] (by decide) rfl)⟩
   ·
    clear hE24 hS15
    rintro r37 a26 w27 ⟨out3, next4, w5, out3A, out3C, hT30, hr31, hi32, hi33, hi34, hi35, hi36, hE28, hS29⟩
    obtain ⟨r37, rfl⟩ : ∃ r', r37 = r' + 1 := ⟨r37 - 1, by omega⟩
    refine c_seq ?_
    refine c_seq ?_
    refine c_reg ?_
    refine q_step (v := .int .i64 w5) hE28 (y_move rfl) rfl rfl rfl ?_; intro a38 hE39; clear hE28
    refine q_step (v := .pointer (some ⟨b2, 0, none⟩)) hE39 (y_field rfl (fun _ => by kernel_rfl)) rfl rfl rfl ?_; intro a40 hE41; clear hE39
    refine q_step (v := .int .i64 f0) hE41 (y_load (fun _ => by kernel_rfl) rfl (St.cell (i := 1) hS29 rfl rfl)) rfl rfl rfl ?_; intro a42 hE43; clear hE41
    refine q_step (v := .bool (decide (w5 < f0))) hE43 (y_lss rfl rfl) rfl rfl rfl ?_; intro a44 hE45; clear hE43
    refine c_nil ?_
    have hE46 := hE45.sub (L' := [(1, .pointer (some ⟨b2, 0, none⟩)), (3, .slice out3A ((out3).length) out3C), (4, .int .i64 next4), (5, .int .i64 w5), (12, .bool (decide (w5 < f0)))]) ⟨rfl, rfl, rfl, rfl, rfl, trivial⟩; clear hE45
    refine p_tn ?_
    refine c_cond hE46 rfl (fun ht47 => ?_) (fun ht47 => ?_)
    ·
     have hp48 := of_decide_eq_true ht47
     have hE49 := hE46; rw [ht47] at hE49; clear hE46
     have hp1 := pow_full (n := f0) (v := w5) (by omega) (by omega) (by omega)
     refine wp_skip ?_
     refine p_tn ?_
     refine c_seq ?_
     refine wp_block ?_
     refine c_seq ?_
     refine c_reg ?_
     refine q_step (v := .int .i64 (-1)) hE49 (y_assign rfl) rfl rfl rfl ?_; intro a50 hE51; clear hE49
     refine c_nil ?_
     have hE52 := hE51.sub (L' := [(1, .pointer (some ⟨b2, 0, none⟩)), (3, .slice out3A ((out3).length) out3C), (4, .int .i64 next4), (5, .int .i64 w5), (6, .int .i64 (-1))]) ⟨rfl, rfl, rfl, rfl, rfl, trivial⟩; clear hE51
     refine p_tn ?_
     refine c_seq ?_
     refine c_seq ?_
     refine c_reg ?_
     refine q_step (v := .int .i64 0) hE52 (y_assign rfl) rfl rfl rfl ?_; intro a53 hE54; clear hE52
     refine c_nil ?_
     have hE55 := hE54.sub (L' := [(1, .pointer (some ⟨b2, 0, none⟩)), (3, .slice out3A ((out3).length) out3C), (4, .int .i64 next4), (5, .int .i64 w5), (6, .int .i64 (-1)), (7, .int .i64 0)]) ⟨rfl, rfl, rfl, rfl, rfl, rfl, trivial⟩; clear hE54
     refine p_tn ?_
     refine c_cut1 (fun a' w' => (0 ≤ ((F_l05Clusters_L2 f0 f1 out3 w5 (Int.toNat (w5 - 0) + 1) (-1) 0).2)) ∧ E a' 52 [(1, .pointer (some ⟨b2, 0, none⟩)), (3, .slice out3A ((out3).length) out3C), (4, .int .i64 next4), (5, .int .i64 w5), (6, .int .i64 ((F_l05Clusters_L2 f0 f1 out3 w5 (Int.toNat (w5 - 0) + 1) (-1) 0).1)), (7, .int .i64 ((F_l05Clusters_L2 f0 f1 out3 w5 (Int.toNat (w5 - 0) + 1) (-1) 0).2))] ∧ St w w' [.own 2 1 out3A ((out3).length) out3C out3, .blk b2 #[.int .i64 f0, .slice f1A f1.length f1C] 30, .rd 1 f1A f1.length f1C f1]) ?_ ?_
     ·
      refine wp_block ?_
      refine c_loop (fun r a' w' => ∃ own6L2 : Int, ∃ v7L2 : Int, F_l05Clusters_L2 f0 f1 out3 w5 r own6L2 v7L2 = F_l05Clusters_L2 f0 f1 out3 w5 (Int.toNat (w5 - 0) + 1) (-1) 0 ∧ Int.toNat (w5 - v7L2) < r ∧ (0 ≤ v7L2) ∧ E a' 52 [(1, .pointer (some ⟨b2, 0, none⟩)), (3, .slice out3A ((out3).length) out3C), (4, .int .i64 next4), (5, .int .i64 w5), (6, .int .i64 own6L2), (7, .int .i64 v7L2)] ∧ St w w' [.own 2 1 out3A ((out3).length) out3C out3, .blk b2 #[.int .i64 f0, .slice f1A f1.length f1C] 30, .rd 1 f1A f1.length f1C f1]) (r := (Int.toNat (w5 - 0) + 1)) ?_ ?_
      · exact ⟨-1, 0, rfl, Nat.lt_succ_self _, (by first | omega | (simp only [sS_len, sL_len]; omega) | (simp only [List.length_replicate, sI_len]; omega) | (simp only [List.length_append, List.length_cons, List.length_nil, sI_len, cond_true, cond_false]; omega) | (simp only [List.length_append, List.length_cons, List.length_nil, sI_len, cond_eq_ite, apply_ite List.length]; split <;> simp only [List.length_append, List.length_cons, List.length_nil, sI_len] <;> omega) | grind), (hE55.sub (L' := [(1, .pointer (some ⟨b2, 0, none⟩)), (3, .slice out3A ((out3).length) out3C), (4, .int .i64 next4), (5, .int .i64 w5), (6, .int .i64 (-1)), (7, .int .i64 0)]) ⟨rfl, rfl, rfl, rfl, rfl, rfl, trivial⟩), (St.pick (Γ' := [.own 2 1 out3A ((out3).length) out3C out3, .blk b2 #[.int .i64 f0, .slice f1A f1.length f1C] 30, .rd 1 f1A f1.length f1C f1]) hS29 [0, 1, 2] (by decide) rfl)⟩
      ·
       clear hE55 hS29
       rintro r64 a57 w58 ⟨own6L2, v7L2, hT61, hr62, hi63, hE59, hS60⟩
       obtain ⟨r64, rfl⟩ : ∃ r', r64 = r' + 1 := ⟨r64 - 1, by omega⟩
       refine c_seq ?_
       refine c_seq ?_
       refine c_reg ?_
       refine q_step (v := .int .i64 v7L2) hE59 (y_move rfl) rfl rfl rfl ?_; intro a65 hE66; clear hE59
       refine q_step (v := .int .i64 w5) hE66 (y_move rfl) rfl rfl rfl ?_; intro a67 hE68; clear hE66
       refine q_step (v := .bool (decide (v7L2 < w5))) hE68 (y_lss rfl rfl) rfl rfl rfl ?_; intro a69 hE70; clear hE68
       refine c_nil ?_
       have hE71 := hE70.sub (L' := [(1, .pointer (some ⟨b2, 0, none⟩)), (3, .slice out3A ((out3).length) out3C), (4, .int .i64 next4), (5, .int .i64 w5), (6, .int .i64 own6L2), (7, .int .i64 v7L2), (17, .bool (decide (v7L2 < w5)))]) ⟨rfl, rfl, rfl, rfl, rfl, rfl, rfl, trivial⟩; clear hE70
       refine p_tn ?_
       refine c_cond hE71 rfl (fun ht72 => ?_) (fun ht72 => ?_)
       ·
        have hp73 := of_decide_eq_true ht72
        have hE74 := hE71; rw [ht72] at hE74; clear hE71
        have hp2 := pow_full (n := f0) (v := v7L2) (by omega) (by omega) (by omega)
        refine wp_skip ?_
        refine p_tn ?_
        refine c_cut (fun a' w' => E a' 52 [(1, .pointer (some ⟨b2, 0, none⟩)), (3, .slice out3A ((out3).length) out3C), (4, .int .i64 next4), (5, .int .i64 w5), (6, .int .i64 (bif ((decide (own6L2 < 0)) && ((F_l01Bit (F_l05Reach f0 f1 (powI w5)) v7L2) && (F_l01Bit (F_l05Reach f0 f1 (powI v7L2)) w5))) then gI out3 v7L2 else own6L2)), (7, .int .i64 v7L2)] ∧ St w w' [.own 2 1 out3A ((out3).length) out3C out3, .rd 1 f1A f1.length f1C f1, .blk b2 #[.int .i64 f0, .slice f1A f1.length f1C] 30]) ?_ ?_
        ·
         refine wp_block ?_
         refine c_cut (fun a' w' => E a' 52 [(1, .pointer (some ⟨b2, 0, none⟩)), (3, .slice out3A ((out3).length) out3C), (4, .int .i64 next4), (5, .int .i64 w5), (6, .int .i64 own6L2), (7, .int .i64 v7L2), (37, .bool ((decide (own6L2 < 0)) && ((F_l01Bit (F_l05Reach f0 f1 (powI w5)) v7L2) && (F_l01Bit (F_l05Reach f0 f1 (powI v7L2)) w5))))] ∧ St w w' [.own 2 1 out3A ((out3).length) out3C out3, .rd 1 f1A f1.length f1C f1, .blk b2 #[.int .i64 f0, .slice f1A f1.length f1C] 30]) ?_ ?_
         ·
          refine d_start (fun w w' => (fun w' => w'.heap[b2]? = some (.cells #[.int .i64 f0, .slice f1A f1.length f1C] 30 (0, 0)) ∧ w'.heap[b2]? = some (.cells #[.int .i64 f0, .slice f1A f1.length f1C] 30 (0, 0)) ∧ True) w → (fun w' => w'.heap[b2]? = some (.cells #[.int .i64 f0, .slice f1A f1.length f1C] 30 (0, 0)) ∧ w'.heap[b2]? = some (.cells #[.int .i64 f0, .slice f1A f1.length f1C] 30 (0, 0)) ∧ True) w') [3, 11] 18 (by kernel_rfl) rfl ?_
          intro w75 he76; have hS77 := St.go hS60 he76; clear hS60
          refine d_pure (fun _ h => h) (v := .int .i64 own6L2) 0 rfl hE74 (y_move rfl) rfl (by kernel_rfl) (by kernel_rfl) (by kernel_rfl) rfl rfl (fun _ _ _ h => h) ?_; intro a78 hE79; clear hE74
          refine d_pure (fun _ h => h) (v := .bool (decide (own6L2 < 0))) 1 rfl hE79 (y_lss rfl rfl) rfl (by kernel_rfl) (by kernel_rfl) (by kernel_rfl) rfl rfl (fun _ _ _ h => h) ?_; intro a80 hE81; clear hE79
          refine d_pure (fun _ h => h) (v := .bool (decide (own6L2 < 0))) 2 rfl hE81 (y_move rfl) rfl (by kernel_rfl) (by kernel_rfl) (by kernel_rfl) rfl rfl (fun _ _ _ h => h) ?_; intro a82 hE83; clear hE81
          rcases Bool.eq_false_or_eq_true (decide (own6L2 < 0)) with hb84 | hb84
          ·
           have hE85 := hE83; (try rw [hb84] at hE85); clear hE83
           have hp86 := of_decide_eq_true hb84
           refine d_take (fun _ h => h) (fun _ _ h k => h k) (v := .agg #[.int .i64 f0, .slice f1A f1.length f1C]) 3 rfl hE85 (S := fun w' => w'.heap[b2]? = some (.cells #[.int .i64 f0, .slice f1A f1.length f1C] 30 (0, 0)) ∧ w'.heap[b2]? = some (.cells #[.int .i64 f0, .slice f1A f1.length f1C] 30 (0, 0)) ∧ True) ⟨(St.row (i := 1) hS77 rfl _ (Ext.refl _)), (St.row (i := 1) hS77 rfl _ (Ext.refl _)), trivial⟩ (y_loadS Try.underlying30 rfl (by kernel_rfl) rfl (fun _ h => h.1)) rfl rfl (by kernel_rfl) (by kernel_rfl) (by kernel_rfl) (by kernel_rfl) rfl rfl (fun _ _ _ h => h) ?_; intro a87 hE88; clear hE85
           refine d_pure (fun _ h => h) (v := .int .i64 w5) 4 rfl hE88 (y_move rfl) rfl (by kernel_rfl) (by kernel_rfl) (by kernel_rfl) rfl rfl (fun _ _ _ h => h) ?_; intro a89 hE90; clear hE88
           refine d_pure (fun _ h => h) (v := .int .i64 v7L2) 7 rfl hE90 (y_move rfl) rfl (by kernel_rfl) (by kernel_rfl) (by kernel_rfl) rfl rfl (fun _ _ _ h => h) ?_; intro a91 hE92; clear hE90
           refine d_only 5 (by kernel_rfl) rfl hE92 rfl (l_call (f := 209) (argv := [.int .i64 w5]) hE92 (fun _ => cf_l01One _ _) rfl rfl (d_l01One w5 w75 (by omega) (by omega)) ?_)
           rintro _ _ ⟨rfl, rfl⟩ a95 hE96; clear hE92
           refine ⟨fun _ _ => ⟨(St.row (i := 1) hS77 rfl _ (Ext.refl _)), (St.row (i := 1) hS77 rfl _ (Ext.refl _)), trivial⟩, ?_⟩
           refine d_only 6 (by kernel_rfl) rfl hE96 rfl (l_call (f := 216) (argv := [.agg #[.int .i64 f0, .slice f1A f1.length f1C], .int .i64 (powI w5)]) hE96 (fun _ => cf_l05Reach _ _) rfl rfl (c_l05Reach f0 f1A f1.length f1C f1 (powI w5) w75 (St.rdR (i := 2) hS77 rfl) (by omega) (by omega) (by omega) hfm) ?_)
           rintro _ w100 ⟨rfl, he104⟩ a101 hE102; clear hE96
           have hS103 := St.go hS77 he104; clear hS77
           refine ⟨fun _ _ => ⟨(St.row (i := 1) hS103 rfl _ (Ext.refl _)), (St.row (i := 1) hS103 rfl _ (Ext.refl _)), trivial⟩, ?_⟩
           refine d_only 8 (by kernel_rfl) rfl hE102 rfl (l_call (f := 144) (argv := [.int .i64 (F_l05Reach f0 f1 (powI w5)), .int .i64 v7L2]) hE102 (fun _ => cf_l01Bit _ _) rfl rfl (c_l01Bit (F_l05Reach f0 f1 (powI w5)) v7L2 w100 (by omega) (by omega)) ?_)
           rintro _ _ ⟨rfl, rfl⟩ a107 hE108; clear hE102
           refine ⟨fun _ _ => ⟨(St.row (i := 1) hS103 rfl _ (Ext.refl _)), (St.row (i := 1) hS103 rfl _ (Ext.refl _)), trivial⟩, ?_⟩
           refine d_pure (fun _ h => h) (v := .bool (F_l01Bit (F_l05Reach f0 f1 (powI w5)) v7L2)) 9 rfl hE108 (y_pick (b := true) rfl rfl) rfl (by kernel_rfl) (by kernel_rfl) (by kernel_rfl) rfl rfl (fun _ _ _ h => h) ?_; intro a111 hE112; clear hE108
           refine d_pure (fun _ h => h) (v := .bool (F_l01Bit (F_l05Reach f0 f1 (powI w5)) v7L2)) 10 rfl hE112 (y_move rfl) rfl (by kernel_rfl) (by kernel_rfl) (by kernel_rfl) rfl rfl (fun _ _ _ h => h) ?_; intro a113 hE114; clear hE112
           rcases Bool.eq_false_or_eq_true (F_l01Bit (F_l05Reach f0 f1 (powI w5)) v7L2) with hb115 | hb115
           ·
            have hE116 := hE114; (try rw [hb115] at hE116); clear hE114
            refine d_take (fun _ h => h) (fun _ _ h k => h k) (v := .agg #[.int .i64 f0, .slice f1A f1.length f1C]) 11 rfl hE116 (S := fun w' => w'.heap[b2]? = some (.cells #[.int .i64 f0, .slice f1A f1.length f1C] 30 (0, 0)) ∧ w'.heap[b2]? = some (.cells #[.int .i64 f0, .slice f1A f1.length f1C] 30 (0, 0)) ∧ True) ⟨(St.row (i := 1) hS103 rfl _ (Ext.refl _)), (St.row (i := 1) hS103 rfl _ (Ext.refl _)), trivial⟩ (y_loadS Try.underlying30 rfl (by kernel_rfl) rfl (fun _ h => h.2.1)) rfl rfl (by kernel_rfl) (by kernel_rfl) (by kernel_rfl) (by kernel_rfl) rfl rfl (fun _ _ _ h => h) ?_; intro a117 hE118; clear hE116
            refine d_pure (fun _ h => h) (v := .int .i64 v7L2) 12 rfl hE118 (y_move rfl) rfl (by kernel_rfl) (by kernel_rfl) (by kernel_rfl) rfl rfl (fun _ _ _ h => h) ?_; intro a119 hE120; clear hE118
            refine d_pure (fun _ h => h) (v := .int .i64 w5) 15 rfl hE120 (y_move rfl) rfl (by kernel_rfl) (by kernel_rfl) (by kernel_rfl) rfl rfl (fun _ _ _ h => h) ?_; intro a121 hE122; clear hE120
            refine d_only 13 (by kernel_rfl) rfl hE122 rfl (l_call (f := 209) (argv := [.int .i64 v7L2]) hE122 (fun _ => cf_l01One _ _) rfl rfl (d_l01One v7L2 w100 (by omega) (by omega)) ?_)
            rintro _ _ ⟨rfl, rfl⟩ a125 hE126; clear hE122
            refine ⟨fun _ _ => ⟨(St.row (i := 1) hS103 rfl _ (Ext.refl _)), (St.row (i := 1) hS103 rfl _ (Ext.refl _)), trivial⟩, ?_⟩
            refine d_only 14 (by kernel_rfl) rfl hE126 rfl (l_call (f := 216) (argv := [.agg #[.int .i64 f0, .slice f1A f1.length f1C], .int .i64 (powI v7L2)]) hE126 (fun _ => cf_l05Reach _ _) rfl rfl (c_l05Reach f0 f1A f1.length f1C f1 (powI v7L2) w100 (St.rdR (i := 2) hS103 rfl) (by omega) (by omega) (by omega) hfm) ?_)
            rintro _ w130 ⟨rfl, he134⟩ a131 hE132; clear hE126
            have hS133 := St.go hS103 he134; clear hS103
            refine ⟨fun h => Bool.noConfusion (h.symm.trans (show exm _ _ _ = true by kernel_rfl)), ?_⟩
            refine d_only 16 (by kernel_rfl) rfl hE132 rfl (l_call (f := 144) (argv := [.int .i64 (F_l05Reach f0 f1 (powI v7L2)), .int .i64 w5]) hE132 (fun _ => cf_l01Bit _ _) rfl rfl (c_l01Bit (F_l05Reach f0 f1 (powI v7L2)) w5 w130 (by omega) (by omega)) ?_)
            rintro _ _ ⟨rfl, rfl⟩ a137 hE138; clear hE132
            refine ⟨fun h => Bool.noConfusion (h.symm.trans (show exm _ _ _ = true by kernel_rfl)), ?_⟩
            refine d_pure (fun _ h => h) (v := .bool (F_l01Bit (F_l05Reach f0 f1 (powI v7L2)) w5)) 17 rfl hE138 (y_pick (b := true) rfl rfl) rfl (by kernel_rfl) (by kernel_rfl) (by kernel_rfl) rfl rfl (fun _ _ _ h => h) ?_; intro a141 hE142; clear hE138
            refine d_done (by kernel_rfl) ?_
            have hE143 := hE142.sub (L' := [(1, .pointer (some ⟨b2, 0, none⟩)), (3, .slice out3A ((out3).length) out3C), (4, .int .i64 next4), (5, .int .i64 w5), (6, .int .i64 own6L2), (7, .int .i64 v7L2), (37, .bool (F_l01Bit (F_l05Reach f0 f1 (powI v7L2)) w5))]) ⟨rfl, rfl, rfl, rfl, rfl, rfl, rfl, trivial⟩; clear hE142
            refine p_tn ?_
            have hE144 := hE143.sub (L' := [(1, .pointer (some ⟨b2, 0, none⟩)), (3, .slice out3A ((out3).length) out3C), (4, .int .i64 next4), (5, .int .i64 w5), (6, .int .i64 own6L2), (7, .int .i64 v7L2), (37, .bool (F_l01Bit (F_l05Reach f0 f1 (powI v7L2)) w5))]) ⟨rfl, rfl, rfl, rfl, rfl, rfl, rfl, trivial⟩
            have hS145 := (St.pick (Γ' := [.own 2 1 out3A ((out3).length) out3C out3, .rd 1 f1A f1.length f1C f1, .blk b2 #[.int .i64 f0, .slice f1A f1.length f1C] 30]) hS133 [0, 2, 1] (by decide) rfl)
            exact ⟨(by rw [hb115, hb84]; exact hE144), hS145⟩
           ·
            have hE146 := hE114; (try rw [hb115] at hE146); clear hE114
            refine d_skip (fun _ h => h) 11 rfl hE146 rfl (by kernel_rfl) (by kernel_rfl) (by kernel_rfl) rfl rfl (fun _ _ _ h => h) ?_; intro a147 hE148; clear hE146
            refine d_skip (fun _ h => h) 12 rfl hE148 rfl (by kernel_rfl) (by kernel_rfl) (by kernel_rfl) rfl rfl (fun _ _ _ h => h) ?_; intro a149 hE150; clear hE148
            refine d_skip (fun _ h => h) 13 rfl hE150 rfl (by kernel_rfl) (by kernel_rfl) (by kernel_rfl) rfl rfl (fun _ _ _ h => h) ?_; intro a151 hE152; clear hE150
            refine d_skip (fun _ h => h) 14 rfl hE152 rfl (by kernel_rfl) (by kernel_rfl) (by kernel_rfl) rfl rfl (fun _ _ _ h => h) ?_; intro a153 hE154; clear hE152
            refine d_skip (fun _ h => h) 15 rfl hE154 rfl (by kernel_rfl) (by kernel_rfl) (by kernel_rfl) rfl rfl (fun _ _ _ h => h) ?_; intro a155 hE156; clear hE154
            refine d_skip (fun _ h => h) 16 rfl hE156 rfl (by kernel_rfl) (by kernel_rfl) (by kernel_rfl) rfl rfl (fun _ _ _ h => h) ?_; intro a157 hE158; clear hE156
            refine d_pure (fun _ h => h) (v := .bool false) 17 rfl hE158 (y_pick (b := false) rfl rfl) rfl (by kernel_rfl) (by kernel_rfl) (by kernel_rfl) rfl rfl (fun _ _ _ h => h) ?_; intro a159 hE160; clear hE158
            refine d_done (by kernel_rfl) ?_
            have hE161 := hE160.sub (L' := [(1, .pointer (some ⟨b2, 0, none⟩)), (3, .slice out3A ((out3).length) out3C), (4, .int .i64 next4), (5, .int .i64 w5), (6, .int .i64 own6L2), (7, .int .i64 v7L2), (37, .bool false)]) ⟨rfl, rfl, rfl, rfl, rfl, rfl, rfl, trivial⟩; clear hE160
            refine p_tn ?_
            have hE162 := hE161.sub (L' := [(1, .pointer (some ⟨b2, 0, none⟩)), (3, .slice out3A ((out3).length) out3C), (4, .int .i64 next4), (5, .int .i64 w5), (6, .int .i64 own6L2), (7, .int .i64 v7L2), (37, .bool false)]) ⟨rfl, rfl, rfl, rfl, rfl, rfl, rfl, trivial⟩
            have hS163 := (St.pick (Γ' := [.own 2 1 out3A ((out3).length) out3C out3, .rd 1 f1A f1.length f1C f1, .blk b2 #[.int .i64 f0, .slice f1A f1.length f1C] 30]) hS103 [0, 2, 1] (by decide) rfl)
            exact ⟨(by rw [hb115, hb84]; exact hE162), hS163⟩
          ·
           have hE164 := hE83; (try rw [hb84] at hE164); clear hE83
           have hp165 := of_decide_eq_false hb84
           refine d_skip (fun _ h => h) 3 rfl hE164 rfl (by kernel_rfl) (by kernel_rfl) (by kernel_rfl) rfl rfl (fun _ _ _ h => h) ?_; intro a166 hE167; clear hE164
           refine d_skip (fun _ h => h) 4 rfl hE167 rfl (by kernel_rfl) (by kernel_rfl) (by kernel_rfl) rfl rfl (fun _ _ _ h => h) ?_; intro a168 hE169; clear hE167
           refine d_skip (fun _ h => h) 5 rfl hE169 rfl (by kernel_rfl) (by kernel_rfl) (by kernel_rfl) rfl rfl (fun _ _ _ h => h) ?_; intro a170 hE171; clear hE169
           refine d_skip (fun _ h => h) 6 rfl hE171 rfl (by kernel_rfl) (by kernel_rfl) (by kernel_rfl) rfl rfl (fun _ _ _ h => h) ?_; intro a172 hE173; clear hE171
           refine d_skip (fun _ h => h) 7 rfl hE173 rfl (by kernel_rfl) (by kernel_rfl) (by kernel_rfl) rfl rfl (fun _ _ _ h => h) ?_; intro a174 hE175; clear hE173
           refine d_skip (fun _ h => h) 8 rfl hE175 rfl (by kernel_rfl) (by kernel_rfl) (by kernel_rfl) rfl rfl (fun _ _ _ h => h) ?_; intro a176 hE177; clear hE175
           refine d_pure (fun _ h => h) (v := .bool false) 9 rfl hE177 (y_pick (b := false) rfl rfl) rfl (by kernel_rfl) (by kernel_rfl) (by kernel_rfl) rfl rfl (fun _ _ _ h => h) ?_; intro a178 hE179; clear hE177
           refine d_pure (fun _ h => h) (v := .bool false) 10 rfl hE179 (y_move rfl) rfl (by kernel_rfl) (by kernel_rfl) (by kernel_rfl) rfl rfl (fun _ _ _ h => h) ?_; intro a180 hE181; clear hE179
           refine d_skip (fun _ h => h) 11 rfl hE181 rfl (by kernel_rfl) (by kernel_rfl) (by kernel_rfl) rfl rfl (fun _ _ _ h => h) ?_; intro a182 hE183; clear hE181
           refine d_skip (fun _ h => h) 12 rfl hE183 rfl (by kernel_rfl) (by kernel_rfl) (by kernel_rfl) rfl rfl (fun _ _ _ h => h) ?_; intro a184 hE185; clear hE183
           refine d_skip (fun _ h => h) 13 rfl hE185 rfl (by kernel_rfl) (by kernel_rfl) (by kernel_rfl) rfl rfl (fun _ _ _ h => h) ?_; intro a186 hE187; clear hE185
           refine d_skip (fun _ h => h) 14 rfl hE187 rfl (by kernel_rfl) (by kernel_rfl) (by kernel_rfl) rfl rfl (fun _ _ _ h => h) ?_; intro a188 hE189; clear hE187
           refine d_skip (fun _ h => h) 15 rfl hE189 rfl (by kernel_rfl) (by kernel_rfl) (by kernel_rfl) rfl rfl (fun _ _ _ h => h) ?_; intro a190 hE191; clear hE189
           refine d_skip (fun _ h => h) 16 rfl hE191 rfl (by kernel_rfl) (by kernel_rfl) (by kernel_rfl) rfl rfl (fun _ _ _ h => h) ?_; intro a192 hE193; clear hE191
           refine d_pure (fun _ h => h) (v := .bool false) 17 rfl hE193 (y_pick (b := false) rfl rfl) rfl (by kernel_rfl) (by kernel_rfl) (by kernel_rfl) rfl rfl (fun _ _ _ h => h) ?_; intro a194 hE195; clear hE193
           refine d_done (by kernel_rfl) ?_
           have hE196 := hE195.sub (L' := [(1, .pointer (some ⟨b2, 0, none⟩)), (3, .slice out3A ((out3).length) out3C), (4, .int .i64 next4), (5, .int .i64 w5), (6, .int .i64 own6L2), (7, .int .i64 v7L2), (37, .bool false)]) ⟨rfl, rfl, rfl, rfl, rfl, rfl, rfl, trivial⟩; clear hE195
           refine p_tn ?_
           have hE197 := hE196.sub (L' := [(1, .pointer (some ⟨b2, 0, none⟩)), (3, .slice out3A ((out3).length) out3C), (4, .int .i64 next4), (5, .int .i64 w5), (6, .int .i64 own6L2), (7, .int .i64 v7L2), (37, .bool false)]) ⟨rfl, rfl, rfl, rfl, rfl, rfl, rfl, trivial⟩
           have hS198 := (St.pick (Γ' := [.own 2 1 out3A ((out3).length) out3C out3, .rd 1 f1A f1.length f1C f1, .blk b2 #[.int .i64 f0, .slice f1A f1.length f1C] 30]) hS77 [0, 2, 1] (by decide) rfl)
           exact ⟨(by rw [hb84]; exact hE197), hS198⟩
         ·
          rintro a199 w200 ⟨hE201, hS202⟩; clear hE74 hS60
          refine c_cond hE201 rfl (fun ht204 => ?_) (fun ht204 => ?_)
          ·
           obtain ⟨ht205, ht206⟩ := band_t ht204
           have hp207 := of_decide_eq_true ht205
           obtain ⟨ht208, ht209⟩ := band_t ht206
           have hE210 := hE201; rw [ht204] at hE210; clear hE201
           refine c_reg ?_
           refine q_step (v := .slice out3A ((out3).length) out3C) hE210 (y_move rfl) rfl rfl rfl ?_; intro a211 hE212; clear hE210
           refine q_step (v := .int .i64 v7L2) hE212 (y_move rfl) rfl rfl rfl ?_; intro a213 hE214; clear hE212
           refine q_step (v := .pointer (some (adr out3A (Int.toNat v7L2)))) hE214 (y_idx (by kernel_rfl) (fun _ => by kernel_rfl) rfl rfl (RdS.isS (m := v7L2) (St.rdO (i := 0) hS202 rfl) (by omega) (by omega)) (by omega) (by omega) (Nat.mul_one _).symm) rfl rfl rfl ?_; intro a215 hE216; clear hE214
           refine q_step (v := .int .i64 (gI out3 v7L2)) hE216 (y_load (fun _ => by kernel_rfl) rfl (RdS.elt (St.rdO (i := 0) hS202 rfl) (by omega) (by omega))) rfl rfl rfl ?_; intro a217 hE218; clear hE216
           refine q_step (v := .int .i64 (gI out3 v7L2)) hE218 (y_assign rfl) rfl rfl rfl ?_; intro a219 hE220; clear hE218
           refine c_nil ?_
           have hE221 := hE220.sub (L' := [(1, .pointer (some ⟨b2, 0, none⟩)), (3, .slice out3A ((out3).length) out3C), (4, .int .i64 next4), (5, .int .i64 w5), (6, .int .i64 (gI out3 v7L2)), (7, .int .i64 v7L2)]) ⟨rfl, rfl, rfl, rfl, rfl, rfl, trivial⟩; clear hE220
           refine p_bn ?_
           refine p_tn ?_
           have hE222 := hE221.sub (L' := [(1, .pointer (some ⟨b2, 0, none⟩)), (3, .slice out3A ((out3).length) out3C), (4, .int .i64 next4), (5, .int .i64 w5), (6, .int .i64 (gI out3 v7L2)), (7, .int .i64 v7L2)]) ⟨rfl, rfl, rfl, rfl, rfl, rfl, trivial⟩
           have hS223 := (St.pick (Γ' := [.own 2 1 out3A ((out3).length) out3C out3, .rd 1 f1A f1.length f1C f1, .blk b2 #[.int .i64 f0, .slice f1A f1.length f1C] 30]) hS202 [0, 1, 2] (by decide) rfl)
           exact ⟨(by rw [ht204]; exact hE222), hS223⟩
          ·
           have hE224 := hE201; rw [ht204] at hE224; clear hE201
           refine wp_skip ?_
           refine p_bn ?_
           refine p_tn ?_
           have hE225 := hE224.sub (L' := [(1, .pointer (some ⟨b2, 0, none⟩)), (3, .slice out3A ((out3).length) out3C), (4, .int .i64 next4), (5, .int .i64 w5), (6, .int .i64 own6L2), (7, .int .i64 v7L2)]) ⟨rfl, rfl, rfl, rfl, rfl, rfl, trivial⟩
           have hS226 := (St.pick (Γ' := [.own 2 1 out3A ((out3).length) out3C out3, .rd 1 f1A f1.length f1C f1, .blk b2 #[.int .i64 f0, .slice f1A f1.length f1C] 30]) hS202 [0, 1, 2] (by decide) rfl)
           exact ⟨(by rw [ht204]; exact hE225), hS226⟩
        ·
         rintro a227 w228 ⟨hE229, hS230⟩; clear hE74 hS60
         refine c_reg ?_
         refine q_step (v := .int .i64 v7L2) hE229 (y_move rfl) rfl rfl rfl ?_; intro a232 hE233; clear hE229
         refine q_step (v := .int .i64 (v7L2 + 1)) hE233 (y_add rfl rfl ⟨(by omega), (by omega)⟩) rfl rfl rfl ?_; intro a234 hE235; clear hE233
         refine q_step (v := .int .i64 (v7L2 + 1)) hE235 (y_assign rfl) rfl rfl rfl ?_; intro a236 hE237; clear hE235
         refine c_nil ?_
         have hE238 := hE237.sub (L' := [(1, .pointer (some ⟨b2, 0, none⟩)), (3, .slice out3A ((out3).length) out3C), (4, .int .i64 next4), (5, .int .i64 w5), (6, .int .i64 (bif ((decide (own6L2 < 0)) && ((F_l01Bit (F_l05Reach f0 f1 (powI w5)) v7L2) && (F_l01Bit (F_l05Reach f0 f1 (powI v7L2)) w5))) then gI out3 v7L2 else own6L2)), (7, .int .i64 (v7L2 + 1))]) ⟨rfl, rfl, rfl, rfl, rfl, rfl, trivial⟩; clear hE237
         refine p_tn ⟨r64, Nat.lt_succ_self _, bif ((decide (own6L2 < 0)) && ((F_l01Bit (F_l05Reach f0 f1 (powI w5)) v7L2) && (F_l01Bit (F_l05Reach f0 f1 (powI v7L2)) w5))) then gI out3 v7L2 else own6L2, v7L2 + 1, (hT61.symm.trans (show F_l05Clusters_L2b f0 f1 out3 w5 (F_l05Clusters_L2 f0 f1 out3 w5 r64) own6L2 v7L2 = F_l05Clusters_L2 f0 f1 out3 w5 r64 (bif ((decide (own6L2 < 0)) && ((F_l01Bit (F_l05Reach f0 f1 (powI w5)) v7L2) && (F_l01Bit (F_l05Reach f0 f1 (powI v7L2)) w5))) then gI out3 v7L2 else own6L2) (v7L2 + 1) by unfold F_l05Clusters_L2b; rw [ht72]; first | done | rfl)).symm, (by omega), (by first | omega | (simp only [sS_len, sL_len]; omega) | (simp only [List.length_replicate, sI_len]; omega) | (simp only [List.length_append, List.length_cons, List.length_nil, sI_len, cond_true, cond_false]; omega) | (simp only [List.length_append, List.length_cons, List.length_nil, sI_len, cond_eq_ite, apply_ite List.length]; split <;> simp only [List.length_append, List.length_cons, List.length_nil, sI_len] <;> omega) | grind), (hE238.sub (L' := [(1, .pointer (some ⟨b2, 0, none⟩)), (3, .slice out3A ((out3).length) out3C), (4, .int .i64 next4), (5, .int .i64 w5), (6, .int .i64 (bif ((decide (own6L2 < 0)) && ((F_l01Bit (F_l05Reach f0 f1 (powI w5)) v7L2) && (F_l01Bit (F_l05Reach f0 f1 (powI v7L2)) w5))) then gI out3 v7L2 else own6L2)), (7, .int .i64 (v7L2 + 1))]) ⟨rfl, rfl, rfl, rfl, rfl, rfl, trivial⟩), (St.pick (Γ' := [.own 2 1 out3A ((out3).length) out3C out3, .blk b2 #[.int .i64 f0, .slice f1A f1.length f1C] 30, .rd 1 f1A f1.length f1C f1]) hS230 [0, 2, 1] (by decide) rfl)⟩
       ·
        have hp239 := of_decide_eq_false ht72
        have hE240 := hE71; rw [ht72] at hE240; clear hE71
        refine wp_exit ?_
        refine p_te ?_
        have hX241 : F_l05Clusters_L2 f0 f1 out3 w5 (Int.toNat (w5 - 0) + 1) (-1) 0 = (own6L2, v7L2) := hT61.symm.trans (show F_l05Clusters_L2b f0 f1 out3 w5 (F_l05Clusters_L2 f0 f1 out3 w5 r64) own6L2 v7L2 = (own6L2, v7L2) by unfold F_l05Clusters_L2b; rw [ht72]; first | done | rfl)
        refine p_te (p_be (p_tn ?_))
        exact ⟨(by rw [hX241]; exact (show 0 ≤ v7L2 from (by first | omega | (simp only [sS_len, sL_len]; omega) | (simp only [List.length_replicate, sI_len]; omega) | (simp only [List.length_append, List.length_cons, List.length_nil, sI_len, cond_true, cond_false]; omega) | (simp only [List.length_append, List.length_cons, List.length_nil, sI_len, cond_eq_ite, apply_ite List.length]; split <;> simp only [List.length_append, List.length_cons, List.length_nil, sI_len] <;> omega) | grind))), (by rw [hX241]; exact (hE240.sub (L' := [(1, .pointer (some ⟨b2, 0, none⟩)), (3, .slice out3A ((out3).length) out3C), (4, .int .i64 next4), (5, .int .i64 w5), (6, .int .i64 own6L2), (7, .int .i64 v7L2)]) ⟨rfl, rfl, rfl, rfl, rfl, rfl, trivial⟩)), (St.pick (Γ' := [.own 2 1 out3A ((out3).length) out3C out3, .blk b2 #[.int .i64 f0, .slice f1A f1.length f1C] 30, .rd 1 f1A f1.length f1C f1]) hS60 [0, 1, 2] (by decide) rfl)⟩
     ·
      rintro a242 w243 ⟨hi247, hE244, hS245⟩; clear hE55 hS29
      refine p_tn ?_
      refine c_cut (fun a' w' => E a' 52 [(1, .pointer (some ⟨b2, 0, none⟩)), (3, .slice out3A ((out3).length) out3C), (4, .int .i64 (bif (decide (((F_l05Clusters_L2 f0 f1 out3 w5 (Int.toNat (w5 - 0) + 1) (-1) 0).1) < 0)) then next4 + 1 else next4)), (5, .int .i64 w5), (6, .int .i64 (bif (decide (((F_l05Clusters_L2 f0 f1 out3 w5 (Int.toNat (w5 - 0) + 1) (-1) 0).1) < 0)) then next4 else (F_l05Clusters_L2 f0 f1 out3 w5 (Int.toNat (w5 - 0) + 1) (-1) 0).1))] ∧ St w w' [.own 2 1 out3A ((out3).length) out3C out3, .rd 1 f1A f1.length f1C f1, .blk b2 #[.int .i64 f0, .slice f1A f1.length f1C] 30]) ?_ ?_
      ·
       refine c_seq ?_
       refine c_reg ?_
       refine q_step (v := .int .i64 ((F_l05Clusters_L2 f0 f1 out3 w5 (Int.toNat (w5 - 0) + 1) (-1) 0).1)) hE244 (y_move rfl) rfl rfl rfl ?_; intro a248 hE249; clear hE244
       refine q_step (v := .bool (decide (((F_l05Clusters_L2 f0 f1 out3 w5 (Int.toNat (w5 - 0) + 1) (-1) 0).1) < 0))) hE249 (y_lss rfl rfl) rfl rfl rfl ?_; intro a250 hE251; clear hE249
       refine c_nil ?_
       have hE252 := hE251.sub (L' := [(1, .pointer (some ⟨b2, 0, none⟩)), (3, .slice out3A ((out3).length) out3C), (4, .int .i64 next4), (5, .int .i64 w5), (6, .int .i64 ((F_l05Clusters_L2 f0 f1 out3 w5 (Int.toNat (w5 - 0) + 1) (-1) 0).1)), (43, .bool (decide (((F_l05Clusters_L2 f0 f1 out3 w5 (Int.toNat (w5 - 0) + 1) (-1) 0).1) < 0)))]) ⟨rfl, rfl, rfl, rfl, rfl, rfl, trivial⟩; clear hE251
       refine p_tn ?_
       refine c_cond hE252 rfl (fun ht253 => ?_) (fun ht253 => ?_)
       ·
        have hp254 := of_decide_eq_true ht253
        have hE255 := hE252; rw [ht253] at hE255; clear hE252
        refine c_seq ?_
        refine c_reg ?_
        refine q_step (v := .int .i64 next4) hE255 (y_move rfl) rfl rfl rfl ?_; intro a256 hE257; clear hE255
        refine q_step (v := .int .i64 next4) hE257 (y_assign rfl) rfl rfl rfl ?_; intro a258 hE259; clear hE257
        refine c_nil ?_
        have hE260 := hE259.sub (L' := [(1, .pointer (some ⟨b2, 0, none⟩)), (3, .slice out3A ((out3).length) out3C), (4, .int .i64 next4), (5, .int .i64 w5), (6, .int .i64 next4)]) ⟨rfl, rfl, rfl, rfl, rfl, trivial⟩; clear hE259
        refine p_tn ?_
        refine c_reg ?_
        refine q_step (v := .int .i64 next4) hE260 (y_move rfl) rfl rfl rfl ?_; intro a261 hE262; clear hE260
        refine q_step (v := .int .i64 (next4 + 1)) hE262 (y_add rfl rfl ⟨(by omega), (by omega)⟩) rfl rfl rfl ?_; intro a263 hE264; clear hE262
        refine q_step (v := .int .i64 (next4 + 1)) hE264 (y_assign rfl) rfl rfl rfl ?_; intro a265 hE266; clear hE264
        refine c_nil ?_
        have hE267 := hE266.sub (L' := [(1, .pointer (some ⟨b2, 0, none⟩)), (3, .slice out3A ((out3).length) out3C), (4, .int .i64 (next4 + 1)), (5, .int .i64 w5), (6, .int .i64 next4)]) ⟨rfl, rfl, rfl, rfl, rfl, trivial⟩; clear hE266
        refine p_tn ?_
        have hE268 := hE267.sub (L' := [(1, .pointer (some ⟨b2, 0, none⟩)), (3, .slice out3A ((out3).length) out3C), (4, .int .i64 (next4 + 1)), (5, .int .i64 w5), (6, .int .i64 next4)]) ⟨rfl, rfl, rfl, rfl, rfl, trivial⟩
        have hS269 := (St.pick (Γ' := [.own 2 1 out3A ((out3).length) out3C out3, .rd 1 f1A f1.length f1C f1, .blk b2 #[.int .i64 f0, .slice f1A f1.length f1C] 30]) hS245 [0, 2, 1] (by decide) rfl)
        exact ⟨(by rw [ht253]; exact hE268), hS269⟩
       ·
        have hp270 := of_decide_eq_false ht253
        have hE271 := hE252; rw [ht253] at hE271; clear hE252
        refine wp_skip ?_
        refine p_tn ?_
        have hE272 := hE271.sub (L' := [(1, .pointer (some ⟨b2, 0, none⟩)), (3, .slice out3A ((out3).length) out3C), (4, .int .i64 next4), (5, .int .i64 w5), (6, .int .i64 ((F_l05Clusters_L2 f0 f1 out3 w5 (Int.toNat (w5 - 0) + 1) (-1) 0).1))]) ⟨rfl, rfl, rfl, rfl, rfl, trivial⟩
        have hS273 := (St.pick (Γ' := [.own 2 1 out3A ((out3).length) out3C out3, .rd 1 f1A f1.length f1C f1, .blk b2 #[.int .i64 f0, .slice f1A f1.length f1C] 30]) hS245 [0, 2, 1] (by decide) rfl)
        exact ⟨(by rw [ht253]; exact hE272), hS273⟩
      ·
       rintro a274 w275 ⟨hE276, hS277⟩; clear hE244 hS245
       refine c_reg ?_
       refine q_step (v := .slice out3A ((out3).length) out3C) hE276 (y_move rfl) rfl rfl rfl ?_; intro a279 hE280; clear hE276
       refine q_step (v := .int .i64 (bif (decide (((F_l05Clusters_L2 f0 f1 out3 w5 (Int.toNat (w5 - 0) + 1) (-1) 0).1) < 0)) then next4 else (F_l05Clusters_L2 f0 f1 out3 w5 (Int.toNat (w5 - 0) + 1) (-1) 0).1)) hE280 (y_move rfl) rfl rfl rfl ?_; intro a281 hE282; clear hE280
       refine l_step hE282 rfl (l_lit (e := 2) (s := 1) (xs := [bif (decide (((F_l05Clusters_L2 f0 f1 out3 w5 (Int.toNat (w5 - 0) + 1) (-1) 0).1) < 0)) then next4 else (F_l05Clusters_L2 f0 f1 out3 w5 (Int.toNat (w5 - 0) + 1) (-1) 0).1]) (vs := [.int .i64 (bif (decide (((F_l05Clusters_L2 f0 f1 out3 w5 (Int.toNat (w5 - 0) + 1) (-1) 0).1) < 0)) then next4 else (F_l05Clusters_L2 f0 f1 out3 w5 (Int.toNat (w5 - 0) + 1) (-1) 0).1)]) hS277 hE282 rfl (fun _ => by kernel_rfl) rfl rfl rfl ?_)
       intro b283 w284 hS287 he288 a285 hE286; clear hS277 hE282
       obtain ⟨_, hi1, hi2, hi3, hi4⟩ := info_parts (show (Try.prog.info? 2).map (fun i => (i.zero, i.size, i.bytes)) = some (some (.int .i64 0), 1, 8) by kernel_rfl)
       refine l_step hE286 rfl (l_append (k := 1) (n' := (out3 ++ ([bif (decide (((F_l05Clusters_L2 f0 f1 out3 w5 (Int.toNat (w5 - 0) + 1) (-1) 0).1) < 0)) then next4 else (F_l05Clusters_L2 f0 f1 out3 w5 (Int.toNat (w5 - 0) + 1) (-1) 0).1])).length) hS287 hE286 (by kernel_rfl) hi1 hi2 hi3 rfl (by decide) (by rw [hi4]; decide) rfl rfl rfl (St.rdO (i := 0) hS287 rfl) (by first | omega | (simp only [List.length_append, List.length_cons, List.length_nil]; omega)) (by have h1 := (St.rdO (i := 1) hS287 rfl).len1; have h2 := (St.rdO (i := 0) hS287 rfl).len1; first | rw [List.length_append, h1, h2] | (simp only [List.length_append])) rfl ?_)
       intro b289 c295 w290 hS293 a291 hE292; clear hS287 hE286 hi1 hi2 hi3 hi4
       refine q_step (v := .slice b289 ((out3 ++ ([bif (decide (((F_l05Clusters_L2 f0 f1 out3 w5 (Int.toNat (w5 - 0) + 1) (-1) 0).1) < 0)) then next4 else (F_l05Clusters_L2 f0 f1 out3 w5 (Int.toNat (w5 - 0) + 1) (-1) 0).1])).length) c295) hE292 (y_assign rfl) rfl rfl rfl ?_; intro a296 hE297; clear hE292
       refine c_nil ?_
       have hE298 := hE297.sub (L' := [(1, .pointer (some ⟨b2, 0, none⟩)), (3, .slice b289 ((out3 ++ ([bif (decide (((F_l05Clusters_L2 f0 f1 out3 w5 (Int.toNat (w5 - 0) + 1) (-1) 0).1) < 0)) then next4 else (F_l05Clusters_L2 f0 f1 out3 w5 (Int.toNat (w5 - 0) + 1) (-1) 0).1])).length) c295), (4, .int .i64 (bif (decide (((F_l05Clusters_L2 f0 f1 out3 w5 (Int.toNat (w5 - 0) + 1) (-1) 0).1) < 0)) then next4 + 1 else next4)), (5, .int .i64 w5)]) ⟨rfl, rfl, rfl, rfl, trivial⟩; clear hE297
       refine p_bn ?_
       refine p_tn ?_
       refine c_reg ?_
       refine q_step (v := .int .i64 w5) hE298 (y_move rfl) rfl rfl rfl ?_; intro a299 hE300; clear hE298
       refine q_step (v := .int .i64 (w5 + 1)) hE300 (y_add rfl rfl ⟨(by omega), (by omega)⟩) rfl rfl rfl ?_; intro a301 hE302; clear hE300
       refine q_step (v := .int .i64 (w5 + 1)) hE302 (y_assign rfl) rfl rfl rfl ?_; intro a303 hE304; clear hE302
       refine c_nil ?_
       have hE305 := hE304.sub (L' := [(1, .pointer (some ⟨b2, 0, none⟩)), (3, .slice b289 ((out3 ++ ([bif (decide (((F_l05Clusters_L2 f0 f1 out3 w5 (Int.toNat (w5 - 0) + 1) (-1) 0).1) < 0)) then next4 else (F_l05Clusters_L2 f0 f1 out3 w5 (Int.toNat (w5 - 0) + 1) (-1) 0).1])).length) c295), (4, .int .i64 (bif (decide (((F_l05Clusters_L2 f0 f1 out3 w5 (Int.toNat (w5 - 0) + 1) (-1) 0).1) < 0)) then next4 + 1 else next4)), (5, .int .i64 (w5 + 1))]) ⟨rfl, rfl, rfl, rfl, trivial⟩; clear hE304
       have hl306 := (St.rdO (i := 0) hS293 rfl).len1
       have hl307 := (St.rdO (i := 1) hS293 rfl).len1
       refine p_tn ⟨r37, Nat.lt_succ_self _, out3 ++ ([bif (decide (((F_l05Clusters_L2 f0 f1 out3 w5 (Int.toNat (w5 - 0) + 1) (-1) 0).1) < 0)) then next4 else (F_l05Clusters_L2 f0 f1 out3 w5 (Int.toNat (w5 - 0) + 1) (-1) 0).1]), bif (decide (((F_l05Clusters_L2 f0 f1 out3 w5 (Int.toNat (w5 - 0) + 1) (-1) 0).1) < 0)) then next4 + 1 else next4, w5 + 1, b289, c295, (hT30.symm.trans (show F_l05Clusters_L1b f0 f1 (F_l05Clusters_L1 f0 f1 r37) out3 next4 w5 = F_l05Clusters_L1 f0 f1 r37 (out3 ++ ([bif (decide (((F_l05Clusters_L2 f0 f1 out3 w5 (Int.toNat (w5 - 0) + 1) (-1) 0).1) < 0)) then next4 else (F_l05Clusters_L2 f0 f1 out3 w5 (Int.toNat (w5 - 0) + 1) (-1) 0).1])) (bif (decide (((F_l05Clusters_L2 f0 f1 out3 w5 (Int.toNat (w5 - 0) + 1) (-1) 0).1) < 0)) then next4 + 1 else next4) (w5 + 1) by unfold F_l05Clusters_L1b; rw [ht47]; first | done | rfl)).symm, (by omega), (by first | omega | (simp only [sS_len, sL_len]; omega) | (simp only [List.length_replicate, sI_len]; omega) | (simp only [List.length_append, List.length_cons, List.length_nil, sI_len, cond_true, cond_false]; omega) | (simp only [List.length_append, List.length_cons, List.length_nil, sI_len, cond_eq_ite, apply_ite List.length]; split <;> simp only [List.length_append, List.length_cons, List.length_nil, sI_len] <;> omega) | grind), (by first | omega | (simp only [sS_len, sL_len]; omega) | (simp only [List.length_replicate, sI_len]; omega) | (simp only [List.length_append, List.length_cons, List.length_nil, sI_len, cond_true, cond_false]; omega) | (simp only [List.length_append, List.length_cons, List.length_nil, sI_len, cond_eq_ite, apply_ite List.length]; split <;> simp only [List.length_append, List.length_cons, List.length_nil, sI_len] <;> omega) | grind), (by first | omega | (simp only [sS_len, sL_len]; omega) | (simp only [List.length_replicate, sI_len]; omega) | (simp only [List.length_append, List.length_cons, List.length_nil, sI_len, cond_true, cond_false]; omega) | (simp only [List.length_append, List.length_cons, List.length_nil, sI_len, cond_eq_ite, apply_ite List.length]; split <;> simp only [List.length_append, List.length_cons, List.length_nil, sI_len] <;> omega) | grind), (by first | omega | (simp only [sS_len, sL_len]; omega) | (simp only [List.length_replicate, sI_len]; omega) | (simp only [List.length_append, List.length_cons, List.length_nil, sI_len, cond_true, cond_false]; omega) | (simp only [List.length_append, List.length_cons, List.length_nil, sI_len, cond_eq_ite, apply_ite List.length]; split <;> simp only [List.length_append, List.length_cons, List.length_nil, sI_len] <;> omega) | grind), (by first | omega | (simp only [sS_len, sL_len]; omega) | (simp only [List.length_replicate, sI_len]; omega) | (simp only [List.length_append, List.length_cons, List.length_nil, sI_len, cond_true, cond_false]; omega) | (simp only [List.length_append, List.length_cons, List.length_nil, sI_len, cond_eq_ite, apply_ite List.length]; split <;> simp only [List.length_append, List.length_cons, List.length_nil, sI_len] <;> omega) | grind), (hE305.sub (L' := [(1, .pointer (some ⟨b2, 0, none⟩)), (3, .slice b289 ((out3 ++ ([bif (decide (((F_l05Clusters_L2 f0 f1 out3 w5 (Int.toNat (w5 - 0) + 1) (-1) 0).1) < 0)) then next4 else (F_l05Clusters_L2 f0 f1 out3 w5 (Int.toNat (w5 - 0) + 1) (-1) 0).1])).length) c295), (4, .int .i64 (bif (decide (((F_l05Clusters_L2 f0 f1 out3 w5 (Int.toNat (w5 - 0) + 1) (-1) 0).1) < 0)) then next4 + 1 else next4)), (5, .int .i64 (w5 + 1))]) ⟨rfl, rfl, rfl, rfl, trivial⟩), (St.pick (Γ' := [.own 2 1 b289 ((out3 ++ ([bif (decide (((F_l05Clusters_L2 f0 f1 out3 w5 (Int.toNat (w5 - 0) + 1) (-1) 0).1) < 0)) then next4 else (F_l05Clusters_L2 f0 f1 out3 w5 (Int.toNat (w5 - 0) + 1) (-1) 0).1])).length) c295 (out3 ++ ([bif (decide (((F_l05Clusters_L2 f0 f1 out3 w5 (Int.toNat (w5 - 0) + 1) (-1) 0).1) < 0)) then next4 else (F_l05Clusters_L2 f0 f1 out3 w5 (Int.toNat (w5 - 0) + 1) (-1) 0).1])), .blk b2 #[.int .i64 f0, .slice f1A f1.length f1C] 30, .rd 1 f1A f1.length f1C f1]) hS293 [1, 3, 2] (by decide) rfl)⟩
    ·
     have hp308 := of_decide_eq_false ht47
     have hE309 := hE46; rw [ht47] at hE309; clear hE46
     refine wp_exit ?_
     refine p_te ?_
     have hX310 : F_l05Clusters_L1 f0 f1 (Int.toNat (f0 - 0) + 1) ([]) 0 0 = (out3, next4, w5) := hT30.symm.trans (show F_l05Clusters_L1b f0 f1 (F_l05Clusters_L1 f0 f1 r37) out3 next4 w5 = (out3, next4, w5) by unfold F_l05Clusters_L1b; rw [ht47]; first | done | rfl)
     refine p_te (p_be (p_tn ?_))
     exact ⟨out3A, out3C, (by rw [hX310]; exact (show 0 ≤ w5 from (by first | omega | (simp only [sS_len, sL_len]; omega) | (simp only [List.length_replicate, sI_len]; omega) | (simp only [List.length_append, List.length_cons, List.length_nil, sI_len, cond_true, cond_false]; omega) | (simp only [List.length_append, List.length_cons, List.length_nil, sI_len, cond_eq_ite, apply_ite List.length]; split <;> simp only [List.length_append, List.length_cons, List.length_nil, sI_len] <;> omega) | grind))), (by rw [hX310]; exact (show (out3.length : Int) = w5 from (by first | omega | (simp only [sS_len, sL_len]; omega) | (simp only [List.length_replicate, sI_len]; omega) | (simp only [List.length_append, List.length_cons, List.length_nil, sI_len, cond_true, cond_false]; omega) | (simp only [List.length_append, List.length_cons, List.length_nil, sI_len, cond_eq_ite, apply_ite List.length]; split <;> simp only [List.length_append, List.length_cons, List.length_nil, sI_len] <;> omega) | grind))), (by rw [hX310]; exact (show 0 ≤ next4 from (by first | omega | (simp only [sS_len, sL_len]; omega) | (simp only [List.length_replicate, sI_len]; omega) | (simp only [List.length_append, List.length_cons, List.length_nil, sI_len, cond_true, cond_false]; omega) | (simp only [List.length_append, List.length_cons, List.length_nil, sI_len, cond_eq_ite, apply_ite List.length]; split <;> simp only [List.length_append, List.length_cons, List.length_nil, sI_len] <;> omega) | grind))), (by rw [hX310]; exact (show next4 ≤ w5 from (by first | omega | (simp only [sS_len, sL_len]; omega) | (simp only [List.length_replicate, sI_len]; omega) | (simp only [List.length_append, List.length_cons, List.length_nil, sI_len, cond_true, cond_false]; omega) | (simp only [List.length_append, List.length_cons, List.length_nil, sI_len, cond_eq_ite, apply_ite List.length]; split <;> simp only [List.length_append, List.length_cons, List.length_nil, sI_len] <;> omega) | grind))), (by rw [hX310]; exact (show (out3.length : Int) ≤ w5 from (by first | omega | (simp only [sS_len, sL_len]; omega) | (simp only [List.length_replicate, sI_len]; omega) | (simp only [List.length_append, List.length_cons, List.length_nil, sI_len, cond_true, cond_false]; omega) | (simp only [List.length_append, List.length_cons, List.length_nil, sI_len, cond_eq_ite, apply_ite List.length]; split <;> simp only [List.length_append, List.length_cons, List.length_nil, sI_len] <;> omega) | grind))), (by rw [hX310]; exact (hE309.sub (L' := [(1, .pointer (some ⟨b2, 0, none⟩)), (3, .slice out3A ((out3).length) out3C), (4, .int .i64 next4), (5, .int .i64 w5)]) ⟨rfl, rfl, rfl, rfl, trivial⟩)), (by rw [hX310]; exact (St.pick (Γ' := [.own 2 1 out3A ((out3).length) out3C out3, .blk b2 #[.int .i64 f0, .slice f1A f1.length f1C] 30, .rd 1 f1A f1.length f1C f1]) hS29 [0, 1, 2] (by decide) rfl))⟩
  ·
   rintro a311 w312 ⟨out3A_25, out3C_25, hi316, hi317, hi318, hi319, hi320, hE313, hS314⟩; clear hE24 hS15
   refine p_tn ?_
   refine c_seq ?_
   refine c_reg ?_
   refine q_step (v := .slice out3A_25 (((F_l05Clusters_L1 f0 f1 (Int.toNat (f0 - 0) + 1) ([]) 0 0).1).length) out3C_25) hE313 (y_move rfl) rfl rfl rfl ?_; intro a321 hE322; clear hE313
   refine q_step (v := .slice out3A_25 (((F_l05Clusters_L1 f0 f1 (Int.toNat (f0 - 0) + 1) ([]) 0 0).1).length) out3C_25) hE322 (y_assign rfl) rfl rfl rfl ?_; intro a323 hE324; clear hE322
   refine c_nil ?_
   have hE325 := hE324.sub (L' := [(2, .slice out3A_25 (((F_l05Clusters_L1 f0 f1 (Int.toNat (f0 - 0) + 1) ([]) 0 0).1).length) out3C_25)]) ⟨rfl, trivial⟩; clear hE324
   refine p_tn ?_
   refine wp_ret ?_
   have hF : F_l05Clusters f0 f1 = (F_l05Clusters_L1 f0 f1 (Int.toNat (f0 - 0) + 1) ([]) 0 0).1 := by unfold F_l05Clusters; rfl
   refine c_ret1 hE325 rfl rfl ?_
   exact ⟨out3A_25, out3C_25, (by rw [hF]; first | done | (dsimp only; done) | rfl), (by rw [hF]; (try dsimp only); exact hS314.ok 0 _ rfl), hS314.ext⟩
def F_Frame_clusters_L2b (f0 : Int) (f1 : List Int) (t15 : Int) (rec : Int → (List Int) → Int × (List Int)) (t22L2 : Int) (out4L2 : List Int) : Int × (List Int) :=
  bif (decide (t22L2 < t15)) then (bif ((F_has (gI (F_Frame_reachable f0 f1) t15) t22L2) && (F_has (gI (F_Frame_reachable f0 f1) t22L2) t15)) then (t22L2, sI out4L2 t15 (gI out4L2 t22L2)) else (rec (t22L2 + 1) out4L2)) else (t22L2, out4L2)
def F_Frame_clusters_L2 (f0 : Int) (f1 : List Int) (t15 : Int) : Nat → Int → (List Int) → Int × (List Int)
  | 0, t22L2, out4L2 => (t22L2, out4L2)
  | r + 1, t22L2, out4L2 => F_Frame_clusters_L2b f0 f1 t15 (F_Frame_clusters_L2 f0 f1 t15 r) t22L2 out4L2
def F_Frame_clusters_L1b (f0 : Int) (f1 : List Int) (rec : Int → Int → (List Int) → Int × Int × (List Int)) (count5 : Int) (t15 : Int) (out4 : List Int) : Int × Int × (List Int) :=
  bif (decide (t15 < f0)) then (rec (bif (decide ((gI ((F_Frame_clusters_L2 f0 f1 t15 (Int.toNat (t15 - 0) + 1) 0 (sI out4 t15 (-1))).2) t15) < 0)) then count5 + 1 else count5) (t15 + 1) (bif (decide ((gI ((F_Frame_clusters_L2 f0 f1 t15 (Int.toNat (t15 - 0) + 1) 0 (sI out4 t15 (-1))).2) t15) < 0)) then sI ((F_Frame_clusters_L2 f0 f1 t15 (Int.toNat (t15 - 0) + 1) 0 (sI out4 t15 (-1))).2) t15 count5 else (F_Frame_clusters_L2 f0 f1 t15 (Int.toNat (t15 - 0) + 1) 0 (sI out4 t15 (-1))).2)) else (count5, t15, out4)
def F_Frame_clusters_L1 (f0 : Int) (f1 : List Int) : Nat → Int → Int → (List Int) → Int × Int × (List Int)
  | 0, count5, t15, out4 => (count5, t15, out4)
  | r + 1, count5, t15, out4 => F_Frame_clusters_L1b f0 f1 (F_Frame_clusters_L1 f0 f1 r) count5 t15 out4
def F_Frame_clusters (f0 : Int) (f1 : List Int) : List Int :=
  (F_Frame_clusters_L1 f0 f1 (Int.toNat (f0 - 0) + 1) 0 0 (List.replicate (Int.toNat f0) 0)).2.2
theorem cf_Frame_clusters (args : Array Value) (w : World) : (callFunc 168 args).run Try.prog w = .ok (.enter 168 args) w := by kernel_rfl
set_option maxRecDepth 100000 in
theorem c_Frame_clusters (f0 : Int) (f1A : Option Addr) (f1N f1C : Nat) (f1 : List Int) (w : World) (f1R : RdS w 1 f1A f1N f1C f1) (hf : 0 ≤ f0 ∧ f0 ≤ 8) (hfl : (f1.length : Int) = f0) :
    Calls Try.prog 168 #[.agg #[.int .i64 f0, .slice f1A f1N f1C]] w (Ret fun v w' => ∃ b1 : Option Addr, ∃ c1 : Nat, v = .slice b1 (F_Frame_clusters f0 f1).length c1 ∧ OwnS w' w.heap.size 2 1 b1 (F_Frame_clusters f0 f1).length c1 (F_Frame_clusters f0 f1) ∧ Ext w w') := by
  obtain rfl : f1N = f1.length := f1R.len1.symm
  have f1Le := f1R.le
  have hS := St.nil w
  have hS1 := St.rd0 hS rfl f1R; clear hS
  refine enter (args := [.agg #[.int .i64 f0, .slice f1A f1.length f1C]]) Try.func168 rfl rfl ?_
  rw [Try.ntmps168]; intro a hE
  have hE := hE.sub (L' := [(0, .agg #[.int .i64 f0, .slice f1A f1.length f1C])]) ⟨rfl, trivial⟩
  refine c_seq ?_
  refine c_reg ?_
  refine l_step hE rfl (l_box (v := .agg #[.int .i64 f0, .slice f1A f1.length f1C]) (cs := #[.int .i64 f0, .slice f1A f1.length f1C]) hS1 hE rfl rfl rfl ?_)
  intro b2 w3 hS6 he7 a4 hE5; clear hS1 hE
  refine q_step (v := .slice none 0 0) hE5 (y_assign rfl) rfl rfl rfl ?_; intro a8 hE9; clear hE5
  refine c_nil ?_
  have hE10 := hE9.sub (L' := [(1, .pointer (some ⟨b2, 0, none⟩))]) ⟨rfl, trivial⟩; clear hE9
  refine p_tn ?_
  refine c_seq ?_
  refine c_reg ?_
  refine q_step (v := .agg #[.int .i64 f0, .slice f1A f1.length f1C]) hE10 (y_loadS Try.underlying30 rfl (by kernel_rfl) rfl (St.row (i := 0) hS6 rfl)) rfl rfl rfl ?_; intro a11 hE12; clear hE10
  refine l_step hE12 rfl (l_call (f := 167) (argv := [.agg #[.int .i64 f0, .slice f1A f1.length f1C]]) hE12 (fun _ => cf_Frame_reachable _ _) rfl rfl (c_Frame_reachable f0 f1A f1.length f1C f1 w3 (St.rdR (i := 1) hS6 rfl) (by omega)) ?_)
  rintro _ w14 ⟨b19, c20, rfl, ho21, he18⟩ a15 hE16; clear hE12
  have hf22 := reachable_len f0 f1
  have hS17 := St.own hS6 he18 ho21; clear hS6
  refine q_step (v := .slice b19 ((F_Frame_reachable f0 f1).length) c20) hE16 (y_assign rfl) rfl rfl rfl ?_; intro a23 hE24; clear hE16
  refine c_nil ?_
  have hE25 := hE24.sub (L' := [(1, .pointer (some ⟨b2, 0, none⟩)), (3, .slice b19 ((F_Frame_reachable f0 f1).length) c20)]) ⟨rfl, rfl, trivial⟩; clear hE24
  refine p_tn ?_
  refine c_seq ?_
  refine c_reg ?_
  refine q_step (v := .pointer (some ⟨b2, 0, none⟩)) hE25 (y_field rfl (fun _ => by kernel_rfl)) rfl rfl rfl ?_; intro a26 hE27; clear hE25
  refine q_step (v := .int .i64 f0) hE27 (y_load (fun _ => by kernel_rfl) rfl (St.cell (i := 1) hS17 rfl rfl)) rfl rfl rfl ?_; intro a28 hE29; clear hE27
  refine l_step hE29 rfl (l_make (e := 2) (m := f0) hS17 hE29 (by kernel_rfl) (by kernel_rfl) rfl rfl (by omega) (by omega) rfl ?_)
  intro b30 w31 hS34 he35 a32 hE33; clear hS17 hE29
  refine q_step (v := .slice b30 (Int.toNat f0) (Int.toNat f0)) hE33 (y_assign rfl) rfl rfl rfl ?_; intro a36 hE37; clear hE33
  refine c_nil ?_
  have hE38 := hE37.sub (L' := [(1, .pointer (some ⟨b2, 0, none⟩)), (3, .slice b19 ((F_Frame_reachable f0 f1).length) c20), (4, .slice b30 (Int.toNat f0) (Int.toNat f0))]) ⟨rfl, rfl, rfl, trivial⟩; clear hE37
  refine p_tn ?_
  refine c_seq ?_
  refine c_reg ?_
  refine q_step (v := .int .i64 0) hE38 (y_assign rfl) rfl rfl rfl ?_; intro a39 hE40; clear hE38
  refine c_nil ?_
  have hE41 := hE40.sub (L' := [(1, .pointer (some ⟨b2, 0, none⟩)), (3, .slice b19 ((F_Frame_reachable f0 f1).length) c20), (4, .slice b30 (Int.toNat f0) (Int.toNat f0)), (5, .int .i64 0)]) ⟨rfl, rfl, rfl, rfl, trivial⟩; clear hE40
  refine p_tn ?_
  refine c_seq ?_
  refine c_seq ?_
  refine c_reg ?_
  refine q_step (v := .pointer (some ⟨b2, 0, none⟩)) hE41 (y_field rfl (fun _ => by kernel_rfl)) rfl rfl rfl ?_; intro a42 hE43; clear hE41
  refine q_step (v := .int .i64 f0) hE43 (y_load (fun _ => by kernel_rfl) rfl (St.cell (i := 2) hS34 rfl rfl)) rfl rfl rfl ?_; intro a44 hE45; clear hE43
  refine q_step (v := .int .i64 0) hE45 (y_move rfl) rfl rfl rfl ?_; intro a46 hE47; clear hE45
  refine c_nil ?_
  have hE48 := hE47.sub (L' := [(3, .slice b19 ((F_Frame_reachable f0 f1).length) c20), (4, .slice b30 (Int.toNat f0) (Int.toNat f0)), (5, .int .i64 0), (14, .int .i64 f0), (15, .int .i64 0)]) ⟨rfl, rfl, rfl, rfl, rfl, trivial⟩; clear hE47
  refine p_tn ?_
  refine c_cut1 (fun a' w' => (0 ≤ ((F_Frame_clusters_L1 f0 f1 (Int.toNat (f0 - 0) + 1) 0 0 (List.replicate (Int.toNat f0) 0)).2.1)) ∧ ((((F_Frame_clusters_L1 f0 f1 (Int.toNat (f0 - 0) + 1) 0 0 (List.replicate (Int.toNat f0) 0)).2.2).length : Int) = f0) ∧ (0 ≤ ((F_Frame_clusters_L1 f0 f1 (Int.toNat (f0 - 0) + 1) 0 0 (List.replicate (Int.toNat f0) 0)).1)) ∧ (((F_Frame_clusters_L1 f0 f1 (Int.toNat (f0 - 0) + 1) 0 0 (List.replicate (Int.toNat f0) 0)).1) ≤ ((F_Frame_clusters_L1 f0 f1 (Int.toNat (f0 - 0) + 1) 0 0 (List.replicate (Int.toNat f0) 0)).2.1)) ∧ E a' 60 [(3, .slice b19 ((F_Frame_reachable f0 f1).length) c20), (4, .slice b30 (Int.toNat f0) (Int.toNat f0)), (5, .int .i64 ((F_Frame_clusters_L1 f0 f1 (Int.toNat (f0 - 0) + 1) 0 0 (List.replicate (Int.toNat f0) 0)).1)), (14, .int .i64 f0), (15, .int .i64 ((F_Frame_clusters_L1 f0 f1 (Int.toNat (f0 - 0) + 1) 0 0 (List.replicate (Int.toNat f0) 0)).2.1))] ∧ St w w' [.own 2 1 b30 (Int.toNat f0) (Int.toNat f0) ((F_Frame_clusters_L1 f0 f1 (Int.toNat (f0 - 0) + 1) 0 0 (List.replicate (Int.toNat f0) 0)).2.2), .own 2 1 b19 ((F_Frame_reachable f0 f1).length) c20 (F_Frame_reachable f0 f1), .blk b2 #[.int .i64 f0, .slice f1A f1.length f1C] 30, .rd 1 f1A f1.length f1C f1]) ?_ ?_
  ·
   refine wp_block ?_
   refine c_loop (fun r a' w' => ∃ count5 : Int, ∃ t15 : Int, ∃ out4 : List Int, F_Frame_clusters_L1 f0 f1 r count5 t15 out4 = F_Frame_clusters_L1 f0 f1 (Int.toNat (f0 - 0) + 1) 0 0 (List.replicate (Int.toNat f0) 0) ∧ Int.toNat (f0 - t15) < r ∧ (0 ≤ t15) ∧ ((out4.length : Int) = f0) ∧ (0 ≤ count5) ∧ (count5 ≤ t15) ∧ E a' 60 [(3, .slice b19 ((F_Frame_reachable f0 f1).length) c20), (4, .slice b30 (Int.toNat f0) (Int.toNat f0)), (5, .int .i64 count5), (14, .int .i64 f0), (15, .int .i64 t15)] ∧ St w w' [.own 2 1 b30 (Int.toNat f0) (Int.toNat f0) out4, .own 2 1 b19 ((F_Frame_reachable f0 f1).length) c20 (F_Frame_reachable f0 f1), .blk b2 #[.int .i64 f0, .slice f1A f1.length f1C] 30, .rd 1 f1A f1.length f1C f1]) (r := (Int.toNat (f0 - 0) + 1)) ?_ ?_
   · exact ⟨0, 0, List.replicate (Int.toNat f0) 0, rfl, Nat.lt_succ_self _, (by first | omega | (simp only [sS_len, sL_len]; omega) | (simp only [List.length_replicate, sI_len]; omega) | (simp only [List.length_append, List.length_cons, List.length_nil, sI_len, cond_true, cond_false]; omega) | (simp only [List.length_append, List.length_cons, List.length_nil, sI_len, cond_eq_ite, apply_ite List.length]; split <;> simp only [List.length_append, List.length_cons, List.length_nil, sI_len] <;> omega) | grind), (by first | omega | (simp only [sS_len, sL_len]; omega) | (simp only [List.length_replicate, sI_len]; omega) | (simp only [List.length_append, List.length_cons, List.length_nil, sI_len, cond_true, cond_false]; omega) | (simp only [List.length_append, List.length_cons, List.length_nil, sI_len, cond_eq_ite, apply_ite List.length]; split <;> simp only [List.length_append, List.length_cons, List.length_nil, sI_len] <;> omega) | grind), (by first | omega | (simp only [sS_len, sL_len]; omega) | (simp only [List.length_replicate, sI_len]; omega) | (simp only [List.length_append, List.length_cons, List.length_nil, sI_len, cond_true, cond_false]; omega) | (simp only [List.length_append, List.length_cons, List.length_nil, sI_len, cond_eq_ite, apply_ite List.length]; split <;> simp only [List.length_append, List.length_cons, List.length_nil, sI_len] <;> omega) | grind), (by first | omega | (simp only [sS_len, sL_len]; omega) | (simp only [List.length_replicate, sI_len]; omega) | (simp only [List.length_append, List.length_cons, List.length_nil, sI_len, cond_true, cond_false]; omega) | (simp only [List.length_append, List.length_cons, List.length_nil, sI_len, cond_eq_ite, apply_ite List.length]; split <;> simp only [List.length_append, List.length_cons, List.length_nil, sI_len] <;> omega) | grind), (hE48.sub (L' := [(3, .slice b19 ((F_Frame_reachable f0 f1).length) c20), (4, .slice b30 (Int.toNat f0) (Int.toNat f0)), (5, .int .i64 0), (14, .int .i64 f0), (15, .int .i64 0)]) ⟨rfl, rfl, rfl, rfl, rfl, trivial⟩), (St.pick (Γ' := [.own 2 1 b30 (Int.toNat f0) (Int.toNat f0) (List.replicate (Int.toNat f0) 0), .own 2 1 b19 ((F_Frame_reachable f0 f1).length) c20 (F_Frame_reachable f0 f1), .blk b2 #[.int .i64 f0, .slice f1A f1.length f1C] 30, .rd 1 f1A f1.length f1C f1]) hS34 [0, 1, 2, 3] (by decide) rfl)⟩
   ·
    clear hE48 hS34
    rintro r60 a50 w51 ⟨count5, t15, out4, hT54, hr55, hi56, hi57, hi58, hi59, hE52, hS53⟩
    obtain ⟨r60, rfl⟩ : ∃ r', r60 = r' + 1 := ⟨r60 - 1, by omega⟩
    refine c_seq ?_
    refine c_reg ?_
    refine q_step (v := .bool (decide (t15 < f0))) hE52 (y_lss rfl rfl) rfl rfl rfl ?_; intro a61 hE62; clear hE52
    refine c_nil ?_
    have hE63 := hE62.sub (L' := [(3, .slice b19 ((F_Frame_reachable f0 f1).length) c20), (4, .slice b30 (Int.toNat f0) (Int.toNat f0)), (5, .int .i64 count5), (14, .int .i64 f0), (15, .int .i64 t15), (16, .bool (decide (t15 < f0)))]) ⟨rfl, rfl, rfl, rfl, rfl, rfl, trivial⟩; clear hE62
    refine p_tn ?_
    refine c_seq ?_
    refine c_cond hE63 rfl (fun ht64 => ?_) (fun ht64 => ?_)
    ·
     have hp65 := of_decide_eq_true ht64
     have hE66 := hE63; rw [ht64] at hE66; clear hE63
     refine wp_skip ?_
     refine p_tn ?_
     refine c_cut (fun a' w' => E a' 60 [(3, .slice b19 ((F_Frame_reachable f0 f1).length) c20), (4, .slice b30 (Int.toNat f0) (Int.toNat f0)), (5, .int .i64 (bif (decide ((gI ((F_Frame_clusters_L2 f0 f1 t15 (Int.toNat (t15 - 0) + 1) 0 (sI out4 t15 (-1))).2) t15) < 0)) then count5 + 1 else count5)), (14, .int .i64 f0), (15, .int .i64 t15)] ∧ St w w' [.own 2 1 b30 (Int.toNat f0) (Int.toNat f0) (bif (decide ((gI ((F_Frame_clusters_L2 f0 f1 t15 (Int.toNat (t15 - 0) + 1) 0 (sI out4 t15 (-1))).2) t15) < 0)) then sI ((F_Frame_clusters_L2 f0 f1 t15 (Int.toNat (t15 - 0) + 1) 0 (sI out4 t15 (-1))).2) t15 count5 else (F_Frame_clusters_L2 f0 f1 t15 (Int.toNat (t15 - 0) + 1) 0 (sI out4 t15 (-1))).2), .own 2 1 b19 ((F_Frame_reachable f0 f1).length) c20 (F_Frame_reachable f0 f1), .rd 1 f1A f1.length f1C f1, .blk b2 #[.int .i64 f0, .slice f1A f1.length f1C] 30]) ?_ ?_
     ·
      refine wp_block ?_
      refine c_seq ?_
      refine c_reg ?_
      refine q_step (v := .int .i64 t15) hE66 (y_move rfl) rfl rfl rfl ?_; intro a67 hE68; clear hE66
      refine q_step (v := .int .i64 t15) hE68 (y_assign rfl) rfl rfl rfl ?_; intro a69 hE70; clear hE68
      refine c_nil ?_
      have hE71 := hE70.sub (L' := [(3, .slice b19 ((F_Frame_reachable f0 f1).length) c20), (4, .slice b30 (Int.toNat f0) (Int.toNat f0)), (5, .int .i64 count5), (6, .int .i64 t15), (14, .int .i64 f0), (15, .int .i64 t15)]) ⟨rfl, rfl, rfl, rfl, rfl, rfl, trivial⟩; clear hE70
      refine p_tn ?_
      refine c_seq ?_
      refine c_reg ?_
      refine q_step (v := .slice b30 (Int.toNat f0) (Int.toNat f0)) hE71 (y_move rfl) rfl rfl rfl ?_; intro a72 hE73; clear hE71
      refine q_step (v := .int .i64 t15) hE73 (y_move rfl) rfl rfl rfl ?_; intro a74 hE75; clear hE73
      refine q_step (v := .pointer (some (adr b30 (Int.toNat t15)))) hE75 (y_idx (by kernel_rfl) (fun _ => by kernel_rfl) rfl rfl (RdS.isS (m := t15) (St.rdO (i := 0) hS53 rfl) (by omega) (by omega)) (by omega) (by omega) (Nat.mul_one _).symm) rfl rfl rfl ?_; intro a76 hE77; clear hE75
      refine l_step hE77 rfl (l_store (k := 0) hS53 hE77 (fun _ => by kernel_rfl) rfl rfl rfl (by omega) (by omega) ?_)
      intro w79 hS82 a80 hE81; clear hS53 hE77
      refine c_nil ?_
      have hE84 := hE81.sub (L' := [(3, .slice b19 ((F_Frame_reachable f0 f1).length) c20), (4, .slice b30 (Int.toNat f0) (Int.toNat f0)), (5, .int .i64 count5), (6, .int .i64 t15), (14, .int .i64 f0), (15, .int .i64 t15)]) ⟨rfl, rfl, rfl, rfl, rfl, rfl, trivial⟩; clear hE81
      refine p_tn ?_
      refine c_seq ?_
      refine c_seq ?_
      refine c_reg ?_
      refine q_step (v := .int .i64 t15) hE84 (y_move rfl) rfl rfl rfl ?_; intro a85 hE86; clear hE84
      refine q_step (v := .int .i64 0) hE86 (y_move rfl) rfl rfl rfl ?_; intro a87 hE88; clear hE86
      refine c_nil ?_
      have hE89 := hE88.sub (L' := [(3, .slice b19 ((F_Frame_reachable f0 f1).length) c20), (4, .slice b30 (Int.toNat f0) (Int.toNat f0)), (5, .int .i64 count5), (6, .int .i64 t15), (14, .int .i64 f0), (15, .int .i64 t15), (21, .int .i64 t15), (22, .int .i64 0)]) ⟨rfl, rfl, rfl, rfl, rfl, rfl, rfl, rfl, trivial⟩; clear hE88
      refine p_tn ?_
      refine c_cut1 (fun a' w' => (0 ≤ ((F_Frame_clusters_L2 f0 f1 t15 (Int.toNat (t15 - 0) + 1) 0 (sI out4 t15 (-1))).1)) ∧ ((((F_Frame_clusters_L2 f0 f1 t15 (Int.toNat (t15 - 0) + 1) 0 (sI out4 t15 (-1))).2).length : Int) = f0) ∧ E a' 60 [(3, .slice b19 ((F_Frame_reachable f0 f1).length) c20), (4, .slice b30 (Int.toNat f0) (Int.toNat f0)), (5, .int .i64 count5), (6, .int .i64 t15), (14, .int .i64 f0), (15, .int .i64 t15), (21, .int .i64 t15), (22, .int .i64 ((F_Frame_clusters_L2 f0 f1 t15 (Int.toNat (t15 - 0) + 1) 0 (sI out4 t15 (-1))).1))] ∧ St w w' [.own 2 1 b30 (Int.toNat f0) (Int.toNat f0) ((F_Frame_clusters_L2 f0 f1 t15 (Int.toNat (t15 - 0) + 1) 0 (sI out4 t15 (-1))).2), .own 2 1 b19 ((F_Frame_reachable f0 f1).length) c20 (F_Frame_reachable f0 f1), .blk b2 #[.int .i64 f0, .slice f1A f1.length f1C] 30, .rd 1 f1A f1.length f1C f1]) ?_ ?_
      ·
       refine wp_block ?_
       refine c_loop (fun r a' w' => ∃ t22L2 : Int, ∃ out4L2 : List Int, F_Frame_clusters_L2 f0 f1 t15 r t22L2 out4L2 = F_Frame_clusters_L2 f0 f1 t15 (Int.toNat (t15 - 0) + 1) 0 (sI out4 t15 (-1)) ∧ Int.toNat (t15 - t22L2) < r ∧ (0 ≤ t22L2) ∧ ((out4L2.length : Int) = f0) ∧ E a' 60 [(3, .slice b19 ((F_Frame_reachable f0 f1).length) c20), (4, .slice b30 (Int.toNat f0) (Int.toNat f0)), (5, .int .i64 count5), (6, .int .i64 t15), (14, .int .i64 f0), (15, .int .i64 t15), (21, .int .i64 t15), (22, .int .i64 t22L2)] ∧ St w w' [.own 2 1 b30 (Int.toNat f0) (Int.toNat f0) out4L2, .own 2 1 b19 ((F_Frame_reachable f0 f1).length) c20 (F_Frame_reachable f0 f1), .blk b2 #[.int .i64 f0, .slice f1A f1.length f1C] 30, .rd 1 f1A f1.length f1C f1]) (r := (Int.toNat (t15 - 0) + 1)) ?_ ?_
       · exact ⟨0, sI out4 t15 (-1), rfl, Nat.lt_succ_self _, (by first | omega | (simp only [sS_len, sL_len]; omega) | (simp only [List.length_replicate, sI_len]; omega) | (simp only [List.length_append, List.length_cons, List.length_nil, sI_len, cond_true, cond_false]; omega) | (simp only [List.length_append, List.length_cons, List.length_nil, sI_len, cond_eq_ite, apply_ite List.length]; split <;> simp only [List.length_append, List.length_cons, List.length_nil, sI_len] <;> omega) | grind), (by first | omega | (simp only [sS_len, sL_len]; omega) | (simp only [List.length_replicate, sI_len]; omega) | (simp only [List.length_append, List.length_cons, List.length_nil, sI_len, cond_true, cond_false]; omega) | (simp only [List.length_append, List.length_cons, List.length_nil, sI_len, cond_eq_ite, apply_ite List.length]; split <;> simp only [List.length_append, List.length_cons, List.length_nil, sI_len] <;> omega) | grind), (hE89.sub (L' := [(3, .slice b19 ((F_Frame_reachable f0 f1).length) c20), (4, .slice b30 (Int.toNat f0) (Int.toNat f0)), (5, .int .i64 count5), (6, .int .i64 t15), (14, .int .i64 f0), (15, .int .i64 t15), (21, .int .i64 t15), (22, .int .i64 0)]) ⟨rfl, rfl, rfl, rfl, rfl, rfl, rfl, rfl, trivial⟩), (St.pick (Γ' := [.own 2 1 b30 (Int.toNat f0) (Int.toNat f0) (sI out4 t15 (-1)), .own 2 1 b19 ((F_Frame_reachable f0 f1).length) c20 (F_Frame_reachable f0 f1), .blk b2 #[.int .i64 f0, .slice f1A f1.length f1C] 30, .rd 1 f1A f1.length f1C f1]) hS82 [0, 1, 2, 3] (by decide) rfl)⟩
       ·
        clear hE89 hS82
        rintro r99 a91 w92 ⟨t22L2, out4L2, hT95, hr96, hi97, hi98, hE93, hS94⟩
        obtain ⟨r99, rfl⟩ : ∃ r', r99 = r' + 1 := ⟨r99 - 1, by omega⟩
        refine c_seq ?_
        refine c_reg ?_
        refine q_step (v := .bool (decide (t22L2 < t15))) hE93 (y_lss rfl rfl) rfl rfl rfl ?_; intro a100 hE101; clear hE93
        refine c_nil ?_
        have hE102 := hE101.sub (L' := [(3, .slice b19 ((F_Frame_reachable f0 f1).length) c20), (4, .slice b30 (Int.toNat f0) (Int.toNat f0)), (5, .int .i64 count5), (6, .int .i64 t15), (14, .int .i64 f0), (15, .int .i64 t15), (21, .int .i64 t15), (22, .int .i64 t22L2), (23, .bool (decide (t22L2 < t15)))]) ⟨rfl, rfl, rfl, rfl, rfl, rfl, rfl, rfl, rfl, trivial⟩; clear hE101
        refine p_tn ?_
        refine c_seq ?_
        refine c_cond hE102 rfl (fun ht103 => ?_) (fun ht103 => ?_)
        ·
         have hp104 := of_decide_eq_true ht103
         have hE105 := hE102; rw [ht103] at hE105; clear hE102
         refine wp_skip ?_
         refine p_tn ?_
         refine c_seq ?_
         refine wp_block ?_
         refine c_seq ?_
         refine c_reg ?_
         refine q_step (v := .int .i64 t22L2) hE105 (y_move rfl) rfl rfl rfl ?_; intro a106 hE107; clear hE105
         refine q_step (v := .int .i64 t22L2) hE107 (y_assign rfl) rfl rfl rfl ?_; intro a108 hE109; clear hE107
         refine c_nil ?_
         have hE110 := hE109.sub (L' := [(3, .slice b19 ((F_Frame_reachable f0 f1).length) c20), (4, .slice b30 (Int.toNat f0) (Int.toNat f0)), (5, .int .i64 count5), (6, .int .i64 t15), (7, .int .i64 t22L2), (14, .int .i64 f0), (15, .int .i64 t15), (21, .int .i64 t15), (22, .int .i64 t22L2)]) ⟨rfl, rfl, rfl, rfl, rfl, rfl, rfl, rfl, rfl, trivial⟩; clear hE109
         refine p_tn ?_
         refine c_cut (fun a' w' => E a' 60 [(3, .slice b19 ((F_Frame_reachable f0 f1).length) c20), (4, .slice b30 (Int.toNat f0) (Int.toNat f0)), (5, .int .i64 count5), (6, .int .i64 t15), (7, .int .i64 t22L2), (14, .int .i64 f0), (15, .int .i64 t15), (21, .int .i64 t15), (22, .int .i64 t22L2), (38, .bool ((F_has (gI (F_Frame_reachable f0 f1) t15) t22L2) && (F_has (gI (F_Frame_reachable f0 f1) t22L2) t15)))] ∧ St w w' [.own 2 1 b30 (Int.toNat f0) (Int.toNat f0) out4L2, .own 2 1 b19 ((F_Frame_reachable f0 f1).length) c20 (F_Frame_reachable f0 f1), .rd 1 f1A f1.length f1C f1, .blk b2 #[.int .i64 f0, .slice f1A f1.length f1C] 30]) ?_ ?_
         ·
          refine c_reg ?_
          refine q_step (v := .slice b19 ((F_Frame_reachable f0 f1).length) c20) hE110 (y_move rfl) rfl rfl rfl ?_; intro a111 hE112; clear hE110
          refine q_step (v := .int .i64 t15) hE112 (y_move rfl) rfl rfl rfl ?_; intro a113 hE114; clear hE112
          refine q_step (v := .pointer (some (adr b19 (Int.toNat t15)))) hE114 (y_idx (by kernel_rfl) (fun _ => by kernel_rfl) rfl rfl (RdS.isS (m := t15) (St.rdO (i := 1) hS94 rfl) (by omega) (by omega)) (by omega) (by omega) (Nat.mul_one _).symm) rfl rfl rfl ?_; intro a115 hE116; clear hE114
          refine q_step (v := .int .i64 (gI (F_Frame_reachable f0 f1) t15)) hE116 (y_load (fun _ => by kernel_rfl) rfl (RdS.elt (St.rdO (i := 1) hS94 rfl) (by omega) (by omega))) rfl rfl rfl ?_; intro a117 hE118; clear hE116
          refine q_step (v := .int .i64 t22L2) hE118 (y_move rfl) rfl rfl rfl ?_; intro a119 hE120; clear hE118
          refine l_step hE120 rfl (l_call (f := 155) (argv := [.int .i64 (gI (F_Frame_reachable f0 f1) t15), .int .i64 t22L2]) hE120 (fun _ => cf_has _ _) rfl rfl (c_has (gI (F_Frame_reachable f0 f1) t15) t22L2 w92 (by omega)) ?_)
          rintro _ _ ⟨rfl, rfl⟩ a123 hE124; clear hE120
          refine q_step (v := .bool (F_has (gI (F_Frame_reachable f0 f1) t15) t22L2)) hE124 (y_move rfl) rfl rfl rfl ?_; intro a127 hE128; clear hE124
          rcases Bool.eq_false_or_eq_true (F_has (gI (F_Frame_reachable f0 f1) t15) t22L2) with hb129 | hb129
          ·
           have hE130 := hE128; (try rw [hb129] at hE130); clear hE128
           refine q_step (v := .slice b19 ((F_Frame_reachable f0 f1).length) c20) hE130 (y_move rfl) rfl rfl rfl ?_; intro a131 hE132; clear hE130
           refine q_step (v := .int .i64 t22L2) hE132 (y_move rfl) rfl rfl rfl ?_; intro a133 hE134; clear hE132
           refine q_step (v := .pointer (some (adr b19 (Int.toNat t22L2)))) hE134 (y_idx (by kernel_rfl) (fun _ => by kernel_rfl) rfl rfl (RdS.isS (m := t22L2) (St.rdO (i := 1) hS94 rfl) (by omega) (by omega)) (by omega) (by omega) (Nat.mul_one _).symm) rfl rfl rfl ?_; intro a135 hE136; clear hE134
           refine q_step (v := .int .i64 (gI (F_Frame_reachable f0 f1) t22L2)) hE136 (y_load (fun _ => by kernel_rfl) rfl (RdS.elt (St.rdO (i := 1) hS94 rfl) (by omega) (by omega))) rfl rfl rfl ?_; intro a137 hE138; clear hE136
           refine q_step (v := .int .i64 t15) hE138 (y_move rfl) rfl rfl rfl ?_; intro a139 hE140; clear hE138
           refine l_step hE140 rfl (l_call (f := 155) (argv := [.int .i64 (gI (F_Frame_reachable f0 f1) t22L2), .int .i64 t15]) hE140 (fun _ => cf_has _ _) rfl rfl (c_has (gI (F_Frame_reachable f0 f1) t22L2) t15 w92 (by omega)) ?_)
           rintro _ _ ⟨rfl, rfl⟩ a143 hE144; clear hE140
           refine q_step (v := .bool (F_has (gI (F_Frame_reachable f0 f1) t22L2) t15)) hE144 (y_pick (b := true) rfl rfl) rfl rfl rfl ?_; intro a147 hE148; clear hE144
           refine c_nil ?_
           have hE149 := hE148.sub (L' := [(3, .slice b19 ((F_Frame_reachable f0 f1).length) c20), (4, .slice b30 (Int.toNat f0) (Int.toNat f0)), (5, .int .i64 count5), (6, .int .i64 t15), (7, .int .i64 t22L2), (14, .int .i64 f0), (15, .int .i64 t15), (21, .int .i64 t15), (22, .int .i64 t22L2), (38, .bool (F_has (gI (F_Frame_reachable f0 f1) t22L2) t15))]) ⟨rfl, rfl, rfl, rfl, rfl, rfl, rfl, rfl, rfl, rfl, trivial⟩; clear hE148
           refine p_tn ?_
           have hE150 := hE149.sub (L' := [(3, .slice b19 ((F_Frame_reachable f0 f1).length) c20), (4, .slice b30 (Int.toNat f0) (Int.toNat f0)), (5, .int .i64 count5), (6, .int .i64 t15), (7, .int .i64 t22L2), (14, .int .i64 f0), (15, .int .i64 t15), (21, .int .i64 t15), (22, .int .i64 t22L2), (38, .bool (F_has (gI (F_Frame_reachable f0 f1) t22L2) t15))]) ⟨rfl, rfl, rfl, rfl, rfl, rfl, rfl, rfl, rfl, rfl, trivial⟩
           have hS151 := (St.pick (Γ' := [.own 2 1 b30 (Int.toNat f0) (Int.toNat f0) out4L2, .own 2 1 b19 ((F_Frame_reachable f0 f1).length) c20 (F_Frame_reachable f0 f1), .rd 1 f1A f1.length f1C f1, .blk b2 #[.int .i64 f0, .slice f1A f1.length f1C] 30]) hS94 [0, 1, 3, 2] (by decide) rfl)
           exact ⟨(by rw [hb129]; exact hE150), hS151⟩
          ·
           have hE152 := hE128; (try rw [hb129] at hE152); clear hE128
           refine q_skip hE152 rfl rfl rfl ?_; intro a153 hE154; clear hE152
           refine q_skip hE154 rfl rfl rfl ?_; intro a155 hE156; clear hE154
           refine q_skip hE156 rfl rfl rfl ?_; intro a157 hE158; clear hE156
           refine q_skip hE158 rfl rfl rfl ?_; intro a159 hE160; clear hE158
           refine q_skip hE160 rfl rfl rfl ?_; intro a161 hE162; clear hE160
           refine q_skip hE162 rfl rfl rfl ?_; intro a163 hE164; clear hE162
           refine q_step (v := .bool false) hE164 (y_pick (b := false) rfl rfl) rfl rfl rfl ?_; intro a165 hE166; clear hE164
           refine c_nil ?_
           have hE167 := hE166.sub (L' := [(3, .slice b19 ((F_Frame_reachable f0 f1).length) c20), (4, .slice b30 (Int.toNat f0) (Int.toNat f0)), (5, .int .i64 count5), (6, .int .i64 t15), (7, .int .i64 t22L2), (14, .int .i64 f0), (15, .int .i64 t15), (21, .int .i64 t15), (22, .int .i64 t22L2), (38, .bool false)]) ⟨rfl, rfl, rfl, rfl, rfl, rfl, rfl, rfl, rfl, rfl, trivial⟩; clear hE166
           refine p_tn ?_
           have hE168 := hE167.sub (L' := [(3, .slice b19 ((F_Frame_reachable f0 f1).length) c20), (4, .slice b30 (Int.toNat f0) (Int.toNat f0)), (5, .int .i64 count5), (6, .int .i64 t15), (7, .int .i64 t22L2), (14, .int .i64 f0), (15, .int .i64 t15), (21, .int .i64 t15), (22, .int .i64 t22L2), (38, .bool false)]) ⟨rfl, rfl, rfl, rfl, rfl, rfl, rfl, rfl, rfl, rfl, trivial⟩
           have hS169 := (St.pick (Γ' := [.own 2 1 b30 (Int.toNat f0) (Int.toNat f0) out4L2, .own 2 1 b19 ((F_Frame_reachable f0 f1).length) c20 (F_Frame_reachable f0 f1), .rd 1 f1A f1.length f1C f1, .blk b2 #[.int .i64 f0, .slice f1A f1.length f1C] 30]) hS94 [0, 1, 3, 2] (by decide) rfl)
           exact ⟨(by rw [hb129]; exact hE168), hS169⟩
         ·
          rintro a170 w171 ⟨hE172, hS173⟩; clear hE110 hS94
          refine c_cond hE172 rfl (fun ht175 => ?_) (fun ht175 => ?_)
          ·
           obtain ⟨ht176, ht177⟩ := band_t ht175
           have hE178 := hE172; rw [ht175] at hE178; clear hE172
           refine c_seq ?_
           refine c_reg ?_
           refine q_step (v := .slice b30 (Int.toNat f0) (Int.toNat f0)) hE178 (y_move rfl) rfl rfl rfl ?_; intro a179 hE180; clear hE178
           refine q_step (v := .int .i64 t15) hE180 (y_move rfl) rfl rfl rfl ?_; intro a181 hE182; clear hE180
           refine q_step (v := .slice b30 (Int.toNat f0) (Int.toNat f0)) hE182 (y_move rfl) rfl rfl rfl ?_; intro a183 hE184; clear hE182
           refine q_step (v := .int .i64 t22L2) hE184 (y_move rfl) rfl rfl rfl ?_; intro a185 hE186; clear hE184
           refine q_step (v := .pointer (some (adr b30 (Int.toNat t22L2)))) hE186 (y_idx (by kernel_rfl) (fun _ => by kernel_rfl) rfl rfl (RdS.isS (m := t22L2) (St.rdO (i := 0) hS173 rfl) (by omega) (by omega)) (by omega) (by omega) (Nat.mul_one _).symm) rfl rfl rfl ?_; intro a187 hE188; clear hE186
           refine q_step (v := .int .i64 (gI out4L2 t22L2)) hE188 (y_load (fun _ => by kernel_rfl) rfl (RdS.elt (St.rdO (i := 0) hS173 rfl) (by omega) (by omega))) rfl rfl rfl ?_; intro a189 hE190; clear hE188
           refine q_step (v := .pointer (some (adr b30 (Int.toNat t15)))) hE190 (y_idx (by kernel_rfl) (fun _ => by kernel_rfl) rfl rfl (RdS.isS (m := t15) (St.rdO (i := 0) hS173 rfl) (by omega) (by omega)) (by omega) (by omega) (Nat.mul_one _).symm) rfl rfl rfl ?_; intro a191 hE192; clear hE190
           refine l_step hE192 rfl (l_store (k := 0) hS173 hE192 (fun _ => by kernel_rfl) rfl rfl rfl (by omega) (by omega) ?_)
           intro w194 hS197 a195 hE196; clear hS173 hE192
           refine c_nil ?_
           have hE199 := hE196.sub (L' := [(3, .slice b19 ((F_Frame_reachable f0 f1).length) c20), (4, .slice b30 (Int.toNat f0) (Int.toNat f0)), (5, .int .i64 count5), (6, .int .i64 t15), (14, .int .i64 f0), (15, .int .i64 t15), (21, .int .i64 t15), (22, .int .i64 t22L2)]) ⟨rfl, rfl, rfl, rfl, rfl, rfl, rfl, rfl, trivial⟩; clear hE196
           refine p_tn ?_
           refine wp_exit ?_
           refine p_bo (by decide) ?_
           refine p_te ?_
           have hX200 : F_Frame_clusters_L2 f0 f1 t15 (Int.toNat (t15 - 0) + 1) 0 (sI out4 t15 (-1)) = (t22L2, sI out4L2 t15 (gI out4L2 t22L2)) := hT95.symm.trans (show F_Frame_clusters_L2b f0 f1 t15 (F_Frame_clusters_L2 f0 f1 t15 r99) t22L2 out4L2 = (t22L2, sI out4L2 t15 (gI out4L2 t22L2)) by unfold F_Frame_clusters_L2b; rw [ht175, ht103]; first | done | rfl)
           refine p_te (p_be (p_tn ?_))
           exact ⟨(by rw [hX200]; exact (show 0 ≤ t22L2 from (by first | omega | (simp only [sS_len, sL_len]; omega) | (simp only [List.length_replicate, sI_len]; omega) | (simp only [List.length_append, List.length_cons, List.length_nil, sI_len, cond_true, cond_false]; omega) | (simp only [List.length_append, List.length_cons, List.length_nil, sI_len, cond_eq_ite, apply_ite List.length]; split <;> simp only [List.length_append, List.length_cons, List.length_nil, sI_len] <;> omega) | grind))), (by rw [hX200]; exact (show ((sI out4L2 t15 (gI out4L2 t22L2)).length : Int) = f0 from (by first | omega | (simp only [sS_len, sL_len]; omega) | (simp only [List.length_replicate, sI_len]; omega) | (simp only [List.length_append, List.length_cons, List.length_nil, sI_len, cond_true, cond_false]; omega) | (simp only [List.length_append, List.length_cons, List.length_nil, sI_len, cond_eq_ite, apply_ite List.length]; split <;> simp only [List.length_append, List.length_cons, List.length_nil, sI_len] <;> omega) | grind))), (by rw [hX200]; exact (hE199.sub (L' := [(3, .slice b19 ((F_Frame_reachable f0 f1).length) c20), (4, .slice b30 (Int.toNat f0) (Int.toNat f0)), (5, .int .i64 count5), (6, .int .i64 t15), (14, .int .i64 f0), (15, .int .i64 t15), (21, .int .i64 t15), (22, .int .i64 t22L2)]) ⟨rfl, rfl, rfl, rfl, rfl, rfl, rfl, rfl, trivial⟩)), (by rw [hX200]; exact (St.pick (Γ' := [.own 2 1 b30 (Int.toNat f0) (Int.toNat f0) (sI out4L2 t15 (gI out4L2 t22L2)), .own 2 1 b19 ((F_Frame_reachable f0 f1).length) c20 (F_Frame_reachable f0 f1), .blk b2 #[.int .i64 f0, .slice f1A f1.length f1C] 30, .rd 1 f1A f1.length f1C f1]) hS197 [0, 1, 3, 2] (by decide) rfl))⟩
          ·
           have hE201 := hE172; rw [ht175] at hE201; clear hE172
           refine wp_skip ?_
           refine p_bn ?_
           refine p_tn ?_
           refine c_reg ?_
           refine q_step (v := .int .i64 (t22L2 + 1)) hE201 (y_add rfl rfl ⟨(by omega), (by omega)⟩) rfl rfl rfl ?_; intro a202 hE203; clear hE201
           refine q_step (v := .int .i64 (t22L2 + 1)) hE203 (y_move rfl) rfl rfl rfl ?_; intro a204 hE205; clear hE203
           refine c_nil ?_
           have hE206 := hE205.sub (L' := [(3, .slice b19 ((F_Frame_reachable f0 f1).length) c20), (4, .slice b30 (Int.toNat f0) (Int.toNat f0)), (5, .int .i64 count5), (6, .int .i64 t15), (14, .int .i64 f0), (15, .int .i64 t15), (21, .int .i64 t15), (22, .int .i64 (t22L2 + 1))]) ⟨rfl, rfl, rfl, rfl, rfl, rfl, rfl, rfl, trivial⟩; clear hE205
           refine p_tn ⟨r99, Nat.lt_succ_self _, t22L2 + 1, out4L2, (hT95.symm.trans (show F_Frame_clusters_L2b f0 f1 t15 (F_Frame_clusters_L2 f0 f1 t15 r99) t22L2 out4L2 = F_Frame_clusters_L2 f0 f1 t15 r99 (t22L2 + 1) out4L2 by unfold F_Frame_clusters_L2b; rw [ht175, ht103]; first | done | rfl)).symm, (by omega), (by first | omega | (simp only [sS_len, sL_len]; omega) | (simp only [List.length_replicate, sI_len]; omega) | (simp only [List.length_append, List.length_cons, List.length_nil, sI_len, cond_true, cond_false]; omega) | (simp only [List.length_append, List.length_cons, List.length_nil, sI_len, cond_eq_ite, apply_ite List.length]; split <;> simp only [List.length_append, List.length_cons, List.length_nil, sI_len] <;> omega) | grind), (by first | omega | (simp only [sS_len, sL_len]; omega) | (simp only [List.length_replicate, sI_len]; omega) | (simp only [List.length_append, List.length_cons, List.length_nil, sI_len, cond_true, cond_false]; omega) | (simp only [List.length_append, List.length_cons, List.length_nil, sI_len, cond_eq_ite, apply_ite List.length]; split <;> simp only [List.length_append, List.length_cons, List.length_nil, sI_len] <;> omega) | grind), (hE206.sub (L' := [(3, .slice b19 ((F_Frame_reachable f0 f1).length) c20), (4, .slice b30 (Int.toNat f0) (Int.toNat f0)), (5, .int .i64 count5), (6, .int .i64 t15), (14, .int .i64 f0), (15, .int .i64 t15), (21, .int .i64 t15), (22, .int .i64 (t22L2 + 1))]) ⟨rfl, rfl, rfl, rfl, rfl, rfl, rfl, rfl, trivial⟩), (St.pick (Γ' := [.own 2 1 b30 (Int.toNat f0) (Int.toNat f0) out4L2, .own 2 1 b19 ((F_Frame_reachable f0 f1).length) c20 (F_Frame_reachable f0 f1), .blk b2 #[.int .i64 f0, .slice f1A f1.length f1C] 30, .rd 1 f1A f1.length f1C f1]) hS173 [0, 1, 3, 2] (by decide) rfl)⟩
        ·
         have hp207 := of_decide_eq_false ht103
         have hE208 := hE102; rw [ht103] at hE208; clear hE102
         refine wp_exit ?_
         refine p_te ?_
         have hX209 : F_Frame_clusters_L2 f0 f1 t15 (Int.toNat (t15 - 0) + 1) 0 (sI out4 t15 (-1)) = (t22L2, out4L2) := hT95.symm.trans (show F_Frame_clusters_L2b f0 f1 t15 (F_Frame_clusters_L2 f0 f1 t15 r99) t22L2 out4L2 = (t22L2, out4L2) by unfold F_Frame_clusters_L2b; rw [ht103]; first | done | rfl)
         refine p_te (p_be (p_tn ?_))
         exact ⟨(by rw [hX209]; exact (show 0 ≤ t22L2 from (by first | omega | (simp only [sS_len, sL_len]; omega) | (simp only [List.length_replicate, sI_len]; omega) | (simp only [List.length_append, List.length_cons, List.length_nil, sI_len, cond_true, cond_false]; omega) | (simp only [List.length_append, List.length_cons, List.length_nil, sI_len, cond_eq_ite, apply_ite List.length]; split <;> simp only [List.length_append, List.length_cons, List.length_nil, sI_len] <;> omega) | grind))), (by rw [hX209]; exact (show (out4L2.length : Int) = f0 from (by first | omega | (simp only [sS_len, sL_len]; omega) | (simp only [List.length_replicate, sI_len]; omega) | (simp only [List.length_append, List.length_cons, List.length_nil, sI_len, cond_true, cond_false]; omega) | (simp only [List.length_append, List.length_cons, List.length_nil, sI_len, cond_eq_ite, apply_ite List.length]; split <;> simp only [List.length_append, List.length_cons, List.length_nil, sI_len] <;> omega) | grind))), (by rw [hX209]; exact (hE208.sub (L' := [(3, .slice b19 ((F_Frame_reachable f0 f1).length) c20), (4, .slice b30 (Int.toNat f0) (Int.toNat f0)), (5, .int .i64 count5), (6, .int .i64 t15), (14, .int .i64 f0), (15, .int .i64 t15), (21, .int .i64 t15), (22, .int .i64 t22L2)]) ⟨rfl, rfl, rfl, rfl, rfl, rfl, rfl, rfl, trivial⟩)), (by rw [hX209]; exact (St.pick (Γ' := [.own 2 1 b30 (Int.toNat f0) (Int.toNat f0) out4L2, .own 2 1 b19 ((F_Frame_reachable f0 f1).length) c20 (F_Frame_reachable f0 f1), .blk b2 #[.int .i64 f0, .slice f1A f1.length f1C] 30, .rd 1 f1A f1.length f1C f1]) hS94 [0, 1, 2, 3] (by decide) rfl))⟩
      ·
       rintro a210 w211 ⟨hi215, hi216, hE212, hS213⟩; clear hE89 hS82
       refine p_tn ?_
       refine c_seq ?_
       refine c_reg ?_
       refine q_step (v := .slice b30 (Int.toNat f0) (Int.toNat f0)) hE212 (y_move rfl) rfl rfl rfl ?_; intro a217 hE218; clear hE212
       refine q_step (v := .int .i64 t15) hE218 (y_move rfl) rfl rfl rfl ?_; intro a219 hE220; clear hE218
       refine q_step (v := .pointer (some (adr b30 (Int.toNat t15)))) hE220 (y_idx (by kernel_rfl) (fun _ => by kernel_rfl) rfl rfl (RdS.isS (m := t15) (St.rdO (i := 0) hS213 rfl) (by omega) (by omega)) (by omega) (by omega) (Nat.mul_one _).symm) rfl rfl rfl ?_; intro a221 hE222; clear hE220
       refine q_step (v := .int .i64 (gI ((F_Frame_clusters_L2 f0 f1 t15 (Int.toNat (t15 - 0) + 1) 0 (sI out4 t15 (-1))).2) t15)) hE222 (y_load (fun _ => by kernel_rfl) rfl (RdS.elt (St.rdO (i := 0) hS213 rfl) (by omega) (by omega))) rfl rfl rfl ?_; intro a223 hE224; clear hE222
       refine q_step (v := .bool (decide ((gI ((F_Frame_clusters_L2 f0 f1 t15 (Int.toNat (t15 - 0) + 1) 0 (sI out4 t15 (-1))).2) t15) < 0))) hE224 (y_lss rfl rfl) rfl rfl rfl ?_; intro a225 hE226; clear hE224
       refine c_nil ?_
       have hE227 := hE226.sub (L' := [(3, .slice b19 ((F_Frame_reachable f0 f1).length) c20), (4, .slice b30 (Int.toNat f0) (Int.toNat f0)), (5, .int .i64 count5), (6, .int .i64 t15), (14, .int .i64 f0), (15, .int .i64 t15), (51, .bool (decide ((gI ((F_Frame_clusters_L2 f0 f1 t15 (Int.toNat (t15 - 0) + 1) 0 (sI out4 t15 (-1))).2) t15) < 0)))]) ⟨rfl, rfl, rfl, rfl, rfl, rfl, rfl, trivial⟩; clear hE226
       refine p_tn ?_
       refine c_cond hE227 rfl (fun ht228 => ?_) (fun ht228 => ?_)
       ·
        have hp229 := of_decide_eq_true ht228
        have hE230 := hE227; rw [ht228] at hE230; clear hE227
        refine c_seq ?_
        refine c_reg ?_
        refine q_step (v := .slice b30 (Int.toNat f0) (Int.toNat f0)) hE230 (y_move rfl) rfl rfl rfl ?_; intro a231 hE232; clear hE230
        refine q_step (v := .int .i64 t15) hE232 (y_move rfl) rfl rfl rfl ?_; intro a233 hE234; clear hE232
        refine q_step (v := .int .i64 count5) hE234 (y_move rfl) rfl rfl rfl ?_; intro a235 hE236; clear hE234
        refine q_step (v := .pointer (some (adr b30 (Int.toNat t15)))) hE236 (y_idx (by kernel_rfl) (fun _ => by kernel_rfl) rfl rfl (RdS.isS (m := t15) (St.rdO (i := 0) hS213 rfl) (by omega) (by omega)) (by omega) (by omega) (Nat.mul_one _).symm) rfl rfl rfl ?_; intro a237 hE238; clear hE236
        refine l_step hE238 rfl (l_store (k := 0) hS213 hE238 (fun _ => by kernel_rfl) rfl rfl rfl (by omega) (by omega) ?_)
        intro w240 hS243 a241 hE242; clear hS213 hE238
        refine c_nil ?_
        have hE245 := hE242.sub (L' := [(3, .slice b19 ((F_Frame_reachable f0 f1).length) c20), (4, .slice b30 (Int.toNat f0) (Int.toNat f0)), (5, .int .i64 count5), (14, .int .i64 f0), (15, .int .i64 t15)]) ⟨rfl, rfl, rfl, rfl, rfl, trivial⟩; clear hE242
        refine p_tn ?_
        refine c_reg ?_
        refine q_step (v := .int .i64 count5) hE245 (y_move rfl) rfl rfl rfl ?_; intro a246 hE247; clear hE245
        refine q_step (v := .int .i64 (count5 + 1)) hE247 (y_add rfl rfl ⟨(by omega), (by omega)⟩) rfl rfl rfl ?_; intro a248 hE249; clear hE247
        refine q_step (v := .int .i64 (count5 + 1)) hE249 (y_assign rfl) rfl rfl rfl ?_; intro a250 hE251; clear hE249
        refine c_nil ?_
        have hE252 := hE251.sub (L' := [(3, .slice b19 ((F_Frame_reachable f0 f1).length) c20), (4, .slice b30 (Int.toNat f0) (Int.toNat f0)), (5, .int .i64 (count5 + 1)), (14, .int .i64 f0), (15, .int .i64 t15)]) ⟨rfl, rfl, rfl, rfl, rfl, trivial⟩; clear hE251
        refine p_bn ?_
        refine p_tn ?_
        have hE253 := hE252.sub (L' := [(3, .slice b19 ((F_Frame_reachable f0 f1).length) c20), (4, .slice b30 (Int.toNat f0) (Int.toNat f0)), (5, .int .i64 (count5 + 1)), (14, .int .i64 f0), (15, .int .i64 t15)]) ⟨rfl, rfl, rfl, rfl, rfl, trivial⟩
        have hS254 := (St.pick (Γ' := [.own 2 1 b30 (Int.toNat f0) (Int.toNat f0) (sI ((F_Frame_clusters_L2 f0 f1 t15 (Int.toNat (t15 - 0) + 1) 0 (sI out4 t15 (-1))).2) t15 count5), .own 2 1 b19 ((F_Frame_reachable f0 f1).length) c20 (F_Frame_reachable f0 f1), .rd 1 f1A f1.length f1C f1, .blk b2 #[.int .i64 f0, .slice f1A f1.length f1C] 30]) hS243 [0, 1, 3, 2] (by decide) rfl)
        exact ⟨(by rw [ht228]; exact hE253), (by rw [ht228]; exact hS254)⟩
       ·
        have hp255 := of_decide_eq_false ht228
        have hE256 := hE227; rw [ht228] at hE256; clear hE227
        refine wp_skip ?_
        refine p_bn ?_
        refine p_tn ?_
        have hE257 := hE256.sub (L' := [(3, .slice b19 ((F_Frame_reachable f0 f1).length) c20), (4, .slice b30 (Int.toNat f0) (Int.toNat f0)), (5, .int .i64 count5), (14, .int .i64 f0), (15, .int .i64 t15)]) ⟨rfl, rfl, rfl, rfl, rfl, trivial⟩
        have hS258 := (St.pick (Γ' := [.own 2 1 b30 (Int.toNat f0) (Int.toNat f0) ((F_Frame_clusters_L2 f0 f1 t15 (Int.toNat (t15 - 0) + 1) 0 (sI out4 t15 (-1))).2), .own 2 1 b19 ((F_Frame_reachable f0 f1).length) c20 (F_Frame_reachable f0 f1), .rd 1 f1A f1.length f1C f1, .blk b2 #[.int .i64 f0, .slice f1A f1.length f1C] 30]) hS213 [0, 1, 3, 2] (by decide) rfl)
        exact ⟨(by rw [ht228]; exact hE257), (by rw [ht228]; exact hS258)⟩
     ·
      rintro a259 w260 ⟨hE261, hS262⟩; clear hE66 hS53
      refine c_reg ?_
      refine q_step (v := .int .i64 (t15 + 1)) hE261 (y_add rfl rfl ⟨(by omega), (by omega)⟩) rfl rfl rfl ?_; intro a264 hE265; clear hE261
      refine q_step (v := .int .i64 (t15 + 1)) hE265 (y_move rfl) rfl rfl rfl ?_; intro a266 hE267; clear hE265
      refine c_nil ?_
      have hE268 := hE267.sub (L' := [(3, .slice b19 ((F_Frame_reachable f0 f1).length) c20), (4, .slice b30 (Int.toNat f0) (Int.toNat f0)), (5, .int .i64 (bif (decide ((gI ((F_Frame_clusters_L2 f0 f1 t15 (Int.toNat (t15 - 0) + 1) 0 (sI out4 t15 (-1))).2) t15) < 0)) then count5 + 1 else count5)), (14, .int .i64 f0), (15, .int .i64 (t15 + 1))]) ⟨rfl, rfl, rfl, rfl, rfl, trivial⟩; clear hE267
      have hl269 := (St.rdO (i := 0) hS262 rfl).len1
      refine p_tn ⟨r60, Nat.lt_succ_self _, bif (decide ((gI ((F_Frame_clusters_L2 f0 f1 t15 (Int.toNat (t15 - 0) + 1) 0 (sI out4 t15 (-1))).2) t15) < 0)) then count5 + 1 else count5, t15 + 1, bif (decide ((gI ((F_Frame_clusters_L2 f0 f1 t15 (Int.toNat (t15 - 0) + 1) 0 (sI out4 t15 (-1))).2) t15) < 0)) then sI ((F_Frame_clusters_L2 f0 f1 t15 (Int.toNat (t15 - 0) + 1) 0 (sI out4 t15 (-1))).2) t15 count5 else (F_Frame_clusters_L2 f0 f1 t15 (Int.toNat (t15 - 0) + 1) 0 (sI out4 t15 (-1))).2, (hT54.symm.trans (show F_Frame_clusters_L1b f0 f1 (F_Frame_clusters_L1 f0 f1 r60) count5 t15 out4 = F_Frame_clusters_L1 f0 f1 r60 (bif (decide ((gI ((F_Frame_clusters_L2 f0 f1 t15 (Int.toNat (t15 - 0) + 1) 0 (sI out4 t15 (-1))).2) t15) < 0)) then count5 + 1 else count5) (t15 + 1) (bif (decide ((gI ((F_Frame_clusters_L2 f0 f1 t15 (Int.toNat (t15 - 0) + 1) 0 (sI out4 t15 (-1))).2) t15) < 0)) then sI ((F_Frame_clusters_L2 f0 f1 t15 (Int.toNat (t15 - 0) + 1) 0 (sI out4 t15 (-1))).2) t15 count5 else (F_Frame_clusters_L2 f0 f1 t15 (Int.toNat (t15 - 0) + 1) 0 (sI out4 t15 (-1))).2) by unfold F_Frame_clusters_L1b; rw [ht64]; first | done | rfl)).symm, (by omega), (by first | omega | (simp only [sS_len, sL_len]; omega) | (simp only [List.length_replicate, sI_len]; omega) | (simp only [List.length_append, List.length_cons, List.length_nil, sI_len, cond_true, cond_false]; omega) | (simp only [List.length_append, List.length_cons, List.length_nil, sI_len, cond_eq_ite, apply_ite List.length]; split <;> simp only [List.length_append, List.length_cons, List.length_nil, sI_len] <;> omega) | grind), (by first | omega | (simp only [sS_len, sL_len]; omega) | (simp only [List.length_replicate, sI_len]; omega) | (simp only [List.length_append, List.length_cons, List.length_nil, sI_len, cond_true, cond_false]; omega) | (simp only [List.length_append, List.length_cons, List.length_nil, sI_len, cond_eq_ite, apply_ite List.length]; split <;> simp only [List.length_append, List.length_cons, List.length_nil, sI_len] <;> omega) | grind), (by first | omega | (simp only [sS_len, sL_len]; omega) | (simp only [List.length_replicate, sI_len]; omega) | (simp only [List.length_append, List.length_cons, List.length_nil, sI_len, cond_true, cond_false]; omega) | (simp only [List.length_append, List.length_cons, List.length_nil, sI_len, cond_eq_ite, apply_ite List.length]; split <;> simp only [List.length_append, List.length_cons, List.length_nil, sI_len] <;> omega) | grind), (by first | omega | (simp only [sS_len, sL_len]; omega) | (simp only [List.length_replicate, sI_len]; omega) | (simp only [List.length_append, List.length_cons, List.length_nil, sI_len, cond_true, cond_false]; omega) | (simp only [List.length_append, List.length_cons, List.length_nil, sI_len, cond_eq_ite, apply_ite List.length]; split <;> simp only [List.length_append, List.length_cons, List.length_nil, sI_len] <;> omega) | grind), (hE268.sub (L' := [(3, .slice b19 ((F_Frame_reachable f0 f1).length) c20), (4, .slice b30 (Int.toNat f0) (Int.toNat f0)), (5, .int .i64 (bif (decide ((gI ((F_Frame_clusters_L2 f0 f1 t15 (Int.toNat (t15 - 0) + 1) 0 (sI out4 t15 (-1))).2) t15) < 0)) then count5 + 1 else count5)), (14, .int .i64 f0), (15, .int .i64 (t15 + 1))]) ⟨rfl, rfl, rfl, rfl, rfl, trivial⟩), (St.pick (Γ' := [.own 2 1 b30 (Int.toNat f0) (Int.toNat f0) (bif (decide ((gI ((F_Frame_clusters_L2 f0 f1 t15 (Int.toNat (t15 - 0) + 1) 0 (sI out4 t15 (-1))).2) t15) < 0)) then sI ((F_Frame_clusters_L2 f0 f1 t15 (Int.toNat (t15 - 0) + 1) 0 (sI out4 t15 (-1))).2) t15 count5 else (F_Frame_clusters_L2 f0 f1 t15 (Int.toNat (t15 - 0) + 1) 0 (sI out4 t15 (-1))).2), .own 2 1 b19 ((F_Frame_reachable f0 f1).length) c20 (F_Frame_reachable f0 f1), .blk b2 #[.int .i64 f0, .slice f1A f1.length f1C] 30, .rd 1 f1A f1.length f1C f1]) hS262 [0, 1, 3, 2] (by decide) rfl)⟩
    ·
     have hp270 := of_decide_eq_false ht64
     have hE271 := hE63; rw [ht64] at hE271; clear hE63
     refine wp_exit ?_
     refine p_te ?_
     have hX272 : F_Frame_clusters_L1 f0 f1 (Int.toNat (f0 - 0) + 1) 0 0 (List.replicate (Int.toNat f0) 0) = (count5, t15, out4) := hT54.symm.trans (show F_Frame_clusters_L1b f0 f1 (F_Frame_clusters_L1 f0 f1 r60) count5 t15 out4 = (count5, t15, out4) by unfold F_Frame_clusters_L1b; rw [ht64]; first | done | rfl)
     refine p_te (p_be (p_tn ?_))
     exact ⟨(by rw [hX272]; exact (show 0 ≤ t15 from (by first | omega | (simp only [sS_len, sL_len]; omega) | (simp only [List.length_replicate, sI_len]; omega) | (simp only [List.length_append, List.length_cons, List.length_nil, sI_len, cond_true, cond_false]; omega) | (simp only [List.length_append, List.length_cons, List.length_nil, sI_len, cond_eq_ite, apply_ite List.length]; split <;> simp only [List.length_append, List.length_cons, List.length_nil, sI_len] <;> omega) | grind))), (by rw [hX272]; exact (show (out4.length : Int) = f0 from (by first | omega | (simp only [sS_len, sL_len]; omega) | (simp only [List.length_replicate, sI_len]; omega) | (simp only [List.length_append, List.length_cons, List.length_nil, sI_len, cond_true, cond_false]; omega) | (simp only [List.length_append, List.length_cons, List.length_nil, sI_len, cond_eq_ite, apply_ite List.length]; split <;> simp only [List.length_append, List.length_cons, List.length_nil, sI_len] <;> omega) | grind))), (by rw [hX272]; exact (show 0 ≤ count5 from (by first | omega | (simp only [sS_len, sL_len]; omega) | (simp only [List.length_replicate, sI_len]; omega) | (simp only [List.length_append, List.length_cons, List.length_nil, sI_len, cond_true, cond_false]; omega) | (simp only [List.length_append, List.length_cons, List.length_nil, sI_len, cond_eq_ite, apply_ite List.length]; split <;> simp only [List.length_append, List.length_cons, List.length_nil, sI_len] <;> omega) | grind))), (by rw [hX272]; exact (show count5 ≤ t15 from (by first | omega | (simp only [sS_len, sL_len]; omega) | (simp only [List.length_replicate, sI_len]; omega) | (simp only [List.length_append, List.length_cons, List.length_nil, sI_len, cond_true, cond_false]; omega) | (simp only [List.length_append, List.length_cons, List.length_nil, sI_len, cond_eq_ite, apply_ite List.length]; split <;> simp only [List.length_append, List.length_cons, List.length_nil, sI_len] <;> omega) | grind))), (by rw [hX272]; exact (hE271.sub (L' := [(3, .slice b19 ((F_Frame_reachable f0 f1).length) c20), (4, .slice b30 (Int.toNat f0) (Int.toNat f0)), (5, .int .i64 count5), (14, .int .i64 f0), (15, .int .i64 t15)]) ⟨rfl, rfl, rfl, rfl, rfl, trivial⟩)), (by rw [hX272]; exact (St.pick (Γ' := [.own 2 1 b30 (Int.toNat f0) (Int.toNat f0) out4, .own 2 1 b19 ((F_Frame_reachable f0 f1).length) c20 (F_Frame_reachable f0 f1), .blk b2 #[.int .i64 f0, .slice f1A f1.length f1C] 30, .rd 1 f1A f1.length f1C f1]) hS53 [0, 1, 2, 3] (by decide) rfl))⟩
  ·
   rintro a273 w274 ⟨hi278, hi279, hi280, hi281, hE275, hS276⟩; clear hE48 hS34
   refine p_tn ?_
   refine c_seq ?_
   refine c_reg ?_
   refine q_step (v := .slice b30 (Int.toNat f0) (Int.toNat f0)) hE275 (y_move rfl) rfl rfl rfl ?_; intro a282 hE283; clear hE275
   refine q_step (v := .slice b30 (Int.toNat f0) (Int.toNat f0)) hE283 (y_assign rfl) rfl rfl rfl ?_; intro a284 hE285; clear hE283
   refine c_nil ?_
   have hE286 := hE285.sub (L' := [(2, .slice b30 (Int.toNat f0) (Int.toNat f0))]) ⟨rfl, trivial⟩; clear hE285
   refine p_tn ?_
   refine wp_ret ?_
   have hF : F_Frame_clusters f0 f1 = (F_Frame_clusters_L1 f0 f1 (Int.toNat (f0 - 0) + 1) 0 0 (List.replicate (Int.toNat f0) 0)).2.2 := by unfold F_Frame_clusters; rfl
   refine c_ret1 hE286 rfl rfl ?_
   exact ⟨b30, Int.toNat f0, (by rw [hF]; first | rfl | (rw [(St.rdO (i := 0) hS276 rfl).len1])), (by rw [hF, (St.rdO (i := 0) hS276 rfl).len1]; (try dsimp only); exact hS276.ok 0 _ rfl), hS276.ext⟩
theorem clusters_len (f0 : Int) (f1 : List Int) : (F_Frame_clusters f0 f1).length = f0.toNat := by
  unfold F_Frame_clusters
  have k2 : ∀ (t : Int) (r : Nat) (v : Int) (o : List Int), (F_Frame_clusters_L2 f0 f1 t r v o).2.length = o.length := by
    intro t r
    induction r with
    | zero => intro v o; rfl
    | succ r ih =>
      intro v o
      show (F_Frame_clusters_L2b f0 f1 t _ v o).2.length = _
      unfold F_Frame_clusters_L2b
      cases decide (v < t)
      · rfl
      · cases ((F_has (gI (F_Frame_reachable f0 f1) t) v) && (F_has (gI (F_Frame_reachable f0 f1) v) t))
        · exact ih _ _
        · show (sI o t _).length = _
          rw [sI_len]
  have k1 : ∀ (r : Nat) (c t : Int) (o : List Int), (F_Frame_clusters_L1 f0 f1 r c t o).2.2.length = o.length := by
    intro r
    induction r with
    | zero => intro c t o; rfl
    | succ r ih =>
      intro c t o
      show (F_Frame_clusters_L1b f0 f1 _ c t o).2.2.length = _
      unfold F_Frame_clusters_L1b
      cases decide (t < f0)
      · rfl
      · rw [cond_true, ih]
        cases (decide ((gI ((F_Frame_clusters_L2 f0 f1 t (Int.toNat (t - 0) + 1) 0 (sI o t (-1))).2) t) < 0))
        · rw [cond_false, k2, sI_len]
        · rw [cond_true, sI_len, k2, sI_len]
  rw [k1, List.length_replicate]
theorem gI_app {xs : List Int} {y : Int} {j : Nat} : gI (xs ++ [y]) (j : Int) = if j < xs.length then gI xs (j : Int) else if j = xs.length then y else 0 := by
  unfold gI gi
  rw [Int.toNat_natCast, List.getD_eq_getElem?_getD, List.getD_eq_getElem?_getD, List.getElem?_append]
  by_cases h : j < xs.length
  · rw [if_pos h, if_pos h]
  · rw [if_neg h, if_neg h]
    by_cases h2 : j = xs.length
    · rw [if_pos h2, h2]; simp
    · rw [if_neg h2, List.getElem?_eq_none (by simp; omega)]; rfl
theorem gI_sI' {xs : List Int} {i : Nat} {v : Int} (h : i < xs.length) (j : Nat) : gI (sI xs (i : Int) v) (j : Int) = if i = j then v else gI xs (j : Int) := by
  unfold sI gI
  rw [Int.toNat_natCast, Int.toNat_natCast, gi_set h]
theorem reach_row {f0 : Int} {f1 : List Int} (hf2 : F_l05Is f0 f1 = true) (x : Nat) (hx : (x : Int) < f0) : gI (F_Frame_reachable f0 f1) (x : Int) = F_l05Reach f0 f1 (powI (x : Int)) := by
  have hf := l05Is_t hf2
  have e : ((f0.toNat : Nat) : Int) = f0 := by omega
  have hR := rl_of hf.1.1 hf.2 (l05Is_m hf2)
  have hM : Mk f0.toNat (powI (x : Int)) := Mk.pow (by omega)
  have r1 := reachable_rc (by omega) hR hM
  have r2 := l05Reach_rc (mask := powI (x : Int)) hf.1 hf.2 (l05Is_m hf2) ⟨hM.1, by have := hM.2; rwa [e] at this⟩
  rw [← r1.uniq r2]
  have T := transitive_tc (n := f0.toNat) (by omega) hR
  obtain ⟨h1, h2⟩ := reflexive_bits (n := f0.toNat) (by omega) T.rel
  obtain ⟨h3, h4⟩ := l01Image_bits (n := f0.toNat) (by omega) h1 hM
  have hrow := h1.2 x (by omega)
  unfold F_Frame_reachable
  apply tb_ext hrow.1 h3.1
  intro j
  rw [Bool.eq_iff_iff, h4 j]
  constructor
  · intro h; exact ⟨x, by rw [tb_pow]; simp, h⟩
  · rintro ⟨i, hi, hj⟩
    rw [tb_pow] at hi
    rw [← of_decide_eq_true hi] at hj; exact hj
theorem cl_stay (f0 : Int) (f1 out : List Int) (w : Int) : ∀ (r : Nat) (own v : Int), 0 ≤ own → (F_l05Clusters_L2 f0 f1 out w r own v).1 = own := by
  intro r
  induction r with
  | zero => intro own v _; rfl
  | succ r ih =>
    intro own v h
    show (F_l05Clusters_L2b f0 f1 out w _ own v).1 = own
    unfold F_l05Clusters_L2b
    rw [decide_eq_false (show ¬ own < 0 by omega), Bool.false_and, cond_false]
    cases decide (v < w)
    · rfl
    · exact ih own (v + 1) h
theorem cl_inner {f0 : Int} {f1 : List Int} (hf2 : F_l05Is f0 f1 = true) (w : Nat) (hw : (w : Int) < f0) (outS outI : List Int) (hag : ∀ j : Nat, j < w → gI outI (j : Int) = gI outS (j : Int) ∧ 0 ≤ gI outS (j : Int)) : ∀ (k v : Nat), v + k = w →
    ((F_l05Clusters_L2 f0 f1 outS (w : Int) (k + 1) (-1) (v : Int)).1 = -1 ∧ (F_Frame_clusters_L2 f0 f1 (w : Int) (k + 1) (v : Int) outI).2 = outI) ∨
    (0 ≤ (F_l05Clusters_L2 f0 f1 outS (w : Int) (k + 1) (-1) (v : Int)).1 ∧ (F_Frame_clusters_L2 f0 f1 (w : Int) (k + 1) (v : Int) outI).2 = sI outI (w : Int) (F_l05Clusters_L2 f0 f1 outS (w : Int) (k + 1) (-1) (v : Int)).1) := by
  intro k
  induction k with
  | zero =>
    intro v hv
    left
    show (F_l05Clusters_L2b f0 f1 outS _ _ _ _).1 = -1 ∧ (F_Frame_clusters_L2b f0 f1 _ _ _ outI).2 = outI
    unfold F_l05Clusters_L2b F_Frame_clusters_L2b
    rw [decide_eq_false (by omega)]; exact ⟨rfl, rfl⟩
  | succ k ih =>
    intro v hv
    have e1 : F_l05Clusters_L2 f0 f1 outS (w : Int) (k + 1 + 1) (-1) (v : Int) = F_l05Clusters_L2 f0 f1 outS (w : Int) (k + 1) (bif ((F_has (F_l05Reach f0 f1 (powI (w : Int))) (v : Int)) && (F_has (F_l05Reach f0 f1 (powI (v : Int))) (w : Int))) then gI outS (v : Int) else (-1)) ((v + 1 : Nat) : Int) := by
      show F_l05Clusters_L2b f0 f1 outS _ _ _ _ = _
      unfold F_l05Clusters_L2b
      rw [decide_eq_true (by omega), cond_true, decide_eq_true (show (-1 : Int) < 0 by omega), Bool.true_and, show (v : Int) + 1 = ((v + 1 : Nat) : Int) by omega]; rfl
    have e2 : F_Frame_clusters_L2 f0 f1 (w : Int) (k + 1 + 1) (v : Int) outI = bif ((F_has (F_l05Reach f0 f1 (powI (w : Int))) (v : Int)) && (F_has (F_l05Reach f0 f1 (powI (v : Int))) (w : Int))) then ((v : Int), sI outI (w : Int) (gI outI (v : Int))) else F_Frame_clusters_L2 f0 f1 (w : Int) (k + 1) ((v + 1 : Nat) : Int) outI := by
      show F_Frame_clusters_L2b f0 f1 _ _ _ _ = _
      unfold F_Frame_clusters_L2b
      rw [decide_eq_true (by omega), cond_true, reach_row hf2 w hw, reach_row hf2 v (by omega), show (v : Int) + 1 = ((v + 1 : Nat) : Int) by omega]
    rw [e1, e2]
    cases ((F_has (F_l05Reach f0 f1 (powI (w : Int))) (v : Int)) && (F_has (F_l05Reach f0 f1 (powI (v : Int))) (w : Int)))
    · rw [cond_false, cond_false]; exact ih (v + 1) (by omega)
    · have ha := hag v (by omega)
      rw [cond_true, cond_true, cl_stay _ _ _ _ _ _ _ ha.2]
      exact .inr ⟨ha.2, by rw [ha.1]⟩
theorem cl_outer {f0 : Int} {f1 : List Int} (hf2 : F_l05Is f0 f1 = true) : ∀ (k w : Nat) (outS outI : List Int) (c : Int), (w : Int) + k = f0 → outS.length = w → (outI.length : Int) = f0 → 0 ≤ c → (∀ j : Nat, j < w → gI outI (j : Int) = gI outS (j : Int) ∧ 0 ≤ gI outS (j : Int)) →
    (F_l05Clusters_L1 f0 f1 (k + 1) outS c (w : Int)).1 = (F_Frame_clusters_L1 f0 f1 (k + 1) c (w : Int) outI).2.2 := by
  intro k
  induction k with
  | zero =>
    intro w outS outI c hw hS hI hc hag
    show (F_l05Clusters_L1b f0 f1 _ outS c _).1 = (F_Frame_clusters_L1b f0 f1 _ c _ outI).2.2
    unfold F_l05Clusters_L1b F_Frame_clusters_L1b
    rw [decide_eq_false (by omega), cond_false, cond_false]
    show outS = outI
    apply ext_gi (by omega)
    intro j hj
    have := (hag j (by omega)).1
    unfold gI at this
    rw [Int.toNat_natCast] at this
    exact this.symm
  | succ k ih =>
    intro w outS outI c hw hS hI hc hag
    have hsI : ∀ j : Nat, j < w → gI (sI outI (w : Int) (-1)) (j : Int) = gI outS (j : Int) ∧ 0 ≤ gI outS (j : Int) := fun j hj => by
      rw [gI_sI' (by omega), if_neg (by omega)]; exact hag j hj
    have hin := cl_inner hf2 w (by omega) outS (sI outI (w : Int) (-1)) hsI w 0 (by omega)
    show (F_l05Clusters_L1b f0 f1 _ outS c _).1 = (F_Frame_clusters_L1b f0 f1 _ c _ outI).2.2
    unfold F_l05Clusters_L1b F_Frame_clusters_L1b
    rw [decide_eq_true (by omega), cond_true, cond_true, show Int.toNat ((w : Int) - 0) = w by omega, show (w : Int) + 1 = ((w + 1 : Nat) : Int) by omega]
    rcases hin with ⟨h1, h2⟩ | ⟨h1, h2⟩
    · have h1' : (F_l05Clusters_L2 f0 f1 outS (w : Int) (w + 1) (-1) 0).1 = -1 := h1
      have h2' : (F_Frame_clusters_L2 f0 f1 (w : Int) (w + 1) 0 (sI outI (w : Int) (-1))).2 = sI outI (w : Int) (-1) := h2
      rw [h1', h2', gI_sI' (by omega), if_pos rfl, decide_eq_true (show (-1 : Int) < 0 by omega)]
      simp only [cond_true]
      refine ih (w + 1) _ _ _ (by omega) (by simp; omega) (by rw [sI_len, sI_len]; exact hI) (by omega) fun j hj => ?_
      rw [gI_sI' (by rw [sI_len]; omega), gI_app, hS]
      by_cases e : w = j
      · rw [if_pos e, if_neg (by omega), if_pos e.symm]; exact ⟨rfl, hc⟩
      · rw [if_neg e, if_pos (by omega)]; exact hsI j (by omega)
    · have h1' : 0 ≤ (F_l05Clusters_L2 f0 f1 outS (w : Int) (w + 1) (-1) 0).1 := h1
      have h2' : (F_Frame_clusters_L2 f0 f1 (w : Int) (w + 1) 0 (sI outI (w : Int) (-1))).2 = sI (sI outI (w : Int) (-1)) (w : Int) (F_l05Clusters_L2 f0 f1 outS (w : Int) (w + 1) (-1) 0).1 := h2
      rw [h2', gI_sI' (by rw [sI_len]; omega), if_pos rfl, decide_eq_false (show ¬ (F_l05Clusters_L2 f0 f1 outS (w : Int) (w + 1) (-1) 0).1 < 0 by omega)]
      simp only [cond_false]
      refine ih (w + 1) _ _ _ (by omega) (by simp; omega) (by rw [sI_len, sI_len]; exact hI) hc fun j hj => ?_
      rw [gI_sI' (by rw [sI_len]; omega), gI_app, hS]
      by_cases e : w = j
      · rw [if_pos e, if_neg (by omega), if_pos e.symm]; exact ⟨rfl, h1'⟩
      · rw [if_neg e, if_pos (by omega)]; exact hsI j (by omega)
theorem clusters_eq {f0 : Int} {f1 : List Int} (hf2 : F_l05Is f0 f1 = true) : F_Frame_clusters f0 f1 = F_l05Clusters f0 f1 := by
  have hf := l05Is_t hf2
  unfold F_Frame_clusters F_l05Clusters
  rw [show Int.toNat (f0 - 0) = f0.toNat by omega]
  exact (cl_outer hf2 f0.toNat 0 [] (List.replicate (Int.toNat f0) 0) 0 (by omega) rfl (by rw [List.length_replicate]; omega) (by omega) fun j hj => by omega).symm
end Go.Proofs.Ytlbonhloeefnmaa
