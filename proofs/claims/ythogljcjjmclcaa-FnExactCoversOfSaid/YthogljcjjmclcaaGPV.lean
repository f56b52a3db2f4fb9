/- GPV: models and contracts, printed by wip/gen/gen.py -/
import Derived.Test.YthogljcjjmclcaaGPO
set_option linter.unusedVariables false
set_option linter.unusedSimpArgs false
namespace Go.Proofs.Ythogljcjjmclcaa
open Go.RowKit

theorem or_full {n a b : Int} (h0 : 0 ≤ n) (h1 : n ≤ 62) (ha : 0 ≤ a) (ha1 : a ≤ fullI n) (hb : 0 ≤ b) (hb1 : b ≤ fullI n) : 0 ≤ orI a b ∧ orI a b ≤ fullI n := by
  have e : ((n.toNat : Nat) : Int) = n := by omega
  have h := (Mk.or (n := n.toNat) (by omega) (a := a) (b := b) ⟨ha, by rw [e]; exact ha1⟩ ⟨hb, by rw [e]; exact hb1⟩).1
  exact ⟨h.1, by have := h.2; rwa [e] at this⟩
theorem pow_full {n v : Int} (h0 : 0 ≤ v) (h1 : v < n) (h2 : n ≤ 62) : 1 ≤ powI v ∧ powI v ≤ fullI n := by
  have hv : Mk n.toNat (powI ((v.toNat : Nat) : Int)) := Mk.pow (by omega)
  have e1 : ((v.toNat : Nat) : Int) = v := by omega
  have e2 : ((n.toNat : Nat) : Int) = n := by omega
  have := hv.2
  rw [e1, e2] at this
  exact ⟨(powI_bd h0 (by omega)).1, this⟩

def F_l16Covers_L2b (pp0 : Int) (pp1 : List Int) (x4 : Int) (rec : Int → Int → Int × Int) (far6L2 : Int) (y7L2 : Int) : Int × Int :=
  bif (decide (y7L2 < pp0)) then (rec (bif (F_l01Bit (anI (gI pp1 x4) (powI x4)) y7L2) then orI far6L2 (anI (gI pp1 y7L2) (powI y7L2)) else far6L2) (y7L2 + 1)) else (far6L2, y7L2)
def F_l16Covers_L2 (pp0 : Int) (pp1 : List Int) (x4 : Int) : Nat → Int → Int → Int × Int
  | 0, far6L2, y7L2 => (far6L2, y7L2)
  | r + 1, far6L2, y7L2 => F_l16Covers_L2b pp0 pp1 x4 (F_l16Covers_L2 pp0 pp1 x4 r) far6L2 y7L2
def F_l16Covers_L1b (pp0 : Int) (pp1 : List Int) (rec : (List Int) → Int → (List Int) × Int) (out3 : List Int) (x4 : Int) : (List Int) × Int :=
  bif (decide (x4 < pp0)) then (rec (out3 ++ ([anI (anI (gI pp1 x4) (powI x4)) ((F_l16Covers_L2 pp0 pp1 x4 (Int.toNat (pp0 - 0) + 1) 0 0).1)])) (x4 + 1)) else (out3, x4)
def F_l16Covers_L1 (pp0 : Int) (pp1 : List Int) : Nat → (List Int) → Int → (List Int) × Int
  | 0, out3, x4 => (out3, x4)
  | r + 1, out3, x4 => F_l16Covers_L1b pp0 pp1 (F_l16Covers_L1 pp0 pp1 r) out3 x4
def F_l16Covers (pp0 : Int) (pp1 : List Int) : List Int :=
  (F_l16Covers_L1 pp0 pp1 (Int.toNat (pp0 - 0) + 1) ([]) 0).1
theorem cf_l16Covers (args : Array Value) (w : World) : (callFunc 69 args).run Try.prog w = .ok (.enter 69 args) w := by kernel_rfl
set_option maxRecDepth 100000 in
theorem c_l16Covers (pp0 : Int) (pp1A : Option Addr) (pp1N pp1C : Nat) (pp1 : List Int) (w : World) (pp1R : RdS w 1 pp1A pp1N pp1C pp1) (h8pp : 0 ≤ pp0 ∧ pp0 ≤ 8) (hlpp : (pp1.length : Int) = pp0) (hmpp : ∀ m : Int, 0 ≤ m → m < (pp1.length : Int) → 0 ≤ gI pp1 m ∧ gI pp1 m ≤ fullI pp0) :
    Calls Try.prog 69 #[.agg #[.int .i64 pp0, .slice pp1A pp1N pp1C]] w (Ret fun v w' => ∃ b1 : Option Addr, ∃ c1 : Nat, v = .slice b1 (F_l16Covers pp0 pp1).length c1 ∧ OwnS w' w.heap.size 2 1 b1 (F_l16Covers pp0 pp1).length c1 (F_l16Covers pp0 pp1) ∧ Ext w w') := by
  obtain rfl : pp1N = pp1.length := pp1R.len1.symm
  have pp1Le := pp1R.le
  have hS := St.nil w
  have hS1 := St.rd0 hS rfl pp1R; clear hS
  refine enter (args := [.agg #[.int .i64 pp0, .slice pp1A pp1.length pp1C]]) Try.func69 rfl rfl ?_
  rw [Try.ntmps69]; intro a hE
  have hE := hE.sub (L' := [(0, .agg #[.int .i64 pp0, .slice pp1A pp1.length pp1C])]) ⟨rfl, trivial⟩
  refine c_seq ?_
  refine c_reg ?_
  refine l_step hE rfl (l_box (v := .agg #[.int .i64 pp0, .slice pp1A pp1.length pp1C]) (cs := #[.int .i64 pp0, .slice pp1A pp1.length pp1C]) hS1 hE rfl rfl rfl ?_)
  intro b2 w3 hS6 he7 a4 hE5; clear hS1 hE
  refine q_step (v := .slice none 0 0) hE5 (y_assign rfl) rfl rfl rfl ?_; intro a8 hE9; clear hE5
  refine c_nil ?_
  have hE10 := hE9.sub (L' := [(1, .pointer (some ⟨b2, 0, none⟩))]) ⟨rfl, trivial⟩; clear hE9
  refine p_tn ?_
  refine c_seq ?_
  refine c_reg ?_
  refine l_step hE10 rfl (l_lit (e := 2) (s := 1) (xs := []) (vs := []) hS6 hE10 rfl (fun _ => by kernel_rfl) rfl rfl rfl ?_)
  intro b11 w12 hS15 he16 a13 hE14; clear hS6 hE10
  refine q_step (v := .slice (some ⟨b11, 0, none⟩) 0 0) hE14 (y_assign rfl) rfl rfl rfl ?_; intro a17 hE18; clear hE14
  refine c_nil ?_
  have hE19 := hE18.sub (L' := [(1, .pointer (some ⟨b2, 0, none⟩)), (3, .slice (some ⟨b11, 0, none⟩) 0 0)]) ⟨rfl, rfl, trivial⟩; clear hE18
  refine p_tn ?_
  refine c_seq ?_
  refine c_seq ?_
  refine c_reg ?_
  refine q_step (v := .int .i64 0) hE19 (y_assign rfl) rfl rfl rfl ?_; intro a20 hE21; clear hE19
  refine c_nil ?_
  have hE22 := hE21.sub (L' := [(1, .pointer (some ⟨b2, 0, none⟩)), (3, .slice (some ⟨b11, 0, none⟩) 0 0), (4, .int .i64 0)]) ⟨rfl, rfl, rfl, trivial⟩; clear hE21
  refine p_tn ?_
  refine c_cut1 (fun a' w' => ∃ out3A_23 : Option Addr, ∃ out3C_23 : Nat, (0 ≤ ((F_l16Covers_L1 pp0 pp1 (Int.toNat (pp0 - 0) + 1) ([]) 0).2)) ∧ ((((F_l16Covers_L1 pp0 pp1 (Int.toNat (pp0 - 0) + 1) ([]) 0).1).length : Int) ≤ ((F_l16Covers_L1 pp0 pp1 (Int.toNat (pp0 - 0) + 1) ([]) 0).2)) ∧ E a' 49 [(1, .pointer (some ⟨b2, 0, none⟩)), (3, .slice out3A_23 (((F_l16Covers_L1 pp0 pp1 (Int.toNat (pp0 - 0) + 1) ([]) 0).1).length) out3C_23), (4, .int .i64 ((F_l16Covers_L1 pp0 pp1 (Int.toNat (pp0 - 0) + 1) ([]) 0).2))] ∧ St w w' [.own 2 1 out3A_23 (((F_l16Covers_L1 pp0 pp1 (Int.toNat (pp0 - 0) + 1) ([]) 0).1).length) out3C_23 ((F_l16Covers_L1 pp0 pp1 (Int.toNat (pp0 - 0) + 1) ([]) 0).1), .blk b2 #[.int .i64 pp0, .slice pp1A pp1.length pp1C] 27, .rd 1 pp1A pp1.length pp1C pp1]) ?_ ?_
  ·
    refine wp_block ?_
    refine c_loop (fun r a' w' => ∃ out3 : List Int, ∃ x4 : Int, ∃ out3A : Option Addr, ∃ out3C : Nat, F_l16Covers_L1 pp0 pp1 r out3 x4 = F_l16Covers_L1 pp0 pp1 (Int.toNat (pp0 - 0) + 1) ([]) 0 ∧ Int.toNat (pp0 - x4) < r ∧ (0 ≤ x4) ∧ ((out3.length : Int) ≤ x4) ∧ E a' 49 [(1, .pointer (some ⟨b2, 0, none⟩)), (3, .slice out3A ((out3).length) out3C), (4, .int .i64 x4)] ∧ St w w' [.own 2 1 out3A ((out3).length) out3C out3, .blk b2 #[.int .i64 pp0, .slice pp1A pp1.length pp1C] 27, .rd 1 pp1A pp1.length pp1C pp1]) (r := (Int.toNat (pp0 - 0) + 1)) ?_ ?_
    · exact ⟨[], 0, some ⟨b11, 0, none⟩, 0, rfl, Nat.lt_succ_self _, (by first | omega | (simp only [List.length_replicate, sI_len]; omega) | (simp only [List.length_append, List.length_cons, List.length_nil, sI_len, cond_true, cond_false]; omega) | (simp only [List.length_append, List.length_cons, List.length_nil, sI_len, cond_eq_ite, apply_ite List.length]; split <;> simp only [List.length_append, List.length_cons, List.length_nil, sI_len] <;> omega) | grind), (by first | omega | (simp only [List.length_replicate, sI_len]; omega) | (simp only [List.length_append, List.length_cons, List.length_nil, sI_len, cond_true, cond_false]; omega) | (simp only [List.length_append, List.length_cons, List.length_nil, sI_len, cond_eq_ite, apply_ite List.length]; split <;> simp only [List.length_append, List.length_cons, List.length_nil, sI_len] <;> omega) | grind), (hE22.sub (L' := [(1, .pointer (some ⟨b2, 0, none⟩)), (3, .slice (some ⟨b11, 0, none⟩) 0 0), (4, .int .i64 0)]) ⟨rfl, rfl, rfl, trivial⟩), (St.pick (Γ' := [.own 2 1 (some ⟨b11, 0, none⟩) 0 0 ([]), .blk b2 #[.int .i64 pp0, .slice pp1A pp1.length pp1C] 27, .rd 1 pp1A pp1.length pp1C pp1]) hS15 [0, 1, 2] (by decide) rfl)⟩
    ·
      clear hE22 hS15
      rintro r32 a24 w25 ⟨out3, x4, out3A, out3C, hT28, hr29, hi30, hi31, hE26, hS27⟩
      obtain ⟨r32, rfl⟩ : ∃ r', r32 = r' + 1 := ⟨r32 - 1, by omega⟩
      refine c_seq ?_
      refine c_seq ?_
      refine c_reg ?_
      refine q_step (v := .int .i64 x4) hE26 (y_move rfl) rfl rfl rfl ?_; intro a33 hE34; clear hE26
      refine q_step (v := .pointer (some ⟨b2, 0, none⟩)) hE34 (y_field rfl (fun _ => by kernel_rfl)) rfl rfl rfl ?_; intro a35 hE36; clear hE34
      refine q_step (v := .int .i64 pp0) hE36 (y_load (fun _ => by kernel_rfl) rfl (St.cell (i := 1) hS27 rfl rfl)) rfl rfl rfl ?_; intro a37 hE38; clear hE36
      refine q_step (v := .bool (decide (x4 < pp0))) hE38 (y_lss rfl rfl) rfl rfl rfl ?_; intro a39 hE40; clear hE38
      refine c_nil ?_
      have hE41 := hE40.sub (L' := [(1, .pointer (some ⟨b2, 0, none⟩)), (3, .slice out3A ((out3).length) out3C), (4, .int .i64 x4), (12, .bool (decide (x4 < pp0)))]) ⟨rfl, rfl, rfl, rfl, trivial⟩; clear hE40
      refine p_tn ?_
      refine c_cond hE41 rfl (fun ht42 => ?_) (fun ht42 => ?_)
      ·
        have hp43 := of_decide_eq_true ht42
        have hE44 := hE41; rw [ht42] at hE44; clear hE41
        refine wp_skip ?_
        refine p_tn ?_
        refine c_seq ?_
        refine wp_block ?_
        refine c_seq ?_
        refine d_start (fun w w' => (fun w' => w'.cell? ⟨b2, 1, none⟩ = some (.slice pp1A pp1.length pp1C) ∧ w'.cell? (adr pp1A (Int.toNat x4)) = some (.int .i64 (gI pp1 x4)) ∧ True) w → (fun w' => w'.cell? ⟨b2, 1, none⟩ = some (.slice pp1A pp1.length pp1C) ∧ w'.cell? (adr pp1A (Int.toNat x4)) = some (.int .i64 (gI pp1 x4)) ∧ True) w') [1, 4] 9 (by kernel_rfl) rfl ?_
        intro w45 he46; have hS47 := St.go hS27 he46; clear hS27
        refine d_pure (fun _ h => h) (v := .pointer (some ⟨b2, 1, none⟩)) 0 rfl hE44 (y_field rfl (fun _ => by kernel_rfl)) rfl (by kernel_rfl) (by kernel_rfl) (by kernel_rfl) rfl rfl (fun _ _ _ h => h) ?_; intro a48 hE49; clear hE44
        refine d_take (fun _ h => h) (fun _ _ h k => h k) (v := .slice pp1A pp1.length pp1C) 1 rfl hE49 (S := fun w' => w'.cell? ⟨b2, 1, none⟩ = some (.slice pp1A pp1.length pp1C) ∧ w'.cell? (adr pp1A (Int.toNat x4)) = some (.int .i64 (gI pp1 x4)) ∧ True) ⟨(St.cell (i := 1) hS47 rfl rfl _ (Ext.refl _)), (RdS.elt (St.rdR (i := 2) hS47 rfl) (by omega) (by omega) _ (Ext.refl _)), trivial⟩ (y_load (fun _ => by kernel_rfl) rfl (fun _ h => h.1)) rfl rfl (by kernel_rfl) (by kernel_rfl) (by kernel_rfl) (by kernel_rfl) rfl rfl (fun _ _ _ h => h) ?_; intro a50 hE51; clear hE49
        refine d_pure (fun _ h => h) (v := .int .i64 x4) 2 rfl hE51 (y_move rfl) rfl (by kernel_rfl) (by kernel_rfl) (by kernel_rfl) rfl rfl (fun _ _ _ h => h) ?_; intro a52 hE53; clear hE51
        refine d_pure (fun _ h => h) (v := .pointer (some (adr pp1A (Int.toNat x4)))) 3 rfl hE53 (y_idx (by kernel_rfl) (fun _ => by kernel_rfl) rfl rfl (RdS.isS (m := x4) (St.rdR (i := 2) hS47 rfl) (by omega) (by omega)) (by omega) (by omega) (Nat.mul_one _).symm) rfl (by kernel_rfl) (by kernel_rfl) (by kernel_rfl) rfl rfl (fun _ _ _ h => h) ?_; intro a54 hE55; clear hE53
        refine d_take (fun _ h => h) (fun _ _ h k => h k) (v := .int .i64 (gI pp1 x4)) 4 rfl hE55 (S := fun w' => w'.cell? ⟨b2, 1, none⟩ = some (.slice pp1A pp1.length pp1C) ∧ w'.cell? (adr pp1A (Int.toNat x4)) = some (.int .i64 (gI pp1 x4)) ∧ True) ⟨(St.cell (i := 1) hS47 rfl rfl _ (Ext.refl _)), (RdS.elt (St.rdR (i := 2) hS47 rfl) (by omega) (by omega) _ (Ext.refl _)), trivial⟩ (y_load (fun _ => by kernel_rfl) rfl (fun _ h => h.2.1)) rfl rfl (by kernel_rfl) (by kernel_rfl) (by kernel_rfl) (by kernel_rfl) rfl rfl (fun _ _ _ h => h) ?_; intro a56 hE57; clear hE55
        refine d_pure (fun _ h => h) (v := .int .i64 x4) 5 rfl hE57 (y_move rfl) rfl (by kernel_rfl) (by kernel_rfl) (by kernel_rfl) rfl rfl (fun _ _ _ h => h) ?_; intro a58 hE59; clear hE57
        refine d_only 6 (by kernel_rfl) rfl hE59 rfl (l_call (f := 88) (argv := [.int .i64 x4]) hE59 (fun _ => cf_l01One _ _) rfl rfl (d_l01One x4 w45 (by omega) (by omega)) ?_)
        rintro _ _ ⟨rfl, rfl⟩ a62 hE63; clear hE59
        refine ⟨fun _ _ => ⟨(St.cell (i := 1) hS47 rfl rfl _ (Ext.refl _)), (RdS.elt (St.rdR (i := 2) hS47 rfl) (by omega) (by omega) _ (Ext.refl _)), trivial⟩, ?_⟩
        refine d_pure (fun _ h => h) (v := .int .i64 (anI (gI pp1 x4) (powI x4))) 7 rfl hE63 (y_andNot rfl rfl) rfl (by kernel_rfl) (by kernel_rfl) (by kernel_rfl) rfl rfl (fun _ _ _ h => h) ?_; intro a66 hE67; clear hE63
        refine d_pure (fun _ h => h) (v := .int .i64 (anI (gI pp1 x4) (powI x4))) 8 rfl hE67 (y_assign rfl) rfl (by kernel_rfl) (by kernel_rfl) (by kernel_rfl) rfl rfl (fun _ _ _ h => h) ?_; intro a68 hE69; clear hE67
        refine d_done (by kernel_rfl) ?_
        have hE70 := hE69.sub (L' := [(1, .pointer (some ⟨b2, 0, none⟩)), (3, .slice out3A ((out3).length) out3C), (4, .int .i64 x4), (5, .int .i64 (anI (gI pp1 x4) (powI x4)))]) ⟨rfl, rfl, rfl, rfl, trivial⟩; clear hE69
        refine p_tn ?_
        refine c_seq ?_
        refine c_reg ?_
        refine q_step (v := .int .i64 0) hE70 (y_assign rfl) rfl rfl rfl ?_; intro a71 hE72; clear hE70
        refine c_nil ?_
        have hE73 := hE72.sub (L' := [(1, .pointer (some ⟨b2, 0, none⟩)), (3, .slice out3A ((out3).length) out3C), (4, .int .i64 x4), (5, .int .i64 (anI (gI pp1 x4) (powI x4))), (6, .int .i64 0)]) ⟨rfl, rfl, rfl, rfl, rfl, trivial⟩; clear hE72
        refine p_tn ?_
        refine c_seq ?_
        refine c_seq ?_
        refine c_reg ?_
        refine q_step (v := .int .i64 0) hE73 (y_assign rfl) rfl rfl rfl ?_; intro a74 hE75; clear hE73
        refine c_nil ?_
        have hE76 := hE75.sub (L' := [(1, .pointer (some ⟨b2, 0, none⟩)), (3, .slice out3A ((out3).length) out3C), (4, .int .i64 x4), (5, .int .i64 (anI (gI pp1 x4) (powI x4))), (6, .int .i64 0), (7, .int .i64 0)]) ⟨rfl, rfl, rfl, rfl, rfl, rfl, trivial⟩; clear hE75
        refine p_tn ?_
        refine c_cut1 (fun a' w' => (0 ≤ ((F_l16Covers_L2 pp0 pp1 x4 (Int.toNat (pp0 - 0) + 1) 0 0).2)) ∧ E a' 49 [(1, .pointer (some ⟨b2, 0, none⟩)), (3, .slice out3A ((out3).length) out3C), (4, .int .i64 x4), (5, .int .i64 (anI (gI pp1 x4) (powI x4))), (6, .int .i64 ((F_l16Covers_L2 pp0 pp1 x4 (Int.toNat (pp0 - 0) + 1) 0 0).1)), (7, .int .i64 ((F_l16Covers_L2 pp0 pp1 x4 (Int.toNat (pp0 - 0) + 1) 0 0).2))] ∧ St w w' [.own 2 1 out3A ((out3).length) out3C out3, .blk b2 #[.int .i64 pp0, .slice pp1A pp1.length pp1C] 27, .rd 1 pp1A pp1.length pp1C pp1]) ?_ ?_
        ·
          refine wp_block ?_
          refine c_loop (fun r a' w' => ∃ far6L2 : Int, ∃ y7L2 : Int, F_l16Covers_L2 pp0 pp1 x4 r far6L2 y7L2 = F_l16Covers_L2 pp0 pp1 x4 (Int.toNat (pp0 - 0) + 1) 0 0 ∧ Int.toNat (pp0 - y7L2) < r ∧ (0 ≤ y7L2) ∧ E a' 49 [(1, .pointer (some ⟨b2, 0, none⟩)), (3, .slice out3A ((out3).length) out3C), (4, .int .i64 x4), (5, .int .i64 (anI (gI pp1 x4) (powI x4))), (6, .int .i64 far6L2), (7, .int .i64 y7L2)] ∧ St w w' [.own 2 1 out3A ((out3).length) out3C out3, .blk b2 #[.int .i64 pp0, .slice pp1A pp1.length pp1C] 27, .rd 1 pp1A pp1.length pp1C pp1]) (r := (Int.toNat (pp0 - 0) + 1)) ?_ ?_
          · exact ⟨0, 0, rfl, Nat.lt_succ_self _, (by first | omega | (simp only [List.length_replicate, sI_len]; omega) | (simp only [List.length_append, List.length_cons, List.length_nil, sI_len, cond_true, cond_false]; omega) | (simp only [List.length_append, List.length_cons, List.length_nil, sI_len, cond_eq_ite, apply_ite List.length]; split <;> simp only [List.length_append, List.length_cons, List.length_nil, sI_len] <;> omega) | grind), (hE76.sub (L' := [(1, .pointer (some ⟨b2, 0, none⟩)), (3, .slice out3A ((out3).length) out3C), (4, .int .i64 x4), (5, .int .i64 (anI (gI pp1 x4) (powI x4))), (6, .int .i64 0), (7, .int .i64 0)]) ⟨rfl, rfl, rfl, rfl, rfl, rfl, trivial⟩), (St.pick (Γ' := [.own 2 1 out3A ((out3).length) out3C out3, .blk b2 #[.int .i64 pp0, .slice pp1A pp1.length pp1C] 27, .rd 1 pp1A pp1.length pp1C pp1]) hS47 [0, 1, 2] (by decide) rfl)⟩
          ·
            clear hE76 hS47
            rintro r85 a78 w79 ⟨far6L2, y7L2, hT82, hr83, hi84, hE80, hS81⟩
            obtain ⟨r85, rfl⟩ : ∃ r', r85 = r' + 1 := ⟨r85 - 1, by omega⟩
            refine c_seq ?_
            refine c_seq ?_
            refine c_reg ?_
            refine q_step (v := .int .i64 y7L2) hE80 (y_move rfl) rfl rfl rfl ?_; intro a86 hE87; clear hE80
            refine q_step (v := .pointer (some ⟨b2, 0, none⟩)) hE87 (y_field rfl (fun _ => by kernel_rfl)) rfl rfl rfl ?_; intro a88 hE89; clear hE87
            refine q_step (v := .int .i64 pp0) hE89 (y_load (fun _ => by kernel_rfl) rfl (St.cell (i := 1) hS81 rfl rfl)) rfl rfl rfl ?_; intro a90 hE91; clear hE89
            refine q_step (v := .bool (decide (y7L2 < pp0))) hE91 (y_lss rfl rfl) rfl rfl rfl ?_; intro a92 hE93; clear hE91
            refine c_nil ?_
            have hE94 := hE93.sub (L' := [(1, .pointer (some ⟨b2, 0, none⟩)), (3, .slice out3A ((out3).length) out3C), (4, .int .i64 x4), (5, .int .i64 (anI (gI pp1 x4) (powI x4))), (6, .int .i64 far6L2), (7, .int .i64 y7L2), (26, .bool (decide (y7L2 < pp0)))]) ⟨rfl, rfl, rfl, rfl, rfl, rfl, rfl, trivial⟩; clear hE93
            refine p_tn ?_
            refine c_cond hE94 rfl (fun ht95 => ?_) (fun ht95 => ?_)
            ·
              have hp96 := of_decide_eq_true ht95
              have hE97 := hE94; rw [ht95] at hE97; clear hE94
              refine wp_skip ?_
              refine p_tn ?_
              refine c_cut (fun a' w' => E a' 49 [(1, .pointer (some ⟨b2, 0, none⟩)), (3, .slice out3A ((out3).length) out3C), (4, .int .i64 x4), (5, .int .i64 (anI (gI pp1 x4) (powI x4))), (6, .int .i64 (bif (F_l01Bit (anI (gI pp1 x4) (powI x4)) y7L2) then orI far6L2 (anI (gI pp1 y7L2) (powI y7L2)) else far6L2)), (7, .int .i64 y7L2)] ∧ St w w' [.own 2 1 out3A ((out3).length) out3C out3, .rd 1 pp1A pp1.length pp1C pp1, .blk b2 #[.int .i64 pp0, .slice pp1A pp1.length pp1C] 27]) ?_ ?_
              ·
                refine wp_block ?_
                refine c_seq ?_
                refine c_reg ?_
                refine q_step (v := .int .i64 (anI (gI pp1 x4) (powI x4))) hE97 (y_move rfl) rfl rfl rfl ?_; intro a98 hE99; clear hE97
                refine q_step (v := .int .i64 y7L2) hE99 (y_move rfl) rfl rfl rfl ?_; intro a100 hE101; clear hE99
                refine l_step hE101 rfl (l_call (f := 90) (argv := [.int .i64 (anI (gI pp1 x4) (powI x4)), .int .i64 y7L2]) hE101 (fun _ => cf_l01Bit _ _) rfl rfl (c_l01Bit (anI (gI pp1 x4) (powI x4)) y7L2 w79 (by omega) (by omega)) ?_)
                rintro _ _ ⟨rfl, rfl⟩ a104 hE105; clear hE101
                refine c_nil ?_
                have hE108 := hE105.sub (L' := [(1, .pointer (some ⟨b2, 0, none⟩)), (3, .slice out3A ((out3).length) out3C), (4, .int .i64 x4), (5, .int .i64 (anI (gI pp1 x4) (powI x4))), (6, .int .i64 far6L2), (7, .int .i64 y7L2), (31, .bool (F_l01Bit (anI (gI pp1 x4) (powI x4)) y7L2))]) ⟨rfl, rfl, rfl, rfl, rfl, rfl, rfl, trivial⟩; clear hE105
                refine p_tn ?_
                refine c_cond hE108 rfl (fun ht109 => ?_) (fun ht109 => ?_)
                ·
                  have hE110 := hE108; rw [ht109] at hE110; clear hE108
                  refine d_start (fun w w' => (fun w' => w'.cell? ⟨b2, 1, none⟩ = some (.slice pp1A pp1.length pp1C) ∧ w'.cell? (adr pp1A (Int.toNat y7L2)) = some (.int .i64 (gI pp1 y7L2)) ∧ True) w → (fun w' => w'.cell? ⟨b2, 1, none⟩ = some (.slice pp1A pp1.length pp1C) ∧ w'.cell? (adr pp1A (Int.toNat y7L2)) = some (.int .i64 (gI pp1 y7L2)) ∧ True) w') [2, 5] 11 (by kernel_rfl) rfl ?_
                  intro w111 he112; have hS113 := St.go hS81 he112; clear hS81
                  refine d_pure (fun _ h => h) (v := .int .i64 far6L2) 0 rfl hE110 (y_move rfl) rfl (by kernel_rfl) (by kernel_rfl) (by kernel_rfl) rfl rfl (fun _ _ _ h => h) ?_; intro a114 hE115; clear hE110
                  refine d_pure (fun _ h => h) (v := .pointer (some ⟨b2, 1, none⟩)) 1 rfl hE115 (y_field rfl (fun _ => by kernel_rfl)) rfl (by kernel_rfl) (by kernel_rfl) (by kernel_rfl) rfl rfl (fun _ _ _ h => h) ?_; intro a116 hE117; clear hE115
                  refine d_take (fun _ h => h) (fun _ _ h k => h k) (v := .slice pp1A pp1.length pp1C) 2 rfl hE117 (S := fun w' => w'.cell? ⟨b2, 1, none⟩ = some (.slice pp1A pp1.length pp1C) ∧ w'.cell? (adr pp1A (Int.toNat y7L2)) = some (.int .i64 (gI pp1 y7L2)) ∧ True) ⟨(St.cell (i := 1) hS113 rfl rfl _ (Ext.refl _)), (RdS.elt (St.rdR (i := 2) hS113 rfl) (by omega) (by omega) _ (Ext.refl _)), trivial⟩ (y_load (fun _ => by kernel_rfl) rfl (fun _ h => h.1)) rfl rfl (by kernel_rfl) (by kernel_rfl) (by kernel_rfl) (by kernel_rfl) rfl rfl (fun _ _ _ h => h) ?_; intro a118 hE119; clear hE117
                  refine d_pure (fun _ h => h) (v := .int .i64 y7L2) 3 rfl hE119 (y_move rfl) rfl (by kernel_rfl) (by kernel_rfl) (by kernel_rfl) rfl rfl (fun _ _ _ h => h) ?_; intro a120 hE121; clear hE119
                  refine d_pure (fun _ h => h) (v := .pointer (some (adr pp1A (Int.toNat y7L2)))) 4 rfl hE121 (y_idx (by kernel_rfl) (fun _ => by kernel_rfl) rfl rfl (RdS.isS (m := y7L2) (St.rdR (i := 2) hS113 rfl) (by omega) (by omega)) (by omega) (by omega) (Nat.mul_one _).symm) rfl (by kernel_rfl) (by kernel_rfl) (by kernel_rfl) rfl rfl (fun _ _ _ h => h) ?_; intro a122 hE123; clear hE121
                  refine d_take (fun _ h => h) (fun _ _ h k => h k) (v := .int .i64 (gI pp1 y7L2)) 5 rfl hE123 (S := fun w' => w'.cell? ⟨b2, 1, none⟩ = some (.slice pp1A pp1.length pp1C) ∧ w'.cell? (adr pp1A (Int.toNat y7L2)) = some (.int .i64 (gI pp1 y7L2)) ∧ True) ⟨(St.cell (i := 1) hS113 rfl rfl _ (Ext.refl _)), (RdS.elt (St.rdR (i := 2) hS113 rfl) (by omega) (by omega) _ (Ext.refl _)), trivial⟩ (y_load (fun _ => by kernel_rfl) rfl (fun _ h => h.2.1)) rfl rfl (by kernel_rfl) (by kernel_rfl) (by kernel_rfl) (by kernel_rfl) rfl rfl (fun _ _ _ h => h) ?_; intro a124 hE125; clear hE123
                  refine d_pure (fun _ h => h) (v := .int .i64 y7L2) 6 rfl hE125 (y_move rfl) rfl (by kernel_rfl) (by kernel_rfl) (by kernel_rfl) rfl rfl (fun _ _ _ h => h) ?_; intro a126 hE127; clear hE125
                  refine d_only 7 (by kernel_rfl) rfl hE127 rfl (l_call (f := 88) (argv := [.int .i64 y7L2]) hE127 (fun _ => cf_l01One _ _) rfl rfl (d_l01One y7L2 w111 (by omega) (by omega)) ?_)
                  rintro _ _ ⟨rfl, rfl⟩ a130 hE131; clear hE127
                  refine ⟨fun _ _ => ⟨(St.cell (i := 1) hS113 rfl rfl _ (Ext.refl _)), (RdS.elt (St.rdR (i := 2) hS113 rfl) (by omega) (by omega) _ (Ext.refl _)), trivial⟩, ?_⟩
                  refine d_pure (fun _ h => h) (v := .int .i64 (anI (gI pp1 y7L2) (powI y7L2))) 8 rfl hE131 (y_andNot rfl rfl) rfl (by kernel_rfl) (by kernel_rfl) (by kernel_rfl) rfl rfl (fun _ _ _ h => h) ?_; intro a134 hE135; clear hE131
                  refine d_pure (fun _ h => h) (v := .int .i64 (orI far6L2 (anI (gI pp1 y7L2) (powI y7L2)))) 9 rfl hE135 (y_or rfl rfl) rfl (by kernel_rfl) (by kernel_rfl) (by kernel_rfl) rfl rfl (fun _ _ _ h => h) ?_; intro a136 hE137; clear hE135
                  refine d_pure (fun _ h => h) (v := .int .i64 (orI far6L2 (anI (gI pp1 y7L2) (powI y7L2)))) 10 rfl hE137 (y_assign rfl) rfl (by kernel_rfl) (by kernel_rfl) (by kernel_rfl) rfl rfl (fun _ _ _ h => h) ?_; intro a138 hE139; clear hE137
                  refine d_done (by kernel_rfl) ?_
                  have hE140 := hE139.sub (L' := [(1, .pointer (some ⟨b2, 0, none⟩)), (3, .slice out3A ((out3).length) out3C), (4, .int .i64 x4), (5, .int .i64 (anI (gI pp1 x4) (powI x4))), (6, .int .i64 (orI far6L2 (anI (gI pp1 y7L2) (powI y7L2)))), (7, .int .i64 y7L2)]) ⟨rfl, rfl, rfl, rfl, rfl, rfl, trivial⟩; clear hE139
                  refine p_bn ?_
                  refine p_tn ?_
                  have hE141 := hE140.sub (L' := [(1, .pointer (some ⟨b2, 0, none⟩)), (3, .slice out3A ((out3).length) out3C), (4, .int .i64 x4), (5, .int .i64 (anI (gI pp1 x4) (powI x4))), (6, .int .i64 (orI far6L2 (anI (gI pp1 y7L2) (powI y7L2)))), (7, .int .i64 y7L2)]) ⟨rfl, rfl, rfl, rfl, rfl, rfl, trivial⟩
                  have hS142 := (St.pick (Γ' := [.own 2 1 out3A ((out3).length) out3C out3, .rd 1 pp1A pp1.length pp1C pp1, .blk b2 #[.int .i64 pp0, .slice pp1A pp1.length pp1C] 27]) hS113 [0, 2, 1] (by decide) rfl)
                  exact ⟨(by rw [ht109]; exact hE141), hS142⟩
                ·
                  have hE143 := hE108; rw [ht109] at hE143; clear hE108
                  refine wp_skip ?_
                  refine p_bn ?_
                  refine p_tn ?_
                  have hE144 := hE143.sub (L' := [(1, .pointer (some ⟨b2, 0, none⟩)), (3, .slice out3A ((out3).length) out3C), (4, .int .i64 x4), (5, .int .i64 (anI (gI pp1 x4) (powI x4))), (6, .int .i64 far6L2), (7, .int .i64 y7L2)]) ⟨rfl, rfl, rfl, rfl, rfl, rfl, trivial⟩
                  have hS145 := (St.pick (Γ' := [.own 2 1 out3A ((out3).length) out3C out3, .rd 1 pp1A pp1.length pp1C pp1, .blk b2 #[.int .i64 pp0, .slice pp1A pp1.length pp1C] 27]) hS81 [0, 2, 1] (by decide) rfl)
                  exact ⟨(by rw [ht109]; exact hE144), hS145⟩
              ·
                rintro a146 w147 ⟨hE148, hS149⟩; clear hE97 hS81
                refine c_reg ?_
                refine q_step (v := .int .i64 y7L2) hE148 (y_move rfl) rfl rfl rfl ?_; intro a151 hE152; clear hE148
                refine q_step (v := .int .i64 (y7L2 + 1)) hE152 (y_add rfl rfl ⟨(by omega), (by omega)⟩) rfl rfl rfl ?_; intro a153 hE154; clear hE152
                refine q_step (v := .int .i64 (y7L2 + 1)) hE154 (y_assign rfl) rfl rfl rfl ?_; intro a155 hE156; clear hE154
                refine c_nil ?_
                have hE157 := hE156.sub (L' := [(1, .pointer (some ⟨b2, 0, none⟩)), (3, .slice out3A ((out3).length) out3C), (4, .int .i64 x4), (5, .int .i64 (anI (gI pp1 x4) (powI x4))), (6, .int .i64 (bif (F_l01Bit (anI (gI pp1 x4) (powI x4)) y7L2) then orI far6L2 (anI (gI pp1 y7L2) (powI y7L2)) else far6L2)), (7, .int .i64 (y7L2 + 1))]) ⟨rfl, rfl, rfl, rfl, rfl, rfl, trivial⟩; clear hE156
                refine p_tn ⟨r85, Nat.lt_succ_self _, bif (F_l01Bit (anI (gI pp1 x4) (powI x4)) y7L2) then orI far6L2 (anI (gI pp1 y7L2) (powI y7L2)) else far6L2, y7L2 + 1, (hT82.symm.trans (show F_l16Covers_L2b pp0 pp1 x4 (F_l16Covers_L2 pp0 pp1 x4 r85) far6L2 y7L2 = F_l16Covers_L2 pp0 pp1 x4 r85 (bif (F_l01Bit (anI (gI pp1 x4) (powI x4)) y7L2) then orI far6L2 (anI (gI pp1 y7L2) (powI y7L2)) else far6L2) (y7L2 + 1) by unfold F_l16Covers_L2b; rw [ht95]; first | done | rfl)).symm, (by omega), (by first | omega | (simp only [List.length_replicate, sI_len]; omega) | (simp only [List.length_append, List.length_cons, List.length_nil, sI_len, cond_true, cond_false]; omega) | (simp only [List.length_append, List.length_cons, List.length_nil, sI_len, cond_eq_ite, apply_ite List.length]; split <;> simp only [List.length_append, List.length_cons, List.length_nil, sI_len] <;> omega) | grind), (hE157.sub (L' := [(1, .pointer (some ⟨b2, 0, none⟩)), (3, .slice out3A ((out3).length) out3C), (4, .int .i64 x4), (5, .int .i64 (anI (gI pp1 x4) (powI x4))), (6, .int .i64 (bif (F_l01Bit (anI (gI pp1 x4) (powI x4)) y7L2) then orI far6L2 (anI (gI pp1 y7L2) (powI y7L2)) else far6L2)), (7, .int .i64 (y7L2 + 1))]) ⟨rfl, rfl, rfl, rfl, rfl, rfl, trivial⟩), (St.pick (Γ' := [.own 2 1 out3A ((out3).length) out3C out3, .blk b2 #[.int .i64 pp0, .slice pp1A pp1.length pp1C] 27, .rd 1 pp1A pp1.length pp1C pp1]) hS149 [0, 2, 1] (by decide) rfl)⟩
            ·
              have hp158 := of_decide_eq_false ht95
              have hE159 := hE94; rw [ht95] at hE159; clear hE94
              refine wp_exit ?_
              refine p_te ?_
              have hX160 : F_l16Covers_L2 pp0 pp1 x4 (Int.toNat (pp0 - 0) + 1) 0 0 = (far6L2, y7L2) := hT82.symm.trans (show F_l16Covers_L2b pp0 pp1 x4 (F_l16Covers_L2 pp0 pp1 x4 r85) far6L2 y7L2 = (far6L2, y7L2) by unfold F_l16Covers_L2b; rw [ht95]; first | done | rfl)
              refine p_te (p_be (p_tn ?_))
              exact ⟨(by rw [hX160]; exact (show 0 ≤ y7L2 from (by first | omega | (simp only [List.length_replicate, sI_len]; omega) | (simp only [List.length_append, List.length_cons, List.length_nil, sI_len, cond_true, cond_false]; omega) | (simp only [List.length_append, List.length_cons, List.length_nil, sI_len, cond_eq_ite, apply_ite List.length]; split <;> simp only [List.length_append, List.length_cons, List.length_nil, sI_len] <;> omega) | grind))), (by rw [hX160]; exact (hE159.sub (L' := [(1, .pointer (some ⟨b2, 0, none⟩)), (3, .slice out3A ((out3).length) out3C), (4, .int .i64 x4), (5, .int .i64 (anI (gI pp1 x4) (powI x4))), (6, .int .i64 far6L2), (7, .int .i64 y7L2)]) ⟨rfl, rfl, rfl, rfl, rfl, rfl, trivial⟩)), (St.pick (Γ' := [.own 2 1 out3A ((out3).length) out3C out3, .blk b2 #[.int .i64 pp0, .slice pp1A pp1.length pp1C] 27, .rd 1 pp1A pp1.length pp1C pp1]) hS81 [0, 1, 2] (by decide) rfl)⟩
        ·
          rintro a161 w162 ⟨hi166, hE163, hS164⟩; clear hE76 hS47
          refine p_tn ?_
          refine c_reg ?_
          refine q_step (v := .slice out3A ((out3).length) out3C) hE163 (y_move rfl) rfl rfl rfl ?_; intro a167 hE168; clear hE163
          refine q_step (v := .int .i64 (anI (gI pp1 x4) (powI x4))) hE168 (y_move rfl) rfl rfl rfl ?_; intro a169 hE170; clear hE168
          refine q_step (v := .int .i64 ((F_l16Covers_L2 pp0 pp1 x4 (Int.toNat (pp0 - 0) + 1) 0 0).1)) hE170 (y_move rfl) rfl rfl rfl ?_; intro a171 hE172; clear hE170
          refine q_step (v := .int .i64 (anI (anI (gI pp1 x4) (powI x4)) ((F_l16Covers_L2 pp0 pp1 x4 (Int.toNat (pp0 - 0) + 1) 0 0).1))) hE172 (y_andNot rfl rfl) rfl rfl rfl ?_; intro a173 hE174; clear hE172
          refine l_step hE174 rfl (l_lit (e := 2) (s := 1) (xs := [anI (anI (gI pp1 x4) (powI x4)) ((F_l16Covers_L2 pp0 pp1 x4 (Int.toNat (pp0 - 0) + 1) 0 0).1)]) (vs := [.int .i64 (anI (anI (gI pp1 x4) (powI x4)) ((F_l16Covers_L2 pp0 pp1 x4 (Int.toNat (pp0 - 0) + 1) 0 0).1))]) hS164 hE174 rfl (fun _ => by kernel_rfl) rfl rfl rfl ?_)
          intro b175 w176 hS179 he180 a177 hE178; clear hS164 hE174
          obtain ⟨_, hi1, hi2, hi3, hi4⟩ := info_parts (show (Try.prog.info? 2).map (fun i => (i.zero, i.size, i.bytes)) = some (some (.int .i64 0), 1, 8) by kernel_rfl)
          refine l_step hE178 rfl (l_append (k := 1) (n' := (out3 ++ ([anI (anI (gI pp1 x4) (powI x4)) ((F_l16Covers_L2 pp0 pp1 x4 (Int.toNat (pp0 - 0) + 1) 0 0).1)])).length) hS179 hE178 (by kernel_rfl) hi1 hi2 hi3 rfl (by decide) (by rw [hi4]; decide) rfl rfl rfl (St.rdO (i := 0) hS179 rfl) (by first | omega | (simp only [List.length_append, List.length_cons, List.length_nil]; omega)) (by have h1 := (St.rdO (i := 1) hS179 rfl).len1; have h2 := (St.rdO (i := 0) hS179 rfl).len1; rw [List.length_append, h1, h2]) rfl ?_)
          intro b181 c187 w182 hS185 a183 hE184; clear hS179 hE178 hi1 hi2 hi3 hi4
          refine q_step (v := .slice b181 ((out3 ++ ([anI (anI (gI pp1 x4) (powI x4)) ((F_l16Covers_L2 pp0 pp1 x4 (Int.toNat (pp0 - 0) + 1) 0 0).1)])).length) c187) hE184 (y_assign rfl) rfl rfl rfl ?_; intro a188 hE189; clear hE184
          refine c_nil ?_
          have hE190 := hE189.sub (L' := [(1, .pointer (some ⟨b2, 0, none⟩)), (3, .slice b181 ((out3 ++ ([anI (anI (gI pp1 x4) (powI x4)) ((F_l16Covers_L2 pp0 pp1 x4 (Int.toNat (pp0 - 0) + 1) 0 0).1)])).length) c187), (4, .int .i64 x4)]) ⟨rfl, rfl, rfl, trivial⟩; clear hE189
          refine p_bn ?_
          refine p_tn ?_
          refine c_reg ?_
          refine q_step (v := .int .i64 x4) hE190 (y_move rfl) rfl rfl rfl ?_; intro a191 hE192; clear hE190
          refine q_step (v := .int .i64 (x4 + 1)) hE192 (y_add rfl rfl ⟨(by omega), (by omega)⟩) rfl rfl rfl ?_; intro a193 hE194; clear hE192
          refine q_step (v := .int .i64 (x4 + 1)) hE194 (y_assign rfl) rfl rfl rfl ?_; intro a195 hE196; clear hE194
          refine c_nil ?_
          have hE197 := hE196.sub (L' := [(1, .pointer (some ⟨b2, 0, none⟩)), (3, .slice b181 ((out3 ++ ([anI (anI (gI pp1 x4) (powI x4)) ((F_l16Covers_L2 pp0 pp1 x4 (Int.toNat (pp0 - 0) + 1) 0 0).1)])).length) c187), (4, .int .i64 (x4 + 1))]) ⟨rfl, rfl, rfl, trivial⟩; clear hE196
          refine p_tn ⟨r32, Nat.lt_succ_self _, out3 ++ ([anI (anI (gI pp1 x4) (powI x4)) ((F_l16Covers_L2 pp0 pp1 x4 (Int.toNat (pp0 - 0) + 1) 0 0).1)]), x4 + 1, b181, c187, (hT28.symm.trans (show F_l16Covers_L1b pp0 pp1 (F_l16Covers_L1 pp0 pp1 r32) out3 x4 = F_l16Covers_L1 pp0 pp1 r32 (out3 ++ ([anI (anI (gI pp1 x4) (powI x4)) ((F_l16Covers_L2 pp0 pp1 x4 (Int.toNat (pp0 - 0) + 1) 0 0).1)])) (x4 + 1) by unfold F_l16Covers_L1b; rw [ht42]; first | done | rfl)).symm, (by omega), (by first | omega | (simp only [List.length_replicate, sI_len]; omega) | (simp only [List.length_append, List.length_cons, List.length_nil, sI_len, cond_true, cond_false]; omega) | (simp only [List.length_append, List.length_cons, List.length_nil, sI_len, cond_eq_ite, apply_ite List.length]; split <;> simp only [List.length_append, List.length_cons, List.length_nil, sI_len] <;> omega) | grind), (by first | omega | (simp only [List.length_replicate, sI_len]; omega) | (simp only [List.length_append, List.length_cons, List.length_nil, sI_len, cond_true, cond_false]; omega) | (simp only [List.length_append, List.length_cons, List.length_nil, sI_len, cond_eq_ite, apply_ite List.length]; split <;> simp only [List.length_append, List.length_cons, List.length_nil, sI_len] <;> omega) | grind), (hE197.sub (L' := [(1, .pointer (some ⟨b2, 0, none⟩)), (3, .slice b181 ((out3 ++ ([anI (anI (gI pp1 x4) (powI x4)) ((F_l16Covers_L2 pp0 pp1 x4 (Int.toNat (pp0 - 0) + 1) 0 0).1)])).length) c187), (4, .int .i64 (x4 + 1))]) ⟨rfl, rfl, rfl, trivial⟩), (St.pick (Γ' := [.own 2 1 b181 ((out3 ++ ([anI (anI (gI pp1 x4) (powI x4)) ((F_l16Covers_L2 pp0 pp1 x4 (Int.toNat (pp0 - 0) + 1) 0 0).1)])).length) c187 (out3 ++ ([anI (anI (gI pp1 x4) (powI x4)) ((F_l16Covers_L2 pp0 pp1 x4 (Int.toNat (pp0 - 0) + 1) 0 0).1)])), .blk b2 #[.int .i64 pp0, .slice pp1A pp1.length pp1C] 27, .rd 1 pp1A pp1.length pp1C pp1]) hS185 [1, 2, 3] (by decide) rfl)⟩
      ·
        have hp198 := of_decide_eq_false ht42
        have hE199 := hE41; rw [ht42] at hE199; clear hE41
        refine wp_exit ?_
        refine p_te ?_
        have hX200 : F_l16Covers_L1 pp0 pp1 (Int.toNat (pp0 - 0) + 1) ([]) 0 = (out3, x4) := hT28.symm.trans (show F_l16Covers_L1b pp0 pp1 (F_l16Covers_L1 pp0 pp1 r32) out3 x4 = (out3, x4) by unfold F_l16Covers_L1b; rw [ht42]; first | done | rfl)
        refine p_te (p_be (p_tn ?_))
        exact ⟨out3A, out3C, (by rw [hX200]; exact (show 0 ≤ x4 from (by first | omega | (simp only [List.length_replicate, sI_len]; omega) | (simp only [List.length_append, List.length_cons, List.length_nil, sI_len, cond_true, cond_false]; omega) | (simp only [List.length_append, List.length_cons, List.length_nil, sI_len, cond_eq_ite, apply_ite List.length]; split <;> simp only [List.length_append, List.length_cons, List.length_nil, sI_len] <;> omega) | grind))), (by rw [hX200]; exact (show (out3.length : Int) ≤ x4 from (by first | omega | (simp only [List.length_replicate, sI_len]; omega) | (simp only [List.length_append, List.length_cons, List.length_nil, sI_len, cond_true, cond_false]; omega) | (simp only [List.length_append, List.length_cons, List.length_nil, sI_len, cond_eq_ite, apply_ite List.length]; split <;> simp only [List.length_append, List.length_cons, List.length_nil, sI_len] <;> omega) | grind))), (by rw [hX200]; exact (hE199.sub (L' := [(1, .pointer (some ⟨b2, 0, none⟩)), (3, .slice out3A ((out3).length) out3C), (4, .int .i64 x4)]) ⟨rfl, rfl, rfl, trivial⟩)), (by rw [hX200]; exact (St.pick (Γ' := [.own 2 1 out3A ((out3).length) out3C out3, .blk b2 #[.int .i64 pp0, .slice pp1A pp1.length pp1C] 27, .rd 1 pp1A pp1.length pp1C pp1]) hS27 [0, 1, 2] (by decide) rfl))⟩
  ·
    rintro a201 w202 ⟨out3A_23, out3C_23, hi206, hi207, hE203, hS204⟩; clear hE22 hS15
    refine p_tn ?_
    refine c_seq ?_
    refine c_reg ?_
    refine q_step (v := .slice out3A_23 (((F_l16Covers_L1 pp0 pp1 (Int.toNat (pp0 - 0) + 1) ([]) 0).1).length) out3C_23) hE203 (y_move rfl) rfl rfl rfl ?_; intro a208 hE209; clear hE203
    refine q_step (v := .slice out3A_23 (((F_l16Covers_L1 pp0 pp1 (Int.toNat (pp0 - 0) + 1) ([]) 0).1).length) out3C_23) hE209 (y_assign rfl) rfl rfl rfl ?_; intro a210 hE211; clear hE209
    refine c_nil ?_
    have hE212 := hE211.sub (L' := [(2, .slice out3A_23 (((F_l16Covers_L1 pp0 pp1 (Int.toNat (pp0 - 0) + 1) ([]) 0).1).length) out3C_23)]) ⟨rfl, trivial⟩; clear hE211
    refine p_tn ?_
    refine wp_ret ?_
    have hF : F_l16Covers pp0 pp1 = (F_l16Covers_L1 pp0 pp1 (Int.toNat (pp0 - 0) + 1) ([]) 0).1 := by unfold F_l16Covers; rfl
    refine c_ret1 hE212 rfl rfl ?_
    exact ⟨out3A_23, out3C_23, (by rw [hF]; first | done | rfl), (by rw [hF]; exact hS204.ok 0 _ rfl), hS204.ext⟩

def F_s_CoversOf (pp0 : Int) (pp1 : List Int) : (List Int) × (Int) :=
  bif (!(F_l16Is pp0 pp1)) then ([], 1) else (F_l16Covers pp0 pp1, 0)
theorem cf_s_CoversOf (args : Array Value) (w : World) : (callFunc 34 args).run Try.prog w = .ok (.enter 34 args) w := by kernel_rfl
set_option maxRecDepth 100000 in
theorem c_s_CoversOf (pp0 : Int) (pp1A : Option Addr) (pp1N pp1C : Nat) (pp1 : List Int) (w : World) (pp1R : RdS w 1 pp1A pp1N pp1C pp1) :
    Calls Try.prog 34 #[.agg #[.int .i64 pp0, .slice pp1A pp1N pp1C]] w (Ret fun v w' => ∃ b1 : Option Addr, ∃ c1 : Nat, v = .tuple #[.slice b1 ((F_s_CoversOf pp0 pp1).1).length c1, .int .i64 ((F_s_CoversOf pp0 pp1).2)] ∧ OwnS w' w.heap.size 2 1 b1 ((F_s_CoversOf pp0 pp1).1).length c1 ((F_s_CoversOf pp0 pp1).1) ∧ Ext w w') := by
  obtain rfl : pp1N = pp1.length := pp1R.len1.symm
  have pp1Le := pp1R.le
  have hS := St.nil w
  have hS1 := St.rd0 hS rfl pp1R; clear hS
  refine enter (args := [.agg #[.int .i64 pp0, .slice pp1A pp1.length pp1C]]) Try.func34 rfl rfl ?_
  rw [Try.ntmps34]; intro a hE
  have hE := hE.sub (L' := [(0, .agg #[.int .i64 pp0, .slice pp1A pp1.length pp1C])]) ⟨rfl, trivial⟩
  refine c_seq ?_
  refine c_reg ?_
  refine l_step hE rfl (l_box (v := .agg #[.int .i64 pp0, .slice pp1A pp1.length pp1C]) (cs := #[.int .i64 pp0, .slice pp1A pp1.length pp1C]) hS1 hE rfl rfl rfl ?_)
  intro b2 w3 hS6 he7 a4 hE5; clear hS1 hE
  refine q_step (v := .slice none 0 0) hE5 (y_assign rfl) rfl rfl rfl ?_; intro a8 hE9; clear hE5
  refine q_step (v := .int .i64 0) hE9 (y_assign rfl) rfl rfl rfl ?_; intro a10 hE11; clear hE9
  refine c_nil ?_
  have hE12 := hE11.sub (L' := [(1, .pointer (some ⟨b2, 0, none⟩))]) ⟨rfl, trivial⟩; clear hE11
  refine p_tn ?_
  refine c_seq ?_
  refine c_seq ?_
  refine c_reg ?_
  refine q_step (v := .agg #[.int .i64 pp0, .slice pp1A pp1.length pp1C]) hE12 (y_loadS Try.underlying27 rfl (by kernel_rfl) rfl (St.row (i := 0) hS6 rfl)) rfl rfl rfl ?_; intro a13 hE14; clear hE12
  refine l_step hE14 rfl (l_call (f := 50) (argv := [.agg #[.int .i64 pp0, .slice pp1A pp1.length pp1C]]) hE14 (fun _ => cf_l16Is _ _) rfl rfl (c_l16Is pp0 pp1A pp1.length pp1C pp1 w3 (St.rdR (i := 1) hS6 rfl)) ?_)
  rintro _ w16 ⟨rfl, he20⟩ a17 hE18; clear hE14
  have hS19 := St.go hS6 he20; clear hS6
  refine q_step (v := .bool (!(F_l16Is pp0 pp1))) hE18 (y_not rfl) rfl rfl rfl ?_; intro a21 hE22; clear hE18
  refine c_nil ?_
  have hE23 := hE22.sub (L' := [(1, .pointer (some ⟨b2, 0, none⟩)), (6, .bool (!(F_l16Is pp0 pp1)))]) ⟨rfl, rfl, trivial⟩; clear hE22
  refine p_tn ?_
  refine c_cond hE23 rfl (fun ht24 => ?_) (fun ht24 => ?_)
  ·
    have ht25 := bn_t ht24
    have hE26 := hE23; rw [ht24] at hE26; clear hE23
    refine c_seq ?_
    refine c_reg ?_
    refine q_step (v := .slice none 0 0) hE26 (y_assign rfl) rfl rfl rfl ?_; intro a27 hE28; clear hE26
    refine q_step (v := .int .i64 1) hE28 (y_assign rfl) rfl rfl rfl ?_; intro a29 hE30; clear hE28
    refine c_nil ?_
    have hE31 := hE30.sub (L' := [(2, .slice none 0 0), (3, .int .i64 1)]) ⟨rfl, rfl, trivial⟩; clear hE30
    refine p_tn ?_
    refine wp_ret ?_
    refine p_tr ?_
    have hF : F_s_CoversOf pp0 pp1 = ([], 1) := by unfold F_s_CoversOf; rw [ht24]; first | done | rfl
    refine c_ret2 hE31 rfl rfl rfl ?_
    exact ⟨none, 0, (by rw [hF]; first | done | rfl), (by rw [hF]; exact OwnS.nilS _ _ _ _), hS19.ext⟩
  ·
    have ht32 := bn_f ht24
    have hp33 := l16Is_t ht32
    have hE34 := hE23; rw [ht24] at hE34; clear hE23
    refine wp_skip ?_
    refine p_tn ?_
    refine c_seq ?_
    refine c_reg ?_
    refine q_step (v := .agg #[.int .i64 pp0, .slice pp1A pp1.length pp1C]) hE34 (y_loadS Try.underlying27 rfl (by kernel_rfl) rfl (St.row (i := 0) hS19 rfl)) rfl rfl rfl ?_; intro a35 hE36; clear hE34
    refine l_step hE36 rfl (l_call (f := 69) (argv := [.agg #[.int .i64 pp0, .slice pp1A pp1.length pp1C]]) hE36 (fun _ => cf_l16Covers _ _) rfl rfl (c_l16Covers pp0 pp1A pp1.length pp1C pp1 w16 (St.rdR (i := 1) hS19 rfl) (by omega) (by omega) (l16Is_t (by assumption)).2.2) ?_)
    rintro _ w38 ⟨b43, c44, rfl, ho45, he42⟩ a39 hE40; clear hE36
    have hS41 := St.own hS19 he42 ho45; clear hS19
    refine q_step (v := .slice b43 ((F_l16Covers pp0 pp1).length) c44) hE40 (y_assign rfl) rfl rfl rfl ?_; intro a46 hE47; clear hE40
    refine q_step (v := .int .i64 0) hE47 (y_assign rfl) rfl rfl rfl ?_; intro a48 hE49; clear hE47
    refine c_nil ?_
    have hE50 := hE49.sub (L' := [(2, .slice b43 ((F_l16Covers pp0 pp1).length) c44), (3, .int .i64 0)]) ⟨rfl, rfl, trivial⟩; clear hE49
    refine p_tn ?_
    refine wp_ret ?_
    have hF : F_s_CoversOf pp0 pp1 = (F_l16Covers pp0 pp1, 0) := by unfold F_s_CoversOf; rw [ht24]; first | done | rfl
    refine c_ret2 hE50 rfl rfl rfl ?_
    exact ⟨b43, c44, (by rw [hF]; first | done | rfl), (by rw [hF]; exact hS41.ok 0 _ rfl), hS41.ext⟩

def F_Poset_strictly_L1b (pp1 : List Int) (rec : Int → (List Int) → Int × (List Int)) (t10 : Int) (out3 : List Int) : Int × (List Int) :=
  bif (decide (t10 < ((pp1).length : Int))) then (rec (t10 + 1) (sI out3 t10 (anI (gI out3 t10) (shlI 1 t10)))) else (t10, out3)
def F_Poset_strictly_L1 (pp1 : List Int) : Nat → Int → (List Int) → Int × (List Int)
  | 0, t10, out3 => (t10, out3)
  | r + 1, t10, out3 => F_Poset_strictly_L1b pp1 (F_Poset_strictly_L1 pp1 r) t10 out3
def F_Poset_strictly (pp0 : Int) (pp1 : List Int) : List Int :=
  (F_Poset_strictly_L1 pp1 (Int.toNat (((pp1).length : Int) - 0) + 1) 0 pp1).2
theorem cf_Poset_strictly (args : Array Value) (w : World) : (callFunc 99 args).run Try.prog w = .ok (.enter 99 args) w := by kernel_rfl
set_option maxRecDepth 100000 in
theorem c_Poset_strictly (pp0 : Int) (pp1A : Option Addr) (pp1N pp1C : Nat) (pp1 : List Int) (w : World) (pp1R : RdS w 1 pp1A pp1N pp1C pp1) (h8pp : 0 ≤ pp0 ∧ pp0 ≤ 8) (hlpp : (pp1.length : Int) = pp0) (hmpp : ∀ m : Int, 0 ≤ m → m < (pp1.length : Int) → 0 ≤ gI pp1 m ∧ gI pp1 m ≤ fullI pp0) :
    Calls Try.prog 99 #[.agg #[.int .i64 pp0, .slice pp1A pp1N pp1C]] w (Ret fun v w' => ∃ b1 : Option Addr, ∃ c1 : Nat, v = .slice b1 (F_Poset_strictly pp0 pp1).length c1 ∧ OwnS w' w.heap.size 2 1 b1 (F_Poset_strictly pp0 pp1).length c1 (F_Poset_strictly pp0 pp1) ∧ Ext w w') := by
  obtain rfl : pp1N = pp1.length := pp1R.len1.symm
  have pp1Le := pp1R.le
  have hS := St.nil w
  have hS1 := St.rd0 hS rfl pp1R; clear hS
  refine enter (args := [.agg #[.int .i64 pp0, .slice pp1A pp1.length pp1C]]) Try.func99 rfl rfl ?_
  rw [Try.ntmps99]; intro a hE
  have hE := hE.sub (L' := [(0, .agg #[.int .i64 pp0, .slice pp1A pp1.length pp1C])]) ⟨rfl, trivial⟩
  refine c_seq ?_
  refine c_reg ?_
  refine l_step hE rfl (l_box (v := .agg #[.int .i64 pp0, .slice pp1A pp1.length pp1C]) (cs := #[.int .i64 pp0, .slice pp1A pp1.length pp1C]) hS1 hE rfl rfl rfl ?_)
  intro b2 w3 hS6 he7 a4 hE5; clear hS1 hE
  refine q_step (v := .slice none 0 0) hE5 (y_assign rfl) rfl rfl rfl ?_; intro a8 hE9; clear hE5
  refine c_nil ?_
  have hE10 := hE9.sub (L' := [(1, .pointer (some ⟨b2, 0, none⟩))]) ⟨rfl, trivial⟩; clear hE9
  refine p_tn ?_
  refine c_seq ?_
  refine c_reg ?_
  refine q_step (v := .pointer (some ⟨b2, 1, none⟩)) hE10 (y_field rfl (fun _ => by kernel_rfl)) rfl rfl rfl ?_; intro a11 hE12; clear hE10
  refine q_step (v := .slice pp1A pp1.length pp1C) hE12 (y_load (fun _ => by kernel_rfl) rfl (St.cell (i := 0) hS6 rfl rfl)) rfl rfl rfl ?_; intro a13 hE14; clear hE12
  refine l_step hE14 rfl (l_call (f := 100) (argv := [.slice pp1A pp1.length pp1C]) hE14 (fun _ => cf_z_CloneS _ _) rfl rfl (c_z_Clone pp1A pp1.length pp1C pp1 w3 (St.rdR (i := 1) hS6 rfl) (by omega)) ?_)
  rintro _ w16 ⟨b21, c22, rfl, ho23, he20⟩ a17 hE18; clear hE14
  have hS19 := St.own hS6 he20 ho23; clear hS6
  refine q_step (v := .slice b21 ((pp1).length) c22) hE18 (y_assign rfl) rfl rfl rfl ?_; intro a24 hE25; clear hE18
  refine c_nil ?_
  have hE26 := hE25.sub (L' := [(3, .slice b21 ((pp1).length) c22)]) ⟨rfl, trivial⟩; clear hE25
  refine p_tn ?_
  refine c_seq ?_
  refine c_seq ?_
  refine c_reg ?_
  refine q_step (v := .slice b21 ((pp1).length) c22) hE26 (y_move rfl) rfl rfl rfl ?_; intro a27 hE28; clear hE26
  refine q_step (v := .int .i64 ((pp1).length : Int)) hE28 (y_len (e := 2) (by kernel_rfl) rfl) rfl rfl rfl ?_; intro a29 hE30; clear hE28
  refine q_step (v := .int .i64 0) hE30 (y_move rfl) rfl rfl rfl ?_; intro a31 hE32; clear hE30
  refine c_nil ?_
  have hE33 := hE32.sub (L' := [(3, .slice b21 ((pp1).length) c22), (9, .int .i64 ((pp1).length : Int)), (10, .int .i64 0)]) ⟨rfl, rfl, rfl, trivial⟩; clear hE32
  refine p_tn ?_
  refine c_cut1 (fun a' w' => (0 ≤ ((F_Poset_strictly_L1 pp1 (Int.toNat (((pp1).length : Int) - 0) + 1) 0 pp1).1)) ∧ ((((F_Poset_strictly_L1 pp1 (Int.toNat (((pp1).length : Int) - 0) + 1) 0 pp1).2).length : Int) = pp0) ∧ (((F_Poset_strictly_L1 pp1 (Int.toNat (((pp1).length : Int) - 0) + 1) 0 pp1).1) ≤ ((pp1).length : Int)) ∧ E a' 23 [(3, .slice b21 ((pp1).length) c22), (9, .int .i64 ((pp1).length : Int)), (10, .int .i64 ((F_Poset_strictly_L1 pp1 (Int.toNat (((pp1).length : Int) - 0) + 1) 0 pp1).1))] ∧ St w w' [.own 2 1 b21 ((pp1).length) c22 ((F_Poset_strictly_L1 pp1 (Int.toNat (((pp1).length : Int) - 0) + 1) 0 pp1).2), .blk b2 #[.int .i64 pp0, .slice pp1A pp1.length pp1C] 27, .rd 1 pp1A pp1.length pp1C pp1]) ?_ ?_
  ·
    refine wp_block ?_
    refine c_loop (fun r a' w' => ∃ t10 : Int, ∃ out3 : List Int, F_Poset_strictly_L1 pp1 r t10 out3 = F_Poset_strictly_L1 pp1 (Int.toNat (((pp1).length : Int) - 0) + 1) 0 pp1 ∧ Int.toNat (((pp1).length : Int) - t10) < r ∧ (0 ≤ t10) ∧ ((out3.length : Int) = pp0) ∧ (t10 ≤ ((pp1).length : Int)) ∧ E a' 23 [(3, .slice b21 ((pp1).length) c22), (9, .int .i64 ((pp1).length : Int)), (10, .int .i64 t10)] ∧ St w w' [.own 2 1 b21 ((pp1).length) c22 out3, .blk b2 #[.int .i64 pp0, .slice pp1A pp1.length pp1C] 27, .rd 1 pp1A pp1.length pp1C pp1]) (r := (Int.toNat (((pp1).length : Int) - 0) + 1)) ?_ ?_
    · exact ⟨0, pp1, rfl, Nat.lt_succ_self _, (by first | omega | (simp only [List.length_replicate, sI_len]; omega) | (simp only [List.length_append, List.length_cons, List.length_nil, sI_len, cond_true, cond_false]; omega) | (simp only [List.length_append, List.length_cons, List.length_nil, sI_len, cond_eq_ite, apply_ite List.length]; split <;> simp only [List.length_append, List.length_cons, List.length_nil, sI_len] <;> omega) | grind), (by first | omega | (simp only [List.length_replicate, sI_len]; omega) | (simp only [List.length_append, List.length_cons, List.length_nil, sI_len, cond_true, cond_false]; omega) | (simp only [List.length_append, List.length_cons, List.length_nil, sI_len, cond_eq_ite, apply_ite List.length]; split <;> simp only [List.length_append, List.length_cons, List.length_nil, sI_len] <;> omega) | grind), (by first | omega | (simp only [List.length_replicate, sI_len]; omega) | (simp only [List.length_append, List.length_cons, List.length_nil, sI_len, cond_true, cond_false]; omega) | (simp only [List.length_append, List.length_cons, List.length_nil, sI_len, cond_eq_ite, apply_ite List.length]; split <;> simp only [List.length_append, List.length_cons, List.length_nil, sI_len] <;> omega) | grind), (hE33.sub (L' := [(3, .slice b21 ((pp1).length) c22), (9, .int .i64 ((pp1).length : Int)), (10, .int .i64 0)]) ⟨rfl, rfl, rfl, trivial⟩), (St.pick (Γ' := [.own 2 1 b21 ((pp1).length) c22 pp1, .blk b2 #[.int .i64 pp0, .slice pp1A pp1.length pp1C] 27, .rd 1 pp1A pp1.length pp1C pp1]) hS19 [0, 1, 2] (by decide) rfl)⟩
    ·
      clear hE33 hS19
      rintro r44 a35 w36 ⟨t10, out3, hT39, hr40, hi41, hi42, hi43, hE37, hS38⟩
      obtain ⟨r44, rfl⟩ : ∃ r', r44 = r' + 1 := ⟨r44 - 1, by omega⟩
      refine c_seq ?_
      refine c_reg ?_
      refine q_step (v := .bool (decide (t10 < ((pp1).length : Int)))) hE37 (y_lss rfl rfl) rfl rfl rfl ?_; intro a45 hE46; clear hE37
      refine c_nil ?_
      have hE47 := hE46.sub (L' := [(3, .slice b21 ((pp1).length) c22), (9, .int .i64 ((pp1).length : Int)), (10, .int .i64 t10), (11, .bool (decide (t10 < ((pp1).length : Int))))]) ⟨rfl, rfl, rfl, rfl, trivial⟩; clear hE46
      refine p_tn ?_
      refine c_seq ?_
      refine c_cond hE47 rfl (fun ht48 => ?_) (fun ht48 => ?_)
      ·
        have hp49 := of_decide_eq_true ht48
        have hE50 := hE47; rw [ht48] at hE50; clear hE47
        refine wp_skip ?_
        refine p_tn ?_
        refine c_seq ?_
        refine wp_block ?_
        refine c_seq ?_
        refine c_reg ?_
        refine q_step (v := .int .i64 t10) hE50 (y_move rfl) rfl rfl rfl ?_; intro a51 hE52; clear hE50
        refine q_step (v := .int .i64 t10) hE52 (y_assign rfl) rfl rfl rfl ?_; intro a53 hE54; clear hE52
        refine c_nil ?_
        have hE55 := hE54.sub (L' := [(3, .slice b21 ((pp1).length) c22), (4, .int .i64 t10), (9, .int .i64 ((pp1).length : Int)), (10, .int .i64 t10)]) ⟨rfl, rfl, rfl, rfl, trivial⟩; clear hE54
        refine p_tn ?_
        refine d_start (fun w w' => (fun w' => w'.cell? (adr b21 (Int.toNat t10)) = some (.int .i64 (gI out3 t10)) ∧ True) w → (fun w' => w'.cell? (adr b21 (Int.toNat t10)) = some (.int .i64 (gI out3 t10)) ∧ True) w') [3] 9 (by kernel_rfl) rfl ?_
        intro w56 he57; have hS58 := St.go hS38 he57; clear hS38
        refine d_pure (fun _ h => h) (v := .slice b21 ((pp1).length) c22) 0 rfl hE55 (y_move rfl) rfl (by kernel_rfl) (by kernel_rfl) (by kernel_rfl) rfl rfl (fun _ _ _ h => h) ?_; intro a59 hE60; clear hE55
        refine d_pure (fun _ h => h) (v := .int .i64 t10) 1 rfl hE60 (y_move rfl) rfl (by kernel_rfl) (by kernel_rfl) (by kernel_rfl) rfl rfl (fun _ _ _ h => h) ?_; intro a61 hE62; clear hE60
        refine d_pure (fun _ h => h) (v := .pointer (some (adr b21 (Int.toNat t10)))) 2 rfl hE62 (y_idx (by kernel_rfl) (fun _ => by kernel_rfl) rfl rfl (RdS.isS (m := t10) (St.rdO (i := 0) hS58 rfl) (by omega) (by omega)) (by omega) (by omega) (Nat.mul_one _).symm) rfl (by kernel_rfl) (by kernel_rfl) (by kernel_rfl) rfl rfl (fun _ _ _ h => h) ?_; intro a63 hE64; clear hE62
        refine d_take (fun _ h => h) (fun _ _ h k => h k) (v := .int .i64 (gI out3 t10)) 3 rfl hE64 (S := fun w' => w'.cell? (adr b21 (Int.toNat t10)) = some (.int .i64 (gI out3 t10)) ∧ True) ⟨(RdS.elt (St.rdO (i := 0) hS58 rfl) (by omega) (by omega) _ (Ext.refl _)), trivial⟩ (y_load (fun _ => by kernel_rfl) rfl (fun _ h => h.1)) rfl rfl (by kernel_rfl) (by kernel_rfl) (by kernel_rfl) (by kernel_rfl) rfl rfl (fun _ _ _ h => h) ?_; intro a65 hE66; clear hE64
        refine d_pure (fun _ h => h) (v := .int .i64 t10) 4 rfl hE66 (y_move rfl) rfl (by kernel_rfl) (by kernel_rfl) (by kernel_rfl) rfl rfl (fun _ _ _ h => h) ?_; intro a67 hE68; clear hE66
        refine d_pure (fun _ h => h) (v := .int .i64 (shlI 1 t10)) 5 rfl hE68 (y_shl rfl rfl (by omega)) rfl (by kernel_rfl) (by kernel_rfl) (by kernel_rfl) rfl rfl (fun _ _ _ h => h) ?_; intro a69 hE70; clear hE68
        refine d_pure (fun _ h => h) (v := .int .i64 (anI (gI out3 t10) (shlI 1 t10))) 6 rfl hE70 (y_andNot rfl rfl) rfl (by kernel_rfl) (by kernel_rfl) (by kernel_rfl) rfl rfl (fun _ _ _ h => h) ?_; intro a71 hE72; clear hE70
        refine d_pure (fun _ h => h) (v := .pointer (some (adr b21 (Int.toNat t10)))) 7 rfl hE72 (y_idx (by kernel_rfl) (fun _ => by kernel_rfl) rfl rfl (RdS.isS (m := t10) (St.rdO (i := 0) hS58 rfl) (by omega) (by omega)) (by omega) (by omega) (Nat.mul_one _).symm) rfl (by kernel_rfl) (by kernel_rfl) (by kernel_rfl) rfl rfl (fun _ _ _ h => h) ?_; intro a73 hE74; clear hE72
        refine d_only 8 (by kernel_rfl) rfl hE74 rfl (l_store (k := 0) hS58 hE74 (fun _ => by kernel_rfl) rfl rfl rfl (by omega) (by omega) ?_)
        intro w76 hS79 a77 hE78; clear hS58 hE74
        refine ⟨fun h => Bool.noConfusion (h.symm.trans (show exm _ _ _ = true by kernel_rfl)), ?_⟩
        refine d_done (by kernel_rfl) ?_
        have hE81 := hE78.sub (L' := [(3, .slice b21 ((pp1).length) c22), (9, .int .i64 ((pp1).length : Int)), (10, .int .i64 t10)]) ⟨rfl, rfl, rfl, trivial⟩; clear hE78
        refine p_bn ?_
        refine p_tn ?_
        refine c_reg ?_
        refine q_step (v := .int .i64 (t10 + 1)) hE81 (y_add rfl rfl ⟨(by omega), (by omega)⟩) rfl rfl rfl ?_; intro a82 hE83; clear hE81
        refine q_step (v := .int .i64 (t10 + 1)) hE83 (y_move rfl) rfl rfl rfl ?_; intro a84 hE85; clear hE83
        refine c_nil ?_
        have hE86 := hE85.sub (L' := [(3, .slice b21 ((pp1).length) c22), (9, .int .i64 ((pp1).length : Int)), (10, .int .i64 (t10 + 1))]) ⟨rfl, rfl, rfl, trivial⟩; clear hE85
        refine p_tn ⟨r44, Nat.lt_succ_self _, t10 + 1, sI out3 t10 (anI (gI out3 t10) (shlI 1 t10)), (hT39.symm.trans (show F_Poset_strictly_L1b pp1 (F_Poset_strictly_L1 pp1 r44) t10 out3 = F_Poset_strictly_L1 pp1 r44 (t10 + 1) (sI out3 t10 (anI (gI out3 t10) (shlI 1 t10))) by unfold F_Poset_strictly_L1b; rw [ht48]; first | done | rfl)).symm, (by omega), (by first | omega | (simp only [List.length_replicate, sI_len]; omega) | (simp only [List.length_append, List.length_cons, List.length_nil, sI_len, cond_true, cond_false]; omega) | (simp only [List.length_append, List.length_cons, List.length_nil, sI_len, cond_eq_ite, apply_ite List.length]; split <;> simp only [List.length_append, List.length_cons, List.length_nil, sI_len] <;> omega) | grind), (by first | omega | (simp only [List.length_replicate, sI_len]; omega) | (simp only [List.length_append, List.length_cons, List.length_nil, sI_len, cond_true, cond_false]; omega) | (simp only [List.length_append, List.length_cons, List.length_nil, sI_len, cond_eq_ite, apply_ite List.length]; split <;> simp only [List.length_append, List.length_cons, List.length_nil, sI_len] <;> omega) | grind), (by first | omega | (simp only [List.length_replicate, sI_len]; omega) | (simp only [List.length_append, List.length_cons, List.length_nil, sI_len, cond_true, cond_false]; omega) | (simp only [List.length_append, List.length_cons, List.length_nil, sI_len, cond_eq_ite, apply_ite List.length]; split <;> simp only [List.length_append, List.length_cons, List.length_nil, sI_len] <;> omega) | grind), (hE86.sub (L' := [(3, .slice b21 ((pp1).length) c22), (9, .int .i64 ((pp1).length : Int)), (10, .int .i64 (t10 + 1))]) ⟨rfl, rfl, rfl, trivial⟩), (St.pick (Γ' := [.own 2 1 b21 ((pp1).length) c22 (sI out3 t10 (anI (gI out3 t10) (shlI 1 t10))), .blk b2 #[.int .i64 pp0, .slice pp1A pp1.length pp1C] 27, .rd 1 pp1A pp1.length pp1C pp1]) hS79 [0, 1, 2] (by decide) rfl)⟩
      ·
        have hp87 := of_decide_eq_false ht48
        have hE88 := hE47; rw [ht48] at hE88; clear hE47
        refine wp_exit ?_
        refine p_te ?_
        have hX89 : F_Poset_strictly_L1 pp1 (Int.toNat (((pp1).length : Int) - 0) + 1) 0 pp1 = (t10, out3) := hT39.symm.trans (show F_Poset_strictly_L1b pp1 (F_Poset_strictly_L1 pp1 r44) t10 out3 = (t10, out3) by unfold F_Poset_strictly_L1b; rw [ht48]; first | done | rfl)
        refine p_te (p_be (p_tn ?_))
        exact ⟨(by rw [hX89]; exact (show 0 ≤ t10 from (by first | omega | (simp only [List.length_replicate, sI_len]; omega) | (simp only [List.length_append, List.length_cons, List.length_nil, sI_len, cond_true, cond_false]; omega) | (simp only [List.length_append, List.length_cons, List.length_nil, sI_len, cond_eq_ite, apply_ite List.length]; split <;> simp only [List.length_append, List.length_cons, List.length_nil, sI_len] <;> omega) | grind))), (by rw [hX89]; exact (show (out3.length : Int) = pp0 from (by first | omega | (simp only [List.length_replicate, sI_len]; omega) | (simp only [List.length_append, List.length_cons, List.length_nil, sI_len, cond_true, cond_false]; omega) | (simp only [List.length_append, List.length_cons, List.length_nil, sI_len, cond_eq_ite, apply_ite List.length]; split <;> simp only [List.length_append, List.length_cons, List.length_nil, sI_len] <;> omega) | grind))), (by rw [hX89]; exact (show t10 ≤ ((pp1).length : Int) from (by first | omega | (simp only [List.length_replicate, sI_len]; omega) | (simp only [List.length_append, List.length_cons, List.length_nil, sI_len, cond_true, cond_false]; omega) | (simp only [List.length_append, List.length_cons, List.length_nil, sI_len, cond_eq_ite, apply_ite List.length]; split <;> simp only [List.length_append, List.length_cons, List.length_nil, sI_len] <;> omega) | grind))), (by rw [hX89]; exact (hE88.sub (L' := [(3, .slice b21 ((pp1).length) c22), (9, .int .i64 ((pp1).length : Int)), (10, .int .i64 t10)]) ⟨rfl, rfl, rfl, trivial⟩)), (by rw [hX89]; exact (St.pick (Γ' := [.own 2 1 b21 ((pp1).length) c22 out3, .blk b2 #[.int .i64 pp0, .slice pp1A pp1.length pp1C] 27, .rd 1 pp1A pp1.length pp1C pp1]) hS38 [0, 1, 2] (by decide) rfl))⟩
  ·
    rintro a90 w91 ⟨hi95, hi96, hi97, hE92, hS93⟩; clear hE33 hS19
    refine p_tn ?_
    refine c_seq ?_
    refine c_reg ?_
    refine q_step (v := .slice b21 ((pp1).length) c22) hE92 (y_move rfl) rfl rfl rfl ?_; intro a98 hE99; clear hE92
    refine q_step (v := .slice b21 ((pp1).length) c22) hE99 (y_assign rfl) rfl rfl rfl ?_; intro a100 hE101; clear hE99
    refine c_nil ?_
    have hE102 := hE101.sub (L' := [(2, .slice b21 ((pp1).length) c22)]) ⟨rfl, trivial⟩; clear hE101
    refine p_tn ?_
    refine wp_ret ?_
    have hF : F_Poset_strictly pp0 pp1 = (F_Poset_strictly_L1 pp1 (Int.toNat (((pp1).length : Int) - 0) + 1) 0 pp1).2 := by unfold F_Poset_strictly; rfl
    refine c_ret1 hE102 rfl rfl ?_
    exact ⟨b21, c22, (by rw [hF]; first | rfl | (rw [(St.rdO (i := 0) hS93 rfl).len1])), (by rw [hF, (St.rdO (i := 0) hS93 rfl).len1]; exact hS93.ok 0 _ rfl), hS93.ext⟩

theorem strictly_rows (p0 : Int) (p1 : List Int) : ((F_Poset_strictly p0 p1).length : Int) = (p1.length : Int) ∧ ∀ j : Nat, (j : Int) < (p1.length : Int) → gI (F_Poset_strictly p0 p1) j = anI (gI p1 j) (shlI 1 (j : Int)) := by
  have h := mapLoop (p1.length : Int) (fun t o => anI o (shlI 1 t)) (F_Poset_strictly_L1 p1) (fun _ _ _ _ _ => rfl) p1 rfl
  exact h
theorem strictly_len (p0 : Int) (p1 : List Int) : (F_Poset_strictly p0 p1).length = p1.length := Int.ofNat.inj (strictly_rows p0 p1).1
theorem strictly_m {p0 : Int} {p1 : List Int} (h8 : 0 ≤ p0 ∧ p0 ≤ 8) (hl : (p1.length : Int) = p0) (hm : ∀ m : Int, 0 ≤ m → m < (p1.length : Int) → 0 ≤ gI p1 m ∧ gI p1 m ≤ fullI p0) {m : Int} (h0 : 0 ≤ m) (h1 : m < p0) : 0 ≤ gI (F_Poset_strictly p0 p1) m ∧ gI (F_Poset_strictly p0 p1) m ≤ fullI p0 ∧ gI (F_Poset_strictly p0 p1) m < 4611686018427387904 := by
  obtain ⟨j, rfl⟩ := Int.eq_ofNat_of_zero_le h0
  rw [(strictly_rows p0 p1).2 j (by omega), pow_shl (by omega) (by omega)]
  have a := hm j h0 (by omega)
  have f := fullI_bd (n := p0) (by omega) (by omega)
  have p := pow_full (v := (j : Int)) (n := p0) (by omega) (by omega) (by omega)
  have b := anI_le (m := gI p1 j) (k := powI j) a.1 (by omega) (by omega) (by omega)
  exact ⟨b.1, by omega, by omega⟩

def F_Poset_covers_L1b (pp0 : Int) (pp1 : List Int) (rec : Int → (List Int) → Int × (List Int)) (t13 : Int) (out4 : List Int) : Int × (List Int) :=
  bif (decide (t13 < ((F_Poset_strictly pp0 pp1).length : Int))) then (rec (t13 + 1) (sI out4 t13 (anI (gI out4 t13) (F_image (F_Poset_strictly pp0 pp1) (gI (F_Poset_strictly pp0 pp1) t13))))) else (t13, out4)
def F_Poset_covers_L1 (pp0 : Int) (pp1 : List Int) : Nat → Int → (List Int) → Int × (List Int)
  | 0, t13, out4 => (t13, out4)
  | r + 1, t13, out4 => F_Poset_covers_L1b pp0 pp1 (F_Poset_covers_L1 pp0 pp1 r) t13 out4
def F_Poset_covers (pp0 : Int) (pp1 : List Int) : List Int :=
  (F_Poset_covers_L1 pp0 pp1 (Int.toNat (((F_Poset_strictly pp0 pp1).length : Int) - 0) + 1) 0 (F_Poset_strictly pp0 pp1)).2
theorem cf_Poset_covers (args : Array Value) (w : World) : (callFunc 70 args).run Try.prog w = .ok (.enter 70 args) w := by kernel_rfl
set_option maxRecDepth 100000 in
theorem c_Poset_covers (pp0 : Int) (pp1A : Option Addr) (pp1N pp1C : Nat) (pp1 : List Int) (w : World) (pp1R : RdS w 1 pp1A pp1N pp1C pp1) (h8pp : 0 ≤ pp0 ∧ pp0 ≤ 8) (hlpp : (pp1.length : Int) = pp0) (hmpp : ∀ m : Int, 0 ≤ m → m < (pp1.length : Int) → 0 ≤ gI pp1 m ∧ gI pp1 m ≤ fullI pp0) :
    Calls Try.prog 70 #[.agg #[.int .i64 pp0, .slice pp1A pp1N pp1C]] w (Ret fun v w' => ∃ b1 : Option Addr, ∃ c1 : Nat, v = .slice b1 (F_Poset_covers pp0 pp1).length c1 ∧ OwnS w' w.heap.size 2 1 b1 (F_Poset_covers pp0 pp1).length c1 (F_Poset_covers pp0 pp1) ∧ Ext w w') := by
  obtain rfl : pp1N = pp1.length := pp1R.len1.symm
  have pp1Le := pp1R.le
  have hS := St.nil w
  have hS1 := St.rd0 hS rfl pp1R; clear hS
  refine enter (args := [.agg #[.int .i64 pp0, .slice pp1A pp1.length pp1C]]) Try.func70 rfl rfl ?_
  rw [Try.ntmps70]; intro a hE
  have hE := hE.sub (L' := [(0, .agg #[.int .i64 pp0, .slice pp1A pp1.length pp1C])]) ⟨rfl, trivial⟩
  refine c_seq ?_
  refine c_reg ?_
  refine l_step hE rfl (l_box (v := .agg #[.int .i64 pp0, .slice pp1A pp1.length pp1C]) (cs := #[.int .i64 pp0, .slice pp1A pp1.length pp1C]) hS1 hE rfl rfl rfl ?_)
  intro b2 w3 hS6 he7 a4 hE5; clear hS1 hE
  refine q_step (v := .slice none 0 0) hE5 (y_assign rfl) rfl rfl rfl ?_; intro a8 hE9; clear hE5
  refine c_nil ?_
  have hE10 := hE9.sub (L' := [(1, .pointer (some ⟨b2, 0, none⟩))]) ⟨rfl, trivial⟩; clear hE9
  refine p_tn ?_
  refine c_seq ?_
  refine c_reg ?_
  refine q_step (v := .agg #[.int .i64 pp0, .slice pp1A pp1.length pp1C]) hE10 (y_loadS Try.underlying27 rfl (by kernel_rfl) rfl (St.row (i := 0) hS6 rfl)) rfl rfl rfl ?_; intro a11 hE12; clear hE10
  refine l_step hE12 rfl (l_call (f := 99) (argv := [.agg #[.int .i64 pp0, .slice pp1A pp1.length pp1C]]) hE12 (fun _ => cf_Poset_strictly _ _) rfl rfl (c_Poset_strictly pp0 pp1A pp1.length pp1C pp1 w3 (St.rdR (i := 1) hS6 rfl) (by omega) (by omega) (by omega)) ?_)
  rintro _ w14 ⟨b19, c20, rfl, ho21, he18⟩ a15 hE16; clear hE12
  have hf22 := strictly_len pp0 pp1
  have hS17 := St.own hS6 he18 ho21; clear hS6
  refine q_step (v := .slice b19 ((F_Poset_strictly pp0 pp1).length) c20) hE16 (y_assign rfl) rfl rfl rfl ?_; intro a23 hE24; clear hE16
  refine c_nil ?_
  have hE25 := hE24.sub (L' := [(3, .slice b19 ((F_Poset_strictly pp0 pp1).length) c20)]) ⟨rfl, trivial⟩; clear hE24
  refine p_tn ?_
  refine c_seq ?_
  refine c_reg ?_
  refine q_step (v := .slice b19 ((F_Poset_strictly pp0 pp1).length) c20) hE25 (y_move rfl) rfl rfl rfl ?_; intro a26 hE27; clear hE25
  refine l_step hE27 rfl (l_call (f := 100) (argv := [.slice b19 ((F_Poset_strictly pp0 pp1).length) c20]) hE27 (fun _ => cf_z_CloneS _ _) rfl rfl (c_z_Clone b19 ((F_Poset_strictly pp0 pp1).length) c20 (F_Poset_strictly pp0 pp1) w14 (St.rdO (i := 0) hS17 rfl) (by omega)) ?_)
  rintro _ w29 ⟨b34, c35, rfl, ho36, he33⟩ a30 hE31; clear hE27
  have hS32 := St.own hS17 he33 ho36; clear hS17
  refine q_step (v := .slice b34 (((F_Poset_strictly pp0 pp1)).length) c35) hE31 (y_assign rfl) rfl rfl rfl ?_; intro a37 hE38; clear hE31
  refine c_nil ?_
  have hE39 := hE38.sub (L' := [(3, .slice b19 ((F_Poset_strictly pp0 pp1).length) c20), (4, .slice b34 (((F_Poset_strictly pp0 pp1)).length) c35)]) ⟨rfl, rfl, trivial⟩; clear hE38
  refine p_tn ?_
  refine c_seq ?_
  refine c_seq ?_
  refine c_reg ?_
  refine q_step (v := .slice b19 ((F_Poset_strictly pp0 pp1).length) c20) hE39 (y_move rfl) rfl rfl rfl ?_; intro a40 hE41; clear hE39
  refine q_step (v := .int .i64 ((F_Poset_strictly pp0 pp1).length : Int)) hE41 (y_len (e := 2) (by kernel_rfl) rfl) rfl rfl rfl ?_; intro a42 hE43; clear hE41
  refine q_step (v := .int .i64 0) hE43 (y_move rfl) rfl rfl rfl ?_; intro a44 hE45; clear hE43
  refine c_nil ?_
  have hE46 := hE45.sub (L' := [(3, .slice b19 ((F_Poset_strictly pp0 pp1).length) c20), (4, .slice b34 (((F_Poset_strictly pp0 pp1)).length) c35), (11, .slice b19 ((F_Poset_strictly pp0 pp1).length) c20), (12, .int .i64 ((F_Poset_strictly pp0 pp1).length : Int)), (13, .int .i64 0)]) ⟨rfl, rfl, rfl, rfl, rfl, trivial⟩; clear hE45
  refine p_tn ?_
  refine c_cut1 (fun a' w' => (0 ≤ ((F_Poset_covers_L1 pp0 pp1 (Int.toNat (((F_Poset_strictly pp0 pp1).length : Int) - 0) + 1) 0 (F_Poset_strictly pp0 pp1)).1)) ∧ ((((F_Poset_covers_L1 pp0 pp1 (Int.toNat (((F_Poset_strictly pp0 pp1).length : Int) - 0) + 1) 0 (F_Poset_strictly pp0 pp1)).2).length : Int) = pp0) ∧ (((F_Poset_covers_L1 pp0 pp1 (Int.toNat (((F_Poset_strictly pp0 pp1).length : Int) - 0) + 1) 0 (F_Poset_strictly pp0 pp1)).1) ≤ ((F_Poset_strictly pp0 pp1).length : Int)) ∧ E a' 29 [(3, .slice b19 ((F_Poset_strictly pp0 pp1).length) c20), (4, .slice b34 (((F_Poset_strictly pp0 pp1)).length) c35), (11, .slice b19 ((F_Poset_strictly pp0 pp1).length) c20), (12, .int .i64 ((F_Poset_strictly pp0 pp1).length : Int)), (13, .int .i64 ((F_Poset_covers_L1 pp0 pp1 (Int.toNat (((F_Poset_strictly pp0 pp1).length : Int) - 0) + 1) 0 (F_Poset_strictly pp0 pp1)).1))] ∧ St w w' [.own 2 1 b34 (((F_Poset_strictly pp0 pp1)).length) c35 ((F_Poset_covers_L1 pp0 pp1 (Int.toNat (((F_Poset_strictly pp0 pp1).length : Int) - 0) + 1) 0 (F_Poset_strictly pp0 pp1)).2), .own 2 1 b19 ((F_Poset_strictly pp0 pp1).length) c20 (F_Poset_strictly pp0 pp1), .blk b2 #[.int .i64 pp0, .slice pp1A pp1.length pp1C] 27, .rd 1 pp1A pp1.length pp1C pp1]) ?_ ?_
  ·
    refine wp_block ?_
    refine c_loop (fun r a' w' => ∃ t13 : Int, ∃ out4 : List Int, F_Poset_covers_L1 pp0 pp1 r t13 out4 = F_Poset_covers_L1 pp0 pp1 (Int.toNat (((F_Poset_strictly pp0 pp1).length : Int) - 0) + 1) 0 (F_Poset_strictly pp0 pp1) ∧ Int.toNat (((F_Poset_strictly pp0 pp1).length : Int) - t13) < r ∧ (0 ≤ t13) ∧ ((out4.length : Int) = pp0) ∧ (t13 ≤ ((F_Poset_strictly pp0 pp1).length : Int)) ∧ E a' 29 [(3, .slice b19 ((F_Poset_strictly pp0 pp1).length) c20), (4, .slice b34 (((F_Poset_strictly pp0 pp1)).length) c35), (11, .slice b19 ((F_Poset_strictly pp0 pp1).length) c20), (12, .int .i64 ((F_Poset_strictly pp0 pp1).length : Int)), (13, .int .i64 t13)] ∧ St w w' [.own 2 1 b34 (((F_Poset_strictly pp0 pp1)).length) c35 out4, .own 2 1 b19 ((F_Poset_strictly pp0 pp1).length) c20 (F_Poset_strictly pp0 pp1), .blk b2 #[.int .i64 pp0, .slice pp1A pp1.length pp1C] 27, .rd 1 pp1A pp1.length pp1C pp1]) (r := (Int.toNat (((F_Poset_strictly pp0 pp1).length : Int) - 0) + 1)) ?_ ?_
    · exact ⟨0, (F_Poset_strictly pp0 pp1), rfl, Nat.lt_succ_self _, (by first | omega | (simp only [List.length_replicate, sI_len]; omega) | (simp only [List.length_append, List.length_cons, List.length_nil, sI_len, cond_true, cond_false]; omega) | (simp only [List.length_append, List.length_cons, List.length_nil, sI_len, cond_eq_ite, apply_ite List.length]; split <;> simp only [List.length_append, List.length_cons, List.length_nil, sI_len] <;> omega) | grind), (by first | omega | (simp only [List.length_replicate, sI_len]; omega) | (simp only [List.length_append, List.length_cons, List.length_nil, sI_len, cond_true, cond_false]; omega) | (simp only [List.length_append, List.length_cons, List.length_nil, sI_len, cond_eq_ite, apply_ite List.length]; split <;> simp only [List.length_append, List.length_cons, List.length_nil, sI_len] <;> omega) | grind), (by first | omega | (simp only [List.length_replicate, sI_len]; omega) | (simp only [List.length_append, List.length_cons, List.length_nil, sI_len, cond_true, cond_false]; omega) | (simp only [List.length_append, List.length_cons, List.length_nil, sI_len, cond_eq_ite, apply_ite List.length]; split <;> simp only [List.length_append, List.length_cons, List.length_nil, sI_len] <;> omega) | grind), (hE46.sub (L' := [(3, .slice b19 ((F_Poset_strictly pp0 pp1).length) c20), (4, .slice b34 (((F_Poset_strictly pp0 pp1)).length) c35), (11, .slice b19 ((F_Poset_strictly pp0 pp1).length) c20), (12, .int .i64 ((F_Poset_strictly pp0 pp1).length : Int)), (13, .int .i64 0)]) ⟨rfl, rfl, rfl, rfl, rfl, trivial⟩), (St.pick (Γ' := [.own 2 1 b34 (((F_Poset_strictly pp0 pp1)).length) c35 (F_Poset_strictly pp0 pp1), .own 2 1 b19 ((F_Poset_strictly pp0 pp1).length) c20 (F_Poset_strictly pp0 pp1), .blk b2 #[.int .i64 pp0, .slice pp1A pp1.length pp1C] 27, .rd 1 pp1A pp1.length pp1C pp1]) hS32 [0, 1, 2, 3] (by decide) rfl)⟩
    ·
      clear hE46 hS32
      rintro r57 a48 w49 ⟨t13, out4, hT52, hr53, hi54, hi55, hi56, hE50, hS51⟩
      obtain ⟨r57, rfl⟩ : ∃ r', r57 = r' + 1 := ⟨r57 - 1, by omega⟩
      refine c_seq ?_
      refine c_reg ?_
      refine q_step (v := .bool (decide (t13 < ((F_Poset_strictly pp0 pp1).length : Int)))) hE50 (y_lss rfl rfl) rfl rfl rfl ?_; intro a58 hE59; clear hE50
      refine c_nil ?_
      have hE60 := hE59.sub (L' := [(3, .slice b19 ((F_Poset_strictly pp0 pp1).length) c20), (4, .slice b34 (((F_Poset_strictly pp0 pp1)).length) c35), (11, .slice b19 ((F_Poset_strictly pp0 pp1).length) c20), (12, .int .i64 ((F_Poset_strictly pp0 pp1).length : Int)), (13, .int .i64 t13), (14, .bool (decide (t13 < ((F_Poset_strictly pp0 pp1).length : Int))))]) ⟨rfl, rfl, rfl, rfl, rfl, rfl, trivial⟩; clear hE59
      refine p_tn ?_
      refine c_seq ?_
      refine c_cond hE60 rfl (fun ht61 => ?_) (fun ht61 => ?_)
      ·
        have hp62 := of_decide_eq_true ht61
        have hE63 := hE60; rw [ht61] at hE63; clear hE60
        refine wp_skip ?_
        refine p_tn ?_
        refine c_seq ?_
        refine wp_block ?_
        refine c_seq ?_
        refine c_reg ?_
        refine q_step (v := .int .i64 t13) hE63 (y_move rfl) rfl rfl rfl ?_; intro a64 hE65; clear hE63
        refine q_step (v := .pointer (some (adr b19 (Int.toNat t13)))) hE65 (y_idx (by kernel_rfl) (fun _ => by kernel_rfl) rfl rfl (RdS.isS (m := t13) (St.rdO (i := 1) hS51 rfl) (by omega) (by omega)) (by omega) (by omega) (Nat.mul_one _).symm) rfl rfl rfl ?_; intro a66 hE67; clear hE65
        refine q_step (v := .int .i64 (gI (F_Poset_strictly pp0 pp1) t13)) hE67 (y_load (fun _ => by kernel_rfl) rfl (RdS.elt (St.rdO (i := 1) hS51 rfl) (by omega) (by omega))) rfl rfl rfl ?_; intro a68 hE69; clear hE67
        refine q_step (v := .int .i64 t13) hE69 (y_assign rfl) rfl rfl rfl ?_; intro a70 hE71; clear hE69
        refine q_step (v := .int .i64 (gI (F_Poset_strictly pp0 pp1) t13)) hE71 (y_assign rfl) rfl rfl rfl ?_; intro a72 hE73; clear hE71
        refine c_nil ?_
        have hE74 := hE73.sub (L' := [(3, .slice b19 ((F_Poset_strictly pp0 pp1).length) c20), (4, .slice b34 (((F_Poset_strictly pp0 pp1)).length) c35), (5, .int .i64 t13), (6, .int .i64 (gI (F_Poset_strictly pp0 pp1) t13)), (11, .slice b19 ((F_Poset_strictly pp0 pp1).length) c20), (12, .int .i64 ((F_Poset_strictly pp0 pp1).length : Int)), (13, .int .i64 t13)]) ⟨rfl, rfl, rfl, rfl, rfl, rfl, rfl, trivial⟩; clear hE73
        refine p_tn ?_
        refine d_start (fun w w' => (fun w' => w'.cell? (adr b34 (Int.toNat t13)) = some (.int .i64 (gI out4 t13)) ∧ True) w → (fun w' => w'.cell? (adr b34 (Int.toNat t13)) = some (.int .i64 (gI out4 t13)) ∧ True) w') [3] 10 (by kernel_rfl) rfl ?_
        intro w75 he76; have hS77 := St.go hS51 he76; clear hS51
        refine d_pure (fun _ h => h) (v := .slice b34 (((F_Poset_strictly pp0 pp1)).length) c35) 0 rfl hE74 (y_move rfl) rfl (by kernel_rfl) (by kernel_rfl) (by kernel_rfl) rfl rfl (fun _ _ _ h => h) ?_; intro a78 hE79; clear hE74
        refine d_pure (fun _ h => h) (v := .int .i64 t13) 1 rfl hE79 (y_move rfl) rfl (by kernel_rfl) (by kernel_rfl) (by kernel_rfl) rfl rfl (fun _ _ _ h => h) ?_; intro a80 hE81; clear hE79
        refine d_pure (fun _ h => h) (v := .pointer (some (adr b34 (Int.toNat t13)))) 2 rfl hE81 (y_idx (by kernel_rfl) (fun _ => by kernel_rfl) rfl rfl (RdS.isS (m := t13) (St.rdO (i := 0) hS77 rfl) (by omega) (by omega)) (by omega) (by omega) (Nat.mul_one _).symm) rfl (by kernel_rfl) (by kernel_rfl) (by kernel_rfl) rfl rfl (fun _ _ _ h => h) ?_; intro a82 hE83; clear hE81
        refine d_take (fun _ h => h) (fun _ _ h k => h k) (v := .int .i64 (gI out4 t13)) 3 rfl hE83 (S := fun w' => w'.cell? (adr b34 (Int.toNat t13)) = some (.int .i64 (gI out4 t13)) ∧ True) ⟨(RdS.elt (St.rdO (i := 0) hS77 rfl) (by omega) (by omega) _ (Ext.refl _)), trivial⟩ (y_load (fun _ => by kernel_rfl) rfl (fun _ h => h.1)) rfl rfl (by kernel_rfl) (by kernel_rfl) (by kernel_rfl) (by kernel_rfl) rfl rfl (fun _ _ _ h => h) ?_; intro a84 hE85; clear hE83
        refine d_pure (fun _ h => h) (v := .slice b19 ((F_Poset_strictly pp0 pp1).length) c20) 4 rfl hE85 (y_move rfl) rfl (by kernel_rfl) (by kernel_rfl) (by kernel_rfl) rfl rfl (fun _ _ _ h => h) ?_; intro a86 hE87; clear hE85
        refine d_pure (fun _ h => h) (v := .int .i64 (gI (F_Poset_strictly pp0 pp1) t13)) 5 rfl hE87 (y_move rfl) rfl (by kernel_rfl) (by kernel_rfl) (by kernel_rfl) rfl rfl (fun _ _ _ h => h) ?_; intro a88 hE89; clear hE87
        refine d_only 6 (by kernel_rfl) rfl hE89 rfl (l_call (f := 57) (argv := [.slice b19 ((F_Poset_strictly pp0 pp1).length) c20, .int .i64 (gI (F_Poset_strictly pp0 pp1) t13)]) hE89 (fun _ => cf_image _ _) rfl rfl (c_image b19 ((F_Poset_strictly pp0 pp1).length) c20 (F_Poset_strictly pp0 pp1) (gI (F_Poset_strictly pp0 pp1) t13) w75 (St.rdO (i := 1) hS77 rfl) (by omega) (strictly_m h8pp hlpp hmpp (by omega) (by omega)).1 (by rw [strictly_len, hlpp]; exact (strictly_m h8pp hlpp hmpp (by omega) (by omega)).2.1) (strictly_m h8pp hlpp hmpp (by omega) (by omega)).2.2) ?_)
        rintro _ w91 ⟨rfl, he95⟩ a92 hE93; clear hE89
        have hS94 := St.go hS77 he95; clear hS77
        refine ⟨fun _ _ => ⟨(RdS.elt (St.rdO (i := 0) hS94 rfl) (by omega) (by omega) _ (Ext.refl _)), trivial⟩, ?_⟩
        refine d_pure (fun _ h => h) (v := .int .i64 (anI (gI out4 t13) (F_image (F_Poset_strictly pp0 pp1) (gI (F_Poset_strictly pp0 pp1) t13)))) 7 rfl hE93 (y_andNot rfl rfl) rfl (by kernel_rfl) (by kernel_rfl) (by kernel_rfl) rfl rfl (fun _ _ _ h => h) ?_; intro a96 hE97; clear hE93
        refine d_pure (fun _ h => h) (v := .pointer (some (adr b34 (Int.toNat t13)))) 8 rfl hE97 (y_idx (by kernel_rfl) (fun _ => by kernel_rfl) rfl rfl (RdS.isS (m := t13) (St.rdO (i := 0) hS94 rfl) (by omega) (by omega)) (by omega) (by omega) (Nat.mul_one _).symm) rfl (by kernel_rfl) (by kernel_rfl) (by kernel_rfl) rfl rfl (fun _ _ _ h => h) ?_; intro a98 hE99; clear hE97
        refine d_only 9 (by kernel_rfl) rfl hE99 rfl (l_store (k := 0) hS94 hE99 (fun _ => by kernel_rfl) rfl rfl rfl (by omega) (by omega) ?_)
        intro w101 hS104 a102 hE103; clear hS94 hE99
        refine ⟨fun h => Bool.noConfusion (h.symm.trans (show exm _ _ _ = true by kernel_rfl)), ?_⟩
        refine d_done (by kernel_rfl) ?_
        have hE106 := hE103.sub (L' := [(3, .slice b19 ((F_Poset_strictly pp0 pp1).length) c20), (4, .slice b34 (((F_Poset_strictly pp0 pp1)).length) c35), (11, .slice b19 ((F_Poset_strictly pp0 pp1).length) c20), (12, .int .i64 ((F_Poset_strictly pp0 pp1).length : Int)), (13, .int .i64 t13)]) ⟨rfl, rfl, rfl, rfl, rfl, trivial⟩; clear hE103
        refine p_bn ?_
        refine p_tn ?_
        refine c_reg ?_
        refine q_step (v := .int .i64 (t13 + 1)) hE106 (y_add rfl rfl ⟨(by omega), (by omega)⟩) rfl rfl rfl ?_; intro a107 hE108; clear hE106
        refine q_step (v := .int .i64 (t13 + 1)) hE108 (y_move rfl) rfl rfl rfl ?_; intro a109 hE110; clear hE108
        refine c_nil ?_
        have hE111 := hE110.sub (L' := [(3, .slice b19 ((F_Poset_strictly pp0 pp1).length) c20), (4, .slice b34 (((F_Poset_strictly pp0 pp1)).length) c35), (11, .slice b19 ((F_Poset_strictly pp0 pp1).length) c20), (12, .int .i64 ((F_Poset_strictly pp0 pp1).length : Int)), (13, .int .i64 (t13 + 1))]) ⟨rfl, rfl, rfl, rfl, rfl, trivial⟩; clear hE110
        refine p_tn ⟨r57, Nat.lt_succ_self _, t13 + 1, sI out4 t13 (anI (gI out4 t13) (F_image (F_Poset_strictly pp0 pp1) (gI (F_Poset_strictly pp0 pp1) t13))), (hT52.symm.trans (show F_Poset_covers_L1b pp0 pp1 (F_Poset_covers_L1 pp0 pp1 r57) t13 out4 = F_Poset_covers_L1 pp0 pp1 r57 (t13 + 1) (sI out4 t13 (anI (gI out4 t13) (F_image (F_Poset_strictly pp0 pp1) (gI (F_Poset_strictly pp0 pp1) t13)))) by unfold F_Poset_covers_L1b; rw [ht61]; first | done | rfl)).symm, (by omega), (by first | omega | (simp only [List.length_replicate, sI_len]; omega) | (simp only [List.length_append, List.length_cons, List.length_nil, sI_len, cond_true, cond_false]; omega) | (simp only [List.length_append, List.length_cons, List.length_nil, sI_len, cond_eq_ite, apply_ite List.length]; split <;> simp only [List.length_append, List.length_cons, List.length_nil, sI_len] <;> omega) | grind), (by first | omega | (simp only [List.length_replicate, sI_len]; omega) | (simp only [List.length_append, List.length_cons, List.length_nil, sI_len, cond_true, cond_false]; omega) | (simp only [List.length_append, List.length_cons, List.length_nil, sI_len, cond_eq_ite, apply_ite List.length]; split <;> simp only [List.length_append, List.length_cons, List.length_nil, sI_len] <;> omega) | grind), (by first | omega | (simp only [List.length_replicate, sI_len]; omega) | (simp only [List.length_append, List.length_cons, List.length_nil, sI_len, cond_true, cond_false]; omega) | (simp only [List.length_append, List.length_cons, List.length_nil, sI_len, cond_eq_ite, apply_ite List.length]; split <;> simp only [List.length_append, List.length_cons, List.length_nil, sI_len] <;> omega) | grind), (hE111.sub (L' := [(3, .slice b19 ((F_Poset_strictly pp0 pp1).length) c20), (4, .slice b34 (((F_Poset_strictly pp0 pp1)).length) c35), (11, .slice b19 ((F_Poset_strictly pp0 pp1).length) c20), (12, .int .i64 ((F_Poset_strictly pp0 pp1).length : Int)), (13, .int .i64 (t13 + 1))]) ⟨rfl, rfl, rfl, rfl, rfl, trivial⟩), (St.pick (Γ' := [.own 2 1 b34 (((F_Poset_strictly pp0 pp1)).length) c35 (sI out4 t13 (anI (gI out4 t13) (F_image (F_Poset_strictly pp0 pp1) (gI (F_Poset_strictly pp0 pp1) t13)))), .own 2 1 b19 ((F_Poset_strictly pp0 pp1).length) c20 (F_Poset_strictly pp0 pp1), .blk b2 #[.int .i64 pp0, .slice pp1A pp1.length pp1C] 27, .rd 1 pp1A pp1.length pp1C pp1]) hS104 [0, 1, 2, 3] (by decide) rfl)⟩
      ·
        have hp112 := of_decide_eq_false ht61
        have hE113 := hE60; rw [ht61] at hE113; clear hE60
        refine wp_exit ?_
        refine p_te ?_
        have hX114 : F_Poset_covers_L1 pp0 pp1 (Int.toNat (((F_Poset_strictly pp0 pp1).length : Int) - 0) + 1) 0 (F_Poset_strictly pp0 pp1) = (t13, out4) := hT52.symm.trans (show F_Poset_covers_L1b pp0 pp1 (F_Poset_covers_L1 pp0 pp1 r57) t13 out4 = (t13, out4) by unfold F_Poset_covers_L1b; rw [ht61]; first | done | rfl)
        refine p_te (p_be (p_tn ?_))
        exact ⟨(by rw [hX114]; exact (show 0 ≤ t13 from (by first | omega | (simp only [List.length_replicate, sI_len]; omega) | (simp only [List.length_append, List.length_cons, List.length_nil, sI_len, cond_true, cond_false]; omega) | (simp only [List.length_append, List.length_cons, List.length_nil, sI_len, cond_eq_ite, apply_ite List.length]; split <;> simp only [List.length_append, List.length_cons, List.length_nil, sI_len] <;> omega) | grind))), (by rw [hX114]; exact (show (out4.length : Int) = pp0 from (by first | omega | (simp only [List.length_replicate, sI_len]; omega) | (simp only [List.length_append, List.length_cons, List.length_nil, sI_len, cond_true, cond_false]; omega) | (simp only [List.length_append, List.length_cons, List.length_nil, sI_len, cond_eq_ite, apply_ite List.length]; split <;> simp only [List.length_append, List.length_cons, List.length_nil, sI_len] <;> omega) | grind))), (by rw [hX114]; exact (show t13 ≤ ((F_Poset_strictly pp0 pp1).length : Int) from (by first | omega | (simp only [List.length_replicate, sI_len]; omega) | (simp only [List.length_append, List.length_cons, List.length_nil, sI_len, cond_true, cond_false]; omega) | (simp only [List.length_append, List.length_cons, List.length_nil, sI_len, cond_eq_ite, apply_ite List.length]; split <;> simp only [List.length_append, List.length_cons, List.length_nil, sI_len] <;> omega) | grind))), (by rw [hX114]; exact (hE113.sub (L' := [(3, .slice b19 ((F_Poset_strictly pp0 pp1).length) c20), (4, .slice b34 (((F_Poset_strictly pp0 pp1)).length) c35), (11, .slice b19 ((F_Poset_strictly pp0 pp1).length) c20), (12, .int .i64 ((F_Poset_strictly pp0 pp1).length : Int)), (13, .int .i64 t13)]) ⟨rfl, rfl, rfl, rfl, rfl, trivial⟩)), (by rw [hX114]; exact (St.pick (Γ' := [.own 2 1 b34 (((F_Poset_strictly pp0 pp1)).length) c35 out4, .own 2 1 b19 ((F_Poset_strictly pp0 pp1).length) c20 (F_Poset_strictly pp0 pp1), .blk b2 #[.int .i64 pp0, .slice pp1A pp1.length pp1C] 27, .rd 1 pp1A pp1.length pp1C pp1]) hS51 [0, 1, 2, 3] (by decide) rfl))⟩
  ·
    rintro a115 w116 ⟨hi120, hi121, hi122, hE117, hS118⟩; clear hE46 hS32
    refine p_tn ?_
    refine c_seq ?_
    refine c_reg ?_
    refine q_step (v := .slice b34 (((F_Poset_strictly pp0 pp1)).length) c35) hE117 (y_move rfl) rfl rfl rfl ?_; intro a123 hE124; clear hE117
    refine q_step (v := .slice b34 (((F_Poset_strictly pp0 pp1)).length) c35) hE124 (y_assign rfl) rfl rfl rfl ?_; intro a125 hE126; clear hE124
    refine c_nil ?_
    have hE127 := hE126.sub (L' := [(2, .slice b34 (((F_Poset_strictly pp0 pp1)).length) c35)]) ⟨rfl, trivial⟩; clear hE126
    refine p_tn ?_
    refine wp_ret ?_
    have hF : F_Poset_covers pp0 pp1 = (F_Poset_covers_L1 pp0 pp1 (Int.toNat (((F_Poset_strictly pp0 pp1).length : Int) - 0) + 1) 0 (F_Poset_strictly pp0 pp1)).2 := by unfold F_Poset_covers; rfl
    refine c_ret1 hE127 rfl rfl ?_
    exact ⟨b34, c35, (by rw [hF]; first | rfl | (rw [(St.rdO (i := 0) hS118 rfl).len1])), (by rw [hF, (St.rdO (i := 0) hS118 rfl).len1]; exact hS118.ok 0 _ rfl), hS118.ext⟩

theorem covers_rows (p0 : Int) (p1 : List Int) : ((F_Poset_covers p0 p1).length : Int) = ((F_Poset_strictly p0 p1).length : Int) ∧ ∀ j : Nat, (j : Int) < ((F_Poset_strictly p0 p1).length : Int) → gI (F_Poset_covers p0 p1) j = anI (gI (F_Poset_strictly p0 p1) j) (F_image (F_Poset_strictly p0 p1) (gI (F_Poset_strictly p0 p1) j)) := by
  have h := mapLoop ((F_Poset_strictly p0 p1).length : Int) (fun t o => anI o (F_image (F_Poset_strictly p0 p1) (gI (F_Poset_strictly p0 p1) t))) (F_Poset_covers_L1 p0 p1) (fun _ _ _ _ _ => rfl) (F_Poset_strictly p0 p1) rfl
  exact h
theorem covers_len (p0 : Int) (p1 : List Int) : (F_Poset_covers p0 p1).length = p1.length := by
  have := (covers_rows p0 p1).1; rw [strictly_len] at this; omega

def F_CoversOf (pp0 : Int) (pp1 : List Int) : (List Int) × (Int) :=
  bif (!(F_isPoset pp0 pp1)) then ([], 1) else (F_Poset_covers pp0 pp1, 0)
theorem cf_CoversOf (args : Array Value) (w : World) : (callFunc 35 args).run Try.prog w = .ok (.enter 35 args) w := by kernel_rfl
set_option maxRecDepth 100000 in
theorem c_CoversOf (pp0 : Int) (pp1A : Option Addr) (pp1N pp1C : Nat) (pp1 : List Int) (w : World) (pp1R : RdS w 1 pp1A pp1N pp1C pp1) :
    Calls Try.prog 35 #[.agg #[.int .i64 pp0, .slice pp1A pp1N pp1C]] w (Ret fun v w' => ∃ b1 : Option Addr, ∃ c1 : Nat, v = .tuple #[.slice b1 ((F_CoversOf pp0 pp1).1).length c1, .int .i64 ((F_CoversOf pp0 pp1).2)] ∧ OwnS w' w.heap.size 2 1 b1 ((F_CoversOf pp0 pp1).1).length c1 ((F_CoversOf pp0 pp1).1) ∧ Ext w w') := by
  obtain rfl : pp1N = pp1.length := pp1R.len1.symm
  have pp1Le := pp1R.le
  have hS := St.nil w
  have hS1 := St.rd0 hS rfl pp1R; clear hS
  refine enter (args := [.agg #[.int .i64 pp0, .slice pp1A pp1.length pp1C]]) Try.func35 rfl rfl ?_
  rw [Try.ntmps35]; intro a hE
  have hE := hE.sub (L' := [(0, .agg #[.int .i64 pp0, .slice pp1A pp1.length pp1C])]) ⟨rfl, trivial⟩
  refine c_seq ?_
  refine c_reg ?_
  refine l_step hE rfl (l_box (v := .agg #[.int .i64 pp0, .slice pp1A pp1.length pp1C]) (cs := #[.int .i64 pp0, .slice pp1A pp1.length pp1C]) hS1 hE rfl rfl rfl ?_)
  intro b2 w3 hS6 he7 a4 hE5; clear hS1 hE
  refine q_step (v := .slice none 0 0) hE5 (y_assign rfl) rfl rfl rfl ?_; intro a8 hE9; clear hE5
  refine q_step (v := .int .i64 0) hE9 (y_assign rfl) rfl rfl rfl ?_; intro a10 hE11; clear hE9
  refine c_nil ?_
  have hE12 := hE11.sub (L' := [(1, .pointer (some ⟨b2, 0, none⟩))]) ⟨rfl, trivial⟩; clear hE11
  refine p_tn ?_
  refine c_seq ?_
  refine c_seq ?_
  refine c_reg ?_
  refine q_step (v := .agg #[.int .i64 pp0, .slice pp1A pp1.length pp1C]) hE12 (y_loadS Try.underlying27 rfl (by kernel_rfl) rfl (St.row (i := 0) hS6 rfl)) rfl rfl rfl ?_; intro a13 hE14; clear hE12
  refine l_step hE14 rfl (l_call (f := 51) (argv := [.agg #[.int .i64 pp0, .slice pp1A pp1.length pp1C]]) hE14 (fun _ => cf_isPoset _ _) rfl rfl (c_isPoset pp0 pp1A pp1.length pp1C pp1 w3 (St.rdR (i := 1) hS6 rfl)) ?_)
  rintro _ w16 ⟨rfl, he20⟩ a17 hE18; clear hE14
  have hS19 := St.go hS6 he20; clear hS6
  refine q_step (v := .bool (!(F_isPoset pp0 pp1))) hE18 (y_not rfl) rfl rfl rfl ?_; intro a21 hE22; clear hE18
  refine c_nil ?_
  have hE23 := hE22.sub (L' := [(1, .pointer (some ⟨b2, 0, none⟩)), (6, .bool (!(F_isPoset pp0 pp1)))]) ⟨rfl, rfl, trivial⟩; clear hE22
  refine p_tn ?_
  refine c_cond hE23 rfl (fun ht24 => ?_) (fun ht24 => ?_)
  ·
    have ht25 := bn_t ht24
    have hE26 := hE23; rw [ht24] at hE26; clear hE23
    refine c_seq ?_
    refine c_reg ?_
    refine q_step (v := .slice none 0 0) hE26 (y_assign rfl) rfl rfl rfl ?_; intro a27 hE28; clear hE26
    refine q_step (v := .int .i64 1) hE28 (y_assign rfl) rfl rfl rfl ?_; intro a29 hE30; clear hE28
    refine c_nil ?_
    have hE31 := hE30.sub (L' := [(2, .slice none 0 0), (3, .int .i64 1)]) ⟨rfl, rfl, trivial⟩; clear hE30
    refine p_tn ?_
    refine wp_ret ?_
    refine p_tr ?_
    have hF : F_CoversOf pp0 pp1 = ([], 1) := by unfold F_CoversOf; rw [ht24]; first | done | rfl
    refine c_ret2 hE31 rfl rfl rfl ?_
    exact ⟨none, 0, (by rw [hF]; first | done | rfl), (by rw [hF]; exact OwnS.nilS _ _ _ _), hS19.ext⟩
  ·
    have ht32 := bn_f ht24
    have hp33 := isPoset_t ht32
    have hE34 := hE23; rw [ht24] at hE34; clear hE23
    refine wp_skip ?_
    refine p_tn ?_
    refine c_seq ?_
    refine c_reg ?_
    refine q_step (v := .agg #[.int .i64 pp0, .slice pp1A pp1.length pp1C]) hE34 (y_loadS Try.underlying27 rfl (by kernel_rfl) rfl (St.row (i := 0) hS19 rfl)) rfl rfl rfl ?_; intro a35 hE36; clear hE34
    refine l_step hE36 rfl (l_call (f := 70) (argv := [.agg #[.int .i64 pp0, .slice pp1A pp1.length pp1C]]) hE36 (fun _ => cf_Poset_covers _ _) rfl rfl (c_Poset_covers pp0 pp1A pp1.length pp1C pp1 w16 (St.rdR (i := 1) hS19 rfl) (by omega) (by omega) (isPoset_t (by assumption)).2.2) ?_)
    rintro _ w38 ⟨b43, c44, rfl, ho45, he42⟩ a39 hE40; clear hE36
    have hS41 := St.own hS19 he42 ho45; clear hS19
    refine q_step (v := .slice b43 ((F_Poset_covers pp0 pp1).length) c44) hE40 (y_assign rfl) rfl rfl rfl ?_; intro a46 hE47; clear hE40
    refine q_step (v := .int .i64 0) hE47 (y_assign rfl) rfl rfl rfl ?_; intro a48 hE49; clear hE47
    refine c_nil ?_
    have hE50 := hE49.sub (L' := [(2, .slice b43 ((F_Poset_covers pp0 pp1).length) c44), (3, .int .i64 0)]) ⟨rfl, rfl, trivial⟩; clear hE49
    refine p_tn ?_
    refine wp_ret ?_
    have hF : F_CoversOf pp0 pp1 = (F_Poset_covers pp0 pp1, 0) := by unfold F_CoversOf; rw [ht24]; first | done | rfl
    refine c_ret2 hE50 rfl rfl rfl ?_
    exact ⟨b43, c44, (by rw [hF]; first | done | rfl), (by rw [hF]; exact hS41.ok 0 _ rfl), hS41.ext⟩

theorem CoversOf_len (p0 : Int) (p1 : List Int) : (F_CoversOf p0 p1).1.length ≤ 8 := by
  unfold F_CoversOf
  cases h : F_isPoset p0 p1
  · exact Nat.zero_le _
  · have := isPoset_t h
    show (F_Poset_covers p0 p1).length ≤ 8
    rw [covers_len]; omega

theorem covers_eq {p0 : Int} {p1 : List Int} (h8 : 0 ≤ p0 ∧ p0 ≤ 8) (hl : (p1.length : Int) = p0) (hm : ∀ m : Int, 0 ≤ m → m < (p1.length : Int) → 0 ≤ gI p1 m ∧ gI p1 m ≤ fullI p0) : F_Poset_covers p0 p1 = F_l16Covers p0 p1 := by
  have hS := strictly_len p0 p1
  unfold F_l16Covers
  rw [mapLoop0 p0 h8.1 (fun x => anI (anI (gI p1 x) (powI x)) (F_l16Covers_L2 p0 p1 x (Int.toNat (p0 - 0) + 1) 0 0).1) (F_l16Covers_L1 p0 p1) (fun _ _ _ => rfl)]
  refine list_map_ext (by rw [covers_len]; omega) fun j hj => ?_
  have row : ∀ k : Nat, k < p0.toNat → gI (F_Poset_strictly p0 p1) k = anI (gI p1 k) (powI k) := fun k hk => by
    rw [(strictly_rows p0 p1).2 k (by omega), pow_shl (by omega) (by omega)]
  have mk := strictly_m h8 hl hm (m := (j : Int)) (by omega) (by omega)
  have hP : ((p0.toNat : Nat) : Int) = p0 := by omega
  rw [(covers_rows p0 p1).2 j (by omega), image_eq (n := p0.toNat) (by omega) (by omega) ⟨mk.1, by rw [hP]; exact mk.2.1⟩, row j hj]
  congr 1
  unfold F_l01Image
  rw [rangeLoop0 ((F_Poset_strictly p0 p1).length : Int) (by omega) (fun o i => bif F_l01Bit (anI (gI p1 j) (powI j)) i then orI o (gI (F_Poset_strictly p0 p1) i) else o) (F_l01Image_L1 (F_Poset_strictly p0 p1) (anI (gI p1 j) (powI j))) (fun _ _ _ => rfl),
    rangeLoop0 p0 h8.1 (fun o y => bif F_l01Bit (anI (gI p1 j) (powI j)) y then orI o (anI (gI p1 y) (powI y)) else o) (F_l16Covers_L2 p0 p1 j) (fun _ _ _ => rfl), show ((F_Poset_strictly p0 p1).length : Int).toNat = p0.toNat by omega]
  apply foldl_ext'
  intro y hy o
  rw [row y (List.mem_range.1 hy)]
theorem CoversOf_eq (p0 : Int) (p1 : List Int) : F_CoversOf p0 p1 = F_s_CoversOf p0 p1 := by
  unfold F_CoversOf F_s_CoversOf
  rw [isPoset_eq]
  cases h : F_l16Is p0 p1
  · rw [Bool.not_false, cond_true, cond_true]
  · have hp := l16Is_t h
    rw [covers_eq hp.1 hp.2.1 hp.2.2]

end Go.Proofs.Ythogljcjjmclcaa
