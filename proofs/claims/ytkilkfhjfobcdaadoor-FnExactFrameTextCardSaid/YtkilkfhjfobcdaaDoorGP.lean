/- GP: models and contracts, printed by wip/gen/gen.py -/
import Derived.Test.YtkilkfhjfobcdaaDoorGQ
set_option linter.unusedVariables false
set_option linter.unusedSimpArgs false
namespace Go.Proofs.YtkilkfhjfobcdaaDoor
open Go.RowKit

theorem rl_of {f0 : Int} {f1 : List Int} (h0 : 0 ≤ f0) (hl : (f1.length : Int) = f0) (hx : ∀ m : Int, 0 ≤ m → m < (f1.length : Int) → 0 ≤ gI f1 m ∧ gI f1 m ≤ fullI f0) : Rl f0.toNat f1 := by
  refine ⟨by omega, fun i hi => ?_⟩
  have := hx (i : Int) (by omega) (by omega)
  have e : ((f0.toNat : Nat) : Int) = f0 := by omega
  exact ⟨this.1, by rw [e]; exact this.2⟩

theorem mask_sm {f0 mask : Int} (h0 : 0 ≤ f0 ∧ f0 ≤ 8) (h : mask ≤ fullI f0) : mask < 4611686018427387904 := by
  have := fullI_bd (n := f0) (by omega) (by omega); omega

theorem pow62 : powI (62 - 0) = 4611686018427387904 := rfl
theorem half_pow {m i : Int} (hi : 0 ≤ i) (hi2 : i ≤ 62) (h : m < powI (62 - i)) : 0 < m → m / 2 < powI (62 - (i + 1)) ∧ i ≤ 61 := by
  intro hm
  have hi3 : i ≤ 61 := by
    apply Decidable.byContradiction; intro hc
    have : i = 62 := by omega
    subst this
    have e : powI (62 - 62) = 1 := rfl
    omega
  refine ⟨?_, hi3⟩
  have e : powI (62 - i) = 2 * powI (62 - (i + 1)) := by
    unfold powI
    rw [show (62 - i).toNat = (62 - (i + 1)).toNat + 1 by omega, Int.pow_succ]; omega
  omega

def F_l01List_L1b (rec : Int → (List Int) → Int → Int × (List Int) × Int) (mask0 : Int) (out3 : List Int) (i4 : Int) : Int × (List Int) × Int :=
  bif (decide (0 < mask0)) then (rec (mask0 / 2) (bif (decide ((mask0 % 2) = 1)) then out3 ++ ([i4]) else out3) (i4 + 1)) else (mask0, out3, i4)
def F_l01List_L1 : Nat → Int → (List Int) → Int → Int × (List Int) × Int
  | 0, mask0, out3, i4 => (mask0, out3, i4)
  | r + 1, mask0, out3, i4 => F_l01List_L1b (F_l01List_L1 r) mask0 out3 i4
def F_l01List (mask : Int) : List Int :=
  (F_l01List_L1 (Int.toNat (mask - 0) + 1) mask ([]) 0).2.1
theorem cf_l01List (args : Array Value) (w : World) : (callFunc 19 args).run Tryd.prog w = .ok (.enter 19 args) w := by kernel_rfl
set_option maxRecDepth 100000 in
theorem c_l01List (mask : Int) (w : World) (h0 : 0 ≤ mask) (h1 : mask < 4611686018427387904) :
    Calls Tryd.prog 19 #[.int .i64 mask] w (Ret fun v w' => ∃ b1 : Option Addr, ∃ c1 : Nat, v = .slice b1 (F_l01List mask).length c1 ∧ OwnS w' w.heap.size 2 1 b1 (F_l01List mask).length c1 (F_l01List mask) ∧ Ext w w') := by
  have hp62 := pow62
  have hS := St.nil w
  refine enter (args := [.int .i64 mask]) Tryd.func19 rfl rfl ?_
  rw [Tryd.ntmps19]; intro a hE
  have hE := hE.sub (L' := [(0, .int .i64 mask)]) ⟨rfl, trivial⟩
  refine c_seq ?_
  refine c_reg ?_
  refine q_step (v := .slice none 0 0) hE (y_assign rfl) rfl rfl rfl ?_; intro a1 hE2; clear hE
  refine c_nil ?_
  have hE3 := hE2.sub (L' := [(0, .int .i64 mask)]) ⟨rfl, trivial⟩; clear hE2
  refine p_tn ?_
  refine c_seq ?_
  refine c_reg ?_
  refine l_step hE3 rfl (l_lit (e := 2) (s := 1) (xs := []) (vs := []) hS hE3 rfl (fun _ => by kernel_rfl) rfl rfl rfl ?_)
  intro b4 w5 hS8 he9 a6 hE7; clear hS hE3
  refine q_step (v := .slice (some ⟨b4, 0, none⟩) 0 0) hE7 (y_assign rfl) rfl rfl rfl ?_; intro a10 hE11; clear hE7
  refine c_nil ?_
  have hE12 := hE11.sub (L' := [(0, .int .i64 mask), (3, .slice (some ⟨b4, 0, none⟩) 0 0)]) ⟨rfl, rfl, trivial⟩; clear hE11
  refine p_tn ?_
  refine c_seq ?_
  refine c_seq ?_
  refine c_reg ?_
  refine q_step (v := .int .i64 0) hE12 (y_assign rfl) rfl rfl rfl ?_; intro a13 hE14; clear hE12
  refine c_nil ?_
  have hE15 := hE14.sub (L' := [(0, .int .i64 mask), (3, .slice (some ⟨b4, 0, none⟩) 0 0), (4, .int .i64 0)]) ⟨rfl, rfl, rfl, trivial⟩; clear hE14
  refine p_tn ?_
  refine c_cut1 (fun a' w' => ∃ out3A_16 : Option Addr, ∃ out3C_16 : Nat, (0 ≤ ((F_l01List_L1 (Int.toNat (mask - 0) + 1) mask ([]) 0).1)) ∧ (0 ≤ ((F_l01List_L1 (Int.toNat (mask - 0) + 1) mask ([]) 0).2.2)) ∧ (((F_l01List_L1 (Int.toNat (mask - 0) + 1) mask ([]) 0).2.2) ≤ 62) ∧ (((F_l01List_L1 (Int.toNat (mask - 0) + 1) mask ([]) 0).1) < powI (62 - ((F_l01List_L1 (Int.toNat (mask - 0) + 1) mask ([]) 0).2.2))) ∧ (((F_l01List_L1 (Int.toNat (mask - 0) + 1) mask ([]) 0).1) ≤ mask) ∧ ((((F_l01List_L1 (Int.toNat (mask - 0) + 1) mask ([]) 0).2.1).length : Int) ≤ ((F_l01List_L1 (Int.toNat (mask - 0) + 1) mask ([]) 0).2.2)) ∧ E a' 20 [(0, .int .i64 ((F_l01List_L1 (Int.toNat (mask - 0) + 1) mask ([]) 0).1)), (3, .slice out3A_16 (((F_l01List_L1 (Int.toNat (mask - 0) + 1) mask ([]) 0).2.1).length) out3C_16), (4, .int .i64 ((F_l01List_L1 (Int.toNat (mask - 0) + 1) mask ([]) 0).2.2))] ∧ St w w' [.own 2 1 out3A_16 (((F_l01List_L1 (Int.toNat (mask - 0) + 1) mask ([]) 0).2.1).length) out3C_16 ((F_l01List_L1 (Int.toNat (mask - 0) + 1) mask ([]) 0).2.1)]) ?_ ?_
  ·
   refine wp_block ?_
   refine c_loop (fun r a' w' => ∃ mask0 : Int, ∃ out3 : List Int, ∃ i4 : Int, ∃ out3A : Option Addr, ∃ out3C : Nat, F_l01List_L1 r mask0 out3 i4 = F_l01List_L1 (Int.toNat (mask - 0) + 1) mask ([]) 0 ∧ Int.toNat (mask0 - 0) < r ∧ (0 ≤ mask0) ∧ (0 ≤ i4) ∧ (i4 ≤ 62) ∧ (mask0 < powI (62 - i4)) ∧ (mask0 ≤ mask) ∧ ((out3.length : Int) ≤ i4) ∧ E a' 20 [(0, .int .i64 mask0), (3, .slice out3A ((out3).length) out3C), (4, .int .i64 i4)] ∧ St w w' [.own 2 1 out3A ((out3).length) out3C out3]) (r := (Int.toNat (mask - 0) + 1)) ?_ ?_
   · exact ⟨mask, [], 0, some ⟨b4, 0, none⟩, 0, rfl, Nat.lt_succ_self _, (by first | omega | (simp only [sS_len, sL_len]; omega) | (simp only [List.length_replicate, sI_len]; omega) | (simp only [List.length_append, List.length_cons, List.length_nil, sI_len, cond_true, cond_false]; omega) | (simp only [List.length_append, List.length_cons, List.length_nil, sI_len, cond_eq_ite, apply_ite List.length]; split <;> simp only [List.length_append, List.length_cons, List.length_nil, sI_len] <;> omega) | grind), (by first | omega | (simp only [sS_len, sL_len]; omega) | (simp only [List.length_replicate, sI_len]; omega) | (simp only [List.length_append, List.length_cons, List.length_nil, sI_len, cond_true, cond_false]; omega) | (simp only [List.length_append, List.length_cons, List.length_nil, sI_len, cond_eq_ite, apply_ite List.length]; split <;> simp only [List.length_append, List.length_cons, List.length_nil, sI_len] <;> omega) | grind), (by first | omega | (simp only [sS_len, sL_len]; omega) | (simp only [List.length_replicate, sI_len]; omega) | (simp only [List.length_append, List.length_cons, List.length_nil, sI_len, cond_true, cond_false]; omega) | (simp only [List.length_append, List.length_cons, List.length_nil, sI_len, cond_eq_ite, apply_ite List.length]; split <;> simp only [List.length_append, List.length_cons, List.length_nil, sI_len] <;> omega) | grind), (by first | omega | (simp only [sS_len, sL_len]; omega) | (simp only [List.length_replicate, sI_len]; omega) | (simp only [List.length_append, List.length_cons, List.length_nil, sI_len, cond_true, cond_false]; omega) | (simp only [List.length_append, List.length_cons, List.length_nil, sI_len, cond_eq_ite, apply_ite List.length]; split <;> simp only [List.length_append, List.length_cons, List.length_nil, sI_len] <;> omega) | grind), (by first | omega | (simp only [sS_len, sL_len]; omega) | (simp only [List.length_replicate, sI_len]; omega) | (simp only [List.length_append, List.length_cons, List.length_nil, sI_len, cond_true, cond_false]; omega) | (simp only [List.length_append, List.length_cons, List.length_nil, sI_len, cond_eq_ite, apply_ite List.length]; split <;> simp only [List.length_append, List.length_cons, List.length_nil, sI_len] <;> omega) | grind), (by first | omega | (simp only [sS_len, sL_len]; omega) | (simp only [List.length_replicate, sI_len]; omega) | (simp only [List.length_append, List.length_cons, List.length_nil, sI_len, cond_true, cond_false]; omega) | (simp only [List.length_append, List.length_cons, List.length_nil, sI_len, cond_eq_ite, apply_ite List.length]; split <;> simp only [List.length_append, List.length_cons, List.length_nil, sI_len] <;> omega) | grind), (hE15.sub (L' := [(0, .int .i64 mask), (3, .slice (some ⟨b4, 0, none⟩) 0 0), (4, .int .i64 0)]) ⟨rfl, rfl, rfl, trivial⟩), (St.pick (Γ' := [.own 2 1 (some ⟨b4, 0, none⟩) 0 0 ([])]) hS8 [0] (by decide) rfl)⟩
   ·
    clear hE15 hS8
    rintro r29 a17 w18 ⟨mask0, out3, i4, out3A, out3C, hT21, hr22, hi23, hi24, hi25, hi26, hi27, hi28, hE19, hS20⟩
    obtain ⟨r29, rfl⟩ : ∃ r', r29 = r' + 1 := ⟨r29 - 1, by omega⟩
    have hh := half_pow (m := mask0) (i := i4) (by omega) (by omega) (by omega)
    refine c_seq ?_
    refine c_seq ?_
    refine c_reg ?_
    refine q_step (v := .int .i64 mask0) hE19 (y_move rfl) rfl rfl rfl ?_; intro a30 hE31; clear hE19
    refine q_step (v := .bool (decide (0 < mask0))) hE31 (y_gtr rfl rfl) rfl rfl rfl ?_; intro a32 hE33; clear hE31
    refine c_nil ?_
    have hE34 := hE33.sub (L' := [(0, .int .i64 mask0), (3, .slice out3A ((out3).length) out3C), (4, .int .i64 i4), (7, .bool (decide (0 < mask0)))]) ⟨rfl, rfl, rfl, rfl, trivial⟩; clear hE33
    refine p_tn ?_
    refine c_cond hE34 rfl (fun ht35 => ?_) (fun ht35 => ?_)
    ·
     have hp36 := of_decide_eq_true ht35
     have hE37 := hE34; rw [ht35] at hE37; clear hE34
     refine wp_skip ?_
     refine p_tn ?_
     refine c_seq ?_
     refine wp_block ?_
     refine c_cut (fun a' w' => ∃ b38 : Option Addr, ∃ c39 : Nat, E a' 20 [(0, .int .i64 mask0), (3, .slice b38 ((bif (decide ((mask0 % 2) = 1)) then out3 ++ ([i4]) else out3).length) c39), (4, .int .i64 i4)] ∧ St w w' [.own 2 1 b38 ((bif (decide ((mask0 % 2) = 1)) then out3 ++ ([i4]) else out3).length) c39 (bif (decide ((mask0 % 2) = 1)) then out3 ++ ([i4]) else out3)]) ?_ ?_
     ·
      refine c_seq ?_
      refine c_reg ?_
      refine q_step (v := .int .i64 mask0) hE37 (y_move rfl) rfl rfl rfl ?_; intro a40 hE41; clear hE37
      refine q_step (v := .int .i64 (mask0 % 2)) hE41 (y_rem rfl rfl (by omega) (by omega)) rfl rfl rfl ?_; intro a42 hE43; clear hE41
      refine q_step (v := .bool (decide ((mask0 % 2) = 1))) hE43 (y_eql rfl rfl) rfl rfl rfl ?_; intro a44 hE45; clear hE43
      refine c_nil ?_
      have hE46 := hE45.sub (L' := [(0, .int .i64 mask0), (3, .slice out3A ((out3).length) out3C), (4, .int .i64 i4), (12, .bool (decide ((mask0 % 2) = 1)))]) ⟨rfl, rfl, rfl, rfl, trivial⟩; clear hE45
      refine p_tn ?_
      refine c_cond hE46 rfl (fun ht47 => ?_) (fun ht47 => ?_)
      ·
       have hp48 := of_decide_eq_true ht47
       have hE49 := hE46; rw [ht47] at hE49; clear hE46
       refine c_reg ?_
       refine q_step (v := .slice out3A ((out3).length) out3C) hE49 (y_move rfl) rfl rfl rfl ?_; intro a50 hE51; clear hE49
       refine q_step (v := .int .i64 i4) hE51 (y_move rfl) rfl rfl rfl ?_; intro a52 hE53; clear hE51
       refine l_step hE53 rfl (l_lit (e := 2) (s := 1) (xs := [i4]) (vs := [.int .i64 i4]) hS20 hE53 rfl (fun _ => by kernel_rfl) rfl rfl rfl ?_)
       intro b54 w55 hS58 he59 a56 hE57; clear hS20 hE53
       obtain ⟨_, hi1, hi2, hi3, hi4⟩ := info_parts (show (Tryd.prog.info? 2).map (fun i => (i.zero, i.size, i.bytes)) = some (some (.int .i64 0), 1, 8) by kernel_rfl)
       refine l_step hE57 rfl (l_append (k := 1) (n' := (out3 ++ ([i4])).length) hS58 hE57 (by kernel_rfl) hi1 hi2 hi3 rfl (by decide) (by rw [hi4]; decide) rfl rfl rfl (St.rdO (i := 0) hS58 rfl) (by first | omega | (simp only [List.length_append, List.length_cons, List.length_nil]; omega)) (by have h1 := (St.rdO (i := 1) hS58 rfl).len1; have h2 := (St.rdO (i := 0) hS58 rfl).len1; first | rw [List.length_append, h1, h2] | (simp only [List.length_append])) rfl ?_)
       intro b60 c66 w61 hS64 a62 hE63; clear hS58 hE57 hi1 hi2 hi3 hi4
       refine q_step (v := .slice b60 ((out3 ++ ([i4])).length) c66) hE63 (y_assign rfl) rfl rfl rfl ?_; intro a67 hE68; clear hE63
       refine c_nil ?_
       have hE69 := hE68.sub (L' := [(0, .int .i64 mask0), (3, .slice b60 ((out3 ++ ([i4])).length) c66), (4, .int .i64 i4)]) ⟨rfl, rfl, rfl, trivial⟩; clear hE68
       refine p_tn ?_
       have hE70 := hE69.sub (L' := [(0, .int .i64 mask0), (3, .slice b60 ((out3 ++ ([i4])).length) c66), (4, .int .i64 i4)]) ⟨rfl, rfl, rfl, trivial⟩
       have hS71 := (St.pick (Γ' := [.own 2 1 b60 ((out3 ++ ([i4])).length) c66 (out3 ++ ([i4]))]) hS64 [1] (by decide) rfl)
       exact ⟨b60, c66, (by rw [ht47]; exact hE70), (by rw [ht47]; exact hS71)⟩
      ·
       have hp72 := of_decide_eq_false ht47
       have hE73 := hE46; rw [ht47] at hE73; clear hE46
       refine wp_skip ?_
       refine p_tn ?_
       have hE74 := hE73.sub (L' := [(0, .int .i64 mask0), (3, .slice out3A ((out3).length) out3C), (4, .int .i64 i4)]) ⟨rfl, rfl, rfl, trivial⟩
       have hS75 := (St.pick (Γ' := [.own 2 1 out3A ((out3).length) out3C out3]) hS20 [0] (by decide) rfl)
       exact ⟨out3A, out3C, (by rw [ht47]; exact hE74), (by rw [ht47]; exact hS75)⟩
     ·
      rintro a76 w77 ⟨b38, c39, hE78, hS79⟩; clear hE37 hS20
      refine c_reg ?_
      refine q_step (v := .int .i64 i4) hE78 (y_move rfl) rfl rfl rfl ?_; intro a81 hE82; clear hE78
      refine q_step (v := .int .i64 (i4 + 1)) hE82 (y_add rfl rfl ⟨(by omega), (by omega)⟩) rfl rfl rfl ?_; intro a83 hE84; clear hE82
      refine q_step (v := .int .i64 (i4 + 1)) hE84 (y_assign rfl) rfl rfl rfl ?_; intro a85 hE86; clear hE84
      refine c_nil ?_
      have hE87 := hE86.sub (L' := [(0, .int .i64 mask0), (3, .slice b38 ((bif (decide ((mask0 % 2) = 1)) then out3 ++ ([i4]) else out3).length) c39), (4, .int .i64 (i4 + 1))]) ⟨rfl, rfl, rfl, trivial⟩; clear hE86
      refine p_bn ?_
      refine p_tn ?_
      refine c_reg ?_
      refine q_step (v := .int .i64 mask0) hE87 (y_move rfl) rfl rfl rfl ?_; intro a88 hE89; clear hE87
      refine q_step (v := .int .i64 (mask0 / 2)) hE89 (y_quo rfl rfl (by omega) (by omega) (by omega)) rfl rfl rfl ?_; intro a90 hE91; clear hE89
      refine q_step (v := .int .i64 (mask0 / 2)) hE91 (y_assign rfl) rfl rfl rfl ?_; intro a92 hE93; clear hE91
      refine c_nil ?_
      have hE94 := hE93.sub (L' := [(0, .int .i64 (mask0 / 2)), (3, .slice b38 ((bif (decide ((mask0 % 2) = 1)) then out3 ++ ([i4]) else out3).length) c39), (4, .int .i64 (i4 + 1))]) ⟨rfl, rfl, rfl, trivial⟩; clear hE93
      have hl95 := (St.rdO (i := 0) hS79 rfl).len1
      refine p_tn ⟨r29, Nat.lt_succ_self _, mask0 / 2, bif (decide ((mask0 % 2) = 1)) then out3 ++ ([i4]) else out3, i4 + 1, b38, c39, (hT21.symm.trans (show F_l01List_L1b (F_l01List_L1 r29) mask0 out3 i4 = F_l01List_L1 r29 (mask0 / 2) (bif (decide ((mask0 % 2) = 1)) then out3 ++ ([i4]) else out3) (i4 + 1) by unfold F_l01List_L1b; rw [ht35]; first | done | rfl)).symm, (by omega), (by first | omega | (simp only [sS_len, sL_len]; omega) | (simp only [List.length_replicate, sI_len]; omega) | (simp only [List.length_append, List.length_cons, List.length_nil, sI_len, cond_true, cond_false]; omega) | (simp only [List.length_append, List.length_cons, List.length_nil, sI_len, cond_eq_ite, apply_ite List.length]; split <;> simp only [List.length_append, List.length_cons, List.length_nil, sI_len] <;> omega) | grind), (by first | omega | (simp only [sS_len, sL_len]; omega) | (simp only [List.length_replicate, sI_len]; omega) | (simp only [List.length_append, List.length_cons, List.length_nil, sI_len, cond_true, cond_false]; omega) | (simp only [List.length_append, List.length_cons, List.length_nil, sI_len, cond_eq_ite, apply_ite List.length]; split <;> simp only [List.length_append, List.length_cons, List.length_nil, sI_len] <;> omega) | grind), (by first | omega | (simp only [sS_len, sL_len]; omega) | (simp only [List.length_replicate, sI_len]; omega) | (simp only [List.length_append, List.length_cons, List.length_nil, sI_len, cond_true, cond_false]; omega) | (simp only [List.length_append, List.length_cons, List.length_nil, sI_len, cond_eq_ite, apply_ite List.length]; split <;> simp only [List.length_append, List.length_cons, List.length_nil, sI_len] <;> omega) | grind), (by first | omega | (simp only [sS_len, sL_len]; omega) | (simp only [List.length_replicate, sI_len]; omega) | (simp only [List.length_append, List.length_cons, List.length_nil, sI_len, cond_true, cond_false]; omega) | (simp only [List.length_append, List.length_cons, List.length_nil, sI_len, cond_eq_ite, apply_ite List.length]; split <;> simp only [List.length_append, List.length_cons, List.length_nil, sI_len] <;> omega) | grind), (by first | omega | (simp only [sS_len, sL_len]; omega) | (simp only [List.length_replicate, sI_len]; omega) | (simp only [List.length_append, List.length_cons, List.length_nil, sI_len, cond_true, cond_false]; omega) | (simp only [List.length_append, List.length_cons, List.length_nil, sI_len, cond_eq_ite, apply_ite List.length]; split <;> simp only [List.length_append, List.length_cons, List.length_nil, sI_len] <;> omega) | grind), (by first | omega | (simp only [sS_len, sL_len]; omega) | (simp only [List.length_replicate, sI_len]; omega) | (simp only [List.length_append, List.length_cons, List.length_nil, sI_len, cond_true, cond_false]; omega) | (simp only [List.length_append, List.length_cons, List.length_nil, sI_len, cond_eq_ite, apply_ite List.length]; split <;> simp only [List.length_append, List.length_cons, List.length_nil, sI_len] <;> omega) | grind), (hE94.sub (L' := [(0, .int .i64 (mask0 / 2)), (3, .slice b38 ((bif (decide ((mask0 % 2) = 1)) then out3 ++ ([i4]) else out3).length) c39), (4, .int .i64 (i4 + 1))]) ⟨rfl, rfl, rfl, trivial⟩), (St.pick (Γ' := [.own 2 1 b38 ((bif (decide ((mask0 % 2) = 1)) then out3 ++ ([i4]) else out3).length) c39 (bif (decide ((mask0 % 2) = 1)) then out3 ++ ([i4]) else out3)]) hS79 [0] (by decide) rfl)⟩
    ·
     have hp96 := of_decide_eq_false ht35
     have hE97 := hE34; rw [ht35] at hE97; clear hE34
     refine wp_exit ?_
     refine p_te ?_
     have hX98 : F_l01List_L1 (Int.toNat (mask - 0) + 1) mask ([]) 0 = (mask0, out3, i4) := hT21.symm.trans (show F_l01List_L1b (F_l01List_L1 r29) mask0 out3 i4 = (mask0, out3, i4) by unfold F_l01List_L1b; rw [ht35]; first | done | rfl)
     refine p_te (p_be (p_tn ?_))
     exact ⟨out3A, out3C, (by rw [hX98]; exact (show 0 ≤ mask0 from (by first | omega | (simp only [sS_len, sL_len]; omega) | (simp only [List.length_replicate, sI_len]; omega) | (simp only [List.length_append, List.length_cons, List.length_nil, sI_len, cond_true, cond_false]; omega) | (simp only [List.length_append, List.length_cons, List.length_nil, sI_len, cond_eq_ite, apply_ite List.length]; split <;> simp only [List.length_append, List.length_cons, List.length_nil, sI_len] <;> omega) | grind))), (by rw [hX98]; exact (show 0 ≤ i4 from (by first | omega | (simp only [sS_len, sL_len]; omega) | (simp only [List.length_replicate, sI_len]; omega) | (simp only [List.length_append, List.length_cons, List.length_nil, sI_len, cond_true, cond_false]; omega) | (simp only [List.length_append, List.length_cons, List.length_nil, sI_len, cond_eq_ite, apply_ite List.length]; split <;> simp only [List.length_append, List.length_cons, List.length_nil, sI_len] <;> omega) | grind))), (by rw [hX98]; exact (show i4 ≤ 62 from (by first | omega | (simp only [sS_len, sL_len]; omega) | (simp only [List.length_replicate, sI_len]; omega) | (simp only [List.length_append, List.length_cons, List.length_nil, sI_len, cond_true, cond_false]; omega) | (simp only [List.length_append, List.length_cons, List.length_nil, sI_len, cond_eq_ite, apply_ite List.length]; split <;> simp only [List.length_append, List.length_cons, List.length_nil, sI_len] <;> omega) | grind))), (by rw [hX98]; exact (show mask0 < powI (62 - i4) from (by first | omega | (simp only [sS_len, sL_len]; omega) | (simp only [List.length_replicate, sI_len]; omega) | (simp only [List.length_append, List.length_cons, List.length_nil, sI_len, cond_true, cond_false]; omega) | (simp only [List.length_append, List.length_cons, List.length_nil, sI_len, cond_eq_ite, apply_ite List.length]; split <;> simp only [List.length_append, List.length_cons, List.length_nil, sI_len] <;> omega) | grind))), (by rw [hX98]; exact (show mask0 ≤ mask from (by first | omega | (simp only [sS_len, sL_len]; omega) | (simp only [List.length_replicate, sI_len]; omega) | (simp only [List.length_append, List.length_cons, List.length_nil, sI_len, cond_true, cond_false]; omega) | (simp only [List.length_append, List.length_cons, List.length_nil, sI_len, cond_eq_ite, apply_ite List.length]; split <;> simp only [List.length_append, List.length_cons, List.length_nil, sI_len] <;> omega) | grind))), (by rw [hX98]; exact (show (out3.length : Int) ≤ i4 from (by first | omega | (simp only [sS_len, sL_len]; omega) | (simp only [List.length_replicate, sI_len]; omega) | (simp only [List.length_append, List.length_cons, List.length_nil, sI_len, cond_true, cond_false]; omega) | (simp only [List.length_append, List.length_cons, List.length_nil, sI_len, cond_eq_ite, apply_ite List.length]; split <;> simp only [List.length_append, List.length_cons, List.length_nil, sI_len] <;> omega) | grind))), (by rw [hX98]; exact (hE97.sub (L' := [(0, .int .i64 mask0), (3, .slice out3A ((out3).length) out3C), (4, .int .i64 i4)]) ⟨rfl, rfl, rfl, trivial⟩)), (by rw [hX98]; exact (St.pick (Γ' := [.own 2 1 out3A ((out3).length) out3C out3]) hS20 [0] (by decide) rfl))⟩
  ·
   rintro a99 w100 ⟨out3A_16, out3C_16, hi104, hi105, hi106, hi107, hi108, hi109, hE101, hS102⟩; clear hE15 hS8
   refine p_tn ?_
   refine c_seq ?_
   refine c_reg ?_
   refine q_step (v := .slice out3A_16 (((F_l01List_L1 (Int.toNat (mask - 0) + 1) mask ([]) 0).2.1).length) out3C_16) hE101 (y_move rfl) rfl rfl rfl ?_; intro a110 hE111; clear hE101
   refine q_step (v := .slice out3A_16 (((F_l01List_L1 (Int.toNat (mask - 0) + 1) mask ([]) 0).2.1).length) out3C_16) hE111 (y_assign rfl) rfl rfl rfl ?_; intro a112 hE113; clear hE111
   refine c_nil ?_
   have hE114 := hE113.sub (L' := [(2, .slice out3A_16 (((F_l01List_L1 (Int.toNat (mask - 0) + 1) mask ([]) 0).2.1).length) out3C_16)]) ⟨rfl, trivial⟩; clear hE113
   refine p_tn ?_
   refine wp_ret ?_
   have hF : F_l01List mask = (F_l01List_L1 (Int.toNat (mask - 0) + 1) mask ([]) 0).2.1 := by unfold F_l01List; rfl
   refine c_ret1 hE114 rfl rfl ?_
   exact ⟨out3A_16, out3C_16, (by rw [hF]; first | done | (dsimp only; done) | rfl), (by rw [hF]; (try dsimp only); exact hS102.ok 0 _ rfl), hS102.ext⟩

theorem half_shift {m i : Nat} : m / 2 ^ i / 2 = m / 2 ^ (i + 1) := by rw [Nat.div_div_eq_div_mul, Nat.pow_succ]
theorem list_key {mask : Int} {n : Nat} (h0 : 0 ≤ mask) (h1 : mask < 4611686018427387904) (hn : n ≤ 62) (hm : mask.toNat < 2 ^ n) : ∀ (k i : Nat) (out : List Int) (r : Nat), i + k = n → k + 1 ≤ r →
    (F_l01List_L1 r ((mask.toNat / 2 ^ i : Nat) : Int) out (i : Int)).2.1 = out ++ ((List.range' i k).filter (fun (j : Nat) => F_has mask (j : Int))).map (fun (j : Nat) => (j : Int)) := by
  intro k
  induction k with
  | zero =>
    intro i out r hi hr
    obtain ⟨r, rfl⟩ : ∃ r', r = r' + 1 := ⟨r - 1, by omega⟩
    show (F_l01List_L1b _ _ out _).2.1 = _
    unfold F_l01List_L1b
    rw [Nat.div_eq_of_lt (by rw [show i = n by omega]; exact hm)]
    simp
  | succ k ih =>
    intro i out r hi hr
    obtain ⟨r, rfl⟩ : ∃ r', r = r' + 1 := ⟨r - 1, by omega⟩
    show (F_l01List_L1b _ _ out _).2.1 = _
    unfold F_l01List_L1b
    have hb : F_has mask (i : Int) = decide ((((mask.toNat / 2 ^ i : Nat) : Int) % 2) = 1) := by
      rw [has_eq h0 h1 (by omega), Nat.testBit_eq_decide_div_mod_eq]
      exact decide_eq_decide.2 (by omega)
    by_cases h : (0 : Int) < ((mask.toNat / 2 ^ i : Nat) : Int)
    · rw [decide_eq_true h, cond_true, ← hb, show (((mask.toNat / 2 ^ i : Nat) : Int) / 2) = ((mask.toNat / 2 ^ (i + 1) : Nat) : Int) by rw [← half_shift]; omega, show (i : Int) + 1 = ((i + 1 : Nat) : Int) by omega, ih (i + 1) _ r (by omega) (by omega), List.range'_succ, List.filter_cons]
      cases F_has mask (i : Int)
      · rfl
      · rw [if_pos rfl, List.map_cons, cond_true, List.append_assoc]; rfl
    · rw [decide_eq_false h, cond_false]
      have hz : mask.toNat < 2 ^ i := (Nat.div_eq_zero_iff_lt (Nat.pow_pos (by decide))).1 (Nat.eq_zero_of_not_pos fun h2 => h (by exact_mod_cast h2))
      have : (List.range' i (k + 1)).filter (fun (j : Nat) => F_has mask (j : Int)) = [] := by
        rw [List.filter_eq_nil_iff]
        intro j hj
        rw [List.mem_range'_1] at hj
        rw [has_eq h0 h1 (by omega), bit_small hz (by omega)]; decide
      rw [this]; simp
theorem l01List_eq {mask : Int} (h0 : 0 ≤ mask) (h1 : mask < 4611686018427387904) : F_l01List mask = F_membersOf mask := by
  have hn : mask.toNat < 2 ^ (min 62 mask.toNat) := by
    by_cases h : mask.toNat ≤ 62
    · rw [Nat.min_eq_right h]; exact Nat.lt_two_pow_self
    · rw [Nat.min_eq_left (by omega)]; omega
  have e1 := list_key h0 h1 (Nat.min_le_left _ _) hn (min 62 mask.toNat) 0 [] (Int.toNat (mask - 0) + 1) (by omega) (by omega)
  have e2 := members_key h0 h1 (Nat.min_le_left _ _) hn (min 62 mask.toNat) 0 [] (Int.toNat (63 - 0) + 1) (by omega) (by omega)
  unfold F_l01List F_membersOf
  have e3 : ((mask.toNat / 2 ^ 0 : Nat) : Int) = mask := by rw [Nat.pow_zero, Nat.div_one]; omega
  rw [e3] at e1
  exact e1.trans e2.symm
theorem full62 {m : Int} (h : m < 4611686018427387904) : m ≤ fullI ((62 : Nat) : Int) := by
  have : fullI ((62 : Nat) : Int) = 4611686018427387903 := rfl
  omega
theorem list_lt {f0 mask : Int} (h : 0 ≤ f0 ∧ f0 ≤ 30) (hm : 0 ≤ mask ∧ mask ≤ fullI f0) : ((F_l01List mask).length : Int) ≤ f0 ∧ ∀ t : Int, 0 ≤ t → t < ((F_l01List mask).length : Int) → 0 ≤ gI (F_l01List mask) t ∧ gI (F_l01List mask) t < f0 := by
  have hf := fullI_bd (n := f0) (by omega) (by omega)
  have e : ((f0.toNat : Nat) : Int) = f0 := by omega
  rw [l01List_eq hm.1 (by omega)]
  have hm2 : mask ≤ fullI ((f0.toNat : Nat) : Int) := by rw [e]; exact hm.2
  refine ⟨?_, fun t h0 h1 => ?_⟩
  · have := members_len (n := f0.toNat) (by omega) hm.1 hm2; omega
  · have := members_lt (n := f0.toNat) (by omega) hm.1 hm2 t h0 h1; omega


end Go.Proofs.YtkilkfhjfobcdaaDoor
