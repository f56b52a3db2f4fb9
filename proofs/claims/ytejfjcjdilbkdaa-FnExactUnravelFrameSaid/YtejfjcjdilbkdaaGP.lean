/- GP: models and contracts, printed by wip/gen/gen.py -/
import Derived.Test.YtejfjcjdilbkdaaGQ
set_option linter.unusedVariables false
set_option linter.unusedSimpArgs false
namespace Go.Proofs.Ytejfjcjdilbkdaa
open Go.RowKit

def F_l05Set (f0 : Int) (f1 : List Int) (mask : Int) : Bool :=
  F_l01In mask 0 (fullI f0)
theorem cf_l05Set (args : Array Value) (w : World) : (callFunc 70 args).run Try.prog w = .ok (.enter 70 args) w := by kernel_rfl
set_option maxRecDepth 100000 in
theorem c_l05Set (f0 : Int) (f1A : Option Addr) (f1N f1C : Nat) (f1 : List Int) (mask : Int) (w : World) (f1R : RdS w 1 f1A f1N f1C f1) (h0 : 0 ≤ f0) (h1 : f0 ≤ 8) :
    Calls Try.prog 70 #[.agg #[.int .i64 f0, .slice f1A f1N f1C], .int .i64 mask] w (Ret fun v w' => v = .bool (F_l05Set f0 f1 mask) ∧ Ext w w') := by
  obtain rfl : f1N = f1.length := f1R.len1.symm
  have f1Le := f1R.le
  have hS := St.nil w
  have hS1 := St.rd0 hS rfl f1R; clear hS
  refine enter (args := [.agg #[.int .i64 f0, .slice f1A f1.length f1C], .int .i64 mask]) Try.func70 rfl rfl ?_
  rw [Try.ntmps70]; intro a hE
  have hE := hE.sub (L' := [(0, .agg #[.int .i64 f0, .slice f1A f1.length f1C]), (1, .int .i64 mask)]) ⟨rfl, rfl, trivial⟩
  refine c_seq ?_
  refine c_reg ?_
  refine l_step hE rfl (l_box (v := .agg #[.int .i64 f0, .slice f1A f1.length f1C]) (cs := #[.int .i64 f0, .slice f1A f1.length f1C]) hS1 hE rfl rfl rfl ?_)
  intro b2 w3 hS6 he7 a4 hE5; clear hS1 hE
  refine q_step (v := .bool false) hE5 (y_assign rfl) rfl rfl rfl ?_; intro a8 hE9; clear hE5
  refine c_nil ?_
  have hE10 := hE9.sub (L' := [(1, .int .i64 mask), (2, .pointer (some ⟨b2, 0, none⟩))]) ⟨rfl, rfl, trivial⟩; clear hE9
  refine p_tn ?_
  refine c_seq ?_
  refine c_reg ?_
  refine q_step (v := .int .i64 mask) hE10 (y_move rfl) rfl rfl rfl ?_; intro a11 hE12; clear hE10
  refine q_step (v := .pointer (some ⟨b2, 0, none⟩)) hE12 (y_field rfl (fun _ => by kernel_rfl)) rfl rfl rfl ?_; intro a13 hE14; clear hE12
  refine q_step (v := .int .i64 f0) hE14 (y_load (fun _ => by kernel_rfl) rfl (St.cell (i := 0) hS6 rfl rfl)) rfl rfl rfl ?_; intro a15 hE16; clear hE14
  refine l_step hE16 rfl (l_call (f := 78) (argv := [.int .i64 f0]) hE16 (fun _ => cf_l01Full _ _) rfl rfl (d_l01Full f0 w3 (by omega) (by omega)) ?_)
  rintro _ _ ⟨rfl, rfl⟩ a19 hE20; clear hE16
  refine l_step hE20 rfl (l_call (f := 77) (argv := [.int .i64 mask, .int .i64 0, .int .i64 (fullI f0)]) hE20 (fun _ => cf_l01In _ _) rfl rfl (c_l01In mask 0 (fullI f0) w3) ?_)
  rintro _ _ ⟨rfl, rfl⟩ a25 hE26; clear hE20
  refine q_step (v := .bool (F_l01In mask 0 (fullI f0))) hE26 (y_assign rfl) rfl rfl rfl ?_; intro a29 hE30; clear hE26
  refine c_nil ?_
  have hE31 := hE30.sub (L' := [(4, .bool (F_l01In mask 0 (fullI f0)))]) ⟨rfl, trivial⟩; clear hE30
  refine p_tn ?_
  refine wp_ret ?_
  have hF : F_l05Set f0 f1 mask = F_l01In mask 0 (fullI f0) := by unfold F_l05Set; rfl
  refine c_ret1 hE31 rfl rfl ?_
  exact ⟨(by rw [hF]; first | done | rfl), hS6.ext⟩

theorem rl_of {f0 : Int} {f1 : List Int} (h0 : 0 ≤ f0) (hl : (f1.length : Int) = f0) (hx : ∀ m : Int, 0 ≤ m → m < (f1.length : Int) → 0 ≤ gI f1 m ∧ gI f1 m ≤ fullI f0) : Rl f0.toNat f1 := by
  refine ⟨by omega, fun i hi => ?_⟩
  have := hx (i : Int) (by omega) (by omega)
  have e : ((f0.toNat : Nat) : Int) = f0 := by omega
  exact ⟨this.1, by rw [e]; exact this.2⟩

theorem mask_sm {f0 mask : Int} (h0 : 0 ≤ f0 ∧ f0 ≤ 8) (h : mask ≤ fullI f0) : mask < 4611686018427387904 := by
  have := fullI_bd (n := f0) (by omega) (by omega); omega

theorem pow62 : powI (62 - 0) = 4611686018427387904 := rfl
theorem half_pow {m i : Int} (hi : 0 ≤ i) (hi2 : i ≤ 62) (h : m < powI (62 - i)) : 0 < m → m / 2 < powI (62 - (i + 1)) ∧ i ≤ 61 := by
  intro hm
  have hi3 : i ≤ 61 := by
    apply Decidable.byContradiction; intro hc
    have : i = 62 := by omega
    subst this
    have e : powI (62 - 62) = 1 := rfl
    omega
  refine ⟨?_, hi3⟩
  have e : powI (62 - i) = 2 * powI (62 - (i + 1)) := by
    unfold powI
    rw [show (62 - i).toNat = (62 - (i + 1)).toNat + 1 by omega, Int.pow_succ]; omega
  omega

def F_l01List_L1b (rec : Int → (List Int) → Int → Int × (List Int) × Int) (mask0 : Int) (out3 : List Int) (i4 : Int) : Int × (List Int) × Int :=
  bif (decide (0 < mask0)) then (rec (mask0 / 2) (bif (decide ((mask0 % 2) = 1)) then out3 ++ ([i4]) else out3) (i4 + 1)) else (mask0, out3, i4)
def F_l01List_L1 : Nat → Int → (List Int) → Int → Int × (List Int) × Int
  | 0, mask0, out3, i4 => (mask0, out3, i4)
  | r + 1, mask0, out3, i4 => F_l01List_L1b (F_l01List_L1 r) mask0 out3 i4
def F_l01List (mask : Int) : List Int :=
  (F_l01List_L1 (Int.toNat (mask - 0) + 1) mask ([]) 0).2.1
theorem cf_l01List (args : Array Value) (w : World) : (callFunc 71 args).run Try.prog w = .ok (.enter 71 args) w := by kernel_rfl
set_option maxRecDepth 100000 in
theorem c_l01List (mask : Int) (w : World) (h0 : 0 ≤ mask) (h1 : mask < 4611686018427387904) :
    Calls Try.prog 71 #[.int .i64 mask] w (Ret fun v w' => ∃ b1 : Option Addr, ∃ c1 : Nat, v = .slice b1 (F_l01List mask).length c1 ∧ OwnS w' w.heap.size 2 1 b1 (F_l01List mask).length c1 (F_l01List mask) ∧ Ext w w') := by
  have hp62 := pow62
  have hS := St.nil w
  refine enter (args := [.int .i64 mask]) Try.func71 rfl rfl ?_
  rw [Try.ntmps71]; intro a hE
  have hE := hE.sub (L' := [(0, .int .i64 mask)]) ⟨rfl, trivial⟩
  refine c_seq ?_
  refine c_reg ?_
  refine q_step (v := .slice none 0 0) hE (y_assign rfl) rfl rfl rfl ?_; intro a1 hE2; clear hE
  refine c_nil ?_
  have hE3 := hE2.sub (L' := [(0, .int .i64 mask)]) ⟨rfl, trivial⟩; clear hE2
  refine p_tn ?_
  refine c_seq ?_
  refine c_reg ?_
  refine l_step hE3 rfl (l_lit (e := 2) (s := 1) (xs := []) (vs := []) hS hE3 rfl (fun _ => by kernel_rfl) rfl rfl rfl ?_)
  intro b4 w5 hS8 he9 a6 hE7; clear hS hE3
  refine q_step (v := .slice (some ⟨b4, 0, none⟩) 0 0) hE7 (y_assign rfl) rfl rfl rfl ?_; intro a10 hE11; clear hE7
  refine c_nil ?_
  have hE12 := hE11.sub (L' := [(0, .int .i64 mask), (3, .slice (some ⟨b4, 0, none⟩) 0 0)]) ⟨rfl, rfl, trivial⟩; clear hE11
  refine p_tn ?_
  refine c_seq ?_
  refine c_seq ?_
  refine c_reg ?_
  refine q_step (v := .int .i64 0) hE12 (y_assign rfl) rfl rfl rfl ?_; intro a13 hE14; clear hE12
  refine c_nil ?_
  have hE15 := hE14.sub (L' := [(0, .int .i64 mask), (3, .slice (some ⟨b4, 0, none⟩) 0 0), (4, .int .i64 0)]) ⟨rfl, rfl, rfl, trivial⟩; clear hE14
  refine p_tn ?_
  refine c_cut1 (fun a' w' => ∃ out3A_16 : Option Addr, ∃ out3C_16 : Nat, (0 ≤ ((F_l01List_L1 (Int.toNat (mask - 0) + 1) mask ([]) 0).1)) ∧ (0 ≤ ((F_l01List_L1 (Int.toNat (mask - 0) + 1) mask ([]) 0).2.2)) ∧ (((F_l01List_L1 (Int.toNat (mask - 0) + 1) mask ([]) 0).2.2) ≤ 62) ∧ (((F_l01List_L1 (Int.toNat (mask - 0) + 1) mask ([]) 0).1) < powI (62 - ((F_l01List_L1 (Int.toNat (mask - 0) + 1) mask ([]) 0).2.2))) ∧ (((F_l01List_L1 (Int.toNat (mask - 0) + 1) mask ([]) 0).1) ≤ mask) ∧ ((((F_l01List_L1 (Int.toNat (mask - 0) + 1) mask ([]) 0).2.1).length : Int) ≤ ((F_l01List_L1 (Int.toNat (mask - 0) + 1) mask ([]) 0).2.2)) ∧ E a' 20 [(0, .int .i64 ((F_l01List_L1 (Int.toNat (mask - 0) + 1) mask ([]) 0).1)), (3, .slice out3A_16 (((F_l01List_L1 (Int.toNat (mask - 0) + 1) mask ([]) 0).2.1).length) out3C_16), (4, .int .i64 ((F_l01List_L1 (Int.toNat (mask - 0) + 1) mask ([]) 0).2.2))] ∧ St w w' [.own 2 1 out3A_16 (((F_l01List_L1 (Int.toNat (mask - 0) + 1) mask ([]) 0).2.1).length) out3C_16 ((F_l01List_L1 (Int.toNat (mask - 0) + 1) mask ([]) 0).2.1)]) ?_ ?_
  ·
    refine wp_block ?_
    refine c_loop (fun r a' w' => ∃ mask0 : Int, ∃ out3 : List Int, ∃ i4 : Int, ∃ out3A : Option Addr, ∃ out3C : Nat, F_l01List_L1 r mask0 out3 i4 = F_l01List_L1 (Int.toNat (mask - 0) + 1) mask ([]) 0 ∧ Int.toNat (mask0 - 0) < r ∧ (0 ≤ mask0) ∧ (0 ≤ i4) ∧ (i4 ≤ 62) ∧ (mask0 < powI (62 - i4)) ∧ (mask0 ≤ mask) ∧ ((out3.length : Int) ≤ i4) ∧ E a' 20 [(0, .int .i64 mask0), (3, .slice out3A ((out3).length) out3C), (4, .int .i64 i4)] ∧ St w w' [.own 2 1 out3A ((out3).length) out3C out3]) (r := (Int.toNat (mask - 0) + 1)) ?_ ?_
    · exact ⟨mask, [], 0, some ⟨b4, 0, none⟩, 0, rfl, Nat.lt_succ_self _, (by first | omega | (simp only [List.length_replicate, sI_len]; omega) | (simp only [List.length_append, List.length_cons, List.length_nil, sI_len, cond_true, cond_false]; omega) | (simp only [List.length_append, List.length_cons, List.length_nil, sI_len, cond_eq_ite, apply_ite List.length]; split <;> simp only [List.length_append, List.length_cons, List.length_nil, sI_len] <;> omega) | grind), (by first | omega | (simp only [List.length_replicate, sI_len]; omega) | (simp only [List.length_append, List.length_cons, List.length_nil, sI_len, cond_true, cond_false]; omega) | (simp only [List.length_append, List.length_cons, List.length_nil, sI_len, cond_eq_ite, apply_ite List.length]; split <;> simp only [List.length_append, List.length_cons, List.length_nil, sI_len] <;> omega) | grind), (by first | omega | (simp only [List.length_replicate, sI_len]; omega) | (simp only [List.length_append, List.length_cons, List.length_nil, sI_len, cond_true, cond_false]; omega) | (simp only [List.length_append, List.length_cons, List.length_nil, sI_len, cond_eq_ite, apply_ite List.length]; split <;> simp only [List.length_append, List.length_cons, List.length_nil, sI_len] <;> omega) | grind), (by first | omega | (simp only [List.length_replicate, sI_len]; omega) | (simp only [List.length_append, List.length_cons, List.length_nil, sI_len, cond_true, cond_false]; omega) | (simp only [List.length_append, List.length_cons, List.length_nil, sI_len, cond_eq_ite, apply_ite List.length]; split <;> simp only [List.length_append, List.length_cons, List.length_nil, sI_len] <;> omega) | grind), (by first | omega | (simp only [List.length_replicate, sI_len]; omega) | (simp only [List.length_append, List.length_cons, List.length_nil, sI_len, cond_true, cond_false]; omega) | (simp only [List.length_append, List.length_cons, List.length_nil, sI_len, cond_eq_ite, apply_ite List.length]; split <;> simp only [List.length_append, List.length_cons, List.length_nil, sI_len] <;> omega) | grind), (by first | omega | (simp only [List.length_replicate, sI_len]; omega) | (simp only [List.length_append, List.length_cons, List.length_nil, sI_len, cond_true, cond_false]; omega) | (simp only [List.length_append, List.length_cons, List.length_nil, sI_len, cond_eq_ite, apply_ite List.length]; split <;> simp only [List.length_append, List.length_cons, List.length_nil, sI_len] <;> omega) | grind), (hE15.sub (L' := [(0, .int .i64 mask), (3, .slice (some ⟨b4, 0, none⟩) 0 0), (4, .int .i64 0)]) ⟨rfl, rfl, rfl, trivial⟩), (St.pick (Γ' := [.own 2 1 (some ⟨b4, 0, none⟩) 0 0 ([])]) hS8 [0] (by decide) rfl)⟩
    ·
      clear hE15 hS8
      rintro r29 a17 w18 ⟨mask0, out3, i4, out3A, out3C, hT21, hr22, hi23, hi24, hi25, hi26, hi27, hi28, hE19, hS20⟩
      obtain ⟨r29, rfl⟩ : ∃ r', r29 = r' + 1 := ⟨r29 - 1, by omega⟩
      have hh := half_pow (m := mask0) (i := i4) (by omega) (by omega) (by omega)
      refine c_seq ?_
      refine c_seq ?_
      refine c_reg ?_
      refine q_step (v := .int .i64 mask0) hE19 (y_move rfl) rfl rfl rfl ?_; intro a30 hE31; clear hE19
      refine q_step (v := .bool (decide (0 < mask0))) hE31 (y_gtr rfl rfl) rfl rfl rfl ?_; intro a32 hE33; clear hE31
      refine c_nil ?_
      have hE34 := hE33.sub (L' := [(0, .int .i64 mask0), (3, .slice out3A ((out3).length) out3C), (4, .int .i64 i4), (7, .bool (decide (0 < mask0)))]) ⟨rfl, rfl, rfl, rfl, trivial⟩; clear hE33
      refine p_tn ?_
      refine c_cond hE34 rfl (fun ht35 => ?_) (fun ht35 => ?_)
      ·
        have hp36 := of_decide_eq_true ht35
        have hE37 := hE34; rw [ht35] at hE37; clear hE34
        refine wp_skip ?_
        refine p_tn ?_
        refine c_seq ?_
        refine wp_block ?_
        refine c_cut (fun a' w' => ∃ b38 : Option Addr, ∃ c39 : Nat, E a' 20 [(0, .int .i64 mask0), (3, .slice b38 ((bif (decide ((mask0 % 2) = 1)) then out3 ++ ([i4]) else out3).length) c39), (4, .int .i64 i4)] ∧ St w w' [.own 2 1 b38 ((bif (decide ((mask0 % 2) = 1)) then out3 ++ ([i4]) else out3).length) c39 (bif (decide ((mask0 % 2) = 1)) then out3 ++ ([i4]) else out3)]) ?_ ?_
        ·
          refine c_seq ?_
          refine c_reg ?_
          refine q_step (v := .int .i64 mask0) hE37 (y_move rfl) rfl rfl rfl ?_; intro a40 hE41; clear hE37
          refine q_step (v := .int .i64 (mask0 % 2)) hE41 (y_rem rfl rfl (by omega) (by omega)) rfl rfl rfl ?_; intro a42 hE43; clear hE41
          refine q_step (v := .bool (decide ((mask0 % 2) = 1))) hE43 (y_eql rfl rfl) rfl rfl rfl ?_; intro a44 hE45; clear hE43
          refine c_nil ?_
          have hE46 := hE45.sub (L' := [(0, .int .i64 mask0), (3, .slice out3A ((out3).length) out3C), (4, .int .i64 i4), (12, .bool (decide ((mask0 % 2) = 1)))]) ⟨rfl, rfl, rfl, rfl, trivial⟩; clear hE45
          refine p_tn ?_
          refine c_cond hE46 rfl (fun ht47 => ?_) (fun ht47 => ?_)
          ·
            have hp48 := of_decide_eq_true ht47
            have hE49 := hE46; rw [ht47] at hE49; clear hE46
            refine c_reg ?_
            refine q_step (v := .slice out3A ((out3).length) out3C) hE49 (y_move rfl) rfl rfl rfl ?_; intro a50 hE51; clear hE49
            refine q_step (v := .int .i64 i4) hE51 (y_move rfl) rfl rfl rfl ?_; intro a52 hE53; clear hE51
            refine l_step hE53 rfl (l_lit (e := 2) (s := 1) (xs := [i4]) (vs := [.int .i64 i4]) hS20 hE53 rfl (fun _ => by kernel_rfl) rfl rfl rfl ?_)
            intro b54 w55 hS58 he59 a56 hE57; clear hS20 hE53
            obtain ⟨_, hi1, hi2, hi3, hi4⟩ := info_parts (show (Try.prog.info? 2).map (fun i => (i.zero, i.size, i.bytes)) = some (some (.int .i64 0), 1, 8) by kernel_rfl)
            refine l_step hE57 rfl (l_append (k := 1) (n' := (out3 ++ ([i4])).length) hS58 hE57 (by kernel_rfl) hi1 hi2 hi3 rfl (by decide) (by rw [hi4]; decide) rfl rfl rfl (St.rdO (i := 0) hS58 rfl) (by first | omega | (simp only [List.length_append, List.length_cons, List.length_nil]; omega)) (by have h1 := (St.rdO (i := 1) hS58 rfl).len1; have h2 := (St.rdO (i := 0) hS58 rfl).len1; rw [List.length_append, h1, h2]) rfl ?_)
            intro b60 c66 w61 hS64 a62 hE63; clear hS58 hE57 hi1 hi2 hi3 hi4
            refine q_step (v := .slice b60 ((out3 ++ ([i4])).length) c66) hE63 (y_assign rfl) rfl rfl rfl ?_; intro a67 hE68; clear hE63
            refine c_nil ?_
            have hE69 := hE68.sub (L' := [(0, .int .i64 mask0), (3, .slice b60 ((out3 ++ ([i4])).length) c66), (4, .int .i64 i4)]) ⟨rfl, rfl, rfl, trivial⟩; clear hE68
            refine p_tn ?_
            have hE70 := hE69.sub (L' := [(0, .int .i64 mask0), (3, .slice b60 ((out3 ++ ([i4])).length) c66), (4, .int .i64 i4)]) ⟨rfl, rfl, rfl, trivial⟩
            have hS71 := (St.pick (Γ' := [.own 2 1 b60 ((out3 ++ ([i4])).length) c66 (out3 ++ ([i4]))]) hS64 [1] (by decide) rfl)
            exact ⟨b60, c66, (by rw [ht47]; exact hE70), (by rw [ht47]; exact hS71)⟩
          ·
            have hp72 := of_decide_eq_false ht47
            have hE73 := hE46; rw [ht47] at hE73; clear hE46
            refine wp_skip ?_
            refine p_tn ?_
            have hE74 := hE73.sub (L' := [(0, .int .i64 mask0), (3, .slice out3A ((out3).length) out3C), (4, .int .i64 i4)]) ⟨rfl, rfl, rfl, trivial⟩
            have hS75 := (St.pick (Γ' := [.own 2 1 out3A ((out3).length) out3C out3]) hS20 [0] (by decide) rfl)
            exact ⟨out3A, out3C, (by rw [ht47]; exact hE74), (by rw [ht47]; exact hS75)⟩
        ·
          rintro a76 w77 ⟨b38, c39, hE78, hS79⟩; clear hE37 hS20
          refine c_reg ?_
          refine q_step (v := .int .i64 i4) hE78 (y_move rfl) rfl rfl rfl ?_; intro a80 hE81; clear hE78
          refine q_step (v := .int .i64 (i4 + 1)) hE81 (y_add rfl rfl ⟨(by omega), (by omega)⟩) rfl rfl rfl ?_; intro a82 hE83; clear hE81
          refine q_step (v := .int .i64 (i4 + 1)) hE83 (y_assign rfl) rfl rfl rfl ?_; intro a84 hE85; clear hE83
          refine c_nil ?_
          have hE86 := hE85.sub (L' := [(0, .int .i64 mask0), (3, .slice b38 ((bif (decide ((mask0 % 2) = 1)) then out3 ++ ([i4]) else out3).length) c39), (4, .int .i64 (i4 + 1))]) ⟨rfl, rfl, rfl, trivial⟩; clear hE85
          refine p_bn ?_
          refine p_tn ?_
          refine c_reg ?_
          refine q_step (v := .int .i64 mask0) hE86 (y_move rfl) rfl rfl rfl ?_; intro a87 hE88; clear hE86
          refine q_step (v := .int .i64 (mask0 / 2)) hE88 (y_quo rfl rfl (by omega) (by omega) (by omega)) rfl rfl rfl ?_; intro a89 hE90; clear hE88
          refine q_step (v := .int .i64 (mask0 / 2)) hE90 (y_assign rfl) rfl rfl rfl ?_; intro a91 hE92; clear hE90
          refine c_nil ?_
          have hE93 := hE92.sub (L' := [(0, .int .i64 (mask0 / 2)), (3, .slice b38 ((bif (decide ((mask0 % 2) = 1)) then out3 ++ ([i4]) else out3).length) c39), (4, .int .i64 (i4 + 1))]) ⟨rfl, rfl, rfl, trivial⟩; clear hE92
          have hl94 := (St.rdO (i := 0) hS79 rfl).len1
          refine p_tn ⟨r29, Nat.lt_succ_self _, mask0 / 2, bif (decide ((mask0 % 2) = 1)) then out3 ++ ([i4]) else out3, i4 + 1, b38, c39, (hT21.symm.trans (show F_l01List_L1b (F_l01List_L1 r29) mask0 out3 i4 = F_l01List_L1 r29 (mask0 / 2) (bif (decide ((mask0 % 2) = 1)) then out3 ++ ([i4]) else out3) (i4 + 1) by unfold F_l01List_L1b; rw [ht35]; first | done | rfl)).symm, (by omega), (by first | omega | (simp only [List.length_replicate, sI_len]; omega) | (simp only [List.length_append, List.length_cons, List.length_nil, sI_len, cond_true, cond_false]; omega) | (simp only [List.length_append, List.length_cons, List.length_nil, sI_len, cond_eq_ite, apply_ite List.length]; split <;> simp only [List.length_append, List.length_cons, List.length_nil, sI_len] <;> omega) | grind), (by first | omega | (simp only [List.length_replicate, sI_len]; omega) | (simp only [List.length_append, List.length_cons, List.length_nil, sI_len, cond_true, cond_false]; omega) | (simp only [List.length_append, List.length_cons, List.length_nil, sI_len, cond_eq_ite, apply_ite List.length]; split <;> simp only [List.length_append, List.length_cons, List.length_nil, sI_len] <;> omega) | grind), (by first | omega | (simp only [List.length_replicate, sI_len]; omega) | (simp only [List.length_append, List.length_cons, List.length_nil, sI_len, cond_true, cond_false]; omega) | (simp only [List.length_append, List.length_cons, List.length_nil, sI_len, cond_eq_ite, apply_ite List.length]; split <;> simp only [List.length_append, List.length_cons, List.length_nil, sI_len] <;> omega) | grind), (by first | omega | (simp only [List.length_replicate, sI_len]; omega) | (simp only [List.length_append, List.length_cons, List.length_nil, sI_len, cond_true, cond_false]; omega) | (simp only [List.length_append, List.length_cons, List.length_nil, sI_len, cond_eq_ite, apply_ite List.length]; split <;> simp only [List.length_append, List.length_cons, List.length_nil, sI_len] <;> omega) | grind), (by first | omega | (simp only [List.length_replicate, sI_len]; omega) | (simp only [List.length_append, List.length_cons, List.length_nil, sI_len, cond_true, cond_false]; omega) | (simp only [List.length_append, List.length_cons, List.length_nil, sI_len, cond_eq_ite, apply_ite List.length]; split <;> simp only [List.length_append, List.length_cons, List.length_nil, sI_len] <;> omega) | grind), (by first | omega | (simp only [List.length_replicate, sI_len]; omega) | (simp only [List.length_append, List.length_cons, List.length_nil, sI_len, cond_true, cond_false]; omega) | (simp only [List.length_append, List.length_cons, List.length_nil, sI_len, cond_eq_ite, apply_ite List.length]; split <;> simp only [List.length_append, List.length_cons, List.length_nil, sI_len] <;> omega) | grind), (hE93.sub (L' := [(0, .int .i64 (mask0 / 2)), (3, .slice b38 ((bif (decide ((mask0 % 2) = 1)) then out3 ++ ([i4]) else out3).length) c39), (4, .int .i64 (i4 + 1))]) ⟨rfl, rfl, rfl, trivial⟩), (St.pick (Γ' := [.own 2 1 b38 ((bif (decide ((mask0 % 2) = 1)) then out3 ++ ([i4]) else out3).length) c39 (bif (decide ((mask0 % 2) = 1)) then out3 ++ ([i4]) else out3)]) hS79 [0] (by decide) rfl)⟩
      ·
        have hp95 := of_decide_eq_false ht35
        have hE96 := hE34; rw [ht35] at hE96; clear hE34
        refine wp_exit ?_
        refine p_te ?_
        have hX97 : F_l01List_L1 (Int.toNat (mask - 0) + 1) mask ([]) 0 = (mask0, out3, i4) := hT21.symm.trans (show F_l01List_L1b (F_l01List_L1 r29) mask0 out3 i4 = (mask0, out3, i4) by unfold F_l01List_L1b; rw [ht35]; first | done | rfl)
        refine p_te (p_be (p_tn ?_))
        exact ⟨out3A, out3C, (by rw [hX97]; exact (show 0 ≤ mask0 from (by first | omega | (simp only [List.length_replicate, sI_len]; omega) | (simp only [List.length_append, List.length_cons, List.length_nil, sI_len, cond_true, cond_false]; omega) | (simp only [List.length_append, List.length_cons, List.length_nil, sI_len, cond_eq_ite, apply_ite List.length]; split <;> simp only [List.length_append, List.length_cons, List.length_nil, sI_len] <;> omega) | grind))), (by rw [hX97]; exact (show 0 ≤ i4 from (by first | omega | (simp only [List.length_replicate, sI_len]; omega) | (simp only [List.length_append, List.length_cons, List.length_nil, sI_len, cond_true, cond_false]; omega) | (simp only [List.length_append, List.length_cons, List.length_nil, sI_len, cond_eq_ite, apply_ite List.length]; split <;> simp only [List.length_append, List.length_cons, List.length_nil, sI_len] <;> omega) | grind))), (by rw [hX97]; exact (show i4 ≤ 62 from (by first | omega | (simp only [List.length_replicate, sI_len]; omega) | (simp only [List.length_append, List.length_cons, List.length_nil, sI_len, cond_true, cond_false]; omega) | (simp only [List.length_append, List.length_cons, List.length_nil, sI_len, cond_eq_ite, apply_ite List.length]; split <;> simp only [List.length_append, List.length_cons, List.length_nil, sI_len] <;> omega) | grind))), (by rw [hX97]; exact (show mask0 < powI (62 - i4) from (by first | omega | (simp only [List.length_replicate, sI_len]; omega) | (simp only [List.length_append, List.length_cons, List.length_nil, sI_len, cond_true, cond_false]; omega) | (simp only [List.length_append, List.length_cons, List.length_nil, sI_len, cond_eq_ite, apply_ite List.length]; split <;> simp only [List.length_append, List.length_cons, List.length_nil, sI_len] <;> omega) | grind))), (by rw [hX97]; exact (show mask0 ≤ mask from (by first | omega | (simp only [List.length_replicate, sI_len]; omega) | (simp only [List.length_append, List.length_cons, List.length_nil, sI_len, cond_true, cond_false]; omega) | (simp only [List.length_append, List.length_cons, List.length_nil, sI_len, cond_eq_ite, apply_ite List.length]; split <;> simp only [List.length_append, List.length_cons, List.length_nil, sI_len] <;> omega) | grind))), (by rw [hX97]; exact (show (out3.length : Int) ≤ i4 from (by first | omega | (simp only [List.length_replicate, sI_len]; omega) | (simp only [List.length_append, List.length_cons, List.length_nil, sI_len, cond_true, cond_false]; omega) | (simp only [List.length_append, List.length_cons, List.length_nil, sI_len, cond_eq_ite, apply_ite List.length]; split <;> simp only [List.length_append, List.length_cons, List.length_nil, sI_len] <;> omega) | grind))), (by rw [hX97]; exact (hE96.sub (L' := [(0, .int .i64 mask0), (3, .slice out3A ((out3).length) out3C), (4, .int .i64 i4)]) ⟨rfl, rfl, rfl, trivial⟩)), (by rw [hX97]; exact (St.pick (Γ' := [.own 2 1 out3A ((out3).length) out3C out3]) hS20 [0] (by decide) rfl))⟩
  ·
    rintro a98 w99 ⟨out3A_16, out3C_16, hi103, hi104, hi105, hi106, hi107, hi108, hE100, hS101⟩; clear hE15 hS8
    refine p_tn ?_
    refine c_seq ?_
    refine c_reg ?_
    refine q_step (v := .slice out3A_16 (((F_l01List_L1 (Int.toNat (mask - 0) + 1) mask ([]) 0).2.1).length) out3C_16) hE100 (y_move rfl) rfl rfl rfl ?_; intro a109 hE110; clear hE100
    refine q_step (v := .slice out3A_16 (((F_l01List_L1 (Int.toNat (mask - 0) + 1) mask ([]) 0).2.1).length) out3C_16) hE110 (y_assign rfl) rfl rfl rfl ?_; intro a111 hE112; clear hE110
    refine c_nil ?_
    have hE113 := hE112.sub (L' := [(2, .slice out3A_16 (((F_l01List_L1 (Int.toNat (mask - 0) + 1) mask ([]) 0).2.1).length) out3C_16)]) ⟨rfl, trivial⟩; clear hE112
    refine p_tn ?_
    refine wp_ret ?_
    have hF : F_l01List mask = (F_l01List_L1 (Int.toNat (mask - 0) + 1) mask ([]) 0).2.1 := by unfold F_l01List; rfl
    refine c_ret1 hE113 rfl rfl ?_
    exact ⟨out3A_16, out3C_16, (by rw [hF]; first | done | rfl), (by rw [hF]; exact hS101.ok 0 _ rfl), hS101.ext⟩

theorem half_shift {m i : Nat} : m / 2 ^ i / 2 = m / 2 ^ (i + 1) := by rw [Nat.div_div_eq_div_mul, Nat.pow_succ]
theorem list_key {mask : Int} {n : Nat} (h0 : 0 ≤ mask) (h1 : mask < 4611686018427387904) (hn : n ≤ 62) (hm : mask.toNat < 2 ^ n) : ∀ (k i : Nat) (out : List Int) (r : Nat), i + k = n → k + 1 ≤ r →
    (F_l01List_L1 r ((mask.toNat / 2 ^ i : Nat) : Int) out (i : Int)).2.1 = out ++ ((List.range' i k).filter (fun (j : Nat) => F_has mask (j : Int))).map (fun (j : Nat) => (j : Int)) := by
  intro k
  induction k with
  | zero =>
    intro i out r hi hr
    obtain ⟨r, rfl⟩ : ∃ r', r = r' + 1 := ⟨r - 1, by omega⟩
    show (F_l01List_L1b _ _ out _).2.1 = _
    unfold F_l01List_L1b
    rw [Nat.div_eq_of_lt (by rw [show i = n by omega]; exact hm)]
    simp
  | succ k ih =>
    intro i out r hi hr
    obtain ⟨r, rfl⟩ : ∃ r', r = r' + 1 := ⟨r - 1, by omega⟩
    show (F_l01List_L1b _ _ out _).2.1 = _
    unfold F_l01List_L1b
    have hb : F_has mask (i : Int) = decide ((((mask.toNat / 2 ^ i : Nat) : Int) % 2) = 1) := by
      rw [has_eq h0 h1 (by omega), Nat.testBit_eq_decide_div_mod_eq]
      exact decide_eq_decide.2 (by omega)
    by_cases h : (0 : Int) < ((mask.toNat / 2 ^ i : Nat) : Int)
    · rw [decide_eq_true h, cond_true, ← hb, show (((mask.toNat / 2 ^ i : Nat) : Int) / 2) = ((mask.toNat / 2 ^ (i + 1) : Nat) : Int) by rw [← half_shift]; omega, show (i : Int) + 1 = ((i + 1 : Nat) : Int) by omega, ih (i + 1) _ r (by omega) (by omega), List.range'_succ, List.filter_cons]
      cases F_has mask (i : Int)
      · rfl
      · rw [if_pos rfl, List.map_cons, cond_true, List.append_assoc]; rfl
    · rw [decide_eq_false h, cond_false]
      have hz : mask.toNat < 2 ^ i := (Nat.div_eq_zero_iff_lt (Nat.pow_pos (by decide))).1 (Nat.eq_zero_of_not_pos fun h2 => h (by exact_mod_cast h2))
      have : (List.range' i (k + 1)).filter (fun (j : Nat) => F_has mask (j : Int)) = [] := by
        rw [List.filter_eq_nil_iff]
        intro j hj
        rw [List.mem_range'_1] at hj
        rw [has_eq h0 h1 (by omega), bit_small hz (by omega)]; decide
      rw [this]; simp
theorem l01List_eq {mask : Int} (h0 : 0 ≤ mask) (h1 : mask < 4611686018427387904) : F_l01List mask = F_membersOf mask := by
  have hn : mask.toNat < 2 ^ (min 62 mask.toNat) := by
    by_cases h : mask.toNat ≤ 62
    · rw [Nat.min_eq_right h]; exact Nat.lt_two_pow_self
    · rw [Nat.min_eq_left (by omega)]; omega
  have e1 := list_key h0 h1 (Nat.min_le_left _ _) hn (min 62 mask.toNat) 0 [] (Int.toNat (mask - 0) + 1) (by omega) (by omega)
  have e2 := members_key h0 h1 (Nat.min_le_left _ _) hn (min 62 mask.toNat) 0 [] (Int.toNat (63 - 0) + 1) (by omega) (by omega)
  unfold F_l01List F_membersOf
  have e3 : ((mask.toNat / 2 ^ 0 : Nat) : Int) = mask := by rw [Nat.pow_zero, Nat.div_one]; omega
  rw [e3] at e1
  exact e1.trans e2.symm
theorem full62 {m : Int} (h : m < 4611686018427387904) : m ≤ fullI ((62 : Nat) : Int) := by
  have : fullI ((62 : Nat) : Int) = 4611686018427387903 := rfl
  omega
theorem list_lt {f0 mask : Int} (h : 0 ≤ f0 ∧ f0 ≤ 30) (hm : 0 ≤ mask ∧ mask ≤ fullI f0) : ((F_l01List mask).length : Int) ≤ f0 ∧ ∀ t : Int, 0 ≤ t → t < ((F_l01List mask).length : Int) → 0 ≤ gI (F_l01List mask) t ∧ gI (F_l01List mask) t < f0 := by
  have hf := fullI_bd (n := f0) (by omega) (by omega)
  have e : ((f0.toNat : Nat) : Int) = f0 := by omega
  rw [l01List_eq hm.1 (by omega)]
  have hm2 : mask ≤ fullI ((f0.toNat : Nat) : Int) := by rw [e]; exact hm.2
  refine ⟨?_, fun t h0 h1 => ?_⟩
  · have := members_len (n := f0.toNat) (by omega) hm.1 hm2; omega
  · have := members_lt (n := f0.toNat) (by omega) hm.1 hm2 t h0 h1; omega

def F_l05Squeeze_L1b (worlds : List Int) (mask : Int) (rec : Int → Int → Int × Int) (out5 : Int) (k6 : Int) : Int × Int :=
  bif (decide (k6 < (worlds.length : Int))) then (rec (bif (F_l01Bit mask (gI worlds k6)) then orI out5 (powI k6) else out5) (k6 + 1)) else (out5, k6)
def F_l05Squeeze_L1 (worlds : List Int) (mask : Int) : Nat → Int → Int → Int × Int
  | 0, out5, k6 => (out5, k6)
  | r + 1, out5, k6 => F_l05Squeeze_L1b worlds mask (F_l05Squeeze_L1 worlds mask r) out5 k6
def F_l05Squeeze (worlds : List Int) (mask : Int) : Int :=
  (F_l05Squeeze_L1 worlds mask (Int.toNat ((worlds.length : Int) - 0) + 1) 0 0).1
theorem cf_l05Squeeze (args : Array Value) (w : World) : (callFunc 72 args).run Try.prog w = .ok (.enter 72 args) w := by kernel_rfl
set_option maxRecDepth 100000 in
theorem c_l05Squeeze (worldsA : Option Addr) (worldsN worldsC : Nat) (worlds : List Int) (mask : Int) (w : World) (worldsR : RdS w 1 worldsA worldsN worldsC worlds) (hw : worlds.length ≤ 30) (hx : ∀ m : Int, 0 ≤ m → m < (worlds.length : Int) → 0 ≤ gI worlds m ∧ gI worlds m ≤ 62) :
    Calls Try.prog 72 #[.slice worldsA worldsN worldsC, .int .i64 mask] w (Ret fun v w' => v = .int .i64 (F_l05Squeeze worlds mask) ∧ Ext w w') := by
  obtain rfl : worldsN = worlds.length := worldsR.len1.symm
  have worldsLe := worldsR.le
  have hS := St.nil w
  have hS1 := St.rd0 hS rfl worldsR; clear hS
  refine enter (args := [.slice worldsA worlds.length worldsC, .int .i64 mask]) Try.func72 rfl rfl ?_
  rw [Try.ntmps72]; intro a hE
  have hE := hE.sub (L' := [(0, .slice worldsA worlds.length worldsC), (1, .int .i64 mask)]) ⟨rfl, rfl, trivial⟩
  refine c_seq ?_
  refine c_reg ?_
  refine q_step (v := .int .i64 0) hE (y_assign rfl) rfl rfl rfl ?_; intro a2 hE3; clear hE
  refine c_nil ?_
  have hE4 := hE3.sub (L' := [(0, .slice worldsA worlds.length worldsC), (1, .int .i64 mask)]) ⟨rfl, rfl, trivial⟩; clear hE3
  refine p_tn ?_
  refine c_seq ?_
  refine c_reg ?_
  refine q_step (v := .int .i64 0) hE4 (y_assign rfl) rfl rfl rfl ?_; intro a5 hE6; clear hE4
  refine c_nil ?_
  have hE7 := hE6.sub (L' := [(0, .slice worldsA worlds.length worldsC), (1, .int .i64 mask), (5, .int .i64 0)]) ⟨rfl, rfl, rfl, trivial⟩; clear hE6
  refine p_tn ?_
  refine c_seq ?_
  refine c_seq ?_
  refine c_reg ?_
  refine q_step (v := .int .i64 0) hE7 (y_assign rfl) rfl rfl rfl ?_; intro a8 hE9; clear hE7
  refine c_nil ?_
  have hE10 := hE9.sub (L' := [(0, .slice worldsA worlds.length worldsC), (1, .int .i64 mask), (5, .int .i64 0), (6, .int .i64 0)]) ⟨rfl, rfl, rfl, rfl, trivial⟩; clear hE9
  refine p_tn ?_
  refine c_cut1 (fun a' w' => (0 ≤ ((F_l05Squeeze_L1 worlds mask (Int.toNat ((worlds.length : Int) - 0) + 1) 0 0).2)) ∧ (((F_l05Squeeze_L1 worlds mask (Int.toNat ((worlds.length : Int) - 0) + 1) 0 0).2) ≤ (worlds.length : Int)) ∧ E a' 24 [(0, .slice worldsA worlds.length worldsC), (1, .int .i64 mask), (5, .int .i64 ((F_l05Squeeze_L1 worlds mask (Int.toNat ((worlds.length : Int) - 0) + 1) 0 0).1)), (6, .int .i64 ((F_l05Squeeze_L1 worlds mask (Int.toNat ((worlds.length : Int) - 0) + 1) 0 0).2))] ∧ St w w' [.rd 1 worldsA worlds.length worldsC worlds]) ?_ ?_
  ·
    refine wp_block ?_
    refine c_loop (fun r a' w' => ∃ out5 : Int, ∃ k6 : Int, F_l05Squeeze_L1 worlds mask r out5 k6 = F_l05Squeeze_L1 worlds mask (Int.toNat ((worlds.length : Int) - 0) + 1) 0 0 ∧ Int.toNat ((worlds.length : Int) - k6) < r ∧ (0 ≤ k6) ∧ (k6 ≤ (worlds.length : Int)) ∧ E a' 24 [(0, .slice worldsA worlds.length worldsC), (1, .int .i64 mask), (5, .int .i64 out5), (6, .int .i64 k6)] ∧ St w w' [.rd 1 worldsA worlds.length worldsC worlds]) (r := (Int.toNat ((worlds.length : Int) - 0) + 1)) ?_ ?_
    · exact ⟨0, 0, rfl, Nat.lt_succ_self _, (by first | omega | (simp only [List.length_replicate, sI_len]; omega) | (simp only [List.length_append, List.length_cons, List.length_nil, sI_len, cond_true, cond_false]; omega) | (simp only [List.length_append, List.length_cons, List.length_nil, sI_len, cond_eq_ite, apply_ite List.length]; split <;> simp only [List.length_append, List.length_cons, List.length_nil, sI_len] <;> omega) | grind), (by first | omega | (simp only [List.length_replicate, sI_len]; omega) | (simp only [List.length_append, List.length_cons, List.length_nil, sI_len, cond_true, cond_false]; omega) | (simp only [List.length_append, List.length_cons, List.length_nil, sI_len, cond_eq_ite, apply_ite List.length]; split <;> simp only [List.length_append, List.length_cons, List.length_nil, sI_len] <;> omega) | grind), (hE10.sub (L' := [(0, .slice worldsA worlds.length worldsC), (1, .int .i64 mask), (5, .int .i64 0), (6, .int .i64 0)]) ⟨rfl, rfl, rfl, rfl, trivial⟩), (St.pick (Γ' := [.rd 1 worldsA worlds.length worldsC worlds]) hS1 [0] (by decide) rfl)⟩
    ·
      clear hE10 hS1
      rintro r20 a12 w13 ⟨out5, k6, hT16, hr17, hi18, hi19, hE14, hS15⟩
      obtain ⟨r20, rfl⟩ : ∃ r', r20 = r' + 1 := ⟨r20 - 1, by omega⟩
      refine c_seq ?_
      refine c_seq ?_
      refine c_reg ?_
      refine q_step (v := .int .i64 k6) hE14 (y_move rfl) rfl rfl rfl ?_; intro a21 hE22; clear hE14
      refine q_step (v := .slice worldsA worlds.length worldsC) hE22 (y_move rfl) rfl rfl rfl ?_; intro a23 hE24; clear hE22
      refine q_step (v := .int .i64 (worlds.length : Int)) hE24 (y_len (e := 2) (by kernel_rfl) rfl) rfl rfl rfl ?_; intro a25 hE26; clear hE24
      refine q_step (v := .bool (decide (k6 < (worlds.length : Int)))) hE26 (y_lss rfl rfl) rfl rfl rfl ?_; intro a27 hE28; clear hE26
      refine c_nil ?_
      have hE29 := hE28.sub (L' := [(0, .slice worldsA worlds.length worldsC), (1, .int .i64 mask), (5, .int .i64 out5), (6, .int .i64 k6), (10, .bool (decide (k6 < (worlds.length : Int))))]) ⟨rfl, rfl, rfl, rfl, rfl, trivial⟩; clear hE28
      refine p_tn ?_
      refine c_cond hE29 rfl (fun ht30 => ?_) (fun ht30 => ?_)
      ·
        have hp31 := of_decide_eq_true ht30
        have hE32 := hE29; rw [ht30] at hE32; clear hE29
        have hx1 := hx k6 (by omega) (by omega)
        refine wp_skip ?_
        refine p_tn ?_
        refine c_cut (fun a' w' => E a' 24 [(0, .slice worldsA worlds.length worldsC), (1, .int .i64 mask), (5, .int .i64 (bif (F_l01Bit mask (gI worlds k6)) then orI out5 (powI k6) else out5)), (6, .int .i64 k6)] ∧ St w w' [.rd 1 worldsA worlds.length worldsC worlds]) ?_ ?_
        ·
          refine wp_block ?_
          refine c_seq ?_
          refine c_reg ?_
          refine q_step (v := .int .i64 mask) hE32 (y_move rfl) rfl rfl rfl ?_; intro a33 hE34; clear hE32
          refine q_step (v := .slice worldsA worlds.length worldsC) hE34 (y_move rfl) rfl rfl rfl ?_; intro a35 hE36; clear hE34
          refine q_step (v := .int .i64 k6) hE36 (y_move rfl) rfl rfl rfl ?_; intro a37 hE38; clear hE36
          refine q_step (v := .pointer (some (adr worldsA (Int.toNat k6)))) hE38 (y_idx (by kernel_rfl) (fun _ => by kernel_rfl) rfl rfl (RdS.isS (m := k6) (St.rdR (i := 0) hS15 rfl) (by omega) (by omega)) (by omega) (by omega) (Nat.mul_one _).symm) rfl rfl rfl ?_; intro a39 hE40; clear hE38
          refine q_step (v := .int .i64 (gI worlds k6)) hE40 (y_load (fun _ => by kernel_rfl) rfl (RdS.elt (St.rdR (i := 0) hS15 rfl) (by omega) (by omega))) rfl rfl rfl ?_; intro a41 hE42; clear hE40
          refine l_step hE42 rfl (l_call (f := 79) (argv := [.int .i64 mask, .int .i64 (gI worlds k6)]) hE42 (fun _ => cf_l01Bit _ _) rfl rfl (c_l01Bit mask (gI worlds k6) w13 (by omega) (by omega)) ?_)
          rintro _ _ ⟨rfl, rfl⟩ a45 hE46; clear hE42
          refine c_nil ?_
          have hE49 := hE46.sub (L' := [(0, .slice worldsA worlds.length worldsC), (1, .int .i64 mask), (5, .int .i64 out5), (6, .int .i64 k6), (18, .bool (F_l01Bit mask (gI worlds k6)))]) ⟨rfl, rfl, rfl, rfl, rfl, trivial⟩; clear hE46
          refine p_tn ?_
          refine c_cond hE49 rfl (fun ht50 => ?_) (fun ht50 => ?_)
          ·
            have hE51 := hE49; rw [ht50] at hE51; clear hE49
            refine c_reg ?_
            refine q_step (v := .int .i64 out5) hE51 (y_move rfl) rfl rfl rfl ?_; intro a52 hE53; clear hE51
            refine q_step (v := .int .i64 k6) hE53 (y_move rfl) rfl rfl rfl ?_; intro a54 hE55; clear hE53
            refine l_step hE55 rfl (l_call (f := 80) (argv := [.int .i64 k6]) hE55 (fun _ => cf_l01One _ _) rfl rfl (d_l01One k6 w13 (by omega) (by omega)) ?_)
            rintro _ _ ⟨rfl, rfl⟩ a58 hE59; clear hE55
            refine q_step (v := .int .i64 (orI out5 (powI k6))) hE59 (y_or rfl rfl) rfl rfl rfl ?_; intro a62 hE63; clear hE59
            refine q_step (v := .int .i64 (orI out5 (powI k6))) hE63 (y_assign rfl) rfl rfl rfl ?_; intro a64 hE65; clear hE63
            refine c_nil ?_
            have hE66 := hE65.sub (L' := [(0, .slice worldsA worlds.length worldsC), (1, .int .i64 mask), (5, .int .i64 (orI out5 (powI k6))), (6, .int .i64 k6)]) ⟨rfl, rfl, rfl, rfl, trivial⟩; clear hE65
            refine p_bn ?_
            refine p_tn ?_
            have hE67 := hE66.sub (L' := [(0, .slice worldsA worlds.length worldsC), (1, .int .i64 mask), (5, .int .i64 (orI out5 (powI k6))), (6, .int .i64 k6)]) ⟨rfl, rfl, rfl, rfl, trivial⟩
            have hS68 := (St.pick (Γ' := [.rd 1 worldsA worlds.length worldsC worlds]) hS15 [0] (by decide) rfl)
            exact ⟨(by rw [ht50]; exact hE67), hS68⟩
          ·
            have hE69 := hE49; rw [ht50] at hE69; clear hE49
            refine wp_skip ?_
            refine p_bn ?_
            refine p_tn ?_
            have hE70 := hE69.sub (L' := [(0, .slice worldsA worlds.length worldsC), (1, .int .i64 mask), (5, .int .i64 out5), (6, .int .i64 k6)]) ⟨rfl, rfl, rfl, rfl, trivial⟩
            have hS71 := (St.pick (Γ' := [.rd 1 worldsA worlds.length worldsC worlds]) hS15 [0] (by decide) rfl)
            exact ⟨(by rw [ht50]; exact hE70), hS71⟩
        ·
          rintro a72 w73 ⟨hE74, hS75⟩; clear hE32 hS15
          refine c_reg ?_
          refine q_step (v := .int .i64 k6) hE74 (y_move rfl) rfl rfl rfl ?_; intro a76 hE77; clear hE74
          refine q_step (v := .int .i64 (k6 + 1)) hE77 (y_add rfl rfl ⟨(by omega), (by omega)⟩) rfl rfl rfl ?_; intro a78 hE79; clear hE77
          refine q_step (v := .int .i64 (k6 + 1)) hE79 (y_assign rfl) rfl rfl rfl ?_; intro a80 hE81; clear hE79
          refine c_nil ?_
          have hE82 := hE81.sub (L' := [(0, .slice worldsA worlds.length worldsC), (1, .int .i64 mask), (5, .int .i64 (bif (F_l01Bit mask (gI worlds k6)) then orI out5 (powI k6) else out5)), (6, .int .i64 (k6 + 1))]) ⟨rfl, rfl, rfl, rfl, trivial⟩; clear hE81
          refine p_tn ⟨r20, Nat.lt_succ_self _, bif (F_l01Bit mask (gI worlds k6)) then orI out5 (powI k6) else out5, k6 + 1, (hT16.symm.trans (show F_l05Squeeze_L1b worlds mask (F_l05Squeeze_L1 worlds mask r20) out5 k6 = F_l05Squeeze_L1 worlds mask r20 (bif (F_l01Bit mask (gI worlds k6)) then orI out5 (powI k6) else out5) (k6 + 1) by unfold F_l05Squeeze_L1b; rw [ht30]; first | done | rfl)).symm, (by omega), (by first | omega | (simp only [List.length_replicate, sI_len]; omega) | (simp only [List.length_append, List.length_cons, List.length_nil, sI_len, cond_true, cond_false]; omega) | (simp only [List.length_append, List.length_cons, List.length_nil, sI_len, cond_eq_ite, apply_ite List.length]; split <;> simp only [List.length_append, List.length_cons, List.length_nil, sI_len] <;> omega) | grind), (by first | omega | (simp only [List.length_replicate, sI_len]; omega) | (simp only [List.length_append, List.length_cons, List.length_nil, sI_len, cond_true, cond_false]; omega) | (simp only [List.length_append, List.length_cons, List.length_nil, sI_len, cond_eq_ite, apply_ite List.length]; split <;> simp only [List.length_append, List.length_cons, List.length_nil, sI_len] <;> omega) | grind), (hE82.sub (L' := [(0, .slice worldsA worlds.length worldsC), (1, .int .i64 mask), (5, .int .i64 (bif (F_l01Bit mask (gI worlds k6)) then orI out5 (powI k6) else out5)), (6, .int .i64 (k6 + 1))]) ⟨rfl, rfl, rfl, rfl, trivial⟩), (St.pick (Γ' := [.rd 1 worldsA worlds.length worldsC worlds]) hS75 [0] (by decide) rfl)⟩
      ·
        have hp83 := of_decide_eq_false ht30
        have hE84 := hE29; rw [ht30] at hE84; clear hE29
        refine wp_exit ?_
        refine p_te ?_
        have hX85 : F_l05Squeeze_L1 worlds mask (Int.toNat ((worlds.length : Int) - 0) + 1) 0 0 = (out5, k6) := hT16.symm.trans (show F_l05Squeeze_L1b worlds mask (F_l05Squeeze_L1 worlds mask r20) out5 k6 = (out5, k6) by unfold F_l05Squeeze_L1b; rw [ht30]; first | done | rfl)
        refine p_te (p_be (p_tn ?_))
        exact ⟨(by rw [hX85]; exact (show 0 ≤ k6 from (by first | omega | (simp only [List.length_replicate, sI_len]; omega) | (simp only [List.length_append, List.length_cons, List.length_nil, sI_len, cond_true, cond_false]; omega) | (simp only [List.length_append, List.length_cons, List.length_nil, sI_len, cond_eq_ite, apply_ite List.length]; split <;> simp only [List.length_append, List.length_cons, List.length_nil, sI_len] <;> omega) | grind))), (by rw [hX85]; exact (show k6 ≤ (worlds.length : Int) from (by first | omega | (simp only [List.length_replicate, sI_len]; omega) | (simp only [List.length_append, List.length_cons, List.length_nil, sI_len, cond_true, cond_false]; omega) | (simp only [List.length_append, List.length_cons, List.length_nil, sI_len, cond_eq_ite, apply_ite List.length]; split <;> simp only [List.length_append, List.length_cons, List.length_nil, sI_len] <;> omega) | grind))), (by rw [hX85]; exact (hE84.sub (L' := [(0, .slice worldsA worlds.length worldsC), (1, .int .i64 mask), (5, .int .i64 out5), (6, .int .i64 k6)]) ⟨rfl, rfl, rfl, rfl, trivial⟩)), (St.pick (Γ' := [.rd 1 worldsA worlds.length worldsC worlds]) hS15 [0] (by decide) rfl)⟩
  ·
    rintro a86 w87 ⟨hi91, hi92, hE88, hS89⟩; clear hE10 hS1
    refine p_tn ?_
    refine c_seq ?_
    refine c_reg ?_
    refine q_step (v := .int .i64 ((F_l05Squeeze_L1 worlds mask (Int.toNat ((worlds.length : Int) - 0) + 1) 0 0).1)) hE88 (y_move rfl) rfl rfl rfl ?_; intro a93 hE94; clear hE88
    refine q_step (v := .int .i64 ((F_l05Squeeze_L1 worlds mask (Int.toNat ((worlds.length : Int) - 0) + 1) 0 0).1)) hE94 (y_assign rfl) rfl rfl rfl ?_; intro a95 hE96; clear hE94
    refine c_nil ?_
    have hE97 := hE96.sub (L' := [(4, .int .i64 ((F_l05Squeeze_L1 worlds mask (Int.toNat ((worlds.length : Int) - 0) + 1) 0 0).1))]) ⟨rfl, trivial⟩; clear hE96
    refine p_tn ?_
    refine wp_ret ?_
    have hF : F_l05Squeeze worlds mask = (F_l05Squeeze_L1 worlds mask (Int.toNat ((worlds.length : Int) - 0) + 1) 0 0).1 := by unfold F_l05Squeeze; rfl
    refine c_ret1 hE97 rfl rfl ?_
    exact ⟨(by rw [hF]; first | done | rfl), hS89.ext⟩

def F_l05Part_L1b (f1 : List Int) (mask : Int) (rec : (List Int) → Int → (List Int) × Int) (arrows6 : List Int) (k7 : Int) : (List Int) × Int :=
  bif (decide (k7 < ((F_l01List mask).length : Int))) then (rec (arrows6 ++ ([F_l05Squeeze (F_l01List mask) (gI f1 (gI (F_l01List mask) k7))])) (k7 + 1)) else (arrows6, k7)
def F_l05Part_L1 (f1 : List Int) (mask : Int) : Nat → (List Int) → Int → (List Int) × Int
  | 0, arrows6, k7 => (arrows6, k7)
  | r + 1, arrows6, k7 => F_l05Part_L1b f1 mask (F_l05Part_L1 f1 mask r) arrows6 k7
def F_l05Part (f0 : Int) (f1 : List Int) (mask : Int) : Int × List Int :=
  ((((F_l05Part_L1 f1 mask (Int.toNat (((F_l01List mask).length : Int) - 0) + 1) ([]) 0).1).length : Int), ((F_l05Part_L1 f1 mask (Int.toNat (((F_l01List mask).length : Int) - 0) + 1) ([]) 0).1))
theorem cf_l05Part (args : Array Value) (w : World) : (callFunc 73 args).run Try.prog w = .ok (.enter 73 args) w := by kernel_rfl
set_option maxRecDepth 100000 in
theorem c_l05Part (f0 : Int) (f1A : Option Addr) (f1N f1C : Nat) (f1 : List Int) (mask : Int) (w : World) (f1R : RdS w 1 f1A f1N f1C f1) (h0 : 0 ≤ f0 ∧ f0 ≤ 8) (hl : (f1.length : Int) = f0) (hm : 0 ≤ mask ∧ mask ≤ fullI f0) :
    Calls Try.prog 73 #[.agg #[.int .i64 f0, .slice f1A f1N f1C], .int .i64 mask] w (Ret fun v w' => ∃ b1 : Option Addr, ∃ c1 : Nat, v = .agg #[.int .i64 ((F_l05Part f0 f1 mask).1), .slice b1 ((F_l05Part f0 f1 mask).2).length c1] ∧ OwnS w' w.heap.size 2 1 b1 ((F_l05Part f0 f1 mask).2).length c1 ((F_l05Part f0 f1 mask).2) ∧ Ext w w') := by
  obtain rfl : f1N = f1.length := f1R.len1.symm
  have f1Le := f1R.le
  have hf := fullI_bd (n := f0) (by omega) (by omega)
  obtain ⟨hL0, hL⟩ := list_lt (f0 := f0) (mask := mask) (by omega) hm
  have hS := St.nil w
  have hS1 := St.rd0 hS rfl f1R; clear hS
  refine enter (args := [.agg #[.int .i64 f0, .slice f1A f1.length f1C], .int .i64 mask]) Try.func73 rfl rfl ?_
  rw [Try.ntmps73]; intro a hE
  have hE := hE.sub (L' := [(0, .agg #[.int .i64 f0, .slice f1A f1.length f1C]), (1, .int .i64 mask)]) ⟨rfl, rfl, trivial⟩
  refine c_seq ?_
  refine c_reg ?_
  refine l_step hE rfl (l_box (v := .agg #[.int .i64 f0, .slice f1A f1.length f1C]) (cs := #[.int .i64 f0, .slice f1A f1.length f1C]) hS1 hE rfl rfl rfl ?_)
  intro b2 w3 hS6 he7 a4 hE5; clear hS1 hE
  refine l_step hE5 rfl (l_alloc (z := .agg #[.int .i64 0, .slice none 0 0]) (cs := #[.int .i64 0, .slice none 0 0]) hS6 hE5 (fun _ => by kernel_rfl) rfl rfl ?_)
  intro b8 w9 hS12 he13 a10 hE11; clear hS6 hE5
  refine c_nil ?_
  have hE14 := hE11.sub (L' := [(1, .int .i64 mask), (2, .pointer (some ⟨b2, 0, none⟩)), (4, .pointer (some ⟨b8, 0, none⟩))]) ⟨rfl, rfl, rfl, trivial⟩; clear hE11
  refine p_tn ?_
  refine c_seq ?_
  refine c_reg ?_
  refine q_step (v := .int .i64 mask) hE14 (y_move rfl) rfl rfl rfl ?_; intro a15 hE16; clear hE14
  refine l_step hE16 rfl (l_call (f := 71) (argv := [.int .i64 mask]) hE16 (fun _ => cf_l01List _ _) rfl rfl (c_l01List mask w9 (by omega) (by omega)) ?_)
  rintro _ w18 ⟨b23, c24, rfl, ho25, he22⟩ a19 hE20; clear hE16
  have hS21 := St.own hS12 he22 ho25; clear hS12
  refine l_step hE20 rfl (l_lit (e := 2) (s := 1) (xs := []) (vs := []) hS21 hE20 rfl (fun _ => by kernel_rfl) rfl rfl rfl ?_)
  intro b26 w27 hS30 he31 a28 hE29; clear hS21 hE20
  refine q_step (v := .slice b23 ((F_l01List mask).length) c24) hE29 (y_assign rfl) rfl rfl rfl ?_; intro a32 hE33; clear hE29
  refine q_step (v := .slice (some ⟨b26, 0, none⟩) 0 0) hE33 (y_assign rfl) rfl rfl rfl ?_; intro a34 hE35; clear hE33
  refine c_nil ?_
  have hE36 := hE35.sub (L' := [(2, .pointer (some ⟨b2, 0, none⟩)), (4, .pointer (some ⟨b8, 0, none⟩)), (5, .slice b23 ((F_l01List mask).length) c24), (6, .slice (some ⟨b26, 0, none⟩) 0 0)]) ⟨rfl, rfl, rfl, rfl, trivial⟩; clear hE35
  refine p_tn ?_
  refine c_seq ?_
  refine c_seq ?_
  refine c_reg ?_
  refine q_step (v := .int .i64 0) hE36 (y_assign rfl) rfl rfl rfl ?_; intro a37 hE38; clear hE36
  refine c_nil ?_
  have hE39 := hE38.sub (L' := [(2, .pointer (some ⟨b2, 0, none⟩)), (4, .pointer (some ⟨b8, 0, none⟩)), (5, .slice b23 ((F_l01List mask).length) c24), (6, .slice (some ⟨b26, 0, none⟩) 0 0), (7, .int .i64 0)]) ⟨rfl, rfl, rfl, rfl, rfl, trivial⟩; clear hE38
  refine p_tn ?_
  refine c_cut1 (fun a' w' => ∃ arrows6A_40 : Option Addr, ∃ arrows6C_40 : Nat, (0 ≤ ((F_l05Part_L1 f1 mask (Int.toNat (((F_l01List mask).length : Int) - 0) + 1) ([]) 0).2)) ∧ (((F_l05Part_L1 f1 mask (Int.toNat (((F_l01List mask).length : Int) - 0) + 1) ([]) 0).2) ≤ ((F_l01List mask).length : Int)) ∧ ((((F_l05Part_L1 f1 mask (Int.toNat (((F_l01List mask).length : Int) - 0) + 1) ([]) 0).1).length : Int) ≤ ((F_l05Part_L1 f1 mask (Int.toNat (((F_l01List mask).length : Int) - 0) + 1) ([]) 0).2)) ∧ E a' 32 [(2, .pointer (some ⟨b2, 0, none⟩)), (4, .pointer (some ⟨b8, 0, none⟩)), (5, .slice b23 ((F_l01List mask).length) c24), (6, .slice arrows6A_40 (((F_l05Part_L1 f1 mask (Int.toNat (((F_l01List mask).length : Int) - 0) + 1) ([]) 0).1).length) arrows6C_40), (7, .int .i64 ((F_l05Part_L1 f1 mask (Int.toNat (((F_l01List mask).length : Int) - 0) + 1) ([]) 0).2))] ∧ St w w' [.own 2 1 arrows6A_40 (((F_l05Part_L1 f1 mask (Int.toNat (((F_l01List mask).length : Int) - 0) + 1) ([]) 0).1).length) arrows6C_40 ((F_l05Part_L1 f1 mask (Int.toNat (((F_l01List mask).length : Int) - 0) + 1) ([]) 0).1), .own 2 1 b23 ((F_l01List mask).length) c24 (F_l01List mask), .blk b8 #[.int .i64 0, .slice none 0 0] 28, .blk b2 #[.int .i64 f0, .slice f1A f1.length f1C] 28, .rd 1 f1A f1.length f1C f1]) ?_ ?_
  ·
    refine wp_block ?_
    refine c_loop (fun r a' w' => ∃ arrows6 : List Int, ∃ k7 : Int, ∃ arrows6A : Option Addr, ∃ arrows6C : Nat, F_l05Part_L1 f1 mask r arrows6 k7 = F_l05Part_L1 f1 mask (Int.toNat (((F_l01List mask).length : Int) - 0) + 1) ([]) 0 ∧ Int.toNat (((F_l01List mask).length : Int) - k7) < r ∧ (0 ≤ k7) ∧ (k7 ≤ ((F_l01List mask).length : Int)) ∧ ((arrows6.length : Int) ≤ k7) ∧ E a' 32 [(2, .pointer (some ⟨b2, 0, none⟩)), (4, .pointer (some ⟨b8, 0, none⟩)), (5, .slice b23 ((F_l01List mask).length) c24), (6, .slice arrows6A ((arrows6).length) arrows6C), (7, .int .i64 k7)] ∧ St w w' [.own 2 1 arrows6A ((arrows6).length) arrows6C arrows6, .own 2 1 b23 ((F_l01List mask).length) c24 (F_l01List mask), .blk b8 #[.int .i64 0, .slice none 0 0] 28, .blk b2 #[.int .i64 f0, .slice f1A f1.length f1C] 28, .rd 1 f1A f1.length f1C f1]) (r := (Int.toNat (((F_l01List mask).length : Int) - 0) + 1)) ?_ ?_
    · exact ⟨[], 0, some ⟨b26, 0, none⟩, 0, rfl, Nat.lt_succ_self _, (by first | omega | (simp only [List.length_replicate, sI_len]; omega) | (simp only [List.length_append, List.length_cons, List.length_nil, sI_len, cond_true, cond_false]; omega) | (simp only [List.length_append, List.length_cons, List.length_nil, sI_len, cond_eq_ite, apply_ite List.length]; split <;> simp only [List.length_append, List.length_cons, List.length_nil, sI_len] <;> omega) | grind), (by first | omega | (simp only [List.length_replicate, sI_len]; omega) | (simp only [List.length_append, List.length_cons, List.length_nil, sI_len, cond_true, cond_false]; omega) | (simp only [List.length_append, List.length_cons, List.length_nil, sI_len, cond_eq_ite, apply_ite List.length]; split <;> simp only [List.length_append, List.length_cons, List.length_nil, sI_len] <;> omega) | grind), (by first | omega | (simp only [List.length_replicate, sI_len]; omega) | (simp only [List.length_append, List.length_cons, List.length_nil, sI_len, cond_true, cond_false]; omega) | (simp only [List.length_append, List.length_cons, List.length_nil, sI_len, cond_eq_ite, apply_ite List.length]; split <;> simp only [List.length_append, List.length_cons, List.length_nil, sI_len] <;> omega) | grind), (hE39.sub (L' := [(2, .pointer (some ⟨b2, 0, none⟩)), (4, .pointer (some ⟨b8, 0, none⟩)), (5, .slice b23 ((F_l01List mask).length) c24), (6, .slice (some ⟨b26, 0, none⟩) 0 0), (7, .int .i64 0)]) ⟨rfl, rfl, rfl, rfl, rfl, trivial⟩), (St.pick (Γ' := [.own 2 1 (some ⟨b26, 0, none⟩) 0 0 ([]), .own 2 1 b23 ((F_l01List mask).length) c24 (F_l01List mask), .blk b8 #[.int .i64 0, .slice none 0 0] 28, .blk b2 #[.int .i64 f0, .slice f1A f1.length f1C] 28, .rd 1 f1A f1.length f1C f1]) hS30 [0, 1, 2, 3, 4] (by decide) rfl)⟩
    ·
      clear hE39 hS30
      rintro r50 a41 w42 ⟨arrows6, k7, arrows6A, arrows6C, hT45, hr46, hi47, hi48, hi49, hE43, hS44⟩
      obtain ⟨r50, rfl⟩ : ∃ r', r50 = r' + 1 := ⟨r50 - 1, by omega⟩
      refine c_seq ?_
      refine c_seq ?_
      refine c_reg ?_
      refine q_step (v := .int .i64 k7) hE43 (y_move rfl) rfl rfl rfl ?_; intro a51 hE52; clear hE43
      refine q_step (v := .slice b23 ((F_l01List mask).length) c24) hE52 (y_move rfl) rfl rfl rfl ?_; intro a53 hE54; clear hE52
      refine q_step (v := .int .i64 ((F_l01List mask).length : Int)) hE54 (y_len (e := 2) (by kernel_rfl) rfl) rfl rfl rfl ?_; intro a55 hE56; clear hE54
      refine q_step (v := .bool (decide (k7 < ((F_l01List mask).length : Int)))) hE56 (y_lss rfl rfl) rfl rfl rfl ?_; intro a57 hE58; clear hE56
      refine c_nil ?_
      have hE59 := hE58.sub (L' := [(2, .pointer (some ⟨b2, 0, none⟩)), (4, .pointer (some ⟨b8, 0, none⟩)), (5, .slice b23 ((F_l01List mask).length) c24), (6, .slice arrows6A ((arrows6).length) arrows6C), (7, .int .i64 k7), (14, .bool (decide (k7 < ((F_l01List mask).length : Int))))]) ⟨rfl, rfl, rfl, rfl, rfl, rfl, trivial⟩; clear hE58
      refine p_tn ?_
      refine c_cond hE59 rfl (fun ht60 => ?_) (fun ht60 => ?_)
      ·
        have hp61 := of_decide_eq_true ht60
        have hE62 := hE59; rw [ht60] at hE62; clear hE59
        have hx1 := hL k7 (by omega) (by omega)
        refine wp_skip ?_
        refine p_tn ?_
        refine c_seq ?_
        refine wp_block ?_
        refine d_start (fun w' => w'.cell? ⟨b2, 1, none⟩ = some (.slice f1A f1.length f1C) ∧ w'.cell? (adr b23 (Int.toNat k7)) = some (.int .i64 (gI (F_l01List mask) k7)) ∧ w'.cell? (adr f1A (Int.toNat (gI (F_l01List mask) k7))) = some (.int .i64 (gI f1 (gI (F_l01List mask) k7))) ∧ True) [3, 7, 9] 14 (by kernel_rfl) rfl ?_
        intro w63 he64; have hS65 := St.go hS44 he64; clear hS44
        refine d_pure (v := .slice arrows6A ((arrows6).length) arrows6C) 0 rfl hE62 (y_move rfl) rfl (by kernel_rfl) (by kernel_rfl) (by kernel_rfl) rfl rfl (fun _ _ _ h => h) ?_; intro a66 hE67; clear hE62
        refine d_pure (v := .slice b23 ((F_l01List mask).length) c24) 1 rfl hE67 (y_move rfl) rfl (by kernel_rfl) (by kernel_rfl) (by kernel_rfl) rfl rfl (fun _ _ _ h => h) ?_; intro a68 hE69; clear hE67
        refine d_pure (v := .pointer (some ⟨b2, 1, none⟩)) 2 rfl hE69 (y_field rfl (fun _ => by kernel_rfl)) rfl (by kernel_rfl) (by kernel_rfl) (by kernel_rfl) rfl rfl (fun _ _ _ h => h) ?_; intro a70 hE71; clear hE69
        refine d_take (v := .slice f1A f1.length f1C) 3 rfl hE71 ⟨(St.cell (i := 3) hS65 rfl rfl _ (Ext.refl _)), (RdS.elt (St.rdO (i := 1) hS65 rfl) (by omega) (by omega) _ (Ext.refl _)), (RdS.elt (St.rdR (i := 4) hS65 rfl) (by omega) (by omega) _ (Ext.refl _)), trivial⟩ (y_load (fun _ => by kernel_rfl) rfl (fun _ h => h.1)) rfl rfl (by kernel_rfl) (by kernel_rfl) (by kernel_rfl) (by kernel_rfl) rfl rfl (fun _ _ _ h => h) ?_; intro a72 hE73; clear hE71
        refine d_pure (v := .slice b23 ((F_l01List mask).length) c24) 4 rfl hE73 (y_move rfl) rfl (by kernel_rfl) (by kernel_rfl) (by kernel_rfl) rfl rfl (fun _ _ _ h => h) ?_; intro a74 hE75; clear hE73
        refine d_pure (v := .int .i64 k7) 5 rfl hE75 (y_move rfl) rfl (by kernel_rfl) (by kernel_rfl) (by kernel_rfl) rfl rfl (fun _ _ _ h => h) ?_; intro a76 hE77; clear hE75
        refine d_pure (v := .pointer (some (adr b23 (Int.toNat k7)))) 6 rfl hE77 (y_idx (by kernel_rfl) (fun _ => by kernel_rfl) rfl rfl (RdS.isS (m := k7) (St.rdO (i := 1) hS65 rfl) (by omega) (by omega)) (by omega) (by omega) (Nat.mul_one _).symm) rfl (by kernel_rfl) (by kernel_rfl) (by kernel_rfl) rfl rfl (fun _ _ _ h => h) ?_; intro a78 hE79; clear hE77
        refine d_take (v := .int .i64 (gI (F_l01List mask) k7)) 7 rfl hE79 ⟨(St.cell (i := 3) hS65 rfl rfl _ (Ext.refl _)), (RdS.elt (St.rdO (i := 1) hS65 rfl) (by omega) (by omega) _ (Ext.refl _)), (RdS.elt (St.rdR (i := 4) hS65 rfl) (by omega) (by omega) _ (Ext.refl _)), trivial⟩ (y_load (fun _ => by kernel_rfl) rfl (fun _ h => h.2.1)) rfl rfl (by kernel_rfl) (by kernel_rfl) (by kernel_rfl) (by kernel_rfl) rfl rfl (fun _ _ _ h => h) ?_; intro a80 hE81; clear hE79
        refine d_pure (v := .pointer (some (adr f1A (Int.toNat (gI (F_l01List mask) k7))))) 8 rfl hE81 (y_idx (by kernel_rfl) (fun _ => by kernel_rfl) rfl rfl (RdS.isS (m := gI (F_l01List mask) k7) (St.rdR (i := 4) hS65 rfl) (by omega) (by omega)) (by omega) (by omega) (Nat.mul_one _).symm) rfl (by kernel_rfl) (by kernel_rfl) (by kernel_rfl) rfl rfl (fun _ _ _ h => h) ?_; intro a82 hE83; clear hE81
        refine d_take (v := .int .i64 (gI f1 (gI (F_l01List mask) k7))) 9 rfl hE83 ⟨(St.cell (i := 3) hS65 rfl rfl _ (Ext.refl _)), (RdS.elt (St.rdO (i := 1) hS65 rfl) (by omega) (by omega) _ (Ext.refl _)), (RdS.elt (St.rdR (i := 4) hS65 rfl) (by omega) (by omega) _ (Ext.refl _)), trivial⟩ (y_load (fun _ => by kernel_rfl) rfl (fun _ h => h.2.2.1)) rfl rfl (by kernel_rfl) (by kernel_rfl) (by kernel_rfl) (by kernel_rfl) rfl rfl (fun _ _ _ h => h) ?_; intro a84 hE85; clear hE83
        refine d_only 10 (by kernel_rfl) rfl hE85 rfl (l_call (f := 72) (argv := [.slice b23 ((F_l01List mask).length) c24, .int .i64 (gI f1 (gI (F_l01List mask) k7))]) hE85 (fun _ => cf_l05Squeeze _ _) rfl rfl (c_l05Squeeze b23 ((F_l01List mask).length) c24 (F_l01List mask) (gI f1 (gI (F_l01List mask) k7)) w63 (St.rdO (i := 1) hS65 rfl) (by omega) (fun m h0 h1 => by have := hL m h0 h1; omega)) ?_)
        rintro _ w87 ⟨rfl, he91⟩ a88 hE89; clear hE85
        have hS90 := St.go hS65 he91; clear hS65
        refine ⟨fun h => Bool.noConfusion (h.symm.trans (show exm _ _ _ = true by kernel_rfl)), ?_⟩
        refine d_only 11 (by kernel_rfl) rfl hE89 rfl (l_lit (e := 2) (s := 1) (xs := [F_l05Squeeze (F_l01List mask) (gI f1 (gI (F_l01List mask) k7))]) (vs := [.int .i64 (F_l05Squeeze (F_l01List mask) (gI f1 (gI (F_l01List mask) k7)))]) hS90 hE89 rfl (fun _ => by kernel_rfl) rfl rfl rfl ?_)
        intro b92 w93 hS96 he97 a94 hE95; clear hS90 hE89
        refine ⟨fun h => Bool.noConfusion (h.symm.trans (show exm _ _ _ = true by kernel_rfl)), ?_⟩
        obtain ⟨_, hi1, hi2, hi3, hi4⟩ := info_parts (show (Try.prog.info? 2).map (fun i => (i.zero, i.size, i.bytes)) = some (some (.int .i64 0), 1, 8) by kernel_rfl)
        refine d_only 12 (by kernel_rfl) rfl hE95 rfl (l_append (k := 1) (n' := (arrows6 ++ ([F_l05Squeeze (F_l01List mask) (gI f1 (gI (F_l01List mask) k7))])).length) hS96 hE95 (by kernel_rfl) hi1 hi2 hi3 rfl (by decide) (by rw [hi4]; decide) rfl rfl rfl (St.rdO (i := 0) hS96 rfl) (by first | omega | (simp only [List.length_append, List.length_cons, List.length_nil]; omega)) (by have h1 := (St.rdO (i := 1) hS96 rfl).len1; have h2 := (St.rdO (i := 0) hS96 rfl).len1; rw [List.length_append, h1, h2]) rfl ?_)
        intro b98 c104 w99 hS102 a100 hE101; clear hS96 hE95 hi1 hi2 hi3 hi4
        refine ⟨fun h => Bool.noConfusion (h.symm.trans (show exm _ _ _ = true by kernel_rfl)), ?_⟩
        refine d_pure (v := .slice b98 ((arrows6 ++ ([F_l05Squeeze (F_l01List mask) (gI f1 (gI (F_l01List mask) k7))])).length) c104) 13 rfl hE101 (y_assign rfl) rfl (by kernel_rfl) (by kernel_rfl) (by kernel_rfl) rfl rfl (fun _ _ _ h => h) ?_; intro a105 hE106; clear hE101
        refine d_done (by kernel_rfl) ?_
        have hE107 := hE106.sub (L' := [(2, .pointer (some ⟨b2, 0, none⟩)), (4, .pointer (some ⟨b8, 0, none⟩)), (5, .slice b23 ((F_l01List mask).length) c24), (6, .slice b98 ((arrows6 ++ ([F_l05Squeeze (F_l01List mask) (gI f1 (gI (F_l01List mask) k7))])).length) c104), (7, .int .i64 k7)]) ⟨rfl, rfl, rfl, rfl, rfl, trivial⟩; clear hE106
        refine p_bn ?_
        refine p_tn ?_
        refine c_reg ?_
        refine q_step (v := .int .i64 k7) hE107 (y_move rfl) rfl rfl rfl ?_; intro a108 hE109; clear hE107
        refine q_step (v := .int .i64 (k7 + 1)) hE109 (y_add rfl rfl ⟨(by omega), (by omega)⟩) rfl rfl rfl ?_; intro a110 hE111; clear hE109
        refine q_step (v := .int .i64 (k7 + 1)) hE111 (y_assign rfl) rfl rfl rfl ?_; intro a112 hE113; clear hE111
        refine c_nil ?_
        have hE114 := hE113.sub (L' := [(2, .pointer (some ⟨b2, 0, none⟩)), (4, .pointer (some ⟨b8, 0, none⟩)), (5, .slice b23 ((F_l01List mask).length) c24), (6, .slice b98 ((arrows6 ++ ([F_l05Squeeze (F_l01List mask) (gI f1 (gI (F_l01List mask) k7))])).length) c104), (7, .int .i64 (k7 + 1))]) ⟨rfl, rfl, rfl, rfl, rfl, trivial⟩; clear hE113
        refine p_tn ⟨r50, Nat.lt_succ_self _, arrows6 ++ ([F_l05Squeeze (F_l01List mask) (gI f1 (gI (F_l01List mask) k7))]), k7 + 1, b98, c104, (hT45.symm.trans (show F_l05Part_L1b f1 mask (F_l05Part_L1 f1 mask r50) arrows6 k7 = F_l05Part_L1 f1 mask r50 (arrows6 ++ ([F_l05Squeeze (F_l01List mask) (gI f1 (gI (F_l01List mask) k7))])) (k7 + 1) by unfold F_l05Part_L1b; rw [ht60]; first | done | rfl)).symm, (by omega), (by first | omega | (simp only [List.length_replicate, sI_len]; omega) | (simp only [List.length_append, List.length_cons, List.length_nil, sI_len, cond_true, cond_false]; omega) | (simp only [List.length_append, List.length_cons, List.length_nil, sI_len, cond_eq_ite, apply_ite List.length]; split <;> simp only [List.length_append, List.length_cons, List.length_nil, sI_len] <;> omega) | grind), (by first | omega | (simp only [List.length_replicate, sI_len]; omega) | (simp only [List.length_append, List.length_cons, List.length_nil, sI_len, cond_true, cond_false]; omega) | (simp only [List.length_append, List.length_cons, List.length_nil, sI_len, cond_eq_ite, apply_ite List.length]; split <;> simp only [List.length_append, List.length_cons, List.length_nil, sI_len] <;> omega) | grind), (by first | omega | (simp only [List.length_replicate, sI_len]; omega) | (simp only [List.length_append, List.length_cons, List.length_nil, sI_len, cond_true, cond_false]; omega) | (simp only [List.length_append, List.length_cons, List.length_nil, sI_len, cond_eq_ite, apply_ite List.length]; split <;> simp only [List.length_append, List.length_cons, List.length_nil, sI_len] <;> omega) | grind), (hE114.sub (L' := [(2, .pointer (some ⟨b2, 0, none⟩)), (4, .pointer (some ⟨b8, 0, none⟩)), (5, .slice b23 ((F_l01List mask).length) c24), (6, .slice b98 ((arrows6 ++ ([F_l05Squeeze (F_l01List mask) (gI f1 (gI (F_l01List mask) k7))])).length) c104), (7, .int .i64 (k7 + 1))]) ⟨rfl, rfl, rfl, rfl, rfl, trivial⟩), (St.pick (Γ' := [.own 2 1 b98 ((arrows6 ++ ([F_l05Squeeze (F_l01List mask) (gI f1 (gI (F_l01List mask) k7))])).length) c104 (arrows6 ++ ([F_l05Squeeze (F_l01List mask) (gI f1 (gI (F_l01List mask) k7))])), .own 2 1 b23 ((F_l01List mask).length) c24 (F_l01List mask), .blk b8 #[.int .i64 0, .slice none 0 0] 28, .blk b2 #[.int .i64 f0, .slice f1A f1.length f1C] 28, .rd 1 f1A f1.length f1C f1]) hS102 [1, 2, 3, 4, 5] (by decide) rfl)⟩
      ·
        have hp115 := of_decide_eq_false ht60
        have hE116 := hE59; rw [ht60] at hE116; clear hE59
        refine wp_exit ?_
        refine p_te ?_
        have hX117 : F_l05Part_L1 f1 mask (Int.toNat (((F_l01List mask).length : Int) - 0) + 1) ([]) 0 = (arrows6, k7) := hT45.symm.trans (show F_l05Part_L1b f1 mask (F_l05Part_L1 f1 mask r50) arrows6 k7 = (arrows6, k7) by unfold F_l05Part_L1b; rw [ht60]; first | done | rfl)
        refine p_te (p_be (p_tn ?_))
        exact ⟨arrows6A, arrows6C, (by rw [hX117]; exact (show 0 ≤ k7 from (by first | omega | (simp only [List.length_replicate, sI_len]; omega) | (simp only [List.length_append, List.length_cons, List.length_nil, sI_len, cond_true, cond_false]; omega) | (simp only [List.length_append, List.length_cons, List.length_nil, sI_len, cond_eq_ite, apply_ite List.length]; split <;> simp only [List.length_append, List.length_cons, List.length_nil, sI_len] <;> omega) | grind))), (by rw [hX117]; exact (show k7 ≤ ((F_l01List mask).length : Int) from (by first | omega | (simp only [List.length_replicate, sI_len]; omega) | (simp only [List.length_append, List.length_cons, List.length_nil, sI_len, cond_true, cond_false]; omega) | (simp only [List.length_append, List.length_cons, List.length_nil, sI_len, cond_eq_ite, apply_ite List.length]; split <;> simp only [List.length_append, List.length_cons, List.length_nil, sI_len] <;> omega) | grind))), (by rw [hX117]; exact (show (arrows6.length : Int) ≤ k7 from (by first | omega | (simp only [List.length_replicate, sI_len]; omega) | (simp only [List.length_append, List.length_cons, List.length_nil, sI_len, cond_true, cond_false]; omega) | (simp only [List.length_append, List.length_cons, List.length_nil, sI_len, cond_eq_ite, apply_ite List.length]; split <;> simp only [List.length_append, List.length_cons, List.length_nil, sI_len] <;> omega) | grind))), (by rw [hX117]; exact (hE116.sub (L' := [(2, .pointer (some ⟨b2, 0, none⟩)), (4, .pointer (some ⟨b8, 0, none⟩)), (5, .slice b23 ((F_l01List mask).length) c24), (6, .slice arrows6A ((arrows6).length) arrows6C), (7, .int .i64 k7)]) ⟨rfl, rfl, rfl, rfl, rfl, trivial⟩)), (by rw [hX117]; exact (St.pick (Γ' := [.own 2 1 arrows6A ((arrows6).length) arrows6C arrows6, .own 2 1 b23 ((F_l01List mask).length) c24 (F_l01List mask), .blk b8 #[.int .i64 0, .slice none 0 0] 28, .blk b2 #[.int .i64 f0, .slice f1A f1.length f1C] 28, .rd 1 f1A f1.length f1C f1]) hS44 [0, 1, 2, 3, 4] (by decide) rfl))⟩
  ·
    rintro a118 w119 ⟨arrows6A_40, arrows6C_40, hi123, hi124, hi125, hE120, hS121⟩; clear hE39 hS30
    refine p_tn ?_
    refine c_seq ?_
    refine c_reg ?_
    refine q_step (v := .slice arrows6A_40 (((F_l05Part_L1 f1 mask (Int.toNat (((F_l01List mask).length : Int) - 0) + 1) ([]) 0).1).length) arrows6C_40) hE120 (y_move rfl) rfl rfl rfl ?_; intro a126 hE127; clear hE120
    refine l_step hE127 rfl (l_call (f := 94) (argv := [.slice arrows6A_40 (((F_l05Part_L1 f1 mask (Int.toNat (((F_l01List mask).length : Int) - 0) + 1) ([]) 0).1).length) arrows6C_40]) hE127 (fun _ => cf_l05Make _ _) rfl rfl (d_l05Make arrows6A_40 (((F_l05Part_L1 f1 mask (Int.toNat (((F_l01List mask).length : Int) - 0) + 1) ([]) 0).1).length) arrows6C_40 ((F_l05Part_L1 f1 mask (Int.toNat (((F_l01List mask).length : Int) - 0) + 1) ([]) 0).1) w119 (St.rdO (i := 0) hS121 rfl) (by omega)) ?_)
    rintro _ w129 ⟨b134, c135, rfl, ho136, he133⟩ a130 hE131; clear hE127
    have hS132 := St.own hS121 he133 ho136; clear hS121
    refine l_step hE131 rfl (l_storeS (k := 3) (cs' := #[.int .i64 (((F_l05Part_L1 f1 mask (Int.toNat (((F_l01List mask).length : Int) - 0) + 1) ([]) 0).1).length : Int), .slice b134 ((((F_l05Part_L1 f1 mask (Int.toNat (((F_l01List mask).length : Int) - 0) + 1) ([]) 0).1)).length) c135]) hS132 hE131 (by kernel_rfl) rfl rfl (by kernel_rfl) rfl rfl ?_)
    intro w138 hS141 a139 hE140; clear hS132 hE131
    refine c_nil ?_
    have hE143 := hE140.sub (L' := [(4, .pointer (some ⟨b8, 0, none⟩))]) ⟨rfl, trivial⟩; clear hE140
    refine p_tn ?_
    refine wp_ret ?_
    have hF : F_l05Part f0 f1 mask = ((((F_l05Part_L1 f1 mask (Int.toNat (((F_l01List mask).length : Int) - 0) + 1) ([]) 0).1).length : Int), ((F_l05Part_L1 f1 mask (Int.toNat (((F_l01List mask).length : Int) - 0) + 1) ([]) 0).1)) := by unfold F_l05Part; rfl
    refine c_retC hE143 rfl rfl Try.underlying28 rfl (by kernel_rfl) (St.row (i := 3) hS141 rfl _ (Ext.refl _)) ?_
    exact ⟨b134, c135, (by rw [hF]; first | done | rfl), (by rw [hF]; exact hS141.ok 0 _ rfl), hS141.ext⟩

def F_squeeze_L1b (mask : Int) (onp : Int) (rec : Int → Int → Int × Int) (out5 : Int) (t11 : Int) : Int × Int :=
  bif (decide (t11 < ((F_membersOf onp).length : Int))) then (rec (bif (F_has mask (gI (F_membersOf onp) t11)) then orI out5 (shlI 1 t11) else out5) (t11 + 1)) else (out5, t11)
def F_squeeze_L1 (mask : Int) (onp : Int) : Nat → Int → Int → Int × Int
  | 0, out5, t11 => (out5, t11)
  | r + 1, out5, t11 => F_squeeze_L1b mask onp (F_squeeze_L1 mask onp r) out5 t11
def F_squeeze (mask : Int) (onp : Int) : Int :=
  (F_squeeze_L1 mask onp (Int.toNat (((F_membersOf onp).length : Int) - 0) + 1) 0 0).1
theorem cf_squeeze (args : Array Value) (w : World) : (callFunc 86 args).run Try.prog w = .ok (.enter 86 args) w := by kernel_rfl
set_option maxRecDepth 100000 in
theorem c_squeeze (mask : Int) (onp : Int) (w : World) (h0 : 0 ≤ onp) (h1 : onp < 4611686018427387904) :
    Calls Try.prog 86 #[.int .i64 mask, .int .i64 onp] w (Ret fun v w' => v = .int .i64 (F_squeeze mask onp) ∧ Ext w w') := by
  have hml := members_len62 (mask := onp) h0 h1
  have hS := St.nil w
  refine enter (args := [.int .i64 mask, .int .i64 onp]) Try.func86 rfl rfl ?_
  rw [Try.ntmps86]; intro a hE
  have hE := hE.sub (L' := [(0, .int .i64 mask), (1, .int .i64 onp)]) ⟨rfl, rfl, trivial⟩
  refine c_seq ?_
  refine c_reg ?_
  refine q_step (v := .int .i64 0) hE (y_assign rfl) rfl rfl rfl ?_; intro a1 hE2; clear hE
  refine c_nil ?_
  have hE3 := hE2.sub (L' := [(0, .int .i64 mask), (1, .int .i64 onp)]) ⟨rfl, rfl, trivial⟩; clear hE2
  refine p_tn ?_
  refine c_seq ?_
  refine c_reg ?_
  refine q_step (v := .int .i64 0) hE3 (y_assign rfl) rfl rfl rfl ?_; intro a4 hE5; clear hE3
  refine c_nil ?_
  have hE6 := hE5.sub (L' := [(0, .int .i64 mask), (1, .int .i64 onp), (5, .int .i64 0)]) ⟨rfl, rfl, rfl, trivial⟩; clear hE5
  refine p_tn ?_
  refine c_seq ?_
  refine c_seq ?_
  refine c_reg ?_
  refine q_step (v := .int .i64 onp) hE6 (y_move rfl) rfl rfl rfl ?_; intro a7 hE8; clear hE6
  refine l_step hE8 rfl (l_call (f := 102) (argv := [.int .i64 onp]) hE8 (fun _ => cf_membersOf _ _) rfl rfl (c_membersOf onp w (by omega) (by omega)) ?_)
  rintro _ w10 ⟨b15, c16, rfl, ho17, he14⟩ a11 hE12; clear hE8
  have hS13 := St.own hS he14 ho17; clear hS
  refine q_step (v := .int .i64 ((F_membersOf onp).length : Int)) hE12 (y_len (e := 2) (by kernel_rfl) rfl) rfl rfl rfl ?_; intro a18 hE19; clear hE12
  refine q_step (v := .int .i64 0) hE19 (y_move rfl) rfl rfl rfl ?_; intro a20 hE21; clear hE19
  refine c_nil ?_
  have hE22 := hE21.sub (L' := [(0, .int .i64 mask), (5, .int .i64 0), (9, .slice b15 ((F_membersOf onp).length) c16), (10, .int .i64 ((F_membersOf onp).length : Int)), (11, .int .i64 0)]) ⟨rfl, rfl, rfl, rfl, rfl, trivial⟩; clear hE21
  refine p_tn ?_
  refine c_cut1 (fun a' w' => (0 ≤ ((F_squeeze_L1 mask onp (Int.toNat (((F_membersOf onp).length : Int) - 0) + 1) 0 0).2)) ∧ (((F_squeeze_L1 mask onp (Int.toNat (((F_membersOf onp).length : Int) - 0) + 1) 0 0).2) ≤ ((F_membersOf onp).length : Int)) ∧ E a' 25 [(0, .int .i64 mask), (5, .int .i64 ((F_squeeze_L1 mask onp (Int.toNat (((F_membersOf onp).length : Int) - 0) + 1) 0 0).1)), (9, .slice b15 ((F_membersOf onp).length) c16), (10, .int .i64 ((F_membersOf onp).length : Int)), (11, .int .i64 ((F_squeeze_L1 mask onp (Int.toNat (((F_membersOf onp).length : Int) - 0) + 1) 0 0).2))] ∧ St w w' [.own 2 1 b15 ((F_membersOf onp).length) c16 (F_membersOf onp)]) ?_ ?_
  ·
    refine wp_block ?_
    refine c_loop (fun r a' w' => ∃ out5 : Int, ∃ t11 : Int, F_squeeze_L1 mask onp r out5 t11 = F_squeeze_L1 mask onp (Int.toNat (((F_membersOf onp).length : Int) - 0) + 1) 0 0 ∧ Int.toNat (((F_membersOf onp).length : Int) - t11) < r ∧ (0 ≤ t11) ∧ (t11 ≤ ((F_membersOf onp).length : Int)) ∧ E a' 25 [(0, .int .i64 mask), (5, .int .i64 out5), (9, .slice b15 ((F_membersOf onp).length) c16), (10, .int .i64 ((F_membersOf onp).length : Int)), (11, .int .i64 t11)] ∧ St w w' [.own 2 1 b15 ((F_membersOf onp).length) c16 (F_membersOf onp)]) (r := (Int.toNat (((F_membersOf onp).length : Int) - 0) + 1)) ?_ ?_
    · exact ⟨0, 0, rfl, Nat.lt_succ_self _, (by first | omega | (simp only [List.length_replicate, sI_len]; omega) | (simp only [List.length_append, List.length_cons, List.length_nil, sI_len, cond_true, cond_false]; omega) | (simp only [List.length_append, List.length_cons, List.length_nil, sI_len, cond_eq_ite, apply_ite List.length]; split <;> simp only [List.length_append, List.length_cons, List.length_nil, sI_len] <;> omega) | grind), (by first | omega | (simp only [List.length_replicate, sI_len]; omega) | (simp only [List.length_append, List.length_cons, List.length_nil, sI_len, cond_true, cond_false]; omega) | (simp only [List.length_append, List.length_cons, List.length_nil, sI_len, cond_eq_ite, apply_ite List.length]; split <;> simp only [List.length_append, List.length_cons, List.length_nil, sI_len] <;> omega) | grind), (hE22.sub (L' := [(0, .int .i64 mask), (5, .int .i64 0), (9, .slice b15 ((F_membersOf onp).length) c16), (10, .int .i64 ((F_membersOf onp).length : Int)), (11, .int .i64 0)]) ⟨rfl, rfl, rfl, rfl, rfl, trivial⟩), (St.pick (Γ' := [.own 2 1 b15 ((F_membersOf onp).length) c16 (F_membersOf onp)]) hS13 [0] (by decide) rfl)⟩
    ·
      clear hE22 hS13
      rintro r32 a24 w25 ⟨out5, t11, hT28, hr29, hi30, hi31, hE26, hS27⟩
      obtain ⟨r32, rfl⟩ : ∃ r', r32 = r' + 1 := ⟨r32 - 1, by omega⟩
      refine c_seq ?_
      refine c_reg ?_
      refine q_step (v := .bool (decide (t11 < ((F_membersOf onp).length : Int)))) hE26 (y_lss rfl rfl) rfl rfl rfl ?_; intro a33 hE34; clear hE26
      refine c_nil ?_
      have hE35 := hE34.sub (L' := [(0, .int .i64 mask), (5, .int .i64 out5), (9, .slice b15 ((F_membersOf onp).length) c16), (10, .int .i64 ((F_membersOf onp).length : Int)), (11, .int .i64 t11), (12, .bool (decide (t11 < ((F_membersOf onp).length : Int))))]) ⟨rfl, rfl, rfl, rfl, rfl, rfl, trivial⟩; clear hE34
      refine p_tn ?_
      refine c_seq ?_
      refine c_cond hE35 rfl (fun ht36 => ?_) (fun ht36 => ?_)
      ·
        have hp37 := of_decide_eq_true ht36
        have hE38 := hE35; rw [ht36] at hE38; clear hE35
        have hm1 := members_lt62 (mask := onp) h0 h1 t11 (by omega) (by omega)
        refine wp_skip ?_
        refine p_tn ?_
        refine c_cut (fun a' w' => E a' 25 [(0, .int .i64 mask), (5, .int .i64 (bif (F_has mask (gI (F_membersOf onp) t11)) then orI out5 (shlI 1 t11) else out5)), (9, .slice b15 ((F_membersOf onp).length) c16), (10, .int .i64 ((F_membersOf onp).length : Int)), (11, .int .i64 t11)] ∧ St w w' [.own 2 1 b15 ((F_membersOf onp).length) c16 (F_membersOf onp)]) ?_ ?_
        ·
          refine wp_block ?_
          refine c_seq ?_
          refine c_reg ?_
          refine q_step (v := .int .i64 t11) hE38 (y_move rfl) rfl rfl rfl ?_; intro a39 hE40; clear hE38
          refine q_step (v := .pointer (some (adr b15 (Int.toNat t11)))) hE40 (y_idx (by kernel_rfl) (fun _ => by kernel_rfl) rfl rfl (RdS.isS (m := t11) (St.rdO (i := 0) hS27 rfl) (by omega) (by omega)) (by omega) (by omega) (Nat.mul_one _).symm) rfl rfl rfl ?_; intro a41 hE42; clear hE40
          refine q_step (v := .int .i64 (gI (F_membersOf onp) t11)) hE42 (y_load (fun _ => by kernel_rfl) rfl (RdS.elt (St.rdO (i := 0) hS27 rfl) (by omega) (by omega))) rfl rfl rfl ?_; intro a43 hE44; clear hE42
          refine q_step (v := .int .i64 t11) hE44 (y_assign rfl) rfl rfl rfl ?_; intro a45 hE46; clear hE44
          refine q_step (v := .int .i64 (gI (F_membersOf onp) t11)) hE46 (y_assign rfl) rfl rfl rfl ?_; intro a47 hE48; clear hE46
          refine c_nil ?_
          have hE49 := hE48.sub (L' := [(0, .int .i64 mask), (5, .int .i64 out5), (6, .int .i64 t11), (7, .int .i64 (gI (F_membersOf onp) t11)), (9, .slice b15 ((F_membersOf onp).length) c16), (10, .int .i64 ((F_membersOf onp).length : Int)), (11, .int .i64 t11)]) ⟨rfl, rfl, rfl, rfl, rfl, rfl, rfl, trivial⟩; clear hE48
          refine p_tn ?_
          refine c_seq ?_
          refine c_reg ?_
          refine q_step (v := .int .i64 mask) hE49 (y_move rfl) rfl rfl rfl ?_; intro a50 hE51; clear hE49
          refine q_step (v := .int .i64 (gI (F_membersOf onp) t11)) hE51 (y_move rfl) rfl rfl rfl ?_; intro a52 hE53; clear hE51
          refine l_step hE53 rfl (l_call (f := 111) (argv := [.int .i64 mask, .int .i64 (gI (F_membersOf onp) t11)]) hE53 (fun _ => cf_has _ _) rfl rfl (c_has mask (gI (F_membersOf onp) t11) w25 (by omega)) ?_)
          rintro _ _ ⟨rfl, rfl⟩ a56 hE57; clear hE53
          refine c_nil ?_
          have hE60 := hE57.sub (L' := [(0, .int .i64 mask), (5, .int .i64 out5), (6, .int .i64 t11), (9, .slice b15 ((F_membersOf onp).length) c16), (10, .int .i64 ((F_membersOf onp).length : Int)), (11, .int .i64 t11), (18, .bool (F_has mask (gI (F_membersOf onp) t11)))]) ⟨rfl, rfl, rfl, rfl, rfl, rfl, rfl, trivial⟩; clear hE57
          refine p_tn ?_
          refine c_cond hE60 rfl (fun ht61 => ?_) (fun ht61 => ?_)
          ·
            have hE62 := hE60; rw [ht61] at hE62; clear hE60
            refine c_reg ?_
            refine q_step (v := .int .i64 out5) hE62 (y_move rfl) rfl rfl rfl ?_; intro a63 hE64; clear hE62
            refine q_step (v := .int .i64 t11) hE64 (y_move rfl) rfl rfl rfl ?_; intro a65 hE66; clear hE64
            refine q_step (v := .int .i64 (shlI 1 t11)) hE66 (y_shl rfl rfl (by omega)) rfl rfl rfl ?_; intro a67 hE68; clear hE66
            refine q_step (v := .int .i64 (orI out5 (shlI 1 t11))) hE68 (y_or rfl rfl) rfl rfl rfl ?_; intro a69 hE70; clear hE68
            refine q_step (v := .int .i64 (orI out5 (shlI 1 t11))) hE70 (y_assign rfl) rfl rfl rfl ?_; intro a71 hE72; clear hE70
            refine c_nil ?_
            have hE73 := hE72.sub (L' := [(0, .int .i64 mask), (5, .int .i64 (orI out5 (shlI 1 t11))), (9, .slice b15 ((F_membersOf onp).length) c16), (10, .int .i64 ((F_membersOf onp).length : Int)), (11, .int .i64 t11)]) ⟨rfl, rfl, rfl, rfl, rfl, trivial⟩; clear hE72
            refine p_bn ?_
            refine p_tn ?_
            have hE74 := hE73.sub (L' := [(0, .int .i64 mask), (5, .int .i64 (orI out5 (shlI 1 t11))), (9, .slice b15 ((F_membersOf onp).length) c16), (10, .int .i64 ((F_membersOf onp).length : Int)), (11, .int .i64 t11)]) ⟨rfl, rfl, rfl, rfl, rfl, trivial⟩
            have hS75 := (St.pick (Γ' := [.own 2 1 b15 ((F_membersOf onp).length) c16 (F_membersOf onp)]) hS27 [0] (by decide) rfl)
            exact ⟨(by rw [ht61]; exact hE74), hS75⟩
          ·
            have hE76 := hE60; rw [ht61] at hE76; clear hE60
            refine wp_skip ?_
            refine p_bn ?_
            refine p_tn ?_
            have hE77 := hE76.sub (L' := [(0, .int .i64 mask), (5, .int .i64 out5), (9, .slice b15 ((F_membersOf onp).length) c16), (10, .int .i64 ((F_membersOf onp).length : Int)), (11, .int .i64 t11)]) ⟨rfl, rfl, rfl, rfl, rfl, trivial⟩
            have hS78 := (St.pick (Γ' := [.own 2 1 b15 ((F_membersOf onp).length) c16 (F_membersOf onp)]) hS27 [0] (by decide) rfl)
            exact ⟨(by rw [ht61]; exact hE77), hS78⟩
        ·
          rintro a79 w80 ⟨hE81, hS82⟩; clear hE38 hS27
          refine c_reg ?_
          refine q_step (v := .int .i64 (t11 + 1)) hE81 (y_add rfl rfl ⟨(by omega), (by omega)⟩) rfl rfl rfl ?_; intro a83 hE84; clear hE81
          refine q_step (v := .int .i64 (t11 + 1)) hE84 (y_move rfl) rfl rfl rfl ?_; intro a85 hE86; clear hE84
          refine c_nil ?_
          have hE87 := hE86.sub (L' := [(0, .int .i64 mask), (5, .int .i64 (bif (F_has mask (gI (F_membersOf onp) t11)) then orI out5 (shlI 1 t11) else out5)), (9, .slice b15 ((F_membersOf onp).length) c16), (10, .int .i64 ((F_membersOf onp).length : Int)), (11, .int .i64 (t11 + 1))]) ⟨rfl, rfl, rfl, rfl, rfl, trivial⟩; clear hE86
          refine p_tn ⟨r32, Nat.lt_succ_self _, bif (F_has mask (gI (F_membersOf onp) t11)) then orI out5 (shlI 1 t11) else out5, t11 + 1, (hT28.symm.trans (show F_squeeze_L1b mask onp (F_squeeze_L1 mask onp r32) out5 t11 = F_squeeze_L1 mask onp r32 (bif (F_has mask (gI (F_membersOf onp) t11)) then orI out5 (shlI 1 t11) else out5) (t11 + 1) by unfold F_squeeze_L1b; rw [ht36]; first | done | rfl)).symm, (by omega), (by first | omega | (simp only [List.length_replicate, sI_len]; omega) | (simp only [List.length_append, List.length_cons, List.length_nil, sI_len, cond_true, cond_false]; omega) | (simp only [List.length_append, List.length_cons, List.length_nil, sI_len, cond_eq_ite, apply_ite List.length]; split <;> simp only [List.length_append, List.length_cons, List.length_nil, sI_len] <;> omega) | grind), (by first | omega | (simp only [List.length_replicate, sI_len]; omega) | (simp only [List.length_append, List.length_cons, List.length_nil, sI_len, cond_true, cond_false]; omega) | (simp only [List.length_append, List.length_cons, List.length_nil, sI_len, cond_eq_ite, apply_ite List.length]; split <;> simp only [List.length_append, List.length_cons, List.length_nil, sI_len] <;> omega) | grind), (hE87.sub (L' := [(0, .int .i64 mask), (5, .int .i64 (bif (F_has mask (gI (F_membersOf onp) t11)) then orI out5 (shlI 1 t11) else out5)), (9, .slice b15 ((F_membersOf onp).length) c16), (10, .int .i64 ((F_membersOf onp).length : Int)), (11, .int .i64 (t11 + 1))]) ⟨rfl, rfl, rfl, rfl, rfl, trivial⟩), (St.pick (Γ' := [.own 2 1 b15 ((F_membersOf onp).length) c16 (F_membersOf onp)]) hS82 [0] (by decide) rfl)⟩
      ·
        have hp88 := of_decide_eq_false ht36
        have hE89 := hE35; rw [ht36] at hE89; clear hE35
        refine wp_exit ?_
        refine p_te ?_
        have hX90 : F_squeeze_L1 mask onp (Int.toNat (((F_membersOf onp).length : Int) - 0) + 1) 0 0 = (out5, t11) := hT28.symm.trans (show F_squeeze_L1b mask onp (F_squeeze_L1 mask onp r32) out5 t11 = (out5, t11) by unfold F_squeeze_L1b; rw [ht36]; first | done | rfl)
        refine p_te (p_be (p_tn ?_))
        exact ⟨(by rw [hX90]; exact (show 0 ≤ t11 from (by first | omega | (simp only [List.length_replicate, sI_len]; omega) | (simp only [List.length_append, List.length_cons, List.length_nil, sI_len, cond_true, cond_false]; omega) | (simp only [List.length_append, List.length_cons, List.length_nil, sI_len, cond_eq_ite, apply_ite List.length]; split <;> simp only [List.length_append, List.length_cons, List.length_nil, sI_len] <;> omega) | grind))), (by rw [hX90]; exact (show t11 ≤ ((F_membersOf onp).length : Int) from (by first | omega | (simp only [List.length_replicate, sI_len]; omega) | (simp only [List.length_append, List.length_cons, List.length_nil, sI_len, cond_true, cond_false]; omega) | (simp only [List.length_append, List.length_cons, List.length_nil, sI_len, cond_eq_ite, apply_ite List.length]; split <;> simp only [List.length_append, List.length_cons, List.length_nil, sI_len] <;> omega) | grind))), (by rw [hX90]; exact (hE89.sub (L' := [(0, .int .i64 mask), (5, .int .i64 out5), (9, .slice b15 ((F_membersOf onp).length) c16), (10, .int .i64 ((F_membersOf onp).length : Int)), (11, .int .i64 t11)]) ⟨rfl, rfl, rfl, rfl, rfl, trivial⟩)), (St.pick (Γ' := [.own 2 1 b15 ((F_membersOf onp).length) c16 (F_membersOf onp)]) hS27 [0] (by decide) rfl)⟩
  ·
    rintro a91 w92 ⟨hi96, hi97, hE93, hS94⟩; clear hE22 hS13
    refine p_tn ?_
    refine c_seq ?_
    refine c_reg ?_
    refine q_step (v := .int .i64 ((F_squeeze_L1 mask onp (Int.toNat (((F_membersOf onp).length : Int) - 0) + 1) 0 0).1)) hE93 (y_move rfl) rfl rfl rfl ?_; intro a98 hE99; clear hE93
    refine q_step (v := .int .i64 ((F_squeeze_L1 mask onp (Int.toNat (((F_membersOf onp).length : Int) - 0) + 1) 0 0).1)) hE99 (y_assign rfl) rfl rfl rfl ?_; intro a100 hE101; clear hE99
    refine c_nil ?_
    have hE102 := hE101.sub (L' := [(4, .int .i64 ((F_squeeze_L1 mask onp (Int.toNat (((F_membersOf onp).length : Int) - 0) + 1) 0 0).1))]) ⟨rfl, trivial⟩; clear hE101
    refine p_tn ?_
    refine wp_ret ?_
    have hF : F_squeeze mask onp = (F_squeeze_L1 mask onp (Int.toNat (((F_membersOf onp).length : Int) - 0) + 1) 0 0).1 := by unfold F_squeeze; rfl
    refine c_ret1 hE102 rfl rfl ?_
    exact ⟨(by rw [hF]; first | done | rfl), hS94.ext⟩

def F_partOn_L1b (ap : List Int) (mask : Int) (rec : (List Int) → Int → (List Int) × Int) (out5 : List Int) (t11 : Int) : (List Int) × Int :=
  bif (decide (t11 < ((F_membersOf mask).length : Int))) then (rec (out5 ++ ([F_squeeze (gI ap (gI (F_membersOf mask) t11)) mask])) (t11 + 1)) else (out5, t11)
def F_partOn_L1 (ap : List Int) (mask : Int) : Nat → (List Int) → Int → (List Int) × Int
  | 0, out5, t11 => (out5, t11)
  | r + 1, out5, t11 => F_partOn_L1b ap mask (F_partOn_L1 ap mask r) out5 t11
def F_partOn (ap : List Int) (mask : Int) : List Int :=
  (F_partOn_L1 ap mask (Int.toNat (((F_membersOf mask).length : Int) - 0) + 1) ([]) 0).1
theorem cf_partOn (args : Array Value) (w : World) : (callFunc 132 args).run Try.prog w = .ok (.enter 132 args) w := by kernel_rfl
set_option maxRecDepth 100000 in
theorem c_partOn (apA : Option Addr) (apN apC : Nat) (ap : List Int) (mask : Int) (w : World) (apR : RdS w 1 apA apN apC ap) (hl : ap.length ≤ 8) (h0 : 0 ≤ mask) (h1 : mask ≤ fullI (ap.length : Int)) (h2 : mask < 4611686018427387904) :
    Calls Try.prog 132 #[.slice apA apN apC, .int .i64 mask] w (Ret fun v w' => ∃ b1 : Option Addr, ∃ c1 : Nat, v = .slice b1 (F_partOn ap mask).length c1 ∧ OwnS w' w.heap.size 2 1 b1 (F_partOn ap mask).length c1 (F_partOn ap mask) ∧ Ext w w') := by
  obtain rfl : apN = ap.length := apR.len1.symm
  have apLe := apR.le
  have hml := members_len (mask := mask) (n := ap.length) (by omega) h0 h1
  have hS := St.nil w
  have hS1 := St.rd0 hS rfl apR; clear hS
  refine enter (args := [.slice apA ap.length apC, .int .i64 mask]) Try.func132 rfl rfl ?_
  rw [Try.ntmps132]; intro a hE
  have hE := hE.sub (L' := [(0, .slice apA ap.length apC), (1, .int .i64 mask)]) ⟨rfl, rfl, trivial⟩
  refine c_seq ?_
  refine c_reg ?_
  refine q_step (v := .slice none 0 0) hE (y_assign rfl) rfl rfl rfl ?_; intro a2 hE3; clear hE
  refine c_nil ?_
  have hE4 := hE3.sub (L' := [(0, .slice apA ap.length apC), (1, .int .i64 mask)]) ⟨rfl, rfl, trivial⟩; clear hE3
  refine p_tn ?_
  refine c_seq ?_
  refine c_reg ?_
  refine q_step (v := .slice none 0 0) hE4 (y_assign rfl) rfl rfl rfl ?_; intro a5 hE6; clear hE4
  refine c_nil ?_
  have hE7 := hE6.sub (L' := [(0, .slice apA ap.length apC), (1, .int .i64 mask), (5, .slice none 0 0)]) ⟨rfl, rfl, rfl, trivial⟩; clear hE6
  refine p_tn ?_
  refine c_seq ?_
  refine c_seq ?_
  refine c_reg ?_
  refine q_step (v := .int .i64 mask) hE7 (y_move rfl) rfl rfl rfl ?_; intro a8 hE9; clear hE7
  refine l_step hE9 rfl (l_call (f := 102) (argv := [.int .i64 mask]) hE9 (fun _ => cf_membersOf _ _) rfl rfl (c_membersOf mask w (by omega) (by omega)) ?_)
  rintro _ w11 ⟨b16, c17, rfl, ho18, he15⟩ a12 hE13; clear hE9
  have hS14 := St.own hS1 he15 ho18; clear hS1
  refine q_step (v := .int .i64 ((F_membersOf mask).length : Int)) hE13 (y_len (e := 2) (by kernel_rfl) rfl) rfl rfl rfl ?_; intro a19 hE20; clear hE13
  refine q_step (v := .int .i64 0) hE20 (y_move rfl) rfl rfl rfl ?_; intro a21 hE22; clear hE20
  refine c_nil ?_
  have hE23 := hE22.sub (L' := [(0, .slice apA ap.length apC), (1, .int .i64 mask), (5, .slice none 0 0), (9, .slice b16 ((F_membersOf mask).length) c17), (10, .int .i64 ((F_membersOf mask).length : Int)), (11, .int .i64 0)]) ⟨rfl, rfl, rfl, rfl, rfl, rfl, trivial⟩; clear hE22
  refine p_tn ?_
  have hS24 := St.nils hS14 2 1; clear hS14
  refine c_cut1 (fun a' w' => ∃ out5A_25 : Option Addr, ∃ out5C_25 : Nat, (0 ≤ ((F_partOn_L1 ap mask (Int.toNat (((F_membersOf mask).length : Int) - 0) + 1) ([]) 0).2)) ∧ (((F_partOn_L1 ap mask (Int.toNat (((F_membersOf mask).length : Int) - 0) + 1) ([]) 0).2) ≤ ((F_membersOf mask).length : Int)) ∧ ((((F_partOn_L1 ap mask (Int.toNat (((F_membersOf mask).length : Int) - 0) + 1) ([]) 0).1).length : Int) ≤ ((F_partOn_L1 ap mask (Int.toNat (((F_membersOf mask).length : Int) - 0) + 1) ([]) 0).2)) ∧ E a' 26 [(0, .slice apA ap.length apC), (1, .int .i64 mask), (5, .slice out5A_25 (((F_partOn_L1 ap mask (Int.toNat (((F_membersOf mask).length : Int) - 0) + 1) ([]) 0).1).length) out5C_25), (9, .slice b16 ((F_membersOf mask).length) c17), (10, .int .i64 ((F_membersOf mask).length : Int)), (11, .int .i64 ((F_partOn_L1 ap mask (Int.toNat (((F_membersOf mask).length : Int) - 0) + 1) ([]) 0).2))] ∧ St w w' [.own 2 1 out5A_25 (((F_partOn_L1 ap mask (Int.toNat (((F_membersOf mask).length : Int) - 0) + 1) ([]) 0).1).length) out5C_25 ((F_partOn_L1 ap mask (Int.toNat (((F_membersOf mask).length : Int) - 0) + 1) ([]) 0).1), .own 2 1 b16 ((F_membersOf mask).length) c17 (F_membersOf mask), .rd 1 apA ap.length apC ap]) ?_ ?_
  ·
    refine wp_block ?_
    refine c_loop (fun r a' w' => ∃ out5 : List Int, ∃ t11 : Int, ∃ out5A : Option Addr, ∃ out5C : Nat, F_partOn_L1 ap mask r out5 t11 = F_partOn_L1 ap mask (Int.toNat (((F_membersOf mask).length : Int) - 0) + 1) ([]) 0 ∧ Int.toNat (((F_membersOf mask).length : Int) - t11) < r ∧ (0 ≤ t11) ∧ (t11 ≤ ((F_membersOf mask).length : Int)) ∧ ((out5.length : Int) ≤ t11) ∧ E a' 26 [(0, .slice apA ap.length apC), (1, .int .i64 mask), (5, .slice out5A ((out5).length) out5C), (9, .slice b16 ((F_membersOf mask).length) c17), (10, .int .i64 ((F_membersOf mask).length : Int)), (11, .int .i64 t11)] ∧ St w w' [.own 2 1 out5A ((out5).length) out5C out5, .own 2 1 b16 ((F_membersOf mask).length) c17 (F_membersOf mask), .rd 1 apA ap.length apC ap]) (r := (Int.toNat (((F_membersOf mask).length : Int) - 0) + 1)) ?_ ?_
    · exact ⟨[], 0, none, 0, rfl, Nat.lt_succ_self _, (by first | omega | (simp only [List.length_replicate, sI_len]; omega) | (simp only [List.length_append, List.length_cons, List.length_nil, sI_len, cond_true, cond_false]; omega) | (simp only [List.length_append, List.length_cons, List.length_nil, sI_len, cond_eq_ite, apply_ite List.length]; split <;> simp only [List.length_append, List.length_cons, List.length_nil, sI_len] <;> omega) | grind), (by first | omega | (simp only [List.length_replicate, sI_len]; omega) | (simp only [List.length_append, List.length_cons, List.length_nil, sI_len, cond_true, cond_false]; omega) | (simp only [List.length_append, List.length_cons, List.length_nil, sI_len, cond_eq_ite, apply_ite List.length]; split <;> simp only [List.length_append, List.length_cons, List.length_nil, sI_len] <;> omega) | grind), (by first | omega | (simp only [List.length_replicate, sI_len]; omega) | (simp only [List.length_append, List.length_cons, List.length_nil, sI_len, cond_true, cond_false]; omega) | (simp only [List.length_append, List.length_cons, List.length_nil, sI_len, cond_eq_ite, apply_ite List.length]; split <;> simp only [List.length_append, List.length_cons, List.length_nil, sI_len] <;> omega) | grind), (hE23.sub (L' := [(0, .slice apA ap.length apC), (1, .int .i64 mask), (5, .slice none 0 0), (9, .slice b16 ((F_membersOf mask).length) c17), (10, .int .i64 ((F_membersOf mask).length : Int)), (11, .int .i64 0)]) ⟨rfl, rfl, rfl, rfl, rfl, rfl, trivial⟩), (St.pick (Γ' := [.own 2 1 none 0 0 ([]), .own 2 1 b16 ((F_membersOf mask).length) c17 (F_membersOf mask), .rd 1 apA ap.length apC ap]) hS24 [0, 1, 2] (by decide) rfl)⟩
    ·
      clear hE23 hS24
      rintro r35 a26 w27 ⟨out5, t11, out5A, out5C, hT30, hr31, hi32, hi33, hi34, hE28, hS29⟩
      obtain ⟨r35, rfl⟩ : ∃ r', r35 = r' + 1 := ⟨r35 - 1, by omega⟩
      refine c_seq ?_
      refine c_reg ?_
      refine q_step (v := .bool (decide (t11 < ((F_membersOf mask).length : Int)))) hE28 (y_lss rfl rfl) rfl rfl rfl ?_; intro a36 hE37; clear hE28
      refine c_nil ?_
      have hE38 := hE37.sub (L' := [(0, .slice apA ap.length apC), (1, .int .i64 mask), (5, .slice out5A ((out5).length) out5C), (9, .slice b16 ((F_membersOf mask).length) c17), (10, .int .i64 ((F_membersOf mask).length : Int)), (11, .int .i64 t11), (12, .bool (decide (t11 < ((F_membersOf mask).length : Int))))]) ⟨rfl, rfl, rfl, rfl, rfl, rfl, rfl, trivial⟩; clear hE37
      refine p_tn ?_
      refine c_seq ?_
      refine c_cond hE38 rfl (fun ht39 => ?_) (fun ht39 => ?_)
      ·
        have hp40 := of_decide_eq_true ht39
        have hE41 := hE38; rw [ht39] at hE41; clear hE38
        have hm1 := members_lt (mask := mask) (n := ap.length) (by omega) h0 h1 t11 (by omega) (by omega)
        refine wp_skip ?_
        refine p_tn ?_
        refine c_seq ?_
        refine wp_block ?_
        refine c_seq ?_
        refine c_reg ?_
        refine q_step (v := .pointer (some (adr b16 (Int.toNat t11)))) hE41 (y_idx (by kernel_rfl) (fun _ => by kernel_rfl) rfl rfl (RdS.isS (m := t11) (St.rdO (i := 1) hS29 rfl) (by omega) (by omega)) (by omega) (by omega) (Nat.mul_one _).symm) rfl rfl rfl ?_; intro a42 hE43; clear hE41
        refine q_step (v := .int .i64 (gI (F_membersOf mask) t11)) hE43 (y_load (fun _ => by kernel_rfl) rfl (RdS.elt (St.rdO (i := 1) hS29 rfl) (by omega) (by omega))) rfl rfl rfl ?_; intro a44 hE45; clear hE43
        refine q_step (v := .int .i64 (gI (F_membersOf mask) t11)) hE45 (y_assign rfl) rfl rfl rfl ?_; intro a46 hE47; clear hE45
        refine c_nil ?_
        have hE48 := hE47.sub (L' := [(0, .slice apA ap.length apC), (1, .int .i64 mask), (5, .slice out5A ((out5).length) out5C), (7, .int .i64 (gI (F_membersOf mask) t11)), (9, .slice b16 ((F_membersOf mask).length) c17), (10, .int .i64 ((F_membersOf mask).length : Int)), (11, .int .i64 t11)]) ⟨rfl, rfl, rfl, rfl, rfl, rfl, rfl, trivial⟩; clear hE47
        refine p_tn ?_
        refine c_reg ?_
        refine q_step (v := .slice out5A ((out5).length) out5C) hE48 (y_move rfl) rfl rfl rfl ?_; intro a49 hE50; clear hE48
        refine q_step (v := .slice apA ap.length apC) hE50 (y_move rfl) rfl rfl rfl ?_; intro a51 hE52; clear hE50
        refine q_step (v := .int .i64 (gI (F_membersOf mask) t11)) hE52 (y_move rfl) rfl rfl rfl ?_; intro a53 hE54; clear hE52
        refine q_step (v := .pointer (some (adr apA (Int.toNat (gI (F_membersOf mask) t11))))) hE54 (y_idx (by kernel_rfl) (fun _ => by kernel_rfl) rfl rfl (RdS.isS (m := gI (F_membersOf mask) t11) (St.rdR (i := 2) hS29 rfl) (by omega) (by omega)) (by omega) (by omega) (Nat.mul_one _).symm) rfl rfl rfl ?_; intro a55 hE56; clear hE54
        refine q_step (v := .int .i64 (gI ap (gI (F_membersOf mask) t11))) hE56 (y_load (fun _ => by kernel_rfl) rfl (RdS.elt (St.rdR (i := 2) hS29 rfl) (by omega) (by omega))) rfl rfl rfl ?_; intro a57 hE58; clear hE56
        refine q_step (v := .int .i64 mask) hE58 (y_move rfl) rfl rfl rfl ?_; intro a59 hE60; clear hE58
        refine l_step hE60 rfl (l_call (f := 86) (argv := [.int .i64 (gI ap (gI (F_membersOf mask) t11)), .int .i64 mask]) hE60 (fun _ => cf_squeeze _ _) rfl rfl (c_squeeze (gI ap (gI (F_membersOf mask) t11)) mask w27 (by omega) (by omega)) ?_)
        rintro _ w62 ⟨rfl, he66⟩ a63 hE64; clear hE60
        have hS65 := St.go hS29 he66; clear hS29
        refine l_step hE64 rfl (l_lit (e := 2) (s := 1) (xs := [F_squeeze (gI ap (gI (F_membersOf mask) t11)) mask]) (vs := [.int .i64 (F_squeeze (gI ap (gI (F_membersOf mask) t11)) mask)]) hS65 hE64 rfl (fun _ => by kernel_rfl) rfl rfl rfl ?_)
        intro b67 w68 hS71 he72 a69 hE70; clear hS65 hE64
        obtain ⟨_, hi1, hi2, hi3, hi4⟩ := info_parts (show (Try.prog.info? 2).map (fun i => (i.zero, i.size, i.bytes)) = some (some (.int .i64 0), 1, 8) by kernel_rfl)
        refine l_step hE70 rfl (l_append (k := 1) (n' := (out5 ++ ([F_squeeze (gI ap (gI (F_membersOf mask) t11)) mask])).length) hS71 hE70 (by kernel_rfl) hi1 hi2 hi3 rfl (by decide) (by rw [hi4]; decide) rfl rfl rfl (St.rdO (i := 0) hS71 rfl) (by first | omega | (simp only [List.length_append, List.length_cons, List.length_nil]; omega)) (by have h1 := (St.rdO (i := 1) hS71 rfl).len1; have h2 := (St.rdO (i := 0) hS71 rfl).len1; rw [List.length_append, h1, h2]) rfl ?_)
        intro b73 c79 w74 hS77 a75 hE76; clear hS71 hE70 hi1 hi2 hi3 hi4
        refine q_step (v := .slice b73 ((out5 ++ ([F_squeeze (gI ap (gI (F_membersOf mask) t11)) mask])).length) c79) hE76 (y_assign rfl) rfl rfl rfl ?_; intro a80 hE81; clear hE76
        refine c_nil ?_
        have hE82 := hE81.sub (L' := [(0, .slice apA ap.length apC), (1, .int .i64 mask), (5, .slice b73 ((out5 ++ ([F_squeeze (gI ap (gI (F_membersOf mask) t11)) mask])).length) c79), (9, .slice b16 ((F_membersOf mask).length) c17), (10, .int .i64 ((F_membersOf mask).length : Int)), (11, .int .i64 t11)]) ⟨rfl, rfl, rfl, rfl, rfl, rfl, trivial⟩; clear hE81
        refine p_bn ?_
        refine p_tn ?_
        refine c_reg ?_
        refine q_step (v := .int .i64 (t11 + 1)) hE82 (y_add rfl rfl ⟨(by omega), (by omega)⟩) rfl rfl rfl ?_; intro a83 hE84; clear hE82
        refine q_step (v := .int .i64 (t11 + 1)) hE84 (y_move rfl) rfl rfl rfl ?_; intro a85 hE86; clear hE84
        refine c_nil ?_
        have hE87 := hE86.sub (L' := [(0, .slice apA ap.length apC), (1, .int .i64 mask), (5, .slice b73 ((out5 ++ ([F_squeeze (gI ap (gI (F_membersOf mask) t11)) mask])).length) c79), (9, .slice b16 ((F_membersOf mask).length) c17), (10, .int .i64 ((F_membersOf mask).length : Int)), (11, .int .i64 (t11 + 1))]) ⟨rfl, rfl, rfl, rfl, rfl, rfl, trivial⟩; clear hE86
        refine p_tn ⟨r35, Nat.lt_succ_self _, out5 ++ ([F_squeeze (gI ap (gI (F_membersOf mask) t11)) mask]), t11 + 1, b73, c79, (hT30.symm.trans (show F_partOn_L1b ap mask (F_partOn_L1 ap mask r35) out5 t11 = F_partOn_L1 ap mask r35 (out5 ++ ([F_squeeze (gI ap (gI (F_membersOf mask) t11)) mask])) (t11 + 1) by unfold F_partOn_L1b; rw [ht39]; first | done | rfl)).symm, (by omega), (by first | omega | (simp only [List.length_replicate, sI_len]; omega) | (simp only [List.length_append, List.length_cons, List.length_nil, sI_len, cond_true, cond_false]; omega) | (simp only [List.length_append, List.length_cons, List.length_nil, sI_len, cond_eq_ite, apply_ite List.length]; split <;> simp only [List.length_append, List.length_cons, List.length_nil, sI_len] <;> omega) | grind), (by first | omega | (simp only [List.length_replicate, sI_len]; omega) | (simp only [List.length_append, List.length_cons, List.length_nil, sI_len, cond_true, cond_false]; omega) | (simp only [List.length_append, List.length_cons, List.length_nil, sI_len, cond_eq_ite, apply_ite List.length]; split <;> simp only [List.length_append, List.length_cons, List.length_nil, sI_len] <;> omega) | grind), (by first | omega | (simp only [List.length_replicate, sI_len]; omega) | (simp only [List.length_append, List.length_cons, List.length_nil, sI_len, cond_true, cond_false]; omega) | (simp only [List.length_append, List.length_cons, List.length_nil, sI_len, cond_eq_ite, apply_ite List.length]; split <;> simp only [List.length_append, List.length_cons, List.length_nil, sI_len] <;> omega) | grind), (hE87.sub (L' := [(0, .slice apA ap.length apC), (1, .int .i64 mask), (5, .slice b73 ((out5 ++ ([F_squeeze (gI ap (gI (F_membersOf mask) t11)) mask])).length) c79), (9, .slice b16 ((F_membersOf mask).length) c17), (10, .int .i64 ((F_membersOf mask).length : Int)), (11, .int .i64 (t11 + 1))]) ⟨rfl, rfl, rfl, rfl, rfl, rfl, trivial⟩), (St.pick (Γ' := [.own 2 1 b73 ((out5 ++ ([F_squeeze (gI ap (gI (F_membersOf mask) t11)) mask])).length) c79 (out5 ++ ([F_squeeze (gI ap (gI (F_membersOf mask) t11)) mask])), .own 2 1 b16 ((F_membersOf mask).length) c17 (F_membersOf mask), .rd 1 apA ap.length apC ap]) hS77 [1, 2, 3] (by decide) rfl)⟩
      ·
        have hp88 := of_decide_eq_false ht39
        have hE89 := hE38; rw [ht39] at hE89; clear hE38
        refine wp_exit ?_
        refine p_te ?_
        have hX90 : F_partOn_L1 ap mask (Int.toNat (((F_membersOf mask).length : Int) - 0) + 1) ([]) 0 = (out5, t11) := hT30.symm.trans (show F_partOn_L1b ap mask (F_partOn_L1 ap mask r35) out5 t11 = (out5, t11) by unfold F_partOn_L1b; rw [ht39]; first | done | rfl)
        refine p_te (p_be (p_tn ?_))
        exact ⟨out5A, out5C, (by rw [hX90]; exact (show 0 ≤ t11 from (by first | omega | (simp only [List.length_replicate, sI_len]; omega) | (simp only [List.length_append, List.length_cons, List.length_nil, sI_len, cond_true, cond_false]; omega) | (simp only [List.length_append, List.length_cons, List.length_nil, sI_len, cond_eq_ite, apply_ite List.length]; split <;> simp only [List.length_append, List.length_cons, List.length_nil, sI_len] <;> omega) | grind))), (by rw [hX90]; exact (show t11 ≤ ((F_membersOf mask).length : Int) from (by first | omega | (simp only [List.length_replicate, sI_len]; omega) | (simp only [List.length_append, List.length_cons, List.length_nil, sI_len, cond_true, cond_false]; omega) | (simp only [List.length_append, List.length_cons, List.length_nil, sI_len, cond_eq_ite, apply_ite List.length]; split <;> simp only [List.length_append, List.length_cons, List.length_nil, sI_len] <;> omega) | grind))), (by rw [hX90]; exact (show (out5.length : Int) ≤ t11 from (by first | omega | (simp only [List.length_replicate, sI_len]; omega) | (simp only [List.length_append, List.length_cons, List.length_nil, sI_len, cond_true, cond_false]; omega) | (simp only [List.length_append, List.length_cons, List.length_nil, sI_len, cond_eq_ite, apply_ite List.length]; split <;> simp only [List.length_append, List.length_cons, List.length_nil, sI_len] <;> omega) | grind))), (by rw [hX90]; exact (hE89.sub (L' := [(0, .slice apA ap.length apC), (1, .int .i64 mask), (5, .slice out5A ((out5).length) out5C), (9, .slice b16 ((F_membersOf mask).length) c17), (10, .int .i64 ((F_membersOf mask).length : Int)), (11, .int .i64 t11)]) ⟨rfl, rfl, rfl, rfl, rfl, rfl, trivial⟩)), (by rw [hX90]; exact (St.pick (Γ' := [.own 2 1 out5A ((out5).length) out5C out5, .own 2 1 b16 ((F_membersOf mask).length) c17 (F_membersOf mask), .rd 1 apA ap.length apC ap]) hS29 [0, 1, 2] (by decide) rfl))⟩
  ·
    rintro a91 w92 ⟨out5A_25, out5C_25, hi96, hi97, hi98, hE93, hS94⟩; clear hE23 hS24
    refine p_tn ?_
    refine c_seq ?_
    refine c_reg ?_
    refine q_step (v := .slice out5A_25 (((F_partOn_L1 ap mask (Int.toNat (((F_membersOf mask).length : Int) - 0) + 1) ([]) 0).1).length) out5C_25) hE93 (y_move rfl) rfl rfl rfl ?_; intro a99 hE100; clear hE93
    refine q_step (v := .slice out5A_25 (((F_partOn_L1 ap mask (Int.toNat (((F_membersOf mask).length : Int) - 0) + 1) ([]) 0).1).length) out5C_25) hE100 (y_assign rfl) rfl rfl rfl ?_; intro a101 hE102; clear hE100
    refine c_nil ?_
    have hE103 := hE102.sub (L' := [(4, .slice out5A_25 (((F_partOn_L1 ap mask (Int.toNat (((F_membersOf mask).length : Int) - 0) + 1) ([]) 0).1).length) out5C_25)]) ⟨rfl, trivial⟩; clear hE102
    refine p_tn ?_
    refine wp_ret ?_
    have hF : F_partOn ap mask = (F_partOn_L1 ap mask (Int.toNat (((F_membersOf mask).length : Int) - 0) + 1) ([]) 0).1 := by unfold F_partOn; rfl
    refine c_ret1 hE103 rfl rfl ?_
    exact ⟨out5A_25, out5C_25, (by rw [hF]; first | done | rfl), (by rw [hF]; exact hS94.ok 0 _ rfl), hS94.ext⟩

theorem squeeze_eq {x on : Int} (h0 : 0 ≤ on) (h1 : on < 4611686018427387904) : F_squeeze x on = F_l05Squeeze (F_membersOf on) x := by
  have hl := members_len62 h0 h1
  unfold F_squeeze F_l05Squeeze
  rw [rangeLoop0 ((F_membersOf on).length : Int) (by omega) (fun o j => bif F_has x (gI (F_membersOf on) j) then orI o (shlI 1 j) else o) (F_squeeze_L1 x on) (fun _ _ _ => rfl),
    rangeLoop0 ((F_membersOf on).length : Int) (by omega) (fun o j => bif F_l01Bit x (gI (F_membersOf on) j) then orI o (powI j) else o) (F_l05Squeeze_L1 (F_membersOf on) x) (fun _ _ _ => rfl)]
  apply foldl_ext'
  intro j hj o
  have hj := List.mem_range.1 hj
  rw [pow_shl (i := (j : Int)) (by omega) (by omega)]; rfl
theorem part_loop {f1 : List Int} {mask : Int} (h0 : 0 ≤ mask) (h1 : mask < 4611686018427387904) (r : Nat) (xs : List Int) (t : Int) : F_partOn_L1 f1 mask r xs t = F_l05Part_L1 f1 mask r xs t := by
  induction r generalizing xs t with
  | zero => rfl
  | succ r ih =>
    show F_partOn_L1b f1 mask _ xs t = F_l05Part_L1b f1 mask _ xs t
    unfold F_partOn_L1b F_l05Part_L1b
    rw [ih, l01List_eq h0 h1, squeeze_eq h0 h1]
theorem Part_len (f1 : List Int) (mask : Int) (r : Nat) (xs : List Int) (v : Int) : (F_l05Part_L1 f1 mask r xs v).1.length ≤ xs.length + r := by
  induction r generalizing xs v with
  | zero => exact Nat.le_refl _
  | succ r ih =>
    show (F_l05Part_L1b f1 mask _ xs v).1.length ≤ _
    unfold F_l05Part_L1b
    cases decide (v < ((F_l01List mask).length : Int))
    · simp <;> omega
    · simp only [cond_true]
      refine Nat.le_trans (ih _ _) ?_
      simp <;> omega

end Go.Proofs.Ytejfjcjdilbkdaa
