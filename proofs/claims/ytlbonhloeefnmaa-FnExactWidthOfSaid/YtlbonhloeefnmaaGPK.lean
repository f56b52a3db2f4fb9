/- GPK: models and contracts, printed by wip/gen/gen.py -/
import Derived.Test.YtlbonhloeefnmaaGPO
set_option linter.unusedVariables false
set_option linter.unusedSimpArgs false
namespace Go.Proofs.Ytlbonhloeefnmaa
open Go.RowKit

theorem full8 {n : Int} (h0 : 0 ≤ n) (h1 : n ≤ 8) : 0 ≤ fullI n ∧ fullI n ≤ 255 := by
  have : n = 0 ∨ n = 1 ∨ n = 2 ∨ n = 3 ∨ n = 4 ∨ n = 5 ∨ n = 6 ∨ n = 7 ∨ n = 8 := by omega
  rcases this with rfl | rfl | rfl | rfl | rfl | rfl | rfl | rfl | rfl <;> decide
theorem sub_step_all : ((List.range 256).all fun (m : Nat) => (List.range 256).all fun (s : Nat) => !((s &&& m) == s) || ((s == m) || (decide ((s : Int) < andI ((s : Int) - (m : Int)) (m : Int)) && (decide (andI ((s : Int) - (m : Int)) (m : Int) ≤ (m : Int)) && ((andI ((s : Int) - (m : Int)) (m : Int)).toNat &&& m == (andI ((s : Int) - (m : Int)) (m : Int)).toNat))))) = true := by decide +kernel
theorem andI_sub_iff {m s : Nat} (hm : m < 256) (hs : s < 256) : andI (s : Int) (m : Int) = (s : Int) ↔ (s &&& m) = s := by
  rw [andI_nat (by omega) (by omega) (by omega) (by omega), Int.toNat_natCast, Int.toNat_natCast]
  exact ⟨fun h => by omega, fun h => by rw [h]⟩
theorem subNext {m s : Int} (h0 : 0 ≤ m) (h1 : m ≤ 255) (h2 : 0 ≤ s) (h3 : s ≤ m) (h4 : andI s m = s) (h5 : ¬ s = m) : s < andI (s - m) m ∧ andI (s - m) m ≤ m ∧ andI (andI (s - m) m) m = andI (s - m) m := by
  obtain ⟨M, rfl⟩ : ∃ M : Nat, m = (M : Int) := ⟨m.toNat, by omega⟩
  obtain ⟨S, rfl⟩ : ∃ S : Nat, s = (S : Int) := ⟨s.toNat, by omega⟩
  have h := List.all_eq_true.1 (List.all_eq_true.1 sub_step_all M (List.mem_range.2 (by omega))) S (List.mem_range.2 (by omega))
  have e := (andI_sub_iff (by omega) (by omega)).1 h4
  simp only [e, beq_self_eq_true, Bool.not_true, Bool.false_or, Bool.or_eq_true, Bool.and_eq_true, decide_eq_true_eq, beq_iff_eq] at h
  rcases h with h | ⟨a, b, c⟩
  · exact absurd (by omega) h5
  · refine ⟨a, b, ?_⟩
    generalize hn : andI ((S : Int) - (M : Int)) (M : Int) = n at a b c ⊢
    obtain ⟨N, rfl⟩ : ∃ N : Nat, n = (N : Int) := ⟨n.toNat, by omega⟩
    rw [Int.toNat_natCast] at c
    exact (andI_sub_iff (by omega) (by omega)).2 c
theorem subLe {mask : Int} (h0 : 0 ≤ mask) (h1 : mask ≤ 255) : 0 ≤ mask := h0
theorem subZero {mask : Int} (h0 : 0 ≤ mask) (h1 : mask ≤ 255) : andI 0 mask = 0 := by
  have := andI_le (m := 0) (k := mask) (by omega) (by omega) h0 (by omega); omega

def F_subMasks_L1b (mask : Int) (rec : (List Int) → Int → (List Int) × Int) (out3 : List Int) (sub4 : Int) : (List Int) × Int :=
  bif (!decide (sub4 = mask)) then (rec (out3 ++ ([andI (sub4 - mask) mask])) (andI (sub4 - mask) mask)) else (out3, sub4)
def F_subMasks_L1 (mask : Int) : Nat → (List Int) → Int → (List Int) × Int
  | 0, out3, sub4 => (out3, sub4)
  | r + 1, out3, sub4 => F_subMasks_L1b mask (F_subMasks_L1 mask r) out3 sub4
def F_subMasks (mask : Int) : List Int :=
  (F_subMasks_L1 mask (Int.toNat (mask - 0) + 1) ([0]) 0).1
theorem cf_subMasks (args : Array Value) (w : World) : (callFunc 177 args).run Try.prog w = .ok (.enter 177 args) w := by kernel_rfl
set_option maxRecDepth 100000 in
theorem c_subMasks (mask : Int) (w : World) (h0 : 0 ≤ mask) (h1 : mask ≤ 255) :
    Calls Try.prog 177 #[.int .i64 mask] w (Ret fun v w' => ∃ b1 : Option Addr, ∃ c1 : Nat, v = .slice b1 (F_subMasks mask).length c1 ∧ OwnS w' w.heap.size 2 1 b1 (F_subMasks mask).length c1 (F_subMasks mask) ∧ Ext w w') := by
  have hb0 := subLe (mask := mask) (by omega) (by omega)
  have hS := St.nil w
  refine enter (args := [.int .i64 mask]) Try.func177 rfl rfl ?_
  rw [Try.ntmps177]; intro a hE
  have hE := hE.sub (L' := [(0, .int .i64 mask)]) ⟨rfl, trivial⟩
  refine c_seq ?_
  refine c_reg ?_
  refine q_step (v := .slice none 0 0) hE (y_assign rfl) rfl rfl rfl ?_; intro a1 hE2; clear hE
  refine c_nil ?_
  have hE3 := hE2.sub (L' := [(0, .int .i64 mask)]) ⟨rfl, trivial⟩; clear hE2
  refine p_tn ?_
  refine c_seq ?_
  refine c_reg ?_
  refine l_step hE3 rfl (l_lit (e := 2) (s := 1) (xs := [0]) (vs := [.int .i64 0]) hS hE3 rfl (fun _ => by kernel_rfl) rfl rfl rfl ?_)
  intro b4 w5 hS8 he9 a6 hE7; clear hS hE3
  refine q_step (v := .slice (some ⟨b4, 0, none⟩) 1 1) hE7 (y_assign rfl) rfl rfl rfl ?_; intro a10 hE11; clear hE7
  refine c_nil ?_
  have hE12 := hE11.sub (L' := [(0, .int .i64 mask), (3, .slice (some ⟨b4, 0, none⟩) 1 1)]) ⟨rfl, rfl, trivial⟩; clear hE11
  refine p_tn ?_
  refine c_seq ?_
  refine c_seq ?_
  refine c_reg ?_
  refine q_step (v := .int .i64 0) hE12 (y_assign rfl) rfl rfl rfl ?_; intro a13 hE14; clear hE12
  refine c_nil ?_
  have hE15 := hE14.sub (L' := [(0, .int .i64 mask), (3, .slice (some ⟨b4, 0, none⟩) 1 1), (4, .int .i64 0)]) ⟨rfl, rfl, rfl, trivial⟩; clear hE14
  refine p_tn ?_
  refine c_cut1 (fun a' w' => ∃ out3A_16 : Option Addr, ∃ out3C_16 : Nat, (0 ≤ ((F_subMasks_L1 mask (Int.toNat (mask - 0) + 1) ([0]) 0).2) ∧ ((F_subMasks_L1 mask (Int.toNat (mask - 0) + 1) ([0]) 0).2) ≤ mask) ∧ (andI ((F_subMasks_L1 mask (Int.toNat (mask - 0) + 1) ([0]) 0).2) mask = ((F_subMasks_L1 mask (Int.toNat (mask - 0) + 1) ([0]) 0).2)) ∧ ((((F_subMasks_L1 mask (Int.toNat (mask - 0) + 1) ([0]) 0).1).length : Int) ≤ ((F_subMasks_L1 mask (Int.toNat (mask - 0) + 1) ([0]) 0).2) + 1) ∧ E a' 19 [(0, .int .i64 mask), (3, .slice out3A_16 (((F_subMasks_L1 mask (Int.toNat (mask - 0) + 1) ([0]) 0).1).length) out3C_16), (4, .int .i64 ((F_subMasks_L1 mask (Int.toNat (mask - 0) + 1) ([0]) 0).2))] ∧ St w w' [.own 2 1 out3A_16 (((F_subMasks_L1 mask (Int.toNat (mask - 0) + 1) ([0]) 0).1).length) out3C_16 ((F_subMasks_L1 mask (Int.toNat (mask - 0) + 1) ([0]) 0).1)]) ?_ ?_
  ·
   refine wp_block ?_
   refine c_loop (fun r a' w' => ∃ out3 : List Int, ∃ sub4 : Int, ∃ out3A : Option Addr, ∃ out3C : Nat, F_subMasks_L1 mask r out3 sub4 = F_subMasks_L1 mask (Int.toNat (mask - 0) + 1) ([0]) 0 ∧ Int.toNat (mask - sub4) < r ∧ (0 ≤ sub4 ∧ sub4 ≤ mask) ∧ (andI sub4 mask = sub4) ∧ ((out3.length : Int) ≤ sub4 + 1) ∧ E a' 19 [(0, .int .i64 mask), (3, .slice out3A ((out3).length) out3C), (4, .int .i64 sub4)] ∧ St w w' [.own 2 1 out3A ((out3).length) out3C out3]) (r := (Int.toNat (mask - 0) + 1)) ?_ ?_
   · exact ⟨[0], 0, some ⟨b4, 0, none⟩, 1, rfl, Nat.lt_succ_self _, (by first | omega | (simp only [sS_len, sL_len]; omega) | (simp only [List.length_replicate, sI_len]; omega) | (simp only [List.length_append, List.length_cons, List.length_nil, sI_len, cond_true, cond_false]; omega) | (simp only [List.length_append, List.length_cons, List.length_nil, sI_len, cond_eq_ite, apply_ite List.length]; split <;> simp only [List.length_append, List.length_cons, List.length_nil, sI_len] <;> omega) | grind), (subZero h0 (by omega)), (by first | omega | (simp only [sS_len, sL_len]; omega) | (simp only [List.length_replicate, sI_len]; omega) | (simp only [List.length_append, List.length_cons, List.length_nil, sI_len, cond_true, cond_false]; omega) | (simp only [List.length_append, List.length_cons, List.length_nil, sI_len, cond_eq_ite, apply_ite List.length]; split <;> simp only [List.length_append, List.length_cons, List.length_nil, sI_len] <;> omega) | grind), (hE15.sub (L' := [(0, .int .i64 mask), (3, .slice (some ⟨b4, 0, none⟩) 1 1), (4, .int .i64 0)]) ⟨rfl, rfl, rfl, trivial⟩), (St.pick (Γ' := [.own 2 1 (some ⟨b4, 0, none⟩) 1 1 ([0])]) hS8 [0] (by decide) rfl)⟩
   ·
    clear hE15 hS8
    rintro r26 a17 w18 ⟨out3, sub4, out3A, out3C, hT21, hr22, hi23, hi24, hi25, hE19, hS20⟩
    obtain ⟨r26, rfl⟩ : ∃ r', r26 = r' + 1 := ⟨r26 - 1, by omega⟩
    refine c_seq ?_
    refine c_seq ?_
    refine c_reg ?_
    refine q_step (v := .int .i64 sub4) hE19 (y_move rfl) rfl rfl rfl ?_; intro a27 hE28; clear hE19
    refine q_step (v := .int .i64 mask) hE28 (y_move rfl) rfl rfl rfl ?_; intro a29 hE30; clear hE28
    refine q_step (v := .bool (!decide (sub4 = mask))) hE30 (y_neq rfl rfl) rfl rfl rfl ?_; intro a31 hE32; clear hE30
    refine c_nil ?_
    have hE33 := hE32.sub (L' := [(0, .int .i64 mask), (3, .slice out3A ((out3).length) out3C), (4, .int .i64 sub4), (8, .bool (!decide (sub4 = mask)))]) ⟨rfl, rfl, rfl, rfl, trivial⟩; clear hE32
    refine p_tn ?_
    refine c_cond hE33 rfl (fun ht34 => ?_) (fun ht34 => ?_)
    ·
     have ht35 := bn_t ht34
     have hp36 := of_decide_eq_false ht35
     have hE37 := hE33; rw [ht34] at hE37; clear hE33
     have hnx := subNext (m := mask) (s := sub4) (by omega) (by omega) (by omega) (by omega) (by assumption) (by omega)
     refine wp_skip ?_
     refine p_tn ?_
     refine wp_block ?_
     refine c_seq ?_
     refine c_reg ?_
     refine q_step (v := .int .i64 sub4) hE37 (y_move rfl) rfl rfl rfl ?_; intro a38 hE39; clear hE37
     refine q_step (v := .int .i64 mask) hE39 (y_move rfl) rfl rfl rfl ?_; intro a40 hE41; clear hE39
     refine q_step (v := .int .i64 (sub4 - mask)) hE41 (y_sub rfl rfl ⟨(by omega), (by omega)⟩) rfl rfl rfl ?_; intro a42 hE43; clear hE41
     refine q_step (v := .int .i64 mask) hE43 (y_move rfl) rfl rfl rfl ?_; intro a44 hE45; clear hE43
     refine q_step (v := .int .i64 (andI (sub4 - mask) mask)) hE45 (y_and rfl rfl) rfl rfl rfl ?_; intro a46 hE47; clear hE45
     refine q_step (v := .int .i64 (andI (sub4 - mask) mask)) hE47 (y_assign rfl) rfl rfl rfl ?_; intro a48 hE49; clear hE47
     refine c_nil ?_
     have hE50 := hE49.sub (L' := [(0, .int .i64 mask), (3, .slice out3A ((out3).length) out3C), (4, .int .i64 (andI (sub4 - mask) mask))]) ⟨rfl, rfl, rfl, trivial⟩; clear hE49
     refine p_tn ?_
     refine c_reg ?_
     refine q_step (v := .slice out3A ((out3).length) out3C) hE50 (y_move rfl) rfl rfl rfl ?_; intro a51 hE52; clear hE50
     refine q_step (v := .int .i64 (andI (sub4 - mask) mask)) hE52 (y_move rfl) rfl rfl rfl ?_; intro a53 hE54; clear hE52
     refine l_step hE54 rfl (l_lit (e := 2) (s := 1) (xs := [andI (sub4 - mask) mask]) (vs := [.int .i64 (andI (sub4 - mask) mask)]) hS20 hE54 rfl (fun _ => by kernel_rfl) rfl rfl rfl ?_)
     intro b55 w56 hS59 he60 a57 hE58; clear hS20 hE54
     obtain ⟨_, hi1, hi2, hi3, hi4⟩ := info_parts (show (Try.prog.info? 2).map (fun i => (i.zero, i.size, i.bytes)) = some (some (.int .i64 0), 1, 8) by kernel_rfl)
     refine l_step hE58 rfl (l_append (k := 1) (n' := (out3 ++ ([andI (sub4 - mask) mask])).length) hS59 hE58 (by kernel_rfl) hi1 hi2 hi3 rfl (by decide) (by rw [hi4]; decide) rfl rfl rfl (St.rdO (i := 0) hS59 rfl) (by first | omega | (simp only [List.length_append, List.length_cons, List.length_nil]; omega)) (by have h1 := (St.rdO (i := 1) hS59 rfl).len1; have h2 := (St.rdO (i := 0) hS59 rfl).len1; rw [List.length_append, h1, h2]) rfl ?_)
     intro b61 c67 w62 hS65 a63 hE64; clear hS59 hE58 hi1 hi2 hi3 hi4
     refine q_step (v := .slice b61 ((out3 ++ ([andI (sub4 - mask) mask])).length) c67) hE64 (y_assign rfl) rfl rfl rfl ?_; intro a68 hE69; clear hE64
     refine c_nil ?_
     have hE70 := hE69.sub (L' := [(0, .int .i64 mask), (3, .slice b61 ((out3 ++ ([andI (sub4 - mask) mask])).length) c67), (4, .int .i64 (andI (sub4 - mask) mask))]) ⟨rfl, rfl, rfl, trivial⟩; clear hE69
     refine p_bn ?_
     refine p_tn ⟨r26, Nat.lt_succ_self _, out3 ++ ([andI (sub4 - mask) mask]), andI (sub4 - mask) mask, b61, c67, (hT21.symm.trans (show F_subMasks_L1b mask (F_subMasks_L1 mask r26) out3 sub4 = F_subMasks_L1 mask r26 (out3 ++ ([andI (sub4 - mask) mask])) (andI (sub4 - mask) mask) by unfold F_subMasks_L1b; rw [ht34]; first | done | rfl)).symm, (by omega), (by first | omega | (simp only [sS_len, sL_len]; omega) | (simp only [List.length_replicate, sI_len]; omega) | (simp only [List.length_append, List.length_cons, List.length_nil, sI_len, cond_true, cond_false]; omega) | (simp only [List.length_append, List.length_cons, List.length_nil, sI_len, cond_eq_ite, apply_ite List.length]; split <;> simp only [List.length_append, List.length_cons, List.length_nil, sI_len] <;> omega) | grind), hnx.2.2, (by first | omega | (simp only [sS_len, sL_len]; omega) | (simp only [List.length_replicate, sI_len]; omega) | (simp only [List.length_append, List.length_cons, List.length_nil, sI_len, cond_true, cond_false]; omega) | (simp only [List.length_append, List.length_cons, List.length_nil, sI_len, cond_eq_ite, apply_ite List.length]; split <;> simp only [List.length_append, List.length_cons, List.length_nil, sI_len] <;> omega) | grind), (hE70.sub (L' := [(0, .int .i64 mask), (3, .slice b61 ((out3 ++ ([andI (sub4 - mask) mask])).length) c67), (4, .int .i64 (andI (sub4 - mask) mask))]) ⟨rfl, rfl, rfl, trivial⟩), (St.pick (Γ' := [.own 2 1 b61 ((out3 ++ ([andI (sub4 - mask) mask])).length) c67 (out3 ++ ([andI (sub4 - mask) mask]))]) hS65 [1] (by decide) rfl)⟩
    ·
     have ht71 := bn_f ht34
     have hp72 := of_decide_eq_true ht71
     have hE73 := hE33; rw [ht34] at hE73; clear hE33
     refine wp_exit ?_
     refine p_te ?_
     have hX74 : F_subMasks_L1 mask (Int.toNat (mask - 0) + 1) ([0]) 0 = (out3, sub4) := hT21.symm.trans (show F_subMasks_L1b mask (F_subMasks_L1 mask r26) out3 sub4 = (out3, sub4) by unfold F_subMasks_L1b; rw [ht34]; first | done | rfl)
     refine p_te (p_be (p_tn ?_))
     exact ⟨out3A, out3C, (by rw [hX74]; exact (show 0 ≤ sub4 ∧ sub4 ≤ mask from (by first | omega | (simp only [sS_len, sL_len]; omega) | (simp only [List.length_replicate, sI_len]; omega) | (simp only [List.length_append, List.length_cons, List.length_nil, sI_len, cond_true, cond_false]; omega) | (simp only [List.length_append, List.length_cons, List.length_nil, sI_len, cond_eq_ite, apply_ite List.length]; split <;> simp only [List.length_append, List.length_cons, List.length_nil, sI_len] <;> omega) | grind))), (by rw [hX74]; exact (show andI sub4 mask = sub4 from (by first | omega | (simp only [sS_len, sL_len]; omega) | (simp only [List.length_replicate, sI_len]; omega) | (simp only [List.length_append, List.length_cons, List.length_nil, sI_len, cond_true, cond_false]; omega) | (simp only [List.length_append, List.length_cons, List.length_nil, sI_len, cond_eq_ite, apply_ite List.length]; split <;> simp only [List.length_append, List.length_cons, List.length_nil, sI_len] <;> omega) | grind))), (by rw [hX74]; exact (show (out3.length : Int) ≤ sub4 + 1 from (by first | omega | (simp only [sS_len, sL_len]; omega) | (simp only [List.length_replicate, sI_len]; omega) | (simp only [List.length_append, List.length_cons, List.length_nil, sI_len, cond_true, cond_false]; omega) | (simp only [List.length_append, List.length_cons, List.length_nil, sI_len, cond_eq_ite, apply_ite List.length]; split <;> simp only [List.length_append, List.length_cons, List.length_nil, sI_len] <;> omega) | grind))), (by rw [hX74]; exact (hE73.sub (L' := [(0, .int .i64 mask), (3, .slice out3A ((out3).length) out3C), (4, .int .i64 sub4)]) ⟨rfl, rfl, rfl, trivial⟩)), (by rw [hX74]; exact (St.pick (Γ' := [.own 2 1 out3A ((out3).length) out3C out3]) hS20 [0] (by decide) rfl))⟩
  ·
   rintro a75 w76 ⟨out3A_16, out3C_16, hi80, hi81, hi82, hE77, hS78⟩; clear hE15 hS8
   refine p_tn ?_
   refine c_seq ?_
   refine c_reg ?_
   refine q_step (v := .slice out3A_16 (((F_subMasks_L1 mask (Int.toNat (mask - 0) + 1) ([0]) 0).1).length) out3C_16) hE77 (y_move rfl) rfl rfl rfl ?_; intro a83 hE84; clear hE77
   refine q_step (v := .slice out3A_16 (((F_subMasks_L1 mask (Int.toNat (mask - 0) + 1) ([0]) 0).1).length) out3C_16) hE84 (y_assign rfl) rfl rfl rfl ?_; intro a85 hE86; clear hE84
   refine c_nil ?_
   have hE87 := hE86.sub (L' := [(2, .slice out3A_16 (((F_subMasks_L1 mask (Int.toNat (mask - 0) + 1) ([0]) 0).1).length) out3C_16)]) ⟨rfl, trivial⟩; clear hE86
   refine p_tn ?_
   refine wp_ret ?_
   have hF : F_subMasks mask = (F_subMasks_L1 mask (Int.toNat (mask - 0) + 1) ([0]) 0).1 := by unfold F_subMasks; rfl
   refine c_ret1 hE87 rfl rfl ?_
   exact ⟨out3A_16, out3C_16, (by rw [hF]; first | done | (dsimp only; done) | rfl), (by rw [hF]; (try dsimp only); exact hS78.ok 0 _ rfl), hS78.ext⟩

theorem subs_all : ((List.range 256).all fun (m : Nat) => F_subMasks (m : Int) == ((List.range 256).filter fun (s : Nat) => (s &&& m) == s).map fun (s : Nat) => (s : Int)) = true := by decide +kernel
theorem mem_subs {m : Int} (h0 : 0 ≤ m) (h1 : m ≤ 255) (x : Int) : x ∈ F_subMasks m ↔ 0 ≤ x ∧ x ≤ m ∧ anI x m = 0 := by
  obtain ⟨M, rfl⟩ : ∃ M : Nat, m = (M : Int) := ⟨m.toNat, by omega⟩
  have h := List.all_eq_true.1 subs_all M (List.mem_range.2 (by omega))
  rw [eq_of_beq h, List.mem_map]
  have an0 : ∀ S : Nat, S < 256 → (anI (S : Int) (M : Int) = 0 ↔ (S &&& M) = S) := fun S hS => by
    obtain ⟨a1, a2, a3⟩ := anI_testBit (m := (S : Int)) (k := (M : Int)) (by omega) (by omega) (by omega) (by omega)
    constructor
    · intro hz
      refine Nat.eq_of_testBit_eq fun i => ?_
      have := a3 i
      rw [hz] at this
      simp at this
      rw [Nat.testBit_and]
      cases hs : S.testBit i
      · rfl
      · rw [hs] at this; simpa using this
    · intro hz
      have : (anI (S : Int) (M : Int)).toNat = 0 := by
        refine Nat.eq_of_testBit_eq fun i => ?_
        rw [a3 i, Nat.zero_testBit, Int.toNat_natCast, Int.toNat_natCast]
        have hb : (S &&& M).testBit i = S.testBit i := by rw [hz]
        rw [Nat.testBit_and] at hb
        cases hs : S.testBit i
        · simp
        · rw [hs] at hb; simp at hb; simp [hb]
      omega
  constructor
  · rintro ⟨S, hS, rfl⟩
    rw [List.mem_filter, List.mem_range] at hS
    have e := eq_of_beq hS.2
    have : S ≤ M := by rw [← e]; exact Nat.and_le_right
    exact ⟨by omega, by omega, (an0 S hS.1).2 e⟩
  · rintro ⟨a, b, c⟩
    refine ⟨x.toNat, ?_, by omega⟩
    rw [List.mem_filter, List.mem_range]
    have hx : ((x.toNat : Nat) : Int) = x := by omega
    refine ⟨by omega, ?_⟩
    rw [beq_iff_eq]
    exact (an0 x.toNat (by omega)).1 (by rw [hx]; exact c)
theorem subs_len {m : Int} (h0 : 0 ≤ m) (h1 : m ≤ 255) : (F_subMasks m).length ≤ 256 := by
  obtain ⟨M, rfl⟩ : ∃ M : Nat, m = (M : Int) := ⟨m.toNat, by omega⟩
  have h := List.all_eq_true.1 subs_all M (List.mem_range.2 (by omega))
  rw [eq_of_beq h, List.length_map]
  exact Nat.le_trans (List.length_filter_le _ _) (by simp)


end Go.Proofs.Ytlbonhloeefnmaa
