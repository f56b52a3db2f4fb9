/- GHS2: models and contracts, printed by wip/gen/gen.py -/
import Derived.Test.YtkilkfhjfobcdaaKCHGHS
set_option linter.unusedVariables false
set_option linter.unusedSimpArgs false
namespace Go.Proofs.Ytkilkfhjfobcdaa
open Go.RowKit
def F_l18Chain_L1b (np : Int) (rec : (List Int) → Int → (List Int) × Int) (order3 : List Int) (x4 : Int) : (List Int) × Int :=
  bif (decide (x4 < np)) then (rec (order3 ++ ([anI (fullI np) (fullI x4)])) (x4 + 1)) else (order3, x4)
def F_l18Chain_L1 (np : Int) : Nat → (List Int) → Int → (List Int) × Int
  | 0, order3, x4 => (order3, x4)
  | r + 1, order3, x4 => F_l18Chain_L1b np (F_l18Chain_L1 np r) order3 x4
def F_l18Chain (np : Int) : List (List Int) × List (List Int) × List (List Int) × Int × Int :=
  (((F_l18Build ((F_l18Chain_L1 np (Int.toNat (np - 0) + 1) ([]) 0).1)).1).1, ((F_l18Build ((F_l18Chain_L1 np (Int.toNat (np - 0) + 1) ([]) 0).1)).1).2.1, ((F_l18Build ((F_l18Chain_L1 np (Int.toNat (np - 0) + 1) ([]) 0).1)).1).2.2.1, ((F_l18Build ((F_l18Chain_L1 np (Int.toNat (np - 0) + 1) ([]) 0).1)).1).2.2.2.1, ((F_l18Build ((F_l18Chain_L1 np (Int.toNat (np - 0) + 1) ([]) 0).1)).1).2.2.2.2)
theorem cf_l18Chain (args : Array Value) (w : World) : (callFunc 119 args).run Try.prog w = .ok (.enter 119 args) w := by kernel_rfl
theorem chain_s {np : Int} (h0 : 1 ≤ np) (h1 : np ≤ 30) : (F_l18Chain_L1 np (Int.toNat (np - 0) + 1) ([]) 0).1 = chainL np.toNat := by
  rw [mapLoop0 np (by omega) (fun t => anI (fullI np) (fullI t)) (F_l18Chain_L1 np) (fun r o t => rfl)]
  unfold chainL
  rw [show ((np.toNat : Nat) : Int) = np by omega]
theorem chain_sl {np : Int} (h0 : 1 ≤ np) (h1 : np ≤ 30) : (F_l18Chain_L1 np (Int.toNat (np - 0) + 1) ([]) 0).1.length ≤ 30 := by rw [chain_s h0 h1, chainL_len]; omega
set_option maxRecDepth 100000 in
theorem c_l18Chain (np : Int) (w : World) (h0 : 1 ≤ np) (h1 : np ≤ 30) :
    Calls Try.prog 119 #[.int .i64 np] w (Ret fun v w' => ∃ b1 : Option Addr, ∃ c1 : Nat, ∃ h1 : List Hd, ∃ b2 : Option Addr, ∃ c2 : Nat, ∃ h2 : List Hd, ∃ b3 : Option Addr, ∃ c3 : Nat, ∃ h3 : List Hd, v = .agg #[.slice b1 ((F_l18Chain np).1).length c1, .slice b2 ((F_l18Chain np).2.1).length c2, .slice b3 ((F_l18Chain np).2.2.1).length c3, .int .i64 ((F_l18Chain np).2.2.2.1), .int .i64 ((F_l18Chain np).2.2.2.2)] ∧ St w w' (.nest 22 1 (some 2) b1 c1 h1 ((F_l18Chain np).1) :: .nest 22 1 (some 2) b2 c2 h2 ((F_l18Chain np).2.1) :: .nest 22 1 (some 2) b3 c3 h3 ((F_l18Chain np).2.2.1) :: [])) := by
  have hS := St.nil w
  refine enter (args := [.int .i64 np]) Try.func119 rfl rfl ?_
  rw [Try.ntmps119]; intro a hE
  have hE := hE.sub (L' := [(0, .int .i64 np)]) ⟨rfl, trivial⟩
  refine c_seq ?_
  refine c_reg ?_
  refine l_step hE rfl (l_alloc (z := .agg #[.slice none 0 0, .slice none 0 0, .slice none 0 0, .int .i64 0, .int .i64 0]) (cs := #[.slice none 0 0, .slice none 0 0, .slice none 0 0, .int .i64 0, .int .i64 0]) hS hE (fun _ => by kernel_rfl) rfl rfl ?_)
  intro b1 w2 hS5 he6 a3 hE4; clear hS hE
  refine c_nil ?_
  have hE7 := hE4.sub (L' := [(0, .int .i64 np), (2, .pointer (some ⟨b1, 0, none⟩))]) ⟨rfl, rfl, trivial⟩; clear hE4
  refine p_tn ?_
  refine c_seq ?_
  refine c_reg ?_
  refine l_step hE7 rfl (l_lit (e := 2) (s := 1) (xs := []) (vs := []) hS5 hE7 rfl (fun _ => by kernel_rfl) rfl rfl rfl ?_)
  intro b8 w9 hS12 he13 a10 hE11; clear hS5 hE7
  refine q_step (v := .slice (some ⟨b8, 0, none⟩) 0 0) hE11 (y_assign rfl) rfl rfl rfl ?_; intro a14 hE15; clear hE11
  refine c_nil ?_
  have hE16 := hE15.sub (L' := [(0, .int .i64 np), (2, .pointer (some ⟨b1, 0, none⟩)), (3, .slice (some ⟨b8, 0, none⟩) 0 0)]) ⟨rfl, rfl, rfl, trivial⟩; clear hE15
  refine p_tn ?_
  refine c_seq ?_
  refine c_seq ?_
  refine c_reg ?_
  refine q_step (v := .int .i64 0) hE16 (y_assign rfl) rfl rfl rfl ?_; intro a17 hE18; clear hE16
  refine c_nil ?_
  have hE19 := hE18.sub (L' := [(0, .int .i64 np), (2, .pointer (some ⟨b1, 0, none⟩)), (3, .slice (some ⟨b8, 0, none⟩) 0 0), (4, .int .i64 0)]) ⟨rfl, rfl, rfl, rfl, trivial⟩; clear hE18
  refine p_tn ?_
  refine c_cut1 (fun a' w' => ∃ order3A_20 : Option Addr, ∃ order3C_20 : Nat, (0 ≤ ((F_l18Chain_L1 np (Int.toNat (np - 0) + 1) ([]) 0).2)) ∧ ((((F_l18Chain_L1 np (Int.toNat (np - 0) + 1) ([]) 0).1).length : Int) = ((F_l18Chain_L1 np (Int.toNat (np - 0) + 1) ([]) 0).2)) ∧ ((((F_l18Chain_L1 np (Int.toNat (np - 0) + 1) ([]) 0).1).length : Int) ≤ ((F_l18Chain_L1 np (Int.toNat (np - 0) + 1) ([]) 0).2)) ∧ E a' 27 [(0, .int .i64 np), (2, .pointer (some ⟨b1, 0, none⟩)), (3, .slice order3A_20 (((F_l18Chain_L1 np (Int.toNat (np - 0) + 1) ([]) 0).1).length) order3C_20), (4, .int .i64 ((F_l18Chain_L1 np (Int.toNat (np - 0) + 1) ([]) 0).2))] ∧ St w w' [.own 2 1 order3A_20 (((F_l18Chain_L1 np (Int.toNat (np - 0) + 1) ([]) 0).1).length) order3C_20 ((F_l18Chain_L1 np (Int.toNat (np - 0) + 1) ([]) 0).1), .blk b1 #[.slice none 0 0, .slice none 0 0, .slice none 0 0, .int .i64 0, .int .i64 0] 74]) ?_ ?_
  ·
   refine wp_block ?_
   refine c_loop (fun r a' w' => ∃ order3 : List Int, ∃ x4 : Int, ∃ order3A : Option Addr, ∃ order3C : Nat, F_l18Chain_L1 np r order3 x4 = F_l18Chain_L1 np (Int.toNat (np - 0) + 1) ([]) 0 ∧ Int.toNat (np - x4) < r ∧ (0 ≤ x4) ∧ ((order3.length : Int) = x4) ∧ ((order3.length : Int) ≤ x4) ∧ E a' 27 [(0, .int .i64 np), (2, .pointer (some ⟨b1, 0, none⟩)), (3, .slice order3A ((order3).length) order3C), (4, .int .i64 x4)] ∧ St w w' [.own 2 1 order3A ((order3).length) order3C order3, .blk b1 #[.slice none 0 0, .slice none 0 0, .slice none 0 0, .int .i64 0, .int .i64 0] 74]) (r := (Int.toNat (np - 0) + 1)) ?_ ?_
   · exact ⟨[], 0, some ⟨b8, 0, none⟩, 0, rfl, Nat.lt_succ_self _, (by first | omega | (simp only [sS_len, sL_len]; omega) | (simp only [List.length_replicate, sI_len]; omega) | (simp only [List.length_append, List.length_cons, List.length_nil, sI_len, cond_true, cond_false]; omega) | (simp only [List.length_append, List.length_cons, List.length_nil, sI_len, cond_eq_ite, apply_ite List.length]; split <;> simp only [List.length_append, List.length_cons, List.length_nil, sI_len] <;> omega) | grind), (by simp), (by first | omega | (simp only [sS_len, sL_len]; omega) | (simp only [List.length_replicate, sI_len]; omega) | (simp only [List.length_append, List.length_cons, List.length_nil, sI_len, cond_true, cond_false]; omega) | (simp only [List.length_append, List.length_cons, List.length_nil, sI_len, cond_eq_ite, apply_ite List.length]; split <;> simp only [List.length_append, List.length_cons, List.length_nil, sI_len] <;> omega) | grind), (hE19.sub (L' := [(0, .int .i64 np), (2, .pointer (some ⟨b1, 0, none⟩)), (3, .slice (some ⟨b8, 0, none⟩) 0 0), (4, .int .i64 0)]) ⟨rfl, rfl, rfl, rfl, trivial⟩), (St.pick (Γ' := [.own 2 1 (some ⟨b8, 0, none⟩) 0 0 ([]), .blk b1 #[.slice none 0 0, .slice none 0 0, .slice none 0 0, .int .i64 0, .int .i64 0] 74]) hS12 [0, 1] (by decide) rfl)⟩
   ·
    clear hE19 hS12
    rintro r30 a21 w22 ⟨order3, x4, order3A, order3C, hT25, hr26, hi27, hi28, hi29, hE23, hS24⟩
    obtain ⟨r30, rfl⟩ : ∃ r', r30 = r' + 1 := ⟨r30 - 1, by omega⟩
    refine c_seq ?_
    refine c_seq ?_
    refine c_reg ?_
    refine q_step (v := .int .i64 x4) hE23 (y_move rfl) rfl rfl rfl ?_; intro a31 hE32; clear hE23
    refine q_step (v := .int .i64 np) hE32 (y_move rfl) rfl rfl rfl ?_; intro a33 hE34; clear hE32
    refine q_step (v := .bool (decide (x4 < np))) hE34 (y_lss rfl rfl) rfl rfl rfl ?_; intro a35 hE36; clear hE34
    refine c_nil ?_
    have hE37 := hE36.sub (L' := [(0, .int .i64 np), (2, .pointer (some ⟨b1, 0, none⟩)), (3, .slice order3A ((order3).length) order3C), (4, .int .i64 x4), (10, .bool (decide (x4 < np)))]) ⟨rfl, rfl, rfl, rfl, rfl, trivial⟩; clear hE36
    refine p_tn ?_
    refine c_cond hE37 rfl (fun ht38 => ?_) (fun ht38 => ?_)
    ·
     have hp39 := of_decide_eq_true ht38
     have hE40 := hE37; rw [ht38] at hE40; clear hE37
     refine wp_skip ?_
     refine p_tn ?_
     refine c_seq ?_
     refine wp_block ?_
     refine c_reg ?_
     refine q_step (v := .slice order3A ((order3).length) order3C) hE40 (y_move rfl) rfl rfl rfl ?_; intro a41 hE42; clear hE40
     refine q_step (v := .int .i64 np) hE42 (y_move rfl) rfl rfl rfl ?_; intro a43 hE44; clear hE42
     refine l_step hE44 rfl (l_call (f := 184) (argv := [.int .i64 np]) hE44 (fun _ => cf_l01Full _ _) rfl rfl (d_l01Full np w22 (by omega) (by omega)) ?_)
     rintro _ _ ⟨rfl, rfl⟩ a47 hE48; clear hE44
     refine q_step (v := .int .i64 x4) hE48 (y_move rfl) rfl rfl rfl ?_; intro a51 hE52; clear hE48
     refine l_step hE52 rfl (l_call (f := 184) (argv := [.int .i64 x4]) hE52 (fun _ => cf_l01Full _ _) rfl rfl (d_l01Full x4 w22 (by omega) (by omega)) ?_)
     rintro _ _ ⟨rfl, rfl⟩ a55 hE56; clear hE52
     refine q_step (v := .int .i64 (anI (fullI np) (fullI x4))) hE56 (y_andNot rfl rfl) rfl rfl rfl ?_; intro a59 hE60; clear hE56
     refine l_step hE60 rfl (l_lit (e := 2) (s := 1) (xs := [anI (fullI np) (fullI x4)]) (vs := [.int .i64 (anI (fullI np) (fullI x4))]) hS24 hE60 rfl (fun _ => by kernel_rfl) rfl rfl rfl ?_)
     intro b61 w62 hS65 he66 a63 hE64; clear hS24 hE60
     obtain ⟨_, hi1, hi2, hi3, hi4⟩ := info_parts (show (Try.prog.info? 2).map (fun i => (i.zero, i.size, i.bytes)) = some (some (.int .i64 0), 1, 8) by kernel_rfl)
     refine l_step hE64 rfl (l_append (k := 1) (n' := (order3 ++ ([anI (fullI np) (fullI x4)])).length) hS65 hE64 (by kernel_rfl) hi1 hi2 hi3 rfl (by decide) (by rw [hi4]; decide) rfl rfl rfl (St.rdO (i := 0) hS65 rfl) (by first | omega | (simp only [List.length_append, List.length_cons, List.length_nil]; omega)) (by have h1 := (St.rdO (i := 1) hS65 rfl).len1; have h2 := (St.rdO (i := 0) hS65 rfl).len1; first | rw [List.length_append, h1, h2] | (simp only [List.length_append])) rfl ?_)
     intro b67 c73 w68 hS71 a69 hE70; clear hS65 hE64 hi1 hi2 hi3 hi4
     refine q_step (v := .slice b67 ((order3 ++ ([anI (fullI np) (fullI x4)])).length) c73) hE70 (y_assign rfl) rfl rfl rfl ?_; intro a74 hE75; clear hE70
     refine c_nil ?_
     have hE76 := hE75.sub (L' := [(0, .int .i64 np), (2, .pointer (some ⟨b1, 0, none⟩)), (3, .slice b67 ((order3 ++ ([anI (fullI np) (fullI x4)])).length) c73), (4, .int .i64 x4)]) ⟨rfl, rfl, rfl, rfl, trivial⟩; clear hE75
     refine p_bn ?_
     refine p_tn ?_
     refine c_reg ?_
     refine q_step (v := .int .i64 x4) hE76 (y_move rfl) rfl rfl rfl ?_; intro a77 hE78; clear hE76
     refine q_step (v := .int .i64 (x4 + 1)) hE78 (y_add rfl rfl ⟨(by omega), (by omega)⟩) rfl rfl rfl ?_; intro a79 hE80; clear hE78
     refine q_step (v := .int .i64 (x4 + 1)) hE80 (y_assign rfl) rfl rfl rfl ?_; intro a81 hE82; clear hE80
     refine c_nil ?_
     have hE83 := hE82.sub (L' := [(0, .int .i64 np), (2, .pointer (some ⟨b1, 0, none⟩)), (3, .slice b67 ((order3 ++ ([anI (fullI np) (fullI x4)])).length) c73), (4, .int .i64 (x4 + 1))]) ⟨rfl, rfl, rfl, rfl, trivial⟩; clear hE82
     refine p_tn ⟨r30, Nat.lt_succ_self _, order3 ++ ([anI (fullI np) (fullI x4)]), x4 + 1, b67, c73, (hT25.symm.trans (show F_l18Chain_L1b np (F_l18Chain_L1 np r30) order3 x4 = F_l18Chain_L1 np r30 (order3 ++ ([anI (fullI np) (fullI x4)])) (x4 + 1) by unfold F_l18Chain_L1b; rw [ht38]; first | done | rfl)).symm, (by omega), (by first | omega | (simp only [sS_len, sL_len]; omega) | (simp only [List.length_replicate, sI_len]; omega) | (simp only [List.length_append, List.length_cons, List.length_nil, sI_len, cond_true, cond_false]; omega) | (simp only [List.length_append, List.length_cons, List.length_nil, sI_len, cond_eq_ite, apply_ite List.length]; split <;> simp only [List.length_append, List.length_cons, List.length_nil, sI_len] <;> omega) | grind), (by simp only [List.length_append, List.length_nil, List.length_cons]; omega), (by first | omega | (simp only [sS_len, sL_len]; omega) | (simp only [List.length_replicate, sI_len]; omega) | (simp only [List.length_append, List.length_cons, List.length_nil, sI_len, cond_true, cond_false]; omega) | (simp only [List.length_append, List.length_cons, List.length_nil, sI_len, cond_eq_ite, apply_ite List.length]; split <;> simp only [List.length_append, List.length_cons, List.length_nil, sI_len] <;> omega) | grind), (hE83.sub (L' := [(0, .int .i64 np), (2, .pointer (some ⟨b1, 0, none⟩)), (3, .slice b67 ((order3 ++ ([anI (fullI np) (fullI x4)])).length) c73), (4, .int .i64 (x4 + 1))]) ⟨rfl, rfl, rfl, rfl, trivial⟩), (St.pick (Γ' := [.own 2 1 b67 ((order3 ++ ([anI (fullI np) (fullI x4)])).length) c73 (order3 ++ ([anI (fullI np) (fullI x4)])), .blk b1 #[.slice none 0 0, .slice none 0 0, .slice none 0 0, .int .i64 0, .int .i64 0] 74]) hS71 [1, 2] (by decide) rfl)⟩
    ·
     have hp84 := of_decide_eq_false ht38
     have hE85 := hE37; rw [ht38] at hE85; clear hE37
     refine wp_exit ?_
     refine p_te ?_
     have hX86 : F_l18Chain_L1 np (Int.toNat (np - 0) + 1) ([]) 0 = (order3, x4) := hT25.symm.trans (show F_l18Chain_L1b np (F_l18Chain_L1 np r30) order3 x4 = (order3, x4) by unfold F_l18Chain_L1b; rw [ht38]; first | done | rfl)
     refine p_te (p_be (p_tn ?_))
     exact ⟨order3A, order3C, (by rw [hX86]; exact (show 0 ≤ x4 from (by first | omega | (simp only [sS_len, sL_len]; omega) | (simp only [List.length_replicate, sI_len]; omega) | (simp only [List.length_append, List.length_cons, List.length_nil, sI_len, cond_true, cond_false]; omega) | (simp only [List.length_append, List.length_cons, List.length_nil, sI_len, cond_eq_ite, apply_ite List.length]; split <;> simp only [List.length_append, List.length_cons, List.length_nil, sI_len] <;> omega) | grind))), (by rw [hX86]; exact (show (order3.length : Int) = x4 from (by first | omega | (simp only [sS_len, sL_len]; omega) | (simp only [List.length_replicate, sI_len]; omega) | (simp only [List.length_append, List.length_cons, List.length_nil, sI_len, cond_true, cond_false]; omega) | (simp only [List.length_append, List.length_cons, List.length_nil, sI_len, cond_eq_ite, apply_ite List.length]; split <;> simp only [List.length_append, List.length_cons, List.length_nil, sI_len] <;> omega) | grind))), (by rw [hX86]; exact (show (order3.length : Int) ≤ x4 from (by first | omega | (simp only [sS_len, sL_len]; omega) | (simp only [List.length_replicate, sI_len]; omega) | (simp only [List.length_append, List.length_cons, List.length_nil, sI_len, cond_true, cond_false]; omega) | (simp only [List.length_append, List.length_cons, List.length_nil, sI_len, cond_eq_ite, apply_ite List.length]; split <;> simp only [List.length_append, List.length_cons, List.length_nil, sI_len] <;> omega) | grind))), (by rw [hX86]; exact (hE85.sub (L' := [(0, .int .i64 np), (2, .pointer (some ⟨b1, 0, none⟩)), (3, .slice order3A ((order3).length) order3C), (4, .int .i64 x4)]) ⟨rfl, rfl, rfl, rfl, trivial⟩)), (by rw [hX86]; exact (St.pick (Γ' := [.own 2 1 order3A ((order3).length) order3C order3, .blk b1 #[.slice none 0 0, .slice none 0 0, .slice none 0 0, .int .i64 0, .int .i64 0] 74]) hS24 [0, 1] (by decide) rfl))⟩
  ·
   rintro a87 w88 ⟨order3A_20, order3C_20, hi92, hi93, hi94, hE89, hS90⟩; clear hE19 hS12
   refine p_tn ?_
   refine c_seq ?_
   refine c_reg ?_
   refine q_step (v := .slice order3A_20 (((F_l18Chain_L1 np (Int.toNat (np - 0) + 1) ([]) 0).1).length) order3C_20) hE89 (y_move rfl) rfl rfl rfl ?_; intro a95 hE96; clear hE89
   refine l_step hE96 rfl (l_call (f := 185) (argv := [.slice order3A_20 (((F_l18Chain_L1 np (Int.toNat (np - 0) + 1) ([]) 0).1).length) order3C_20]) hE96 (fun _ => cf_l18Build _ _) rfl rfl (c_l18Build order3A_20 (((F_l18Chain_L1 np (Int.toNat (np - 0) + 1) ([]) 0).1).length) order3C_20 ((F_l18Chain_L1 np (Int.toNat (np - 0) + 1) ([]) 0).1) w88 (St.rdO (i := 0) hS90 rfl) (chain_sl (by omega) (by omega))) ?_)
   rintro _ w98 ⟨b103, c104, h105, b106, c107, h108, b109, c110, h111, rfl, ho112⟩ a99 hE100; clear hE96
   have he102 := ho112.ext
   have hS101 := St.comp hS90 ho112 rfl; clear hS90
   simp only [List.cons_append, List.nil_append] at hS101
   refine q_step (v := .tuple #[.agg #[.slice b103 ((((F_l18Build ((F_l18Chain_L1 np (Int.toNat (np - 0) + 1) ([]) 0).1)).1).1).length) c104, .slice b106 ((((F_l18Build ((F_l18Chain_L1 np (Int.toNat (np - 0) + 1) ([]) 0).1)).1).2.1).length) c107, .slice b109 ((((F_l18Build ((F_l18Chain_L1 np (Int.toNat (np - 0) + 1) ([]) 0).1)).1).2.2.1).length) c110, .int .i64 (((F_l18Build ((F_l18Chain_L1 np (Int.toNat (np - 0) + 1) ([]) 0).1)).1).2.2.2.1), .int .i64 (((F_l18Build ((F_l18Chain_L1 np (Int.toNat (np - 0) + 1) ([]) 0).1)).1).2.2.2.2)], .bool ((F_l18Build ((F_l18Chain_L1 np (Int.toNat (np - 0) + 1) ([]) 0).1)).2)]) hE100 (y_move rfl) rfl rfl rfl ?_; intro a114 hE115; clear hE100
   refine q_step (v := .agg #[.slice b103 ((((F_l18Build ((F_l18Chain_L1 np (Int.toNat (np - 0) + 1) ([]) 0).1)).1).1).length) c104, .slice b106 ((((F_l18Build ((F_l18Chain_L1 np (Int.toNat (np - 0) + 1) ([]) 0).1)).1).2.1).length) c107, .slice b109 ((((F_l18Build ((F_l18Chain_L1 np (Int.toNat (np - 0) + 1) ([]) 0).1)).1).2.2.1).length) c110, .int .i64 (((F_l18Build ((F_l18Chain_L1 np (Int.toNat (np - 0) + 1) ([]) 0).1)).1).2.2.2.1), .int .i64 (((F_l18Build ((F_l18Chain_L1 np (Int.toNat (np - 0) + 1) ([]) 0).1)).1).2.2.2.2)]) hE115 (y_extract rfl rfl) rfl rfl rfl ?_; intro a116 hE117; clear hE115
   refine q_step (v := .bool ((F_l18Build ((F_l18Chain_L1 np (Int.toNat (np - 0) + 1) ([]) 0).1)).2)) hE117 (y_extract rfl rfl) rfl rfl rfl ?_; intro a118 hE119; clear hE117
   refine l_step hE119 rfl (l_alloc (z := .agg #[.slice none 0 0, .slice none 0 0, .slice none 0 0, .int .i64 0, .int .i64 0]) (cs := #[.slice none 0 0, .slice none 0 0, .slice none 0 0, .int .i64 0, .int .i64 0]) hS101 hE119 (fun _ => by kernel_rfl) rfl rfl ?_)
   intro b120 w121 hS124 he125 a122 hE123; clear hS101 hE119
   refine l_step hE123 rfl (l_storeS (k := 0) (cs' := #[.slice b103 ((((F_l18Build ((F_l18Chain_L1 np (Int.toNat (np - 0) + 1) ([]) 0).1)).1).1).length) c104, .slice b106 ((((F_l18Build ((F_l18Chain_L1 np (Int.toNat (np - 0) + 1) ([]) 0).1)).1).2.1).length) c107, .slice b109 ((((F_l18Build ((F_l18Chain_L1 np (Int.toNat (np - 0) + 1) ([]) 0).1)).1).2.2.1).length) c110, .int .i64 (((F_l18Build ((F_l18Chain_L1 np (Int.toNat (np - 0) + 1) ([]) 0).1)).1).2.2.2.1), .int .i64 (((F_l18Build ((F_l18Chain_L1 np (Int.toNat (np - 0) + 1) ([]) 0).1)).1).2.2.2.2)]) hS124 hE123 (by kernel_rfl) rfl rfl (by kernel_rfl) rfl rfl ?_)
   intro w127 hS130 a128 hE129; clear hS124 hE123
   refine q_step (v := .bool ((F_l18Build ((F_l18Chain_L1 np (Int.toNat (np - 0) + 1) ([]) 0).1)).2)) hE129 (y_assign rfl) rfl rfl rfl ?_; intro a132 hE133; clear hE129
   refine c_nil ?_
   have hE134 := hE133.sub (L' := [(2, .pointer (some ⟨b1, 0, none⟩)), (5, .pointer (some ⟨b120, 0, none⟩))]) ⟨rfl, rfl, trivial⟩; clear hE133
   refine p_tn ?_
   refine c_seq ?_
   refine c_reg ?_
   refine q_step (v := .agg #[.slice b103 ((((F_l18Build ((F_l18Chain_L1 np (Int.toNat (np - 0) + 1) ([]) 0).1)).1).1).length) c104, .slice b106 ((((F_l18Build ((F_l18Chain_L1 np (Int.toNat (np - 0) + 1) ([]) 0).1)).1).2.1).length) c107, .slice b109 ((((F_l18Build ((F_l18Chain_L1 np (Int.toNat (np - 0) + 1) ([]) 0).1)).1).2.2.1).length) c110, .int .i64 (((F_l18Build ((F_l18Chain_L1 np (Int.toNat (np - 0) + 1) ([]) 0).1)).1).2.2.2.1), .int .i64 (((F_l18Build ((F_l18Chain_L1 np (Int.toNat (np - 0) + 1) ([]) 0).1)).1).2.2.2.2)]) hE134 (y_loadS Try.underlying74 rfl (by kernel_rfl) rfl (St.row (i := 0) hS130 rfl)) rfl rfl rfl ?_; intro a135 hE136; clear hE134
   refine l_step hE136 rfl (l_storeS (k := 5) (cs' := #[.slice b103 ((((F_l18Build ((F_l18Chain_L1 np (Int.toNat (np - 0) + 1) ([]) 0).1)).1).1).length) c104, .slice b106 ((((F_l18Build ((F_l18Chain_L1 np (Int.toNat (np - 0) + 1) ([]) 0).1)).1).2.1).length) c107, .slice b109 ((((F_l18Build ((F_l18Chain_L1 np (Int.toNat (np - 0) + 1) ([]) 0).1)).1).2.2.1).length) c110, .int .i64 (((F_l18Build ((F_l18Chain_L1 np (Int.toNat (np - 0) + 1) ([]) 0).1)).1).2.2.2.1), .int .i64 (((F_l18Build ((F_l18Chain_L1 np (Int.toNat (np - 0) + 1) ([]) 0).1)).1).2.2.2.2)]) hS130 hE136 (by kernel_rfl) rfl rfl (by kernel_rfl) rfl rfl ?_)
   intro w138 hS141 a139 hE140; clear hS130 hE136
   refine c_nil ?_
   have hE143 := hE140.sub (L' := [(2, .pointer (some ⟨b1, 0, none⟩))]) ⟨rfl, trivial⟩; clear hE140
   refine p_tn ?_
   refine wp_ret ?_
   have hF : F_l18Chain np = (((F_l18Build ((F_l18Chain_L1 np (Int.toNat (np - 0) + 1) ([]) 0).1)).1).1, ((F_l18Build ((F_l18Chain_L1 np (Int.toNat (np - 0) + 1) ([]) 0).1)).1).2.1, ((F_l18Build ((F_l18Chain_L1 np (Int.toNat (np - 0) + 1) ([]) 0).1)).1).2.2.1, ((F_l18Build ((F_l18Chain_L1 np (Int.toNat (np - 0) + 1) ([]) 0).1)).1).2.2.2.1, ((F_l18Build ((F_l18Chain_L1 np (Int.toNat (np - 0) + 1) ([]) 0).1)).1).2.2.2.2) := by unfold F_l18Chain; rfl
   refine c_retC hE143 rfl rfl Try.underlying74 rfl (by kernel_rfl) (St.row (i := 5) hS141 rfl _ (Ext.refl _)) ?_
   have hS9 := (St.pick (Γ' := [.nest 22 1 (some 2) b103 c104 h105 (((F_l18Build ((F_l18Chain_L1 np (Int.toNat (np - 0) + 1) ([]) 0).1)).1).1), .nest 22 1 (some 2) b106 c107 h108 (((F_l18Build ((F_l18Chain_L1 np (Int.toNat (np - 0) + 1) ([]) 0).1)).1).2.1), .nest 22 1 (some 2) b109 c110 h111 (((F_l18Build ((F_l18Chain_L1 np (Int.toNat (np - 0) + 1) ([]) 0).1)).1).2.2.1)]) hS141 [1, 2, 3] (by decide) rfl)
   exact ⟨b103, c104, h105, b106, c107, h108, b109, c110, h111, (by rw [hF]; first | done | (dsimp only; done) | rfl), (by rw [hF]; (try dsimp only); exact hS9)⟩
def F_s_ChainAlgebra (np : Int) : (List (List Int) × List (List Int) × List (List Int) × Int × Int) × (Int) :=
  bif (!(F_l01In np 1 30)) then (([], [], [], 0, 0), 2) else (((F_l18Chain np).1, (F_l18Chain np).2.1, (F_l18Chain np).2.2.1, (F_l18Chain np).2.2.2.1, (F_l18Chain np).2.2.2.2), 0)
theorem cf_s_ChainAlgebra (args : Array Value) (w : World) : (callFunc 54 args).run Try.prog w = .ok (.enter 54 args) w := by kernel_rfl
set_option maxRecDepth 100000 in
theorem c_s_ChainAlgebra (np : Int) (w : World) :
    Calls Try.prog 54 #[.int .i64 np] w (Ret fun v w' => ∃ b1 : Option Addr, ∃ c1 : Nat, ∃ h1 : List Hd, ∃ b2 : Option Addr, ∃ c2 : Nat, ∃ h2 : List Hd, ∃ b3 : Option Addr, ∃ c3 : Nat, ∃ h3 : List Hd, v = .tuple #[.agg #[.slice b1 (((F_s_ChainAlgebra np).1).1).length c1, .slice b2 (((F_s_ChainAlgebra np).1).2.1).length c2, .slice b3 (((F_s_ChainAlgebra np).1).2.2.1).length c3, .int .i64 (((F_s_ChainAlgebra np).1).2.2.2.1), .int .i64 (((F_s_ChainAlgebra np).1).2.2.2.2)], .int .i64 ((F_s_ChainAlgebra np).2)] ∧ St w w' (.nest 22 1 (some 2) b1 c1 h1 (((F_s_ChainAlgebra np).1).1) :: .nest 22 1 (some 2) b2 c2 h2 (((F_s_ChainAlgebra np).1).2.1) :: .nest 22 1 (some 2) b3 c3 h3 (((F_s_ChainAlgebra np).1).2.2.1) :: [])) := by
  have hS := St.nil w
  refine enter (args := [.int .i64 np]) Try.func54 rfl rfl ?_
  rw [Try.ntmps54]; intro a hE
  have hE := hE.sub (L' := [(0, .int .i64 np)]) ⟨rfl, trivial⟩
  refine c_seq ?_
  refine c_reg ?_
  refine l_step hE rfl (l_alloc (z := .agg #[.slice none 0 0, .slice none 0 0, .slice none 0 0, .int .i64 0, .int .i64 0]) (cs := #[.slice none 0 0, .slice none 0 0, .slice none 0 0, .int .i64 0, .int .i64 0]) hS hE (fun _ => by kernel_rfl) rfl rfl ?_)
  intro b1 w2 hS5 he6 a3 hE4; clear hS hE
  refine q_step (v := .int .i64 0) hE4 (y_assign rfl) rfl rfl rfl ?_; intro a7 hE8; clear hE4
  refine c_nil ?_
  have hE9 := hE8.sub (L' := [(0, .int .i64 np), (2, .pointer (some ⟨b1, 0, none⟩))]) ⟨rfl, rfl, trivial⟩; clear hE8
  refine p_tn ?_
  refine c_seq ?_
  refine c_seq ?_
  refine c_reg ?_
  refine q_step (v := .int .i64 np) hE9 (y_move rfl) rfl rfl rfl ?_; intro a10 hE11; clear hE9
  refine l_step hE11 rfl (l_call (f := 71) (argv := [.int .i64 np, .int .i64 1, .int .i64 30]) hE11 (fun _ => cf_l01In _ _) rfl rfl (c_l01In np 1 30 w2) ?_)
  rintro _ _ ⟨rfl, rfl⟩ a14 hE15; clear hE11
  refine q_step (v := .bool (!(F_l01In np 1 30))) hE15 (y_not rfl) rfl rfl rfl ?_; intro a18 hE19; clear hE15
  refine c_nil ?_
  have hE20 := hE19.sub (L' := [(0, .int .i64 np), (2, .pointer (some ⟨b1, 0, none⟩)), (6, .bool (!(F_l01In np 1 30)))]) ⟨rfl, rfl, rfl, trivial⟩; clear hE19
  refine p_tn ?_
  refine c_cond hE20 rfl (fun ht21 => ?_) (fun ht21 => ?_)
  ·
   have ht22 := bn_t ht21
   have hE23 := hE20; rw [ht21] at hE23; clear hE20
   refine c_seq ?_
   refine c_reg ?_
   refine q_step (v := .agg #[.slice none 0 0, .slice none 0 0, .slice none 0 0, .int .i64 0, .int .i64 0]) hE23 (y_build (vs := #[]) (fun a n hE => by simp) (fun _ => by kernel_rfl)) rfl rfl rfl ?_; intro a24 hE25; clear hE23
   refine l_step hE25 rfl (l_storeS (k := 0) (cs' := #[.slice none 0 0, .slice none 0 0, .slice none 0 0, .int .i64 0, .int .i64 0]) hS5 hE25 (by kernel_rfl) rfl rfl (by kernel_rfl) rfl rfl ?_)
   intro w27 hS30 a28 hE29; clear hS5 hE25
   refine q_step (v := .int .i64 2) hE29 (y_assign rfl) rfl rfl rfl ?_; intro a32 hE33; clear hE29
   refine c_nil ?_
   have hE34 := hE33.sub (L' := [(2, .pointer (some ⟨b1, 0, none⟩)), (3, .int .i64 2)]) ⟨rfl, rfl, trivial⟩; clear hE33
   refine p_tn ?_
   refine wp_ret ?_
   refine p_tr ?_
   have hF : F_s_ChainAlgebra np = (([], [], [], 0, 0), 2) := by unfold F_s_ChainAlgebra; rw [ht21]; first | done | rfl
   refine c_retC2 hE34 rfl rfl rfl Try.underlying74 rfl (by kernel_rfl) (St.row (i := 0) hS30 rfl _ (Ext.refl _)) ?_
   have hS35 := St.nilsN hS30 22 1 (some 2); clear hS30
   have hS36 := St.nilsN hS35 22 1 (some 2); clear hS35
   have hS37 := St.nilsN hS36 22 1 (some 2); clear hS36
   have hS9 := (St.pick (Γ' := [.nest 22 1 (some 2) none 0 ([]) ([]), .nest 22 1 (some 2) none 0 ([]) ([]), .nest 22 1 (some 2) none 0 ([]) ([])]) hS37 [2, 1, 0] (by decide) rfl)
   exact ⟨none, 0, [], none, 0, [], none, 0, [], (by rw [hF]; first | done | (dsimp only; done) | rfl), (by rw [hF]; (try dsimp only); exact hS9)⟩
  ·
   have ht38 := bn_f ht21
   have hp39 := F_l01In_t ht38
   have hE40 := hE20; rw [ht21] at hE40; clear hE20
   refine wp_skip ?_
   refine p_tn ?_
   refine c_seq ?_
   refine c_reg ?_
   refine q_step (v := .int .i64 np) hE40 (y_move rfl) rfl rfl rfl ?_; intro a41 hE42; clear hE40
   refine l_step hE42 rfl (l_call (f := 119) (argv := [.int .i64 np]) hE42 (fun _ => cf_l18Chain _ _) rfl rfl (c_l18Chain np w2 (by omega) (by omega)) ?_)
   rintro _ w44 ⟨b49, c50, h51, b52, c53, h54, b55, c56, h57, rfl, ho58⟩ a45 hE46; clear hE42
   have he48 := ho58.ext
   have hS47 := St.comp hS5 ho58 rfl; clear hS5
   simp only [List.cons_append, List.nil_append] at hS47
   refine l_step hE46 rfl (l_storeS (k := 3) (cs' := #[.slice b49 (((F_l18Chain np).1).length) c50, .slice b52 (((F_l18Chain np).2.1).length) c53, .slice b55 (((F_l18Chain np).2.2.1).length) c56, .int .i64 ((F_l18Chain np).2.2.2.1), .int .i64 ((F_l18Chain np).2.2.2.2)]) hS47 hE46 (by kernel_rfl) rfl rfl (by kernel_rfl) rfl rfl ?_)
   intro w61 hS64 a62 hE63; clear hS47 hE46
   refine q_step (v := .int .i64 0) hE63 (y_assign rfl) rfl rfl rfl ?_; intro a66 hE67; clear hE63
   refine c_nil ?_
   have hE68 := hE67.sub (L' := [(2, .pointer (some ⟨b1, 0, none⟩)), (3, .int .i64 0)]) ⟨rfl, rfl, trivial⟩; clear hE67
   refine p_tn ?_
   refine wp_ret ?_
   have hF : F_s_ChainAlgebra np = (((F_l18Chain np).1, (F_l18Chain np).2.1, (F_l18Chain np).2.2.1, (F_l18Chain np).2.2.2.1, (F_l18Chain np).2.2.2.2), 0) := by unfold F_s_ChainAlgebra; rw [ht21]; first | done | rfl
   refine c_retC2 hE68 rfl rfl rfl Try.underlying74 rfl (by kernel_rfl) (St.row (i := 3) hS64 rfl _ (Ext.refl _)) ?_
   have hS9 := (St.pick (Γ' := [.nest 22 1 (some 2) b49 c50 h51 ((F_l18Chain np).1), .nest 22 1 (some 2) b52 c53 h54 ((F_l18Chain np).2.1), .nest 22 1 (some 2) b55 c56 h57 ((F_l18Chain np).2.2.1)]) hS64 [0, 1, 2] (by decide) rfl)
   exact ⟨b49, c50, h51, b52, c53, h54, b55, c56, h57, (by rw [hF]; first | done | (dsimp only; done) | rfl), (by rw [hF]; (try dsimp only); exact hS9)⟩
end Go.Proofs.Ytkilkfhjfobcdaa
