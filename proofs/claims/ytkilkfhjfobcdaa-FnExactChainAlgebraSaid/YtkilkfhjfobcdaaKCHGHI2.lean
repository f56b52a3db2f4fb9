/- GHI2: models and contracts, printed by wip/gen/gen.py -/
import Derived.Test.YtkilkfhjfobcdaaKCHGHI
import Derived.Test.YtkilkfhjfobcdaaKCHGSA
set_option linter.unusedVariables false
set_option linter.unusedSimpArgs false
namespace Go.Proofs.Ytkilkfhjfobcdaa
open Go.RowKit
def F_ChainAlgebra_L1b (np : Int) (rec : (List Int) → Int → (List Int) × Int) (above4 : List Int) (t13 : Int) : (List Int) × Int :=
  bif (decide (t13 < np)) then (rec (above4 ++ ([anI ((shlI 1 np) - 1) ((shlI 1 t13) - 1)])) (t13 + 1)) else (above4, t13)
def F_ChainAlgebra_L1 (np : Int) : Nat → (List Int) → Int → (List Int) × Int
  | 0, above4, t13 => (above4, t13)
  | r + 1, above4, t13 => F_ChainAlgebra_L1b np (F_ChainAlgebra_L1 np r) above4 t13
def F_ChainAlgebra (np : Int) : (List (List Int) × List (List Int) × List (List Int) × Int × Int) × (Int) :=
  bif (!(F_inRange np 1 30)) then (([], [], [], 0, 0), 2) else ((((F_heytingOf ((F_ChainAlgebra_L1 np (Int.toNat (np - 0) + 1) ([]) 0).1)).1).1, ((F_heytingOf ((F_ChainAlgebra_L1 np (Int.toNat (np - 0) + 1) ([]) 0).1)).1).2.1, ((F_heytingOf ((F_ChainAlgebra_L1 np (Int.toNat (np - 0) + 1) ([]) 0).1)).1).2.2.1, ((F_heytingOf ((F_ChainAlgebra_L1 np (Int.toNat (np - 0) + 1) ([]) 0).1)).1).2.2.2.1, ((F_heytingOf ((F_ChainAlgebra_L1 np (Int.toNat (np - 0) + 1) ([]) 0).1)).1).2.2.2.2), 0)
theorem cf_ChainAlgebra (args : Array Value) (w : World) : (callFunc 55 args).run Try.prog w = .ok (.enter 55 args) w := by kernel_rfl
theorem chain_i {np : Int} (h0 : 1 ≤ np) (h1 : np ≤ 30) : (F_ChainAlgebra_L1 np (Int.toNat (np - 0) + 1) ([]) 0).1 = chainL np.toNat := by
  rw [mapLoop0 np (by omega) (fun t => anI ((shlI 1 np) - 1) ((shlI 1 t) - 1)) (F_ChainAlgebra_L1 np) (fun r o t => rfl)]
  unfold chainL
  refine List.map_congr_left fun j hj => ?_
  have := List.mem_range.1 hj
  rw [full9 (by omega) h1, full9 (by omega) (by omega), show ((np.toNat : Nat) : Int) = np by omega]
set_option maxRecDepth 100000 in
theorem c_ChainAlgebra (np : Int) (w : World) :
    Calls Try.prog 55 #[.int .i64 np] w (Ret fun v w' => ∃ b1 : Option Addr, ∃ c1 : Nat, ∃ h1 : List Hd, ∃ b2 : Option Addr, ∃ c2 : Nat, ∃ h2 : List Hd, ∃ b3 : Option Addr, ∃ c3 : Nat, ∃ h3 : List Hd, v = .tuple #[.agg #[.slice b1 (((F_ChainAlgebra np).1).1).length c1, .slice b2 (((F_ChainAlgebra np).1).2.1).length c2, .slice b3 (((F_ChainAlgebra np).1).2.2.1).length c3, .int .i64 (((F_ChainAlgebra np).1).2.2.2.1), .int .i64 (((F_ChainAlgebra np).1).2.2.2.2)], .int .i64 ((F_ChainAlgebra np).2)] ∧ St w w' (.nest 22 1 (some 2) b1 c1 h1 (((F_ChainAlgebra np).1).1) :: .nest 22 1 (some 2) b2 c2 h2 (((F_ChainAlgebra np).1).2.1) :: .nest 22 1 (some 2) b3 c3 h3 (((F_ChainAlgebra np).1).2.2.1) :: [])) := by
  have hS := St.nil w
  refine enter (args := [.int .i64 np]) Try.func55 rfl rfl ?_
  rw [Try.ntmps55]; intro a hE
  have hE := hE.sub (L' := [(0, .int .i64 np)]) ⟨rfl, trivial⟩
  refine c_seq ?_
  refine c_reg ?_
  refine l_step hE rfl (l_alloc (z := .agg #[.slice none 0 0, .slice none 0 0, .slice none 0 0, .int .i64 0, .int .i64 0]) (cs := #[.slice none 0 0, .slice none 0 0, .slice none 0 0, .int .i64 0, .int .i64 0]) hS hE (fun _ => by kernel_rfl) rfl rfl ?_)
  intro b1 w2 hS5 he6 a3 hE4; clear hS hE
  refine q_step (v := .int .i64 0) hE4 (y_assign rfl) rfl rfl rfl ?_; intro a7 hE8; clear hE4
  refine c_nil ?_
  have hE9 := hE8.sub (L' := [(0, .int .i64 np), (2, .pointer (some ⟨b1, 0, none⟩))]) ⟨rfl, rfl, trivial⟩; clear hE8
  refine p_tn ?_
  refine c_seq ?_
  refine c_seq ?_
  refine c_reg ?_
  refine q_step (v := .int .i64 np) hE9 (y_move rfl) rfl rfl rfl ?_; intro a10 hE11; clear hE9
  refine l_step hE11 rfl (l_call (f := 75) (argv := [.int .i64 np, .int .i64 1, .int .i64 30]) hE11 (fun _ => cf_inRange _ _) rfl rfl (c_inRange np 1 30 w2) ?_)
  rintro _ _ ⟨rfl, rfl⟩ a14 hE15; clear hE11
  refine q_step (v := .bool (!(F_inRange np 1 30))) hE15 (y_not rfl) rfl rfl rfl ?_; intro a18 hE19; clear hE15
  refine c_nil ?_
  have hE20 := hE19.sub (L' := [(0, .int .i64 np), (2, .pointer (some ⟨b1, 0, none⟩)), (10, .bool (!(F_inRange np 1 30)))]) ⟨rfl, rfl, rfl, trivial⟩; clear hE19
  refine p_tn ?_
  refine c_cond hE20 rfl (fun ht21 => ?_) (fun ht21 => ?_)
  ·
   have ht22 := bn_t ht21
   have hE23 := hE20; rw [ht21] at hE23; clear hE20
   refine c_seq ?_
   refine c_reg ?_
   refine q_step (v := .agg #[.slice none 0 0, .slice none 0 0, .slice none 0 0, .int .i64 0, .int .i64 0]) hE23 (y_build (vs := #[]) (fun a n hE => by simp) (fun _ => by kernel_rfl)) rfl rfl rfl ?_; intro a24 hE25; clear hE23
   refine l_step hE25 rfl (l_storeS (k := 0) (cs' := #[.slice none 0 0, .slice none 0 0, .slice none 0 0, .int .i64 0, .int .i64 0]) hS5 hE25 (by kernel_rfl) rfl rfl (by kernel_rfl) rfl rfl ?_)
   intro w27 hS30 a28 hE29; clear hS5 hE25
   refine q_step (v := .int .i64 2) hE29 (y_assign rfl) rfl rfl rfl ?_; intro a32 hE33; clear hE29
   refine c_nil ?_
   have hE34 := hE33.sub (L' := [(2, .pointer (some ⟨b1, 0, none⟩)), (3, .int .i64 2)]) ⟨rfl, rfl, trivial⟩; clear hE33
   refine p_tn ?_
   refine wp_ret ?_
   refine p_tr ?_
   have hF : F_ChainAlgebra np = (([], [], [], 0, 0), 2) := by unfold F_ChainAlgebra; rw [ht21]; first | done | rfl
   refine c_retC2 hE34 rfl rfl rfl Try.underlying74 rfl (by kernel_rfl) (St.row (i := 0) hS30 rfl _ (Ext.refl _)) ?_
   have hS35 := St.nilsN hS30 22 1 (some 2); clear hS30
   have hS36 := St.nilsN hS35 22 1 (some 2); clear hS35
   have hS37 := St.nilsN hS36 22 1 (some 2); clear hS36
   have hS9 := (St.pick (Γ' := [.nest 22 1 (some 2) none 0 ([]) ([]), .nest 22 1 (some 2) none 0 ([]) ([]), .nest 22 1 (some 2) none 0 ([]) ([])]) hS37 [2, 1, 0] (by decide) rfl)
   exact ⟨none, 0, [], none, 0, [], none, 0, [], (by rw [hF]; first | done | (dsimp only; done) | rfl), (by rw [hF]; (try dsimp only); exact hS9)⟩
  ·
   have ht38 := bn_f ht21
   have hp39 := F_inRange_t ht38
   have hE40 := hE20; rw [ht21] at hE40; clear hE20
   refine wp_skip ?_
   refine p_tn ?_
   refine c_seq ?_
   refine c_reg ?_
   refine q_step (v := .slice none 0 0) hE40 (y_assign rfl) rfl rfl rfl ?_; intro a41 hE42; clear hE40
   refine c_nil ?_
   have hE43 := hE42.sub (L' := [(0, .int .i64 np), (2, .pointer (some ⟨b1, 0, none⟩)), (4, .slice none 0 0)]) ⟨rfl, rfl, rfl, trivial⟩; clear hE42
   refine p_tn ?_
   refine c_seq ?_
   refine c_seq ?_
   refine c_reg ?_
   refine q_step (v := .int .i64 np) hE43 (y_move rfl) rfl rfl rfl ?_; intro a44 hE45; clear hE43
   refine q_step (v := .int .i64 0) hE45 (y_move rfl) rfl rfl rfl ?_; intro a46 hE47; clear hE45
   refine c_nil ?_
   have hE48 := hE47.sub (L' := [(0, .int .i64 np), (2, .pointer (some ⟨b1, 0, none⟩)), (4, .slice none 0 0), (12, .int .i64 np), (13, .int .i64 0)]) ⟨rfl, rfl, rfl, rfl, rfl, trivial⟩; clear hE47
   refine p_tn ?_
   have hS49 := St.nils hS5 2 1; clear hS5
   refine c_cut1 (fun a' w' => ∃ above4A_50 : Option Addr, ∃ above4C_50 : Nat, (0 ≤ ((F_ChainAlgebra_L1 np (Int.toNat (np - 0) + 1) ([]) 0).2)) ∧ ((((F_ChainAlgebra_L1 np (Int.toNat (np - 0) + 1) ([]) 0).1).length : Int) ≤ ((F_ChainAlgebra_L1 np (Int.toNat (np - 0) + 1) ([]) 0).2)) ∧ E a' 33 [(0, .int .i64 np), (2, .pointer (some ⟨b1, 0, none⟩)), (4, .slice above4A_50 (((F_ChainAlgebra_L1 np (Int.toNat (np - 0) + 1) ([]) 0).1).length) above4C_50), (12, .int .i64 np), (13, .int .i64 ((F_ChainAlgebra_L1 np (Int.toNat (np - 0) + 1) ([]) 0).2))] ∧ St w w' [.own 2 1 above4A_50 (((F_ChainAlgebra_L1 np (Int.toNat (np - 0) + 1) ([]) 0).1).length) above4C_50 ((F_ChainAlgebra_L1 np (Int.toNat (np - 0) + 1) ([]) 0).1), .blk b1 #[.slice none 0 0, .slice none 0 0, .slice none 0 0, .int .i64 0, .int .i64 0] 74]) ?_ ?_
   ·
    refine wp_block ?_
    refine c_loop (fun r a' w' => ∃ above4 : List Int, ∃ t13 : Int, ∃ above4A : Option Addr, ∃ above4C : Nat, F_ChainAlgebra_L1 np r above4 t13 = F_ChainAlgebra_L1 np (Int.toNat (np - 0) + 1) ([]) 0 ∧ Int.toNat (np - t13) < r ∧ (0 ≤ t13) ∧ ((above4.length : Int) ≤ t13) ∧ E a' 33 [(0, .int .i64 np), (2, .pointer (some ⟨b1, 0, none⟩)), (4, .slice above4A ((above4).length) above4C), (12, .int .i64 np), (13, .int .i64 t13)] ∧ St w w' [.own 2 1 above4A ((above4).length) above4C above4, .blk b1 #[.slice none 0 0, .slice none 0 0, .slice none 0 0, .int .i64 0, .int .i64 0] 74]) (r := (Int.toNat (np - 0) + 1)) ?_ ?_
    · exact ⟨[], 0, none, 0, rfl, Nat.lt_succ_self _, (by first | omega | (simp only [sS_len, sL_len]; omega) | (simp only [List.length_replicate, sI_len]; omega) | (simp only [List.length_append, List.length_cons, List.length_nil, sI_len, cond_true, cond_false]; omega) | (simp only [List.length_append, List.length_cons, List.length_nil, sI_len, cond_eq_ite, apply_ite List.length]; split <;> simp only [List.length_append, List.length_cons, List.length_nil, sI_len] <;> omega) | grind), (by first | omega | (simp only [sS_len, sL_len]; omega) | (simp only [List.length_replicate, sI_len]; omega) | (simp only [List.length_append, List.length_cons, List.length_nil, sI_len, cond_true, cond_false]; omega) | (simp only [List.length_append, List.length_cons, List.length_nil, sI_len, cond_eq_ite, apply_ite List.length]; split <;> simp only [List.length_append, List.length_cons, List.length_nil, sI_len] <;> omega) | grind), (hE48.sub (L' := [(0, .int .i64 np), (2, .pointer (some ⟨b1, 0, none⟩)), (4, .slice none 0 0), (12, .int .i64 np), (13, .int .i64 0)]) ⟨rfl, rfl, rfl, rfl, rfl, trivial⟩), (St.pick (Γ' := [.own 2 1 none 0 0 ([]), .blk b1 #[.slice none 0 0, .slice none 0 0, .slice none 0 0, .int .i64 0, .int .i64 0] 74]) hS49 [0, 1] (by decide) rfl)⟩
    ·
     clear hE48 hS49
     rintro r59 a51 w52 ⟨above4, t13, above4A, above4C, hT55, hr56, hi57, hi58, hE53, hS54⟩
     obtain ⟨r59, rfl⟩ : ∃ r', r59 = r' + 1 := ⟨r59 - 1, by omega⟩
     refine c_seq ?_
     refine c_reg ?_
     refine q_step (v := .bool (decide (t13 < np))) hE53 (y_lss rfl rfl) rfl rfl rfl ?_; intro a60 hE61; clear hE53
     refine c_nil ?_
     have hE62 := hE61.sub (L' := [(0, .int .i64 np), (2, .pointer (some ⟨b1, 0, none⟩)), (4, .slice above4A ((above4).length) above4C), (12, .int .i64 np), (13, .int .i64 t13), (14, .bool (decide (t13 < np)))]) ⟨rfl, rfl, rfl, rfl, rfl, rfl, trivial⟩; clear hE61
     refine p_tn ?_
     refine c_seq ?_
     refine c_cond hE62 rfl (fun ht63 => ?_) (fun ht63 => ?_)
     ·
      have hp64 := of_decide_eq_true ht63
      have hE65 := hE62; rw [ht63] at hE65; clear hE62
      have hs1 := full9 (n := t13) (by omega) (by omega)
      have hs2 := fullI_bd (n := t13) (by omega) (by omega)
      have hs3 := full9 (n := np) (by omega) (by omega)
      have hs4 := fullI_bd (n := np) (by omega) (by omega)
      refine wp_skip ?_
      refine p_tn ?_
      refine c_seq ?_
      refine wp_block ?_
      refine c_seq ?_
      refine c_reg ?_
      refine q_step (v := .int .i64 t13) hE65 (y_move rfl) rfl rfl rfl ?_; intro a66 hE67; clear hE65
      refine q_step (v := .int .i64 t13) hE67 (y_assign rfl) rfl rfl rfl ?_; intro a68 hE69; clear hE67
      refine c_nil ?_
      have hE70 := hE69.sub (L' := [(0, .int .i64 np), (2, .pointer (some ⟨b1, 0, none⟩)), (4, .slice above4A ((above4).length) above4C), (5, .int .i64 t13), (12, .int .i64 np), (13, .int .i64 t13)]) ⟨rfl, rfl, rfl, rfl, rfl, rfl, trivial⟩; clear hE69
      refine p_tn ?_
      refine d_start (fun _ _ => True) [] 11 (by kernel_rfl) rfl ?_
      intro w71 he72; have hS73 := St.go hS54 he72; clear hS54
      refine d_pure (fun _ => trivial) (v := .slice above4A ((above4).length) above4C) 0 rfl hE70 (y_move rfl) rfl (by kernel_rfl) (by kernel_rfl) (by kernel_rfl) rfl rfl (fun _ _ _ h => h) ?_; intro a74 hE75; clear hE70
      refine d_pure (fun _ => trivial) (v := .int .i64 np) 1 rfl hE75 (y_move rfl) rfl (by kernel_rfl) (by kernel_rfl) (by kernel_rfl) rfl rfl (fun _ _ _ h => h) ?_; intro a76 hE77; clear hE75
      refine d_pure (fun _ => trivial) (v := .int .i64 (shlI 1 np)) 2 rfl hE77 (y_shl rfl rfl (by omega)) rfl (by kernel_rfl) (by kernel_rfl) (by kernel_rfl) rfl rfl (fun _ _ _ h => h) ?_; intro a78 hE79; clear hE77
      refine d_pure (fun _ => trivial) (v := .int .i64 ((shlI 1 np) - 1)) 3 rfl hE79 (y_sub rfl rfl ⟨(by omega), (by omega)⟩) rfl (by kernel_rfl) (by kernel_rfl) (by kernel_rfl) rfl rfl (fun _ _ _ h => h) ?_; intro a80 hE81; clear hE79
      refine d_pure (fun _ => trivial) (v := .int .i64 t13) 4 rfl hE81 (y_move rfl) rfl (by kernel_rfl) (by kernel_rfl) (by kernel_rfl) rfl rfl (fun _ _ _ h => h) ?_; intro a82 hE83; clear hE81
      refine d_pure (fun _ => trivial) (v := .int .i64 (shlI 1 t13)) 5 rfl hE83 (y_shl rfl rfl (by omega)) rfl (by kernel_rfl) (by kernel_rfl) (by kernel_rfl) rfl rfl (fun _ _ _ h => h) ?_; intro a84 hE85; clear hE83
      refine d_pure (fun _ => trivial) (v := .int .i64 ((shlI 1 t13) - 1)) 6 rfl hE85 (y_sub rfl rfl ⟨(by omega), (by omega)⟩) rfl (by kernel_rfl) (by kernel_rfl) (by kernel_rfl) rfl rfl (fun _ _ _ h => h) ?_; intro a86 hE87; clear hE85
      refine d_pure (fun _ => trivial) (v := .int .i64 (anI ((shlI 1 np) - 1) ((shlI 1 t13) - 1))) 7 rfl hE87 (y_andNot rfl rfl) rfl (by kernel_rfl) (by kernel_rfl) (by kernel_rfl) rfl rfl (fun _ _ _ h => h) ?_; intro a88 hE89; clear hE87
      refine d_only 8 (by kernel_rfl) rfl hE89 rfl (l_lit (e := 2) (s := 1) (xs := [anI ((shlI 1 np) - 1) ((shlI 1 t13) - 1)]) (vs := [.int .i64 (anI ((shlI 1 np) - 1) ((shlI 1 t13) - 1))]) hS73 hE89 rfl (fun _ => by kernel_rfl) rfl rfl rfl ?_)
      intro b90 w91 hS94 he95 a92 hE93; clear hS73 hE89
      refine ⟨fun _ => trivial, ?_⟩
      obtain ⟨_, hi1, hi2, hi3, hi4⟩ := info_parts (show (Try.prog.info? 2).map (fun i => (i.zero, i.size, i.bytes)) = some (some (.int .i64 0), 1, 8) by kernel_rfl)
      refine d_only 9 (by kernel_rfl) rfl hE93 rfl (l_append (k := 1) (n' := (above4 ++ ([anI ((shlI 1 np) - 1) ((shlI 1 t13) - 1)])).length) hS94 hE93 (by kernel_rfl) hi1 hi2 hi3 rfl (by decide) (by rw [hi4]; decide) rfl rfl rfl (St.rdO (i := 0) hS94 rfl) (by first | omega | (simp only [List.length_append, List.length_cons, List.length_nil]; omega)) (by have h1 := (St.rdO (i := 1) hS94 rfl).len1; have h2 := (St.rdO (i := 0) hS94 rfl).len1; first | rw [List.length_append, h1, h2] | (simp only [List.length_append])) rfl ?_)
      intro b96 c102 w97 hS100 a98 hE99; clear hS94 hE93 hi1 hi2 hi3 hi4
      refine ⟨fun _ => trivial, ?_⟩
      refine d_pure (fun _ => trivial) (v := .slice b96 ((above4 ++ ([anI ((shlI 1 np) - 1) ((shlI 1 t13) - 1)])).length) c102) 10 rfl hE99 (y_assign rfl) rfl (by kernel_rfl) (by kernel_rfl) (by kernel_rfl) rfl rfl (fun _ _ _ h => h) ?_; intro a103 hE104; clear hE99
      refine d_done (by kernel_rfl) ?_
      have hE105 := hE104.sub (L' := [(0, .int .i64 np), (2, .pointer (some ⟨b1, 0, none⟩)), (4, .slice b96 ((above4 ++ ([anI ((shlI 1 np) - 1) ((shlI 1 t13) - 1)])).length) c102), (12, .int .i64 np), (13, .int .i64 t13)]) ⟨rfl, rfl, rfl, rfl, rfl, trivial⟩; clear hE104
      refine p_bn ?_
      refine p_tn ?_
      refine c_reg ?_
      refine q_step (v := .int .i64 (t13 + 1)) hE105 (y_add rfl rfl ⟨(by omega), (by omega)⟩) rfl rfl rfl ?_; intro a106 hE107; clear hE105
      refine q_step (v := .int .i64 (t13 + 1)) hE107 (y_move rfl) rfl rfl rfl ?_; intro a108 hE109; clear hE107
      refine c_nil ?_
      have hE110 := hE109.sub (L' := [(0, .int .i64 np), (2, .pointer (some ⟨b1, 0, none⟩)), (4, .slice b96 ((above4 ++ ([anI ((shlI 1 np) - 1) ((shlI 1 t13) - 1)])).length) c102), (12, .int .i64 np), (13, .int .i64 (t13 + 1))]) ⟨rfl, rfl, rfl, rfl, rfl, trivial⟩; clear hE109
      refine p_tn ⟨r59, Nat.lt_succ_self _, above4 ++ ([anI ((shlI 1 np) - 1) ((shlI 1 t13) - 1)]), t13 + 1, b96, c102, (hT55.symm.trans (show F_ChainAlgebra_L1b np (F_ChainAlgebra_L1 np r59) above4 t13 = F_ChainAlgebra_L1 np r59 (above4 ++ ([anI ((shlI 1 np) - 1) ((shlI 1 t13) - 1)])) (t13 + 1) by unfold F_ChainAlgebra_L1b; rw [ht63]; first | done | rfl)).symm, (by omega), (by first | omega | (simp only [sS_len, sL_len]; omega) | (simp only [List.length_replicate, sI_len]; omega) | (simp only [List.length_append, List.length_cons, List.length_nil, sI_len, cond_true, cond_false]; omega) | (simp only [List.length_append, List.length_cons, List.length_nil, sI_len, cond_eq_ite, apply_ite List.length]; split <;> simp only [List.length_append, List.length_cons, List.length_nil, sI_len] <;> omega) | grind), (by first | omega | (simp only [sS_len, sL_len]; omega) | (simp only [List.length_replicate, sI_len]; omega) | (simp only [List.length_append, List.length_cons, List.length_nil, sI_len, cond_true, cond_false]; omega) | (simp only [List.length_append, List.length_cons, List.length_nil, sI_len, cond_eq_ite, apply_ite List.length]; split <;> simp only [List.length_append, List.length_cons, List.length_nil, sI_len] <;> omega) | grind), (hE110.sub (L' := [(0, .int .i64 np), (2, .pointer (some ⟨b1, 0, none⟩)), (4, .slice b96 ((above4 ++ ([anI ((shlI 1 np) - 1) ((shlI 1 t13) - 1)])).length) c102), (12, .int .i64 np), (13, .int .i64 (t13 + 1))]) ⟨rfl, rfl, rfl, rfl, rfl, trivial⟩), (St.pick (Γ' := [.own 2 1 b96 ((above4 ++ ([anI ((shlI 1 np) - 1) ((shlI 1 t13) - 1)])).length) c102 (above4 ++ ([anI ((shlI 1 np) - 1) ((shlI 1 t13) - 1)])), .blk b1 #[.slice none 0 0, .slice none 0 0, .slice none 0 0, .int .i64 0, .int .i64 0] 74]) hS100 [1, 2] (by decide) rfl)⟩
     ·
      have hp111 := of_decide_eq_false ht63
      have hE112 := hE62; rw [ht63] at hE112; clear hE62
      refine wp_exit ?_
      refine p_te ?_
      have hX113 : F_ChainAlgebra_L1 np (Int.toNat (np - 0) + 1) ([]) 0 = (above4, t13) := hT55.symm.trans (show F_ChainAlgebra_L1b np (F_ChainAlgebra_L1 np r59) above4 t13 = (above4, t13) by unfold F_ChainAlgebra_L1b; rw [ht63]; first | done | rfl)
      refine p_te (p_be (p_tn ?_))
      exact ⟨above4A, above4C, (by rw [hX113]; exact (show 0 ≤ t13 from (by first | omega | (simp only [sS_len, sL_len]; omega) | (simp only [List.length_replicate, sI_len]; omega) | (simp only [List.length_append, List.length_cons, List.length_nil, sI_len, cond_true, cond_false]; omega) | (simp only [List.length_append, List.length_cons, List.length_nil, sI_len, cond_eq_ite, apply_ite List.length]; split <;> simp only [List.length_append, List.length_cons, List.length_nil, sI_len] <;> omega) | grind))), (by rw [hX113]; exact (show (above4.length : Int) ≤ t13 from (by first | omega | (simp only [sS_len, sL_len]; omega) | (simp only [List.length_replicate, sI_len]; omega) | (simp only [List.length_append, List.length_cons, List.length_nil, sI_len, cond_true, cond_false]; omega) | (simp only [List.length_append, List.length_cons, List.length_nil, sI_len, cond_eq_ite, apply_ite List.length]; split <;> simp only [List.length_append, List.length_cons, List.length_nil, sI_len] <;> omega) | grind))), (by rw [hX113]; exact (hE112.sub (L' := [(0, .int .i64 np), (2, .pointer (some ⟨b1, 0, none⟩)), (4, .slice above4A ((above4).length) above4C), (12, .int .i64 np), (13, .int .i64 t13)]) ⟨rfl, rfl, rfl, rfl, rfl, trivial⟩)), (by rw [hX113]; exact (St.pick (Γ' := [.own 2 1 above4A ((above4).length) above4C above4, .blk b1 #[.slice none 0 0, .slice none 0 0, .slice none 0 0, .int .i64 0, .int .i64 0] 74]) hS54 [0, 1] (by decide) rfl))⟩
   ·
    rintro a114 w115 ⟨above4A_50, above4C_50, hi119, hi120, hE116, hS117⟩; clear hE48 hS49
    have hch := chain_i (np := np) (by omega) (by omega)
    have hcm := chainL_mm (np := np) (by omega) (by omega)
    refine p_tn ?_
    refine c_seq ?_
    refine c_reg ?_
    refine q_step (v := .slice above4A_50 (((F_ChainAlgebra_L1 np (Int.toNat (np - 0) + 1) ([]) 0).1).length) above4C_50) hE116 (y_move rfl) rfl rfl rfl ?_; intro a121 hE122; clear hE116
    refine l_step hE122 rfl (l_call (f := 120) (argv := [.slice above4A_50 (((F_ChainAlgebra_L1 np (Int.toNat (np - 0) + 1) ([]) 0).1).length) above4C_50]) hE122 (fun _ => cf_heytingOf _ _) rfl rfl (c_heytingOf above4A_50 (((F_ChainAlgebra_L1 np (Int.toNat (np - 0) + 1) ([]) 0).1).length) above4C_50 ((F_ChainAlgebra_L1 np (Int.toNat (np - 0) + 1) ([]) 0).1) w115 (St.rdO (i := 0) hS117 rfl) (by rw [hch]; exact hcm.1) (by rw [hch]; exact hcm.2)) ?_)
    rintro _ w124 ⟨b129, c130, h131, b132, c133, h134, b135, c136, h137, rfl, ho138⟩ a125 hE126; clear hE122
    have he128 := ho138.ext
    have hS127 := St.comp hS117 ho138 rfl; clear hS117
    simp only [List.cons_append, List.nil_append] at hS127
    refine q_step (v := .tuple #[.agg #[.slice b129 ((((F_heytingOf ((F_ChainAlgebra_L1 np (Int.toNat (np - 0) + 1) ([]) 0).1)).1).1).length) c130, .slice b132 ((((F_heytingOf ((F_ChainAlgebra_L1 np (Int.toNat (np - 0) + 1) ([]) 0).1)).1).2.1).length) c133, .slice b135 ((((F_heytingOf ((F_ChainAlgebra_L1 np (Int.toNat (np - 0) + 1) ([]) 0).1)).1).2.2.1).length) c136, .int .i64 (((F_heytingOf ((F_ChainAlgebra_L1 np (Int.toNat (np - 0) + 1) ([]) 0).1)).1).2.2.2.1), .int .i64 (((F_heytingOf ((F_ChainAlgebra_L1 np (Int.toNat (np - 0) + 1) ([]) 0).1)).1).2.2.2.2)], .bool ((F_heytingOf ((F_ChainAlgebra_L1 np (Int.toNat (np - 0) + 1) ([]) 0).1)).2)]) hE126 (y_move rfl) rfl rfl rfl ?_; intro a140 hE141; clear hE126
    refine q_step (v := .agg #[.slice b129 ((((F_heytingOf ((F_ChainAlgebra_L1 np (Int.toNat (np - 0) + 1) ([]) 0).1)).1).1).length) c130, .slice b132 ((((F_heytingOf ((F_ChainAlgebra_L1 np (Int.toNat (np - 0) + 1) ([]) 0).1)).1).2.1).length) c133, .slice b135 ((((F_heytingOf ((F_ChainAlgebra_L1 np (Int.toNat (np - 0) + 1) ([]) 0).1)).1).2.2.1).length) c136, .int .i64 (((F_heytingOf ((F_ChainAlgebra_L1 np (Int.toNat (np - 0) + 1) ([]) 0).1)).1).2.2.2.1), .int .i64 (((F_heytingOf ((F_ChainAlgebra_L1 np (Int.toNat (np - 0) + 1) ([]) 0).1)).1).2.2.2.2)]) hE141 (y_extract rfl rfl) rfl rfl rfl ?_; intro a142 hE143; clear hE141
    refine q_step (v := .bool ((F_heytingOf ((F_ChainAlgebra_L1 np (Int.toNat (np - 0) + 1) ([]) 0).1)).2)) hE143 (y_extract rfl rfl) rfl rfl rfl ?_; intro a144 hE145; clear hE143
    refine l_step hE145 rfl (l_alloc (z := .agg #[.slice none 0 0, .slice none 0 0, .slice none 0 0, .int .i64 0, .int .i64 0]) (cs := #[.slice none 0 0, .slice none 0 0, .slice none 0 0, .int .i64 0, .int .i64 0]) hS127 hE145 (fun _ => by kernel_rfl) rfl rfl ?_)
    intro b146 w147 hS150 he151 a148 hE149; clear hS127 hE145
    refine l_step hE149 rfl (l_storeS (k := 0) (cs' := #[.slice b129 ((((F_heytingOf ((F_ChainAlgebra_L1 np (Int.toNat (np - 0) + 1) ([]) 0).1)).1).1).length) c130, .slice b132 ((((F_heytingOf ((F_ChainAlgebra_L1 np (Int.toNat (np - 0) + 1) ([]) 0).1)).1).2.1).length) c133, .slice b135 ((((F_heytingOf ((F_ChainAlgebra_L1 np (Int.toNat (np - 0) + 1) ([]) 0).1)).1).2.2.1).length) c136, .int .i64 (((F_heytingOf ((F_ChainAlgebra_L1 np (Int.toNat (np - 0) + 1) ([]) 0).1)).1).2.2.2.1), .int .i64 (((F_heytingOf ((F_ChainAlgebra_L1 np (Int.toNat (np - 0) + 1) ([]) 0).1)).1).2.2.2.2)]) hS150 hE149 (by kernel_rfl) rfl rfl (by kernel_rfl) rfl rfl ?_)
    intro w153 hS156 a154 hE155; clear hS150 hE149
    refine q_step (v := .bool ((F_heytingOf ((F_ChainAlgebra_L1 np (Int.toNat (np - 0) + 1) ([]) 0).1)).2)) hE155 (y_assign rfl) rfl rfl rfl ?_; intro a158 hE159; clear hE155
    refine c_nil ?_
    have hE160 := hE159.sub (L' := [(2, .pointer (some ⟨b1, 0, none⟩)), (6, .pointer (some ⟨b146, 0, none⟩))]) ⟨rfl, rfl, trivial⟩; clear hE159
    refine p_tn ?_
    refine c_seq ?_
    refine c_reg ?_
    refine q_step (v := .agg #[.slice b129 ((((F_heytingOf ((F_ChainAlgebra_L1 np (Int.toNat (np - 0) + 1) ([]) 0).1)).1).1).length) c130, .slice b132 ((((F_heytingOf ((F_ChainAlgebra_L1 np (Int.toNat (np - 0) + 1) ([]) 0).1)).1).2.1).length) c133, .slice b135 ((((F_heytingOf ((F_ChainAlgebra_L1 np (Int.toNat (np - 0) + 1) ([]) 0).1)).1).2.2.1).length) c136, .int .i64 (((F_heytingOf ((F_ChainAlgebra_L1 np (Int.toNat (np - 0) + 1) ([]) 0).1)).1).2.2.2.1), .int .i64 (((F_heytingOf ((F_ChainAlgebra_L1 np (Int.toNat (np - 0) + 1) ([]) 0).1)).1).2.2.2.2)]) hE160 (y_loadS Try.underlying74 rfl (by kernel_rfl) rfl (St.row (i := 0) hS156 rfl)) rfl rfl rfl ?_; intro a161 hE162; clear hE160
    refine l_step hE162 rfl (l_storeS (k := 5) (cs' := #[.slice b129 ((((F_heytingOf ((F_ChainAlgebra_L1 np (Int.toNat (np - 0) + 1) ([]) 0).1)).1).1).length) c130, .slice b132 ((((F_heytingOf ((F_ChainAlgebra_L1 np (Int.toNat (np - 0) + 1) ([]) 0).1)).1).2.1).length) c133, .slice b135 ((((F_heytingOf ((F_ChainAlgebra_L1 np (Int.toNat (np - 0) + 1) ([]) 0).1)).1).2.2.1).length) c136, .int .i64 (((F_heytingOf ((F_ChainAlgebra_L1 np (Int.toNat (np - 0) + 1) ([]) 0).1)).1).2.2.2.1), .int .i64 (((F_heytingOf ((F_ChainAlgebra_L1 np (Int.toNat (np - 0) + 1) ([]) 0).1)).1).2.2.2.2)]) hS156 hE162 (by kernel_rfl) rfl rfl (by kernel_rfl) rfl rfl ?_)
    intro w164 hS167 a165 hE166; clear hS156 hE162
    refine q_step (v := .int .i64 0) hE166 (y_assign rfl) rfl rfl rfl ?_; intro a169 hE170; clear hE166
    refine c_nil ?_
    have hE171 := hE170.sub (L' := [(2, .pointer (some ⟨b1, 0, none⟩)), (3, .int .i64 0)]) ⟨rfl, rfl, trivial⟩; clear hE170
    refine p_tn ?_
    refine wp_ret ?_
    have hF : F_ChainAlgebra np = ((((F_heytingOf ((F_ChainAlgebra_L1 np (Int.toNat (np - 0) + 1) ([]) 0).1)).1).1, ((F_heytingOf ((F_ChainAlgebra_L1 np (Int.toNat (np - 0) + 1) ([]) 0).1)).1).2.1, ((F_heytingOf ((F_ChainAlgebra_L1 np (Int.toNat (np - 0) + 1) ([]) 0).1)).1).2.2.1, ((F_heytingOf ((F_ChainAlgebra_L1 np (Int.toNat (np - 0) + 1) ([]) 0).1)).1).2.2.2.1, ((F_heytingOf ((F_ChainAlgebra_L1 np (Int.toNat (np - 0) + 1) ([]) 0).1)).1).2.2.2.2), 0) := by unfold F_ChainAlgebra; rw [ht21]; first | done | rfl
    refine c_retC2 hE171 rfl rfl rfl Try.underlying74 rfl (by kernel_rfl) (St.row (i := 5) hS167 rfl _ (Ext.refl _)) ?_
    have hS9 := (St.pick (Γ' := [.nest 22 1 (some 2) b129 c130 h131 (((F_heytingOf ((F_ChainAlgebra_L1 np (Int.toNat (np - 0) + 1) ([]) 0).1)).1).1), .nest 22 1 (some 2) b132 c133 h134 (((F_heytingOf ((F_ChainAlgebra_L1 np (Int.toNat (np - 0) + 1) ([]) 0).1)).1).2.1), .nest 22 1 (some 2) b135 c136 h137 (((F_heytingOf ((F_ChainAlgebra_L1 np (Int.toNat (np - 0) + 1) ([]) 0).1)).1).2.2.1)]) hS167 [1, 2, 3] (by decide) rfl)
    exact ⟨b129, c130, h131, b132, c133, h134, b135, c136, h137, (by rw [hF]; first | done | (dsimp only; done) | rfl), (by rw [hF]; (try dsimp only); exact hS9)⟩
theorem heyL2_p (A : List Int) (x : Int) : ∀ (r : Nat) (t : Int) (a o : List Int), (match F_heytingOf_L2 A x r t a o with | .error e => e = (([], [], [], 0, 0), false) | .ok q => q.2.1.length = a.length ∧ q.2.2.length = o.length) := by
  intro r
  induction r with
  | zero => intro t a o; exact ⟨rfl, rfl⟩
  | succ r ih =>
    intro t a o
    show (match F_heytingOf_L2b A x (F_heytingOf_L2 A x r) t a o with | .error e => e = (([], [], [], 0, 0), false) | .ok q => q.2.1.length = a.length ∧ q.2.2.length = o.length)
    unfold F_heytingOf_L2b
    cases decide (t < (A.length : Int))
    · exact ⟨rfl, rfl⟩
    · rw [cond_true]
      generalize F_greatest (andI (gI (F_inverse A) x) (gI (F_inverse A) t)) (F_inverse A) = g1
      generalize F_greatest (andI (gI A x) (gI A t)) A = g2
      cases g1.2
      · rfl
      · cases g2.2
        · rfl
        · have h := ih (t + 1) (sI a t g1.1) (sI o t g2.1)
          rw [sI_len, sI_len] at h
          exact h
theorem heyL1_p (A : List Int) (hn : A.length ≤ 30) : ∀ (r : Nat) (x : Int) (a o : List (List Int)), (match F_heytingOf_L1 A r x a o with | .error e => e = (([], [], [], 0, 0), false) | .ok q => totL q.2.1 ≤ totL a + 30 * ((A.length : Int) - x).toNat ∧ totL q.2.2 ≤ totL o + 30 * ((A.length : Int) - x).toNat) := by
  intro r
  induction r with
  | zero => intro x a o; exact ⟨Nat.le_add_right _ _, Nat.le_add_right _ _⟩
  | succ r ih =>
    intro x a o
    show (match F_heytingOf_L1b A (F_heytingOf_L1 A r) x a o with | .error e => e = (([], [], [], 0, 0), false) | .ok q => totL q.2.1 ≤ totL a + 30 * ((A.length : Int) - x).toNat ∧ totL q.2.2 ≤ totL o + 30 * ((A.length : Int) - x).toNat)
    unfold F_heytingOf_L1b
    by_cases hx : x < (A.length : Int)
    · rw [decide_eq_true hx, cond_true]
      have hp := heyL2_p A x (Int.toNat ((A.length : Int) - 0) + 1) 0 (List.replicate (Int.toNat (A.length : Int)) 0) (List.replicate (Int.toNat (A.length : Int)) 0)
      generalize F_heytingOf_L2 A x (Int.toNat ((A.length : Int) - 0) + 1) 0 (List.replicate (Int.toNat (A.length : Int)) 0) (List.replicate (Int.toNat (A.length : Int)) 0) = q at hp ⊢
      cases q with
      | error e => exact hp
      | ok v =>
        have h := ih (x + 1) (a ++ [v.2.1]) (o ++ [v.2.2])
        obtain ⟨hp1, hp2⟩ := hp
        rw [List.length_replicate] at hp1 hp2
        show (match F_heytingOf_L1 A r (x + 1) (a ++ [v.2.1]) (o ++ [v.2.2]) with | .error e => e = (([], [], [], 0, 0), false) | .ok q => totL q.2.1 ≤ totL a + 30 * ((A.length : Int) - x).toNat ∧ totL q.2.2 ≤ totL o + 30 * ((A.length : Int) - x).toNat)
        generalize F_heytingOf_L1 A r (x + 1) (a ++ [v.2.1]) (o ++ [v.2.2]) = z at h ⊢
        cases z with
        | error e => exact h
        | ok q =>
          have h : totL q.2.1 ≤ totL (a ++ [v.2.1]) + 30 * ((A.length : Int) - (x + 1)).toNat ∧ totL q.2.2 ≤ totL (o ++ [v.2.2]) + 30 * ((A.length : Int) - (x + 1)).toNat := h
          rw [totL_app, totL_app, show totL [v.2.1] = v.2.1.length from rfl, show totL [v.2.2] = v.2.2.length from rfl] at h
          show totL q.2.1 ≤ totL a + 30 * ((A.length : Int) - x).toNat ∧ totL q.2.2 ≤ totL o + 30 * ((A.length : Int) - x).toNat
          omega
    · rw [decide_eq_false hx, cond_false]
      exact ⟨Nat.le_add_right _ _, Nat.le_add_right _ _⟩
theorem heyL4_p (A : List Int) (x : Int) : ∀ (r : Nat) (t : Int) (a : List Int), (match F_heytingOf_L4 A x r t a with | .error e => e = (([], [], [], 0, 0), false) | .ok q => q.2.length = a.length) := by
  intro r
  induction r with
  | zero => intro t a; exact rfl
  | succ r ih =>
    intro t a
    show (match F_heytingOf_L4b A x (F_heytingOf_L4 A x r) t a with | .error e => e = (([], [], [], 0, 0), false) | .ok q => q.2.length = a.length)
    unfold F_heytingOf_L4b
    cases decide (t < (A.length : Int))
    · exact rfl
    · rw [cond_true]
      generalize F_greatest _ (F_inverse A) = g1
      cases g1.2
      · rfl
      · have h := ih (t + 1) (sI a t g1.1)
        rw [sI_len] at h
        exact h
theorem heyL3_p (A : List Int) (hn : A.length ≤ 30) : ∀ (r : Nat) (x : Int) (a : List (List Int)), (match F_heytingOf_L3 A r x a with | .error e => e = (([], [], [], 0, 0), false) | .ok q => totL q.2 ≤ totL a + 30 * ((A.length : Int) - x).toNat) := by
  intro r
  induction r with
  | zero => intro x a; exact Nat.le_add_right _ _
  | succ r ih =>
    intro x a
    show (match F_heytingOf_L3b A (F_heytingOf_L3 A r) x a with | .error e => e = (([], [], [], 0, 0), false) | .ok q => totL q.2 ≤ totL a + 30 * ((A.length : Int) - x).toNat)
    unfold F_heytingOf_L3b
    by_cases hx : x < (A.length : Int)
    · rw [decide_eq_true hx, cond_true]
      have hp := heyL4_p A x (Int.toNat ((A.length : Int) - 0) + 1) 0 (List.replicate (Int.toNat (A.length : Int)) 0)
      generalize F_heytingOf_L4 A x (Int.toNat ((A.length : Int) - 0) + 1) 0 (List.replicate (Int.toNat (A.length : Int)) 0) = q at hp ⊢
      cases q with
      | error e => exact hp
      | ok v =>
        have h := ih (x + 1) (a ++ [v.2])
        have hp : v.2.length = (List.replicate (Int.toNat (A.length : Int)) (0 : Int)).length := hp
        rw [List.length_replicate] at hp
        show (match F_heytingOf_L3 A r (x + 1) (a ++ [v.2]) with | .error e => e = (([], [], [], 0, 0), false) | .ok q => totL q.2 ≤ totL a + 30 * ((A.length : Int) - x).toNat)
        generalize F_heytingOf_L3 A r (x + 1) (a ++ [v.2]) = z at h ⊢
        cases z with
        | error e => exact h
        | ok q =>
          have h : totL q.2 ≤ totL (a ++ [v.2]) + 30 * ((A.length : Int) - (x + 1)).toNat := h
          rw [totL_app, show totL [v.2] = v.2.length from rfl] at h
          show totL q.2 ≤ totL a + 30 * ((A.length : Int) - x).toNat
          omega
    · rw [decide_eq_false hx, cond_false]
      exact Nat.le_add_right _ _
theorem heyting_tot (A : List Int) (hn : A.length ≤ 30) : totL (F_heytingOf A).1.1 ≤ 900 ∧ totL (F_heytingOf A).1.2.1 ≤ 900 ∧ totL (F_heytingOf A).1.2.2.1 ≤ 900 := by
  have h0 : totL [] ≤ 900 ∧ totL [] ≤ 900 ∧ totL [] ≤ 900 := by decide
  have p1 := heyL1_p A hn (Int.toNat ((A.length : Int) - 0) + 1) 0 [] []
  have p3 := heyL3_p A hn (Int.toNat ((A.length : Int) - 0) + 1) 0 []
  unfold F_heytingOf
  cases decide ((A.length : Int) = 0)
  · cases F_Frame_hasFlag (F_frameOf A).1 A 0
    · exact h0
    · cases F_Frame_hasFlag (F_frameOf A).1 A 2
      · exact h0
      · cases F_Frame_hasFlag (F_frameOf A).1 A 8
        · exact h0
        · simp only [Bool.not_true, cond_false]
          generalize F_heytingOf_L1 A (Int.toNat ((A.length : Int) - 0) + 1) 0 [] [] = z1 at p1 ⊢
          generalize F_heytingOf_L3 A (Int.toNat ((A.length : Int) - 0) + 1) 0 [] = z3 at p3 ⊢
          cases z1 with
          | error e =>
            have p1 : e = (([], [], [], 0, 0), false) := p1
            subst p1
            exact h0
          | ok q1 =>
            have p1 : totL q1.2.1 ≤ totL [] + 30 * ((A.length : Int) - 0).toNat ∧ totL q1.2.2 ≤ totL [] + 30 * ((A.length : Int) - 0).toNat := p1
            cases z3 with
            | error e =>
              have p3 : e = (([], [], [], 0, 0), false) := p3
              subst p3
              exact h0
            | ok q3 =>
              have p3 : totL q3.2 ≤ totL [] + 30 * ((A.length : Int) - 0).toNat := p3
              rw [show totL [] = 0 from rfl] at p1 p3
              show totL q1.2.1 ≤ 900 ∧ totL q1.2.2 ≤ 900 ∧ totL q3.2 ≤ 900
              omega
  · exact h0
theorem ChainAlgebra_tot (np : Int) : totL (F_ChainAlgebra np).1.1 ≤ 900 ∧ totL (F_ChainAlgebra np).1.2.1 ≤ 900 ∧ totL (F_ChainAlgebra np).1.2.2.1 ≤ 900 := by
  unfold F_ChainAlgebra
  by_cases h : 1 ≤ np ∧ np ≤ 30
  · rw [show F_inRange np 1 30 = true by unfold F_inRange; rw [decide_eq_true h.1, decide_eq_true h.2]; rfl, Bool.not_true, cond_false, chain_i h.1 h.2]
    exact heyting_tot _ (chainL_mm h.1 h.2).1
  · rw [show F_inRange np 1 30 = false by
      unfold F_inRange
      rw [Bool.and_eq_false_iff]
      by_cases h1 : 1 ≤ np
      · right; exact decide_eq_false (by omega)
      · left; exact decide_eq_false h1]
    exact (by decide : totL [] ≤ 900 ∧ totL [] ≤ 900 ∧ totL [] ≤ 900)
end Go.Proofs.Ytkilkfhjfobcdaa
