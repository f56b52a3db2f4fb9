/- GDWI: models and contracts, printed by wip/gen/gen.py -/
import Derived.Test.YtlbonhloeefnmaaKDWGDW0
import Derived.Test.YtlbonhloeefnmaaKDWGDWR
set_option linter.unusedVariables false
set_option linter.unusedSimpArgs false
namespace Go.Proofs.Ytlbonhloeefnmaa
open Go.RowKit
/-- All numbers of a list are between 0 and b. -/
def BdL (xs : List Int) (b : Int) : Prop := ∀ m : Int, 0 ≤ gI xs m ∧ gI xs m ≤ b
theorem BdL.mono {xs : List Int} {b b' : Int} (h : BdL xs b) (hb : b ≤ b') : BdL xs b' := fun m => by have := h m; omega
theorem gI_sIm (xs : List Int) (t v m : Int) : gI (sI xs t v) m = v ∨ gI (sI xs t v) m = gI xs m := by
  unfold sI gI
  by_cases h : t.toNat < xs.length
  · rw [gi_set h]
    by_cases e : t.toNat = m.toNat
    · rw [if_pos e]; exact Or.inl rfl
    · rw [if_neg e]; exact Or.inr rfl
  · rw [List.set_eq_of_length_le (by omega)]; exact Or.inr rfl
theorem BdL.step {out : List Int} {B B' x y : Int} (c : Bool) (h : BdL out B) (hB : B + 1 ≤ B') : BdL (bif c then sI out x (max (gI out x) (gI out y + 1)) else out) B' := fun m => by
  have h1 := h m
  have h2 := h x
  have h3 := h y
  cases c
  · rw [cond_false]; omega
  · rw [cond_true]
    rcases gI_sIm out x (max (gI out x) (gI out y + 1)) m with e | e <;> rw [e] <;> omega
theorem bd_rep (n : Nat) : BdL (List.replicate n 1) 1 := fun m => by
  unfold gI gi
  rw [List.getD_eq_getElem?_getD, List.getElem?_replicate]
  split <;> decide
theorem FrP.of {f0 : Int} {f1 : List Int} (hi : F_l05Is f0 f1 = true) : FrP f0 f1 := ⟨(l05Is_t hi).1, (l05Is_t hi).2, l05Is_m hi⟩
theorem reached_mk {f0 : Int} {f1 : List Int} (hi : F_l05Is f0 f1 = true) {x : Int} (h0 : 0 ≤ x) (h1 : x < f0) : Mk f0.toNat (gI (F_Frame_reachable f0 f1) x) := by
  obtain ⟨n, rfl⟩ : ∃ n : Nat, x = (n : Int) := ⟨x.toNat, by omega⟩
  rw [reach_row hi n h1]
  exact (rch_rc (FrP.of hi) h1).1
theorem reached_62 {f0 : Int} {f1 : List Int} (hi : F_l05Is f0 f1 = true) {x : Int} (h0 : 0 ≤ x) (h1 : x < f0) : 0 ≤ gI (F_Frame_reachable f0 f1) x ∧ gI (F_Frame_reachable f0 f1) x < 4611686018427387904 := by
  have h8 := (l05Is_t hi).1
  have h := reached_mk hi h0 h1
  have := fullI_bd (n := ((f0.toNat : Nat) : Int)) (by omega) (by omega)
  have := h.1
  have := h.2
  omega
theorem mem_rng {f0 : Int} {f1 : List Int} (hi : F_l05Is f0 f1 = true) {x : Int} (h0 : 0 ≤ x) (h1 : x < f0) : ((F_membersOf (gI (F_Frame_reachable f0 f1) x)).length : Int) ≤ 8 ∧ ∀ t : Int, 0 ≤ t → t < ((F_membersOf (gI (F_Frame_reachable f0 f1) x)).length : Int) → 0 ≤ gI (F_membersOf (gI (F_Frame_reachable f0 f1) x)) t ∧ gI (F_membersOf (gI (F_Frame_reachable f0 f1) x)) t < f0 := by
  have h8 := (l05Is_t hi).1
  have h := reached_mk hi h0 h1
  have hl := members_len (n := f0.toNat) (by omega) h.1 h.2
  refine ⟨by omega, fun t a b => ?_⟩
  have := members_mem (n := f0.toNat) (by omega) h.1 h.2 (gI_mem a b)
  omega
def F_Frame_worldDepths_L3b (f0 : Int) (f1 : List Int) (t23L2 : Int) (rec : Int → (List Int) → Int × (List Int)) (t32L3 : Int) (out5L3 : List Int) : Int × (List Int) :=
  bif (decide (t32L3 < ((F_membersOf (gI (F_Frame_reachable f0 f1) t23L2)).length : Int))) then (rec (t32L3 + 1) (bif (!decide ((gI (F_Frame_clusters f0 f1) t23L2) = (gI (F_Frame_clusters f0 f1) (gI (F_membersOf (gI (F_Frame_reachable f0 f1) t23L2)) t32L3)))) then sI out5L3 t23L2 (max (gI out5L3 t23L2) ((gI out5L3 (gI (F_membersOf (gI (F_Frame_reachable f0 f1) t23L2)) t32L3)) + 1)) else out5L3)) else (t32L3, out5L3)
def F_Frame_worldDepths_L3 (f0 : Int) (f1 : List Int) (t23L2 : Int) : Nat → Int → (List Int) → Int × (List Int)
  | 0, t32L3, out5L3 => (t32L3, out5L3)
  | r + 1, t32L3, out5L3 => F_Frame_worldDepths_L3b f0 f1 t23L2 (F_Frame_worldDepths_L3 f0 f1 t23L2 r) t32L3 out5L3
def F_Frame_worldDepths_L2b (f0 : Int) (f1 : List Int) (rec : Int → (List Int) → Int × (List Int)) (t23L2 : Int) (out5L2 : List Int) : Int × (List Int) :=
  bif (decide (t23L2 < f0)) then (rec (t23L2 + 1) ((F_Frame_worldDepths_L3 f0 f1 t23L2 (Int.toNat (((F_membersOf (gI (F_Frame_reachable f0 f1) t23L2)).length : Int) - 0) + 1) 0 out5L2).2)) else (t23L2, out5L2)
def F_Frame_worldDepths_L2 (f0 : Int) (f1 : List Int) : Nat → Int → (List Int) → Int × (List Int)
  | 0, t23L2, out5L2 => (t23L2, out5L2)
  | r + 1, t23L2, out5L2 => F_Frame_worldDepths_L2b f0 f1 (F_Frame_worldDepths_L2 f0 f1 r) t23L2 out5L2
def F_Frame_worldDepths_L1b (f0 : Int) (f1 : List Int) (rec : Int → (List Int) → Int × (List Int)) (t19 : Int) (out5 : List Int) : Int × (List Int) :=
  bif (decide (t19 < f0)) then (rec (t19 + 1) ((F_Frame_worldDepths_L2 f0 f1 (Int.toNat (f0 - 0) + 1) 0 out5).2)) else (t19, out5)
def F_Frame_worldDepths_L1 (f0 : Int) (f1 : List Int) : Nat → Int → (List Int) → Int × (List Int)
  | 0, t19, out5 => (t19, out5)
  | r + 1, t19, out5 => F_Frame_worldDepths_L1b f0 f1 (F_Frame_worldDepths_L1 f0 f1 r) t19 out5
def F_Frame_worldDepths (f0 : Int) (f1 : List Int) : List Int :=
  (F_Frame_worldDepths_L1 f0 f1 (Int.toNat (f0 - 0) + 1) 0 (F_z_Repeat ([1]) f0)).2
theorem cf_Frame_worldDepths (args : Array Value) (w : World) : (callFunc 97 args).run Try.prog w = .ok (.enter 97 args) w := by kernel_rfl
set_option maxRecDepth 100000 in
theorem c_Frame_worldDepths (f0 : Int) (f1A : Option Addr) (f1N f1C : Nat) (f1 : List Int) (w : World) (f1R : RdS w 1 f1A f1N f1C f1) (hi : F_l05Is f0 f1 = true) :
    Calls Try.prog 97 #[.agg #[.int .i64 f0, .slice f1A f1N f1C]] w (Ret fun v w' => ∃ b1 : Option Addr, ∃ c1 : Nat, v = .slice b1 (F_Frame_worldDepths f0 f1).length c1 ∧ OwnS w' w.heap.size 2 1 b1 (F_Frame_worldDepths f0 f1).length c1 (F_Frame_worldDepths f0 f1) ∧ Ext w w') := by
  obtain rfl : f1N = f1.length := f1R.len1.symm
  have f1Le := f1R.le
  have hf := l05Is_t hi
  have hS := St.nil w
  have hS1 := St.rd0 hS rfl f1R; clear hS
  refine enter (args := [.agg #[.int .i64 f0, .slice f1A f1.length f1C]]) Try.func97 rfl rfl ?_
  rw [Try.ntmps97]; intro a hE
  have hE := hE.sub (L' := [(0, .agg #[.int .i64 f0, .slice f1A f1.length f1C])]) ⟨rfl, trivial⟩
  refine c_seq ?_
  refine c_reg ?_
  refine l_step hE rfl (l_box (v := .agg #[.int .i64 f0, .slice f1A f1.length f1C]) (cs := #[.int .i64 f0, .slice f1A f1.length f1C]) hS1 hE rfl rfl rfl ?_)
  intro b2 w3 hS6 he7 a4 hE5; clear hS1 hE
  refine q_step (v := .slice none 0 0) hE5 (y_assign rfl) rfl rfl rfl ?_; intro a8 hE9; clear hE5
  refine c_nil ?_
  have hE10 := hE9.sub (L' := [(1, .pointer (some ⟨b2, 0, none⟩))]) ⟨rfl, trivial⟩; clear hE9
  refine p_tn ?_
  refine c_seq ?_
  refine d_start (fun w w' => (fun w' => w'.heap[b2]? = some (.cells #[.int .i64 f0, .slice f1A f1.length f1C] 30 (0, 0)) ∧ w'.heap[b2]? = some (.cells #[.int .i64 f0, .slice f1A f1.length f1C] 30 (0, 0)) ∧ True) w → (fun w' => w'.heap[b2]? = some (.cells #[.int .i64 f0, .slice f1A f1.length f1C] 30 (0, 0)) ∧ w'.heap[b2]? = some (.cells #[.int .i64 f0, .slice f1A f1.length f1C] 30 (0, 0)) ∧ True) w') [0, 2] 6 (by kernel_rfl) rfl ?_
  intro w11 he12; have hS13 := St.go hS6 he12; clear hS6
  refine d_take (fun _ h => h) (fun _ _ h k => h k) (v := .agg #[.int .i64 f0, .slice f1A f1.length f1C]) 0 rfl hE10 (S := fun w' => w'.heap[b2]? = some (.cells #[.int .i64 f0, .slice f1A f1.length f1C] 30 (0, 0)) ∧ w'.heap[b2]? = some (.cells #[.int .i64 f0, .slice f1A f1.length f1C] 30 (0, 0)) ∧ True) ⟨(St.row (i := 0) hS13 rfl _ (Ext.refl _)), (St.row (i := 0) hS13 rfl _ (Ext.refl _)), trivial⟩ (y_loadS Try.underlying30 rfl (by kernel_rfl) rfl (fun _ h => h.1)) rfl rfl (by kernel_rfl) (by kernel_rfl) (by kernel_rfl) (by kernel_rfl) rfl rfl (fun _ _ _ h => h) ?_; intro a14 hE15; clear hE10
  refine d_take (fun _ h => h) (fun _ _ h k => h k) (v := .agg #[.int .i64 f0, .slice f1A f1.length f1C]) 2 rfl hE15 (S := fun w' => w'.heap[b2]? = some (.cells #[.int .i64 f0, .slice f1A f1.length f1C] 30 (0, 0)) ∧ w'.heap[b2]? = some (.cells #[.int .i64 f0, .slice f1A f1.length f1C] 30 (0, 0)) ∧ True) ⟨(St.row (i := 0) hS13 rfl _ (Ext.refl _)), (St.row (i := 0) hS13 rfl _ (Ext.refl _)), trivial⟩ (y_loadS Try.underlying30 rfl (by kernel_rfl) rfl (fun _ h => h.2.1)) rfl rfl (by kernel_rfl) (by kernel_rfl) (by kernel_rfl) (by kernel_rfl) rfl rfl (fun _ _ _ h => h) ?_; intro a16 hE17; clear hE15
  refine d_only 1 (by kernel_rfl) rfl hE17 rfl (l_call (f := 167) (argv := [.agg #[.int .i64 f0, .slice f1A f1.length f1C]]) hE17 (fun _ => cf_Frame_reachable _ _) rfl rfl (c_Frame_reachable f0 f1A f1.length f1C f1 w11 (St.rdR (i := 1) hS13 rfl) (by omega)) ?_)
  rintro _ w19 ⟨b24, c25, rfl, ho26, he23⟩ a20 hE21; clear hE17
  have hf27 := reachable_len f0 f1
  have hS22 := St.own hS13 he23 ho26; clear hS13
  refine ⟨fun _ _ => ⟨(St.row (i := 1) hS22 rfl _ (Ext.refl _)), (St.row (i := 1) hS22 rfl _ (Ext.refl _)), trivial⟩, ?_⟩
  refine d_only 3 (by kernel_rfl) rfl hE21 rfl (l_call (f := 168) (argv := [.agg #[.int .i64 f0, .slice f1A f1.length f1C]]) hE21 (fun _ => cf_Frame_clusters _ _) rfl rfl (c_Frame_clusters f0 f1A f1.length f1C f1 w19 (St.rdR (i := 2) hS22 rfl) (by omega) (by omega)) ?_)
  rintro _ w29 ⟨b34, c35, rfl, ho36, he33⟩ a30 hE31; clear hE21
  have hcll := clusters_len f0 f1
  have hS32 := St.own hS22 he33 ho36; clear hS22
  refine ⟨fun h => Bool.noConfusion (h.symm.trans (show exm _ _ _ = true by kernel_rfl)), ?_⟩
  refine d_pure (fun _ h => h) (v := .slice b24 ((F_Frame_reachable f0 f1).length) c25) 4 rfl hE31 (y_assign rfl) rfl (by kernel_rfl) (by kernel_rfl) (by kernel_rfl) rfl rfl (fun _ _ _ h => h) ?_; intro a37 hE38; clear hE31
  refine d_pure (fun _ h => h) (v := .slice b34 ((F_Frame_clusters f0 f1).length) c35) 5 rfl hE38 (y_assign rfl) rfl (by kernel_rfl) (by kernel_rfl) (by kernel_rfl) rfl rfl (fun _ _ _ h => h) ?_; intro a39 hE40; clear hE38
  refine d_done (by kernel_rfl) ?_
  have hE41 := hE40.sub (L' := [(1, .pointer (some ⟨b2, 0, none⟩)), (3, .slice b24 ((F_Frame_reachable f0 f1).length) c25), (4, .slice b34 ((F_Frame_clusters f0 f1).length) c35)]) ⟨rfl, rfl, rfl, trivial⟩; clear hE40
  refine p_tn ?_
  refine c_seq ?_
  refine c_reg ?_
  refine l_step hE41 rfl (l_lit (e := 2) (s := 1) (xs := [1]) (vs := [.int .i64 1]) hS32 hE41 rfl (fun _ => by kernel_rfl) rfl rfl rfl ?_)
  intro b42 w43 hS46 he47 a44 hE45; clear hS32 hE41
  refine q_step (v := .pointer (some ⟨b2, 0, none⟩)) hE45 (y_field rfl (fun _ => by kernel_rfl)) rfl rfl rfl ?_; intro a48 hE49; clear hE45
  refine q_step (v := .int .i64 f0) hE49 (y_load (fun _ => by kernel_rfl) rfl (St.cell (i := 3) hS46 rfl rfl)) rfl rfl rfl ?_; intro a50 hE51; clear hE49
  refine l_step hE51 rfl (l_call (f := 169) (argv := [.slice (some ⟨b42, 0, none⟩) 1 1, .int .i64 f0]) hE51 (fun _ => cf_z_Repeat _ _) rfl rfl (c_z_Repeat (some ⟨b42, 0, none⟩) 1 1 ([1]) f0 w43 (St.rdO (i := 0) hS46 rfl) rfl ⟨by omega, by omega⟩) ?_)
  rintro _ w53 ⟨b58, c59, rfl, ho60, he57⟩ a54 hE55; clear hE51
  have hrep := repeat_one f0 (by omega) (by omega)
  have hrepl : (F_z_Repeat [1] f0).length = f0.toNat := by rw [hrep, List.length_replicate]
  have hS56 := St.own hS46 he57 ho60; clear hS46
  refine q_step (v := .slice b58 ((F_z_Repeat ([1]) f0).length) c59) hE55 (y_assign rfl) rfl rfl rfl ?_; intro a61 hE62; clear hE55
  refine c_nil ?_
  have hE63 := hE62.sub (L' := [(1, .pointer (some ⟨b2, 0, none⟩)), (3, .slice b24 ((F_Frame_reachable f0 f1).length) c25), (4, .slice b34 ((F_Frame_clusters f0 f1).length) c35), (5, .slice b58 ((F_z_Repeat ([1]) f0).length) c59)]) ⟨rfl, rfl, rfl, rfl, trivial⟩; clear hE62
  refine p_tn ?_
  refine c_seq ?_
  refine c_seq ?_
  refine c_reg ?_
  refine q_step (v := .pointer (some ⟨b2, 0, none⟩)) hE63 (y_field rfl (fun _ => by kernel_rfl)) rfl rfl rfl ?_; intro a64 hE65; clear hE63
  refine q_step (v := .int .i64 f0) hE65 (y_load (fun _ => by kernel_rfl) rfl (St.cell (i := 4) hS56 rfl rfl)) rfl rfl rfl ?_; intro a66 hE67; clear hE65
  refine q_step (v := .int .i64 0) hE67 (y_move rfl) rfl rfl rfl ?_; intro a68 hE69; clear hE67
  refine c_nil ?_
  have hE70 := hE69.sub (L' := [(1, .pointer (some ⟨b2, 0, none⟩)), (3, .slice b24 ((F_Frame_reachable f0 f1).length) c25), (4, .slice b34 ((F_Frame_clusters f0 f1).length) c35), (5, .slice b58 ((F_z_Repeat ([1]) f0).length) c59), (18, .int .i64 f0), (19, .int .i64 0)]) ⟨rfl, rfl, rfl, rfl, rfl, rfl, trivial⟩; clear hE69
  refine p_tn ?_
  refine c_cut1 (fun a' w' => (0 ≤ ((F_Frame_worldDepths_L1 f0 f1 (Int.toNat (f0 - 0) + 1) 0 (F_z_Repeat ([1]) f0)).1)) ∧ ((((F_Frame_worldDepths_L1 f0 f1 (Int.toNat (f0 - 0) + 1) 0 (F_z_Repeat ([1]) f0)).2).length : Int) = f0) ∧ (BdL ((F_Frame_worldDepths_L1 f0 f1 (Int.toNat (f0 - 0) + 1) 0 (F_z_Repeat ([1]) f0)).2) (1 + 64 * ((F_Frame_worldDepths_L1 f0 f1 (Int.toNat (f0 - 0) + 1) 0 (F_z_Repeat ([1]) f0)).1))) ∧ E a' 62 [(1, .pointer (some ⟨b2, 0, none⟩)), (3, .slice b24 ((F_Frame_reachable f0 f1).length) c25), (4, .slice b34 ((F_Frame_clusters f0 f1).length) c35), (5, .slice b58 ((F_z_Repeat ([1]) f0).length) c59), (18, .int .i64 f0), (19, .int .i64 ((F_Frame_worldDepths_L1 f0 f1 (Int.toNat (f0 - 0) + 1) 0 (F_z_Repeat ([1]) f0)).1))] ∧ St w w' [.own 2 1 b58 ((F_z_Repeat ([1]) f0).length) c59 ((F_Frame_worldDepths_L1 f0 f1 (Int.toNat (f0 - 0) + 1) 0 (F_z_Repeat ([1]) f0)).2), .own 2 1 (some ⟨b42, 0, none⟩) 1 1 ([1]), .own 2 1 b34 ((F_Frame_clusters f0 f1).length) c35 (F_Frame_clusters f0 f1), .own 2 1 b24 ((F_Frame_reachable f0 f1).length) c25 (F_Frame_reachable f0 f1), .blk b2 #[.int .i64 f0, .slice f1A f1.length f1C] 30, .rd 1 f1A f1.length f1C f1]) ?_ ?_
  ·
   refine wp_block ?_
   refine c_loop (fun r a' w' => ∃ t19 : Int, ∃ out5 : List Int, F_Frame_worldDepths_L1 f0 f1 r t19 out5 = F_Frame_worldDepths_L1 f0 f1 (Int.toNat (f0 - 0) + 1) 0 (F_z_Repeat ([1]) f0) ∧ Int.toNat (f0 - t19) < r ∧ (0 ≤ t19) ∧ ((out5.length : Int) = f0) ∧ (BdL out5 (1 + 64 * t19)) ∧ E a' 62 [(1, .pointer (some ⟨b2, 0, none⟩)), (3, .slice b24 ((F_Frame_reachable f0 f1).length) c25), (4, .slice b34 ((F_Frame_clusters f0 f1).length) c35), (5, .slice b58 ((F_z_Repeat ([1]) f0).length) c59), (18, .int .i64 f0), (19, .int .i64 t19)] ∧ St w w' [.own 2 1 b58 ((F_z_Repeat ([1]) f0).length) c59 out5, .own 2 1 (some ⟨b42, 0, none⟩) 1 1 ([1]), .own 2 1 b34 ((F_Frame_clusters f0 f1).length) c35 (F_Frame_clusters f0 f1), .own 2 1 b24 ((F_Frame_reachable f0 f1).length) c25 (F_Frame_reachable f0 f1), .blk b2 #[.int .i64 f0, .slice f1A f1.length f1C] 30, .rd 1 f1A f1.length f1C f1]) (r := (Int.toNat (f0 - 0) + 1)) ?_ ?_
   · exact ⟨0, F_z_Repeat ([1]) f0, rfl, Nat.lt_succ_self _, (by first | omega | (simp only [sS_len, sL_len]; omega) | (simp only [List.length_replicate, sI_len]; omega) | (simp only [List.length_append, List.length_cons, List.length_nil, sI_len, cond_true, cond_false]; omega) | (simp only [List.length_append, List.length_cons, List.length_nil, sI_len, cond_eq_ite, apply_ite List.length]; split <;> simp only [List.length_append, List.length_cons, List.length_nil, sI_len] <;> omega) | grind), (by first | omega | (simp only [sS_len, sL_len]; omega) | (simp only [List.length_replicate, sI_len]; omega) | (simp only [List.length_append, List.length_cons, List.length_nil, sI_len, cond_true, cond_false]; omega) | (simp only [List.length_append, List.length_cons, List.length_nil, sI_len, cond_eq_ite, apply_ite List.length]; split <;> simp only [List.length_append, List.length_cons, List.length_nil, sI_len] <;> omega) | grind), (by rw [hrep]; exact BdL.mono (bd_rep _) (by omega)), (hE70.sub (L' := [(1, .pointer (some ⟨b2, 0, none⟩)), (3, .slice b24 ((F_Frame_reachable f0 f1).length) c25), (4, .slice b34 ((F_Frame_clusters f0 f1).length) c35), (5, .slice b58 ((F_z_Repeat ([1]) f0).length) c59), (18, .int .i64 f0), (19, .int .i64 0)]) ⟨rfl, rfl, rfl, rfl, rfl, rfl, trivial⟩), (St.pick (Γ' := [.own 2 1 b58 ((F_z_Repeat ([1]) f0).length) c59 (F_z_Repeat ([1]) f0), .own 2 1 (some ⟨b42, 0, none⟩) 1 1 ([1]), .own 2 1 b34 ((F_Frame_clusters f0 f1).length) c35 (F_Frame_clusters f0 f1), .own 2 1 b24 ((F_Frame_reachable f0 f1).length) c25 (F_Frame_reachable f0 f1), .blk b2 #[.int .i64 f0, .slice f1A f1.length f1C] 30, .rd 1 f1A f1.length f1C f1]) hS56 [0, 1, 2, 3, 4, 5] (by decide) rfl)⟩
   ·
    clear hE70 hS56
    rintro r81 a72 w73 ⟨t19, out5, hT76, hr77, hi78, hi79, hi80, hE74, hS75⟩
    obtain ⟨r81, rfl⟩ : ∃ r', r81 = r' + 1 := ⟨r81 - 1, by omega⟩
    refine c_seq ?_
    refine c_reg ?_
    refine q_step (v := .bool (decide (t19 < f0))) hE74 (y_lss rfl rfl) rfl rfl rfl ?_; intro a82 hE83; clear hE74
    refine c_nil ?_
    have hE84 := hE83.sub (L' := [(1, .pointer (some ⟨b2, 0, none⟩)), (3, .slice b24 ((F_Frame_reachable f0 f1).length) c25), (4, .slice b34 ((F_Frame_clusters f0 f1).length) c35), (5, .slice b58 ((F_z_Repeat ([1]) f0).length) c59), (18, .int .i64 f0), (19, .int .i64 t19), (20, .bool (decide (t19 < f0)))]) ⟨rfl, rfl, rfl, rfl, rfl, rfl, rfl, trivial⟩; clear hE83
    refine p_tn ?_
    refine c_seq ?_
    refine c_cond hE84 rfl (fun ht85 => ?_) (fun ht85 => ?_)
    ·
     have hp86 := of_decide_eq_true ht85
     have hE87 := hE84; rw [ht85] at hE87; clear hE84
     refine wp_skip ?_
     refine p_tn ?_
     refine c_seq ?_
     refine wp_block ?_
     refine c_seq ?_
     refine c_reg ?_
     refine q_step (v := .pointer (some ⟨b2, 0, none⟩)) hE87 (y_field rfl (fun _ => by kernel_rfl)) rfl rfl rfl ?_; intro a88 hE89; clear hE87
     refine q_step (v := .int .i64 f0) hE89 (y_load (fun _ => by kernel_rfl) rfl (St.cell (i := 4) hS75 rfl rfl)) rfl rfl rfl ?_; intro a90 hE91; clear hE89
     refine q_step (v := .int .i64 0) hE91 (y_move rfl) rfl rfl rfl ?_; intro a92 hE93; clear hE91
     refine c_nil ?_
     have hE94 := hE93.sub (L' := [(1, .pointer (some ⟨b2, 0, none⟩)), (3, .slice b24 ((F_Frame_reachable f0 f1).length) c25), (4, .slice b34 ((F_Frame_clusters f0 f1).length) c35), (5, .slice b58 ((F_z_Repeat ([1]) f0).length) c59), (18, .int .i64 f0), (19, .int .i64 t19), (22, .int .i64 f0), (23, .int .i64 0)]) ⟨rfl, rfl, rfl, rfl, rfl, rfl, rfl, rfl, trivial⟩; clear hE93
     refine p_tn ?_
     refine c_cut1 (fun a' w' => (0 ≤ ((F_Frame_worldDepths_L2 f0 f1 (Int.toNat (f0 - 0) + 1) 0 out5).1)) ∧ ((((F_Frame_worldDepths_L2 f0 f1 (Int.toNat (f0 - 0) + 1) 0 out5).2).length : Int) = f0) ∧ (BdL ((F_Frame_worldDepths_L2 f0 f1 (Int.toNat (f0 - 0) + 1) 0 out5).2) (1 + 64 * t19 + 8 * ((F_Frame_worldDepths_L2 f0 f1 (Int.toNat (f0 - 0) + 1) 0 out5).1))) ∧ (((F_Frame_worldDepths_L2 f0 f1 (Int.toNat (f0 - 0) + 1) 0 out5).1) ≤ f0) ∧ E a' 62 [(1, .pointer (some ⟨b2, 0, none⟩)), (3, .slice b24 ((F_Frame_reachable f0 f1).length) c25), (4, .slice b34 ((F_Frame_clusters f0 f1).length) c35), (5, .slice b58 ((F_z_Repeat ([1]) f0).length) c59), (18, .int .i64 f0), (19, .int .i64 t19), (22, .int .i64 f0), (23, .int .i64 ((F_Frame_worldDepths_L2 f0 f1 (Int.toNat (f0 - 0) + 1) 0 out5).1))] ∧ St w w' [.own 2 1 b58 ((F_z_Repeat ([1]) f0).length) c59 ((F_Frame_worldDepths_L2 f0 f1 (Int.toNat (f0 - 0) + 1) 0 out5).2), .own 2 1 (some ⟨b42, 0, none⟩) 1 1 ([1]), .own 2 1 b34 ((F_Frame_clusters f0 f1).length) c35 (F_Frame_clusters f0 f1), .own 2 1 b24 ((F_Frame_reachable f0 f1).length) c25 (F_Frame_reachable f0 f1), .blk b2 #[.int .i64 f0, .slice f1A f1.length f1C] 30, .rd 1 f1A f1.length f1C f1]) ?_ ?_
     ·
      refine wp_block ?_
      refine c_loop (fun r a' w' => ∃ t23L2 : Int, ∃ out5L2 : List Int, F_Frame_worldDepths_L2 f0 f1 r t23L2 out5L2 = F_Frame_worldDepths_L2 f0 f1 (Int.toNat (f0 - 0) + 1) 0 out5 ∧ Int.toNat (f0 - t23L2) < r ∧ (0 ≤ t23L2) ∧ ((out5L2.length : Int) = f0) ∧ (BdL out5L2 (1 + 64 * t19 + 8 * t23L2)) ∧ (t23L2 ≤ f0) ∧ E a' 62 [(1, .pointer (some ⟨b2, 0, none⟩)), (3, .slice b24 ((F_Frame_reachable f0 f1).length) c25), (4, .slice b34 ((F_Frame_clusters f0 f1).length) c35), (5, .slice b58 ((F_z_Repeat ([1]) f0).length) c59), (18, .int .i64 f0), (19, .int .i64 t19), (22, .int .i64 f0), (23, .int .i64 t23L2)] ∧ St w w' [.own 2 1 b58 ((F_z_Repeat ([1]) f0).length) c59 out5L2, .own 2 1 (some ⟨b42, 0, none⟩) 1 1 ([1]), .own 2 1 b34 ((F_Frame_clusters f0 f1).length) c35 (F_Frame_clusters f0 f1), .own 2 1 b24 ((F_Frame_reachable f0 f1).length) c25 (F_Frame_reachable f0 f1), .blk b2 #[.int .i64 f0, .slice f1A f1.length f1C] 30, .rd 1 f1A f1.length f1C f1]) (r := (Int.toNat (f0 - 0) + 1)) ?_ ?_
      · exact ⟨0, out5, rfl, Nat.lt_succ_self _, (by first | omega | (simp only [sS_len, sL_len]; omega) | (simp only [List.length_replicate, sI_len]; omega) | (simp only [List.length_append, List.length_cons, List.length_nil, sI_len, cond_true, cond_false]; omega) | (simp only [List.length_append, List.length_cons, List.length_nil, sI_len, cond_eq_ite, apply_ite List.length]; split <;> simp only [List.length_append, List.length_cons, List.length_nil, sI_len] <;> omega) | grind), (by first | omega | (simp only [sS_len, sL_len]; omega) | (simp only [List.length_replicate, sI_len]; omega) | (simp only [List.length_append, List.length_cons, List.length_nil, sI_len, cond_true, cond_false]; omega) | (simp only [List.length_append, List.length_cons, List.length_nil, sI_len, cond_eq_ite, apply_ite List.length]; split <;> simp only [List.length_append, List.length_cons, List.length_nil, sI_len] <;> omega) | grind), (BdL.mono (by assumption) (by omega)), (by first | omega | (simp only [sS_len, sL_len]; omega) | (simp only [List.length_replicate, sI_len]; omega) | (simp only [List.length_append, List.length_cons, List.length_nil, sI_len, cond_true, cond_false]; omega) | (simp only [List.length_append, List.length_cons, List.length_nil, sI_len, cond_eq_ite, apply_ite List.length]; split <;> simp only [List.length_append, List.length_cons, List.length_nil, sI_len] <;> omega) | grind), (hE94.sub (L' := [(1, .pointer (some ⟨b2, 0, none⟩)), (3, .slice b24 ((F_Frame_reachable f0 f1).length) c25), (4, .slice b34 ((F_Frame_clusters f0 f1).length) c35), (5, .slice b58 ((F_z_Repeat ([1]) f0).length) c59), (18, .int .i64 f0), (19, .int .i64 t19), (22, .int .i64 f0), (23, .int .i64 0)]) ⟨rfl, rfl, rfl, rfl, rfl, rfl, rfl, rfl, trivial⟩), (St.pick (Γ' := [.own 2 1 b58 ((F_z_Repeat ([1]) f0).length) c59 out5, .own 2 1 (some ⟨b42, 0, none⟩) 1 1 ([1]), .own 2 1 b34 ((F_Frame_clusters f0 f1).length) c35 (F_Frame_clusters f0 f1), .own 2 1 b24 ((F_Frame_reachable f0 f1).length) c25 (F_Frame_reachable f0 f1), .blk b2 #[.int .i64 f0, .slice f1A f1.length f1C] 30, .rd 1 f1A f1.length f1C f1]) hS75 [0, 1, 2, 3, 4, 5] (by decide) rfl)⟩
      ·
       clear hE94 hS75
       rintro r106 a96 w97 ⟨t23L2, out5L2, hT100, hr101, hi102, hi103, hi104, hi105, hE98, hS99⟩
       obtain ⟨r106, rfl⟩ : ∃ r', r106 = r' + 1 := ⟨r106 - 1, by omega⟩
       refine c_seq ?_
       refine c_reg ?_
       refine q_step (v := .bool (decide (t23L2 < f0))) hE98 (y_lss rfl rfl) rfl rfl rfl ?_; intro a107 hE108; clear hE98
       refine c_nil ?_
       have hE109 := hE108.sub (L' := [(1, .pointer (some ⟨b2, 0, none⟩)), (3, .slice b24 ((F_Frame_reachable f0 f1).length) c25), (4, .slice b34 ((F_Frame_clusters f0 f1).length) c35), (5, .slice b58 ((F_z_Repeat ([1]) f0).length) c59), (18, .int .i64 f0), (19, .int .i64 t19), (22, .int .i64 f0), (23, .int .i64 t23L2), (24, .bool (decide (t23L2 < f0)))]) ⟨rfl, rfl, rfl, rfl, rfl, rfl, rfl, rfl, rfl, trivial⟩; clear hE108
       refine p_tn ?_
       refine c_seq ?_
       refine c_cond hE109 rfl (fun ht110 => ?_) (fun ht110 => ?_)
       ·
        have hp111 := of_decide_eq_true ht110
        have hE112 := hE109; rw [ht110] at hE112; clear hE109
        refine wp_skip ?_
        refine p_tn ?_
        refine c_seq ?_
        refine wp_block ?_
        refine c_seq ?_
        refine c_reg ?_
        refine q_step (v := .int .i64 t23L2) hE112 (y_move rfl) rfl rfl rfl ?_; intro a113 hE114; clear hE112
        refine q_step (v := .int .i64 t23L2) hE114 (y_assign rfl) rfl rfl rfl ?_; intro a115 hE116; clear hE114
        refine c_nil ?_
        have hE117 := hE116.sub (L' := [(1, .pointer (some ⟨b2, 0, none⟩)), (3, .slice b24 ((F_Frame_reachable f0 f1).length) c25), (4, .slice b34 ((F_Frame_clusters f0 f1).length) c35), (5, .slice b58 ((F_z_Repeat ([1]) f0).length) c59), (6, .int .i64 t23L2), (18, .int .i64 f0), (19, .int .i64 t19), (22, .int .i64 f0), (23, .int .i64 t23L2)]) ⟨rfl, rfl, rfl, rfl, rfl, rfl, rfl, rfl, rfl, trivial⟩; clear hE116
        refine p_tn ?_
        refine c_seq ?_
        refine c_reg ?_
        refine q_step (v := .slice b24 ((F_Frame_reachable f0 f1).length) c25) hE117 (y_move rfl) rfl rfl rfl ?_; intro a118 hE119; clear hE117
        refine q_step (v := .int .i64 t23L2) hE119 (y_move rfl) rfl rfl rfl ?_; intro a120 hE121; clear hE119
        refine q_step (v := .pointer (some (adr b24 (Int.toNat t23L2)))) hE121 (y_idx (by kernel_rfl) (fun _ => by kernel_rfl) rfl rfl (RdS.isS (m := t23L2) (St.rdO (i := 3) hS99 rfl) (by omega) (by omega)) (by omega) (by omega) (Nat.mul_one _).symm) rfl rfl rfl ?_; intro a122 hE123; clear hE121
        refine q_step (v := .int .i64 (gI (F_Frame_reachable f0 f1) t23L2)) hE123 (y_load (fun _ => by kernel_rfl) rfl (RdS.elt (St.rdO (i := 3) hS99 rfl) (by omega) (by omega))) rfl rfl rfl ?_; intro a124 hE125; clear hE123
        refine l_step hE125 rfl (l_call (f := 170) (argv := [.int .i64 (gI (F_Frame_reachable f0 f1) t23L2)]) hE125 (fun _ => cf_membersOf _ _) rfl rfl (c_membersOf (gI (F_Frame_reachable f0 f1) t23L2) w97 (reached_62 hi (by omega) (by omega)).1 (reached_62 hi (by omega) (by omega)).2) ?_)
        rintro _ w127 ⟨b132, c133, rfl, ho134, he131⟩ a128 hE129; clear hE125
        have hmr := mem_rng hi (x := t23L2) (by omega) (by omega)
        have hS130 := St.own hS99 he131 ho134; clear hS99
        refine q_step (v := .int .i64 ((F_membersOf (gI (F_Frame_reachable f0 f1) t23L2)).length : Int)) hE129 (y_len (e := 2) (by kernel_rfl) rfl) rfl rfl rfl ?_; intro a135 hE136; clear hE129
        refine q_step (v := .int .i64 0) hE136 (y_move rfl) rfl rfl rfl ?_; intro a137 hE138; clear hE136
        refine c_nil ?_
        have hE139 := hE138.sub (L' := [(1, .pointer (some ⟨b2, 0, none⟩)), (3, .slice b24 ((F_Frame_reachable f0 f1).length) c25), (4, .slice b34 ((F_Frame_clusters f0 f1).length) c35), (5, .slice b58 ((F_z_Repeat ([1]) f0).length) c59), (6, .int .i64 t23L2), (18, .int .i64 f0), (19, .int .i64 t19), (22, .int .i64 f0), (23, .int .i64 t23L2), (30, .slice b132 ((F_membersOf (gI (F_Frame_reachable f0 f1) t23L2)).length) c133), (31, .int .i64 ((F_membersOf (gI (F_Frame_reachable f0 f1) t23L2)).length : Int)), (32, .int .i64 0)]) ⟨rfl, rfl, rfl, rfl, rfl, rfl, rfl, rfl, rfl, rfl, rfl, rfl, trivial⟩; clear hE138
        refine p_tn ?_
        refine c_cut1 (fun a' w' => (0 ≤ ((F_Frame_worldDepths_L3 f0 f1 t23L2 (Int.toNat (((F_membersOf (gI (F_Frame_reachable f0 f1) t23L2)).length : Int) - 0) + 1) 0 out5L2).1)) ∧ ((((F_Frame_worldDepths_L3 f0 f1 t23L2 (Int.toNat (((F_membersOf (gI (F_Frame_reachable f0 f1) t23L2)).length : Int) - 0) + 1) 0 out5L2).2).length : Int) = f0) ∧ (BdL ((F_Frame_worldDepths_L3 f0 f1 t23L2 (Int.toNat (((F_membersOf (gI (F_Frame_reachable f0 f1) t23L2)).length : Int) - 0) + 1) 0 out5L2).2) (1 + 64 * t19 + 8 * t23L2 + ((F_Frame_worldDepths_L3 f0 f1 t23L2 (Int.toNat (((F_membersOf (gI (F_Frame_reachable f0 f1) t23L2)).length : Int) - 0) + 1) 0 out5L2).1))) ∧ (((F_Frame_worldDepths_L3 f0 f1 t23L2 (Int.toNat (((F_membersOf (gI (F_Frame_reachable f0 f1) t23L2)).length : Int) - 0) + 1) 0 out5L2).1) ≤ ((F_membersOf (gI (F_Frame_reachable f0 f1) t23L2)).length : Int)) ∧ E a' 62 [(1, .pointer (some ⟨b2, 0, none⟩)), (3, .slice b24 ((F_Frame_reachable f0 f1).length) c25), (4, .slice b34 ((F_Frame_clusters f0 f1).length) c35), (5, .slice b58 ((F_z_Repeat ([1]) f0).length) c59), (6, .int .i64 t23L2), (18, .int .i64 f0), (19, .int .i64 t19), (22, .int .i64 f0), (23, .int .i64 t23L2), (30, .slice b132 ((F_membersOf (gI (F_Frame_reachable f0 f1) t23L2)).length) c133), (31, .int .i64 ((F_membersOf (gI (F_Frame_reachable f0 f1) t23L2)).length : Int)), (32, .int .i64 ((F_Frame_worldDepths_L3 f0 f1 t23L2 (Int.toNat (((F_membersOf (gI (F_Frame_reachable f0 f1) t23L2)).length : Int) - 0) + 1) 0 out5L2).1))] ∧ St w w' [.own 2 1 b132 ((F_membersOf (gI (F_Frame_reachable f0 f1) t23L2)).length) c133 (F_membersOf (gI (F_Frame_reachable f0 f1) t23L2)), .own 2 1 b58 ((F_z_Repeat ([1]) f0).length) c59 ((F_Frame_worldDepths_L3 f0 f1 t23L2 (Int.toNat (((F_membersOf (gI (F_Frame_reachable f0 f1) t23L2)).length : Int) - 0) + 1) 0 out5L2).2), .own 2 1 (some ⟨b42, 0, none⟩) 1 1 ([1]), .own 2 1 b34 ((F_Frame_clusters f0 f1).length) c35 (F_Frame_clusters f0 f1), .own 2 1 b24 ((F_Frame_reachable f0 f1).length) c25 (F_Frame_reachable f0 f1), .blk b2 #[.int .i64 f0, .slice f1A f1.length f1C] 30, .rd 1 f1A f1.length f1C f1]) ?_ ?_
        ·
         refine wp_block ?_
         refine c_loop (fun r a' w' => ∃ t32L3 : Int, ∃ out5L3 : List Int, F_Frame_worldDepths_L3 f0 f1 t23L2 r t32L3 out5L3 = F_Frame_worldDepths_L3 f0 f1 t23L2 (Int.toNat (((F_membersOf (gI (F_Frame_reachable f0 f1) t23L2)).length : Int) - 0) + 1) 0 out5L2 ∧ Int.toNat (((F_membersOf (gI (F_Frame_reachable f0 f1) t23L2)).length : Int) - t32L3) < r ∧ (0 ≤ t32L3) ∧ ((out5L3.length : Int) = f0) ∧ (BdL out5L3 (1 + 64 * t19 + 8 * t23L2 + t32L3)) ∧ (t32L3 ≤ ((F_membersOf (gI (F_Frame_reachable f0 f1) t23L2)).length : Int)) ∧ E a' 62 [(1, .pointer (some ⟨b2, 0, none⟩)), (3, .slice b24 ((F_Frame_reachable f0 f1).length) c25), (4, .slice b34 ((F_Frame_clusters f0 f1).length) c35), (5, .slice b58 ((F_z_Repeat ([1]) f0).length) c59), (6, .int .i64 t23L2), (18, .int .i64 f0), (19, .int .i64 t19), (22, .int .i64 f0), (23, .int .i64 t23L2), (30, .slice b132 ((F_membersOf (gI (F_Frame_reachable f0 f1) t23L2)).length) c133), (31, .int .i64 ((F_membersOf (gI (F_Frame_reachable f0 f1) t23L2)).length : Int)), (32, .int .i64 t32L3)] ∧ St w w' [.own 2 1 b132 ((F_membersOf (gI (F_Frame_reachable f0 f1) t23L2)).length) c133 (F_membersOf (gI (F_Frame_reachable f0 f1) t23L2)), .own 2 1 b58 ((F_z_Repeat ([1]) f0).length) c59 out5L3, .own 2 1 (some ⟨b42, 0, none⟩) 1 1 ([1]), .own 2 1 b34 ((F_Frame_clusters f0 f1).length) c35 (F_Frame_clusters f0 f1), .own 2 1 b24 ((F_Frame_reachable f0 f1).length) c25 (F_Frame_reachable f0 f1), .blk b2 #[.int .i64 f0, .slice f1A f1.length f1C] 30, .rd 1 f1A f1.length f1C f1]) (r := (Int.toNat (((F_membersOf (gI (F_Frame_reachable f0 f1) t23L2)).length : Int) - 0) + 1)) ?_ ?_
         · exact ⟨0, out5L2, rfl, Nat.lt_succ_self _, (by first | omega | (simp only [sS_len, sL_len]; omega) | (simp only [List.length_replicate, sI_len]; omega) | (simp only [List.length_append, List.length_cons, List.length_nil, sI_len, cond_true, cond_false]; omega) | (simp only [List.length_append, List.length_cons, List.length_nil, sI_len, cond_eq_ite, apply_ite List.length]; split <;> simp only [List.length_append, List.length_cons, List.length_nil, sI_len] <;> omega) | grind), (by first | omega | (simp only [sS_len, sL_len]; omega) | (simp only [List.length_replicate, sI_len]; omega) | (simp only [List.length_append, List.length_cons, List.length_nil, sI_len, cond_true, cond_false]; omega) | (simp only [List.length_append, List.length_cons, List.length_nil, sI_len, cond_eq_ite, apply_ite List.length]; split <;> simp only [List.length_append, List.length_cons, List.length_nil, sI_len] <;> omega) | grind), (BdL.mono (by assumption) (by omega)), (by first | omega | (simp only [sS_len, sL_len]; omega) | (simp only [List.length_replicate, sI_len]; omega) | (simp only [List.length_append, List.length_cons, List.length_nil, sI_len, cond_true, cond_false]; omega) | (simp only [List.length_append, List.length_cons, List.length_nil, sI_len, cond_eq_ite, apply_ite List.length]; split <;> simp only [List.length_append, List.length_cons, List.length_nil, sI_len] <;> omega) | grind), (hE139.sub (L' := [(1, .pointer (some ⟨b2, 0, none⟩)), (3, .slice b24 ((F_Frame_reachable f0 f1).length) c25), (4, .slice b34 ((F_Frame_clusters f0 f1).length) c35), (5, .slice b58 ((F_z_Repeat ([1]) f0).length) c59), (6, .int .i64 t23L2), (18, .int .i64 f0), (19, .int .i64 t19), (22, .int .i64 f0), (23, .int .i64 t23L2), (30, .slice b132 ((F_membersOf (gI (F_Frame_reachable f0 f1) t23L2)).length) c133), (31, .int .i64 ((F_membersOf (gI (F_Frame_reachable f0 f1) t23L2)).length : Int)), (32, .int .i64 0)]) ⟨rfl, rfl, rfl, rfl, rfl, rfl, rfl, rfl, rfl, rfl, rfl, rfl, trivial⟩), (St.pick (Γ' := [.own 2 1 b132 ((F_membersOf (gI (F_Frame_reachable f0 f1) t23L2)).length) c133 (F_membersOf (gI (F_Frame_reachable f0 f1) t23L2)), .own 2 1 b58 ((F_z_Repeat ([1]) f0).length) c59 out5L2, .own 2 1 (some ⟨b42, 0, none⟩) 1 1 ([1]), .own 2 1 b34 ((F_Frame_clusters f0 f1).length) c35 (F_Frame_clusters f0 f1), .own 2 1 b24 ((F_Frame_reachable f0 f1).length) c25 (F_Frame_reachable f0 f1), .blk b2 #[.int .i64 f0, .slice f1A f1.length f1C] 30, .rd 1 f1A f1.length f1C f1]) hS130 [0, 1, 2, 3, 4, 5, 6] (by decide) rfl)⟩
         ·
          clear hE139 hS130
          rintro r151 a141 w142 ⟨t32L3, out5L3, hT145, hr146, hi147, hi148, hi149, hi150, hE143, hS144⟩
          obtain ⟨r151, rfl⟩ : ∃ r', r151 = r' + 1 := ⟨r151 - 1, by omega⟩
          refine c_seq ?_
          refine c_reg ?_
          refine q_step (v := .bool (decide (t32L3 < ((F_membersOf (gI (F_Frame_reachable f0 f1) t23L2)).length : Int)))) hE143 (y_lss rfl rfl) rfl rfl rfl ?_; intro a152 hE153; clear hE143
          refine c_nil ?_
          have hE154 := hE153.sub (L' := [(1, .pointer (some ⟨b2, 0, none⟩)), (3, .slice b24 ((F_Frame_reachable f0 f1).length) c25), (4, .slice b34 ((F_Frame_clusters f0 f1).length) c35), (5, .slice b58 ((F_z_Repeat ([1]) f0).length) c59), (6, .int .i64 t23L2), (18, .int .i64 f0), (19, .int .i64 t19), (22, .int .i64 f0), (23, .int .i64 t23L2), (30, .slice b132 ((F_membersOf (gI (F_Frame_reachable f0 f1) t23L2)).length) c133), (31, .int .i64 ((F_membersOf (gI (F_Frame_reachable f0 f1) t23L2)).length : Int)), (32, .int .i64 t32L3), (33, .bool (decide (t32L3 < ((F_membersOf (gI (F_Frame_reachable f0 f1) t23L2)).length : Int))))]) ⟨rfl, rfl, rfl, rfl, rfl, rfl, rfl, rfl, rfl, rfl, rfl, rfl, rfl, trivial⟩; clear hE153
          refine p_tn ?_
          refine c_seq ?_
          refine c_cond hE154 rfl (fun ht155 => ?_) (fun ht155 => ?_)
          ·
           have hp156 := of_decide_eq_true ht155
           have hE157 := hE154; rw [ht155] at hE157; clear hE154
           have hy := hmr.2 t32L3 (by omega) (by omega)
           have hb3 := (show BdL out5L3 (1 + 64 * t19 + 8 * t23L2 + t32L3) by assumption) (gI (F_membersOf (gI (F_Frame_reachable f0 f1) t23L2)) t32L3)
           refine wp_skip ?_
           refine p_tn ?_
           refine c_cut (fun a' w' => E a' 62 [(1, .pointer (some ⟨b2, 0, none⟩)), (3, .slice b24 ((F_Frame_reachable f0 f1).length) c25), (4, .slice b34 ((F_Frame_clusters f0 f1).length) c35), (5, .slice b58 ((F_z_Repeat ([1]) f0).length) c59), (6, .int .i64 t23L2), (18, .int .i64 f0), (19, .int .i64 t19), (22, .int .i64 f0), (23, .int .i64 t23L2), (30, .slice b132 ((F_membersOf (gI (F_Frame_reachable f0 f1) t23L2)).length) c133), (31, .int .i64 ((F_membersOf (gI (F_Frame_reachable f0 f1) t23L2)).length : Int)), (32, .int .i64 t32L3)] ∧ St w w' [.own 2 1 b132 ((F_membersOf (gI (F_Frame_reachable f0 f1) t23L2)).length) c133 (F_membersOf (gI (F_Frame_reachable f0 f1) t23L2)), .own 2 1 b58 ((F_z_Repeat ([1]) f0).length) c59 (bif (!decide ((gI (F_Frame_clusters f0 f1) t23L2) = (gI (F_Frame_clusters f0 f1) (gI (F_membersOf (gI (F_Frame_reachable f0 f1) t23L2)) t32L3)))) then sI out5L3 t23L2 (max (gI out5L3 t23L2) ((gI out5L3 (gI (F_membersOf (gI (F_Frame_reachable f0 f1) t23L2)) t32L3)) + 1)) else out5L3), .own 2 1 (some ⟨b42, 0, none⟩) 1 1 ([1]), .own 2 1 b34 ((F_Frame_clusters f0 f1).length) c35 (F_Frame_clusters f0 f1), .own 2 1 b24 ((F_Frame_reachable f0 f1).length) c25 (F_Frame_reachable f0 f1), .rd 1 f1A f1.length f1C f1, .blk b2 #[.int .i64 f0, .slice f1A f1.length f1C] 30]) ?_ ?_
           ·
            refine wp_block ?_
            refine c_seq ?_
            refine c_reg ?_
            refine q_step (v := .pointer (some (adr b132 (Int.toNat t32L3)))) hE157 (y_idx (by kernel_rfl) (fun _ => by kernel_rfl) rfl rfl (RdS.isS (m := t32L3) (St.rdO (i := 0) hS144 rfl) (by omega) (by omega)) (by omega) (by omega) (Nat.mul_one _).symm) rfl rfl rfl ?_; intro a158 hE159; clear hE157
            refine q_step (v := .int .i64 (gI (F_membersOf (gI (F_Frame_reachable f0 f1) t23L2)) t32L3)) hE159 (y_load (fun _ => by kernel_rfl) rfl (RdS.elt (St.rdO (i := 0) hS144 rfl) (by omega) (by omega))) rfl rfl rfl ?_; intro a160 hE161; clear hE159
            refine q_step (v := .int .i64 (gI (F_membersOf (gI (F_Frame_reachable f0 f1) t23L2)) t32L3)) hE161 (y_assign rfl) rfl rfl rfl ?_; intro a162 hE163; clear hE161
            refine c_nil ?_
            have hE164 := hE163.sub (L' := [(1, .pointer (some ⟨b2, 0, none⟩)), (3, .slice b24 ((F_Frame_reachable f0 f1).length) c25), (4, .slice b34 ((F_Frame_clusters f0 f1).length) c35), (5, .slice b58 ((F_z_Repeat ([1]) f0).length) c59), (6, .int .i64 t23L2), (8, .int .i64 (gI (F_membersOf (gI (F_Frame_reachable f0 f1) t23L2)) t32L3)), (18, .int .i64 f0), (19, .int .i64 t19), (22, .int .i64 f0), (23, .int .i64 t23L2), (30, .slice b132 ((F_membersOf (gI (F_Frame_reachable f0 f1) t23L2)).length) c133), (31, .int .i64 ((F_membersOf (gI (F_Frame_reachable f0 f1) t23L2)).length : Int)), (32, .int .i64 t32L3)]) ⟨rfl, rfl, rfl, rfl, rfl, rfl, rfl, rfl, rfl, rfl, rfl, rfl, rfl, trivial⟩; clear hE163
            refine p_tn ?_
            refine c_seq ?_
            refine d_start (fun w w' => (fun w' => w'.cell? (adr b34 (Int.toNat t23L2)) = some (.int .i64 (gI (F_Frame_clusters f0 f1) t23L2)) ∧ w'.cell? (adr b34 (Int.toNat (gI (F_membersOf (gI (F_Frame_reachable f0 f1) t23L2)) t32L3))) = some (.int .i64 (gI (F_Frame_clusters f0 f1) (gI (F_membersOf (gI (F_Frame_reachable f0 f1) t23L2)) t32L3))) ∧ True) w → (fun w' => w'.cell? (adr b34 (Int.toNat t23L2)) = some (.int .i64 (gI (F_Frame_clusters f0 f1) t23L2)) ∧ w'.cell? (adr b34 (Int.toNat (gI (F_membersOf (gI (F_Frame_reachable f0 f1) t23L2)) t32L3))) = some (.int .i64 (gI (F_Frame_clusters f0 f1) (gI (F_membersOf (gI (F_Frame_reachable f0 f1) t23L2)) t32L3))) ∧ True) w') [3, 7] 9 (by kernel_rfl) rfl ?_
            intro w165 he166; have hS167 := St.go hS144 he166; clear hS144
            refine d_pure (fun _ h => h) (v := .slice b34 ((F_Frame_clusters f0 f1).length) c35) 0 rfl hE164 (y_move rfl) rfl (by kernel_rfl) (by kernel_rfl) (by kernel_rfl) rfl rfl (fun _ _ _ h => h) ?_; intro a168 hE169; clear hE164
            refine d_pure (fun _ h => h) (v := .int .i64 t23L2) 1 rfl hE169 (y_move rfl) rfl (by kernel_rfl) (by kernel_rfl) (by kernel_rfl) rfl rfl (fun _ _ _ h => h) ?_; intro a170 hE171; clear hE169
            refine d_pure (fun _ h => h) (v := .pointer (some (adr b34 (Int.toNat t23L2)))) 2 rfl hE171 (y_idx (by kernel_rfl) (fun _ => by kernel_rfl) rfl rfl (RdS.isS (m := t23L2) (St.rdO (i := 3) hS167 rfl) (by omega) (by omega)) (by omega) (by omega) (Nat.mul_one _).symm) rfl (by kernel_rfl) (by kernel_rfl) (by kernel_rfl) rfl rfl (fun _ _ _ h => h) ?_; intro a172 hE173; clear hE171
            refine d_take (fun _ h => h) (fun _ _ h k => h k) (v := .int .i64 (gI (F_Frame_clusters f0 f1) t23L2)) 3 rfl hE173 (S := fun w' => w'.cell? (adr b34 (Int.toNat t23L2)) = some (.int .i64 (gI (F_Frame_clusters f0 f1) t23L2)) ∧ w'.cell? (adr b34 (Int.toNat (gI (F_membersOf (gI (F_Frame_reachable f0 f1) t23L2)) t32L3))) = some (.int .i64 (gI (F_Frame_clusters f0 f1) (gI (F_membersOf (gI (F_Frame_reachable f0 f1) t23L2)) t32L3))) ∧ True) ⟨(RdS.elt (St.rdO (i := 3) hS167 rfl) (by omega) (by omega) _ (Ext.refl _)), (RdS.elt (St.rdO (i := 3) hS167 rfl) (by omega) (by omega) _ (Ext.refl _)), trivial⟩ (y_load (fun _ => by kernel_rfl) rfl (fun _ h => h.1)) rfl rfl (by kernel_rfl) (by kernel_rfl) (by kernel_rfl) (by kernel_rfl) rfl rfl (fun _ _ _ h => h) ?_; intro a174 hE175; clear hE173
            refine d_pure (fun _ h => h) (v := .slice b34 ((F_Frame_clusters f0 f1).length) c35) 4 rfl hE175 (y_move rfl) rfl (by kernel_rfl) (by kernel_rfl) (by kernel_rfl) rfl rfl (fun _ _ _ h => h) ?_; intro a176 hE177; clear hE175
            refine d_pure (fun _ h => h) (v := .int .i64 (gI (F_membersOf (gI (F_Frame_reachable f0 f1) t23L2)) t32L3)) 5 rfl hE177 (y_move rfl) rfl (by kernel_rfl) (by kernel_rfl) (by kernel_rfl) rfl rfl (fun _ _ _ h => h) ?_; intro a178 hE179; clear hE177
            refine d_pure (fun _ h => h) (v := .pointer (some (adr b34 (Int.toNat (gI (F_membersOf (gI (F_Frame_reachable f0 f1) t23L2)) t32L3))))) 6 rfl hE179 (y_idx (by kernel_rfl) (fun _ => by kernel_rfl) rfl rfl (RdS.isS (m := gI (F_membersOf (gI (F_Frame_reachable f0 f1) t23L2)) t32L3) (St.rdO (i := 3) hS167 rfl) (by omega) (by omega)) (by omega) (by omega) (Nat.mul_one _).symm) rfl (by kernel_rfl) (by kernel_rfl) (by kernel_rfl) rfl rfl (fun _ _ _ h => h) ?_; intro a180 hE181; clear hE179
            refine d_take (fun _ h => h) (fun _ _ h k => h k) (v := .int .i64 (gI (F_Frame_clusters f0 f1) (gI (F_membersOf (gI (F_Frame_reachable f0 f1) t23L2)) t32L3))) 7 rfl hE181 (S := fun w' => w'.cell? (adr b34 (Int.toNat t23L2)) = some (.int .i64 (gI (F_Frame_clusters f0 f1) t23L2)) ∧ w'.cell? (adr b34 (Int.toNat (gI (F_membersOf (gI (F_Frame_reachable f0 f1) t23L2)) t32L3))) = some (.int .i64 (gI (F_Frame_clusters f0 f1) (gI (F_membersOf (gI (F_Frame_reachable f0 f1) t23L2)) t32L3))) ∧ True) ⟨(RdS.elt (St.rdO (i := 3) hS167 rfl) (by omega) (by omega) _ (Ext.refl _)), (RdS.elt (St.rdO (i := 3) hS167 rfl) (by omega) (by omega) _ (Ext.refl _)), trivial⟩ (y_load (fun _ => by kernel_rfl) rfl (fun _ h => h.2.1)) rfl rfl (by kernel_rfl) (by kernel_rfl) (by kernel_rfl) (by kernel_rfl) rfl rfl (fun _ _ _ h => h) ?_; intro a182 hE183; clear hE181
            refine d_pure (fun _ h => h) (v := .bool (!decide ((gI (F_Frame_clusters f0 f1) t23L2) = (gI (F_Frame_clusters f0 f1) (gI (F_membersOf (gI (F_Frame_reachable f0 f1) t23L2)) t32L3))))) 8 rfl hE183 (y_neq rfl rfl) rfl (by kernel_rfl) (by kernel_rfl) (by kernel_rfl) rfl rfl (fun _ _ _ h => h) ?_; intro a184 hE185; clear hE183
            refine d_done (by kernel_rfl) ?_
            have hE186 := hE185.sub (L' := [(1, .pointer (some ⟨b2, 0, none⟩)), (3, .slice b24 ((F_Frame_reachable f0 f1).length) c25), (4, .slice b34 ((F_Frame_clusters f0 f1).length) c35), (5, .slice b58 ((F_z_Repeat ([1]) f0).length) c59), (6, .int .i64 t23L2), (8, .int .i64 (gI (F_membersOf (gI (F_Frame_reachable f0 f1) t23L2)) t32L3)), (18, .int .i64 f0), (19, .int .i64 t19), (22, .int .i64 f0), (23, .int .i64 t23L2), (30, .slice b132 ((F_membersOf (gI (F_Frame_reachable f0 f1) t23L2)).length) c133), (31, .int .i64 ((F_membersOf (gI (F_Frame_reachable f0 f1) t23L2)).length : Int)), (32, .int .i64 t32L3), (44, .bool (!decide ((gI (F_Frame_clusters f0 f1) t23L2) = (gI (F_Frame_clusters f0 f1) (gI (F_membersOf (gI (F_Frame_reachable f0 f1) t23L2)) t32L3)))))]) ⟨rfl, rfl, rfl, rfl, rfl, rfl, rfl, rfl, rfl, rfl, rfl, rfl, rfl, rfl, trivial⟩; clear hE185
            refine p_tn ?_
            refine c_cond hE186 rfl (fun ht187 => ?_) (fun ht187 => ?_)
            ·
             have ht188 := bn_t ht187
             have hp189 := of_decide_eq_false ht188
             have hE190 := hE186; rw [ht187] at hE190; clear hE186
             refine d_start (fun w w' => (fun w' => w'.cell? (adr b58 (Int.toNat t23L2)) = some (.int .i64 (gI out5L3 t23L2)) ∧ w'.cell? (adr b58 (Int.toNat (gI (F_membersOf (gI (F_Frame_reachable f0 f1) t23L2)) t32L3))) = some (.int .i64 (gI out5L3 (gI (F_membersOf (gI (F_Frame_reachable f0 f1) t23L2)) t32L3))) ∧ True) w → (fun w' => w'.cell? (adr b58 (Int.toNat t23L2)) = some (.int .i64 (gI out5L3 t23L2)) ∧ w'.cell? (adr b58 (Int.toNat (gI (F_membersOf (gI (F_Frame_reachable f0 f1) t23L2)) t32L3))) = some (.int .i64 (gI out5L3 (gI (F_membersOf (gI (F_Frame_reachable f0 f1) t23L2)) t32L3))) ∧ True) w') [5, 9] 14 (by kernel_rfl) rfl ?_
             intro w191 he192; have hS193 := St.go hS167 he192; clear hS167
             refine d_pure (fun _ h => h) (v := .slice b58 ((F_z_Repeat ([1]) f0).length) c59) 0 rfl hE190 (y_move rfl) rfl (by kernel_rfl) (by kernel_rfl) (by kernel_rfl) rfl rfl (fun _ _ _ h => h) ?_; intro a194 hE195; clear hE190
             refine d_pure (fun _ h => h) (v := .int .i64 t23L2) 1 rfl hE195 (y_move rfl) rfl (by kernel_rfl) (by kernel_rfl) (by kernel_rfl) rfl rfl (fun _ _ _ h => h) ?_; intro a196 hE197; clear hE195
             refine d_pure (fun _ h => h) (v := .slice b58 ((F_z_Repeat ([1]) f0).length) c59) 2 rfl hE197 (y_move rfl) rfl (by kernel_rfl) (by kernel_rfl) (by kernel_rfl) rfl rfl (fun _ _ _ h => h) ?_; intro a198 hE199; clear hE197
             refine d_pure (fun _ h => h) (v := .int .i64 t23L2) 3 rfl hE199 (y_move rfl) rfl (by kernel_rfl) (by kernel_rfl) (by kernel_rfl) rfl rfl (fun _ _ _ h => h) ?_; intro a200 hE201; clear hE199
             refine d_pure (fun _ h => h) (v := .pointer (some (adr b58 (Int.toNat t23L2)))) 4 rfl hE201 (y_idx (by kernel_rfl) (fun _ => by kernel_rfl) rfl rfl (RdS.isS (m := t23L2) (St.rdO (i := 1) hS193 rfl) (by omega) (by omega)) (by omega) (by omega) (Nat.mul_one _).symm) rfl (by kernel_rfl) (by kernel_rfl) (by kernel_rfl) rfl rfl (fun _ _ _ h => h) ?_; intro a202 hE203; clear hE201
             refine d_take (fun _ h => h) (fun _ _ h k => h k) (v := .int .i64 (gI out5L3 t23L2)) 5 rfl hE203 (S := fun w' => w'.cell? (adr b58 (Int.toNat t23L2)) = some (.int .i64 (gI out5L3 t23L2)) ∧ w'.cell? (adr b58 (Int.toNat (gI (F_membersOf (gI (F_Frame_reachable f0 f1) t23L2)) t32L3))) = some (.int .i64 (gI out5L3 (gI (F_membersOf (gI (F_Frame_reachable f0 f1) t23L2)) t32L3))) ∧ True) ⟨(RdS.elt (St.rdO (i := 1) hS193 rfl) (by omega) (by omega) _ (Ext.refl _)), (RdS.elt (St.rdO (i := 1) hS193 rfl) (by omega) (by omega) _ (Ext.refl _)), trivial⟩ (y_load (fun _ => by kernel_rfl) rfl (fun _ h => h.1)) rfl rfl (by kernel_rfl) (by kernel_rfl) (by kernel_rfl) (by kernel_rfl) rfl rfl (fun _ _ _ h => h) ?_; intro a204 hE205; clear hE203
             refine d_pure (fun _ h => h) (v := .slice b58 ((F_z_Repeat ([1]) f0).length) c59) 6 rfl hE205 (y_move rfl) rfl (by kernel_rfl) (by kernel_rfl) (by kernel_rfl) rfl rfl (fun _ _ _ h => h) ?_; intro a206 hE207; clear hE205
             refine d_pure (fun _ h => h) (v := .int .i64 (gI (F_membersOf (gI (F_Frame_reachable f0 f1) t23L2)) t32L3)) 7 rfl hE207 (y_move rfl) rfl (by kernel_rfl) (by kernel_rfl) (by kernel_rfl) rfl rfl (fun _ _ _ h => h) ?_; intro a208 hE209; clear hE207
             refine d_pure (fun _ h => h) (v := .pointer (some (adr b58 (Int.toNat (gI (F_membersOf (gI (F_Frame_reachable f0 f1) t23L2)) t32L3))))) 8 rfl hE209 (y_idx (by kernel_rfl) (fun _ => by kernel_rfl) rfl rfl (RdS.isS (m := gI (F_membersOf (gI (F_Frame_reachable f0 f1) t23L2)) t32L3) (St.rdO (i := 1) hS193 rfl) (by omega) (by omega)) (by omega) (by omega) (Nat.mul_one _).symm) rfl (by kernel_rfl) (by kernel_rfl) (by kernel_rfl) rfl rfl (fun _ _ _ h => h) ?_; intro a210 hE211; clear hE209
             refine d_take (fun _ h => h) (fun _ _ h k => h k) (v := .int .i64 (gI out5L3 (gI (F_membersOf (gI (F_Frame_reachable f0 f1) t23L2)) t32L3))) 9 rfl hE211 (S := fun w' => w'.cell? (adr b58 (Int.toNat t23L2)) = some (.int .i64 (gI out5L3 t23L2)) ∧ w'.cell? (adr b58 (Int.toNat (gI (F_membersOf (gI (F_Frame_reachable f0 f1) t23L2)) t32L3))) = some (.int .i64 (gI out5L3 (gI (F_membersOf (gI (F_Frame_reachable f0 f1) t23L2)) t32L3))) ∧ True) ⟨(RdS.elt (St.rdO (i := 1) hS193 rfl) (by omega) (by omega) _ (Ext.refl _)), (RdS.elt (St.rdO (i := 1) hS193 rfl) (by omega) (by omega) _ (Ext.refl _)), trivial⟩ (y_load (fun _ => by kernel_rfl) rfl (fun _ h => h.2.1)) rfl rfl (by kernel_rfl) (by kernel_rfl) (by kernel_rfl) (by kernel_rfl) rfl rfl (fun _ _ _ h => h) ?_; intro a212 hE213; clear hE211
             refine d_pure (fun _ h => h) (v := .int .i64 ((gI out5L3 (gI (F_membersOf (gI (F_Frame_reachable f0 f1) t23L2)) t32L3)) + 1)) 10 rfl hE213 (y_add rfl rfl ⟨(by omega), (by omega)⟩) rfl (by kernel_rfl) (by kernel_rfl) (by kernel_rfl) rfl rfl (fun _ _ _ h => h) ?_; intro a214 hE215; clear hE213
             refine d_pure (fun _ h => h) (v := .int .i64 (max (gI out5L3 t23L2) ((gI out5L3 (gI (F_membersOf (gI (F_Frame_reachable f0 f1) t23L2)) t32L3)) + 1))) 11 rfl hE215 (y_max rfl rfl) rfl (by kernel_rfl) (by kernel_rfl) (by kernel_rfl) rfl rfl (fun _ _ _ h => h) ?_; intro a216 hE217; clear hE215
             refine d_pure (fun _ h => h) (v := .pointer (some (adr b58 (Int.toNat t23L2)))) 12 rfl hE217 (y_idx (by kernel_rfl) (fun _ => by kernel_rfl) rfl rfl (RdS.isS (m := t23L2) (St.rdO (i := 1) hS193 rfl) (by omega) (by omega)) (by omega) (by omega) (Nat.mul_one _).symm) rfl (by kernel_rfl) (by kernel_rfl) (by kernel_rfl) rfl rfl (fun _ _ _ h => h) ?_; intro a218 hE219; clear hE217
             refine d_only 13 (by kernel_rfl) rfl hE219 rfl (l_store (k := 1) hS193 hE219 (fun _ => by kernel_rfl) rfl rfl rfl (by omega) (by omega) ?_)
             intro w221 hS224 a222 hE223; clear hS193 hE219
             refine ⟨fun h => Bool.noConfusion (h.symm.trans (show exm _ _ _ = true by kernel_rfl)), ?_⟩
             refine d_done (by kernel_rfl) ?_
             have hE226 := hE223.sub (L' := [(1, .pointer (some ⟨b2, 0, none⟩)), (3, .slice b24 ((F_Frame_reachable f0 f1).length) c25), (4, .slice b34 ((F_Frame_clusters f0 f1).length) c35), (5, .slice b58 ((F_z_Repeat ([1]) f0).length) c59), (6, .int .i64 t23L2), (18, .int .i64 f0), (19, .int .i64 t19), (22, .int .i64 f0), (23, .int .i64 t23L2), (30, .slice b132 ((F_membersOf (gI (F_Frame_reachable f0 f1) t23L2)).length) c133), (31, .int .i64 ((F_membersOf (gI (F_Frame_reachable f0 f1) t23L2)).length : Int)), (32, .int .i64 t32L3)]) ⟨rfl, rfl, rfl, rfl, rfl, rfl, rfl, rfl, rfl, rfl, rfl, rfl, trivial⟩; clear hE223
             refine p_bn ?_
             refine p_tn ?_
             have hE227 := hE226.sub (L' := [(1, .pointer (some ⟨b2, 0, none⟩)), (3, .slice b24 ((F_Frame_reachable f0 f1).length) c25), (4, .slice b34 ((F_Frame_clusters f0 f1).length) c35), (5, .slice b58 ((F_z_Repeat ([1]) f0).length) c59), (6, .int .i64 t23L2), (18, .int .i64 f0), (19, .int .i64 t19), (22, .int .i64 f0), (23, .int .i64 t23L2), (30, .slice b132 ((F_membersOf (gI (F_Frame_reachable f0 f1) t23L2)).length) c133), (31, .int .i64 ((F_membersOf (gI (F_Frame_reachable f0 f1) t23L2)).length : Int)), (32, .int .i64 t32L3)]) ⟨rfl, rfl, rfl, rfl, rfl, rfl, rfl, rfl, rfl, rfl, rfl, rfl, trivial⟩
             have hS228 := (St.pick (Γ' := [.own 2 1 b132 ((F_membersOf (gI (F_Frame_reachable f0 f1) t23L2)).length) c133 (F_membersOf (gI (F_Frame_reachable f0 f1) t23L2)), .own 2 1 b58 ((F_z_Repeat ([1]) f0).length) c59 (sI out5L3 t23L2 (max (gI out5L3 t23L2) ((gI out5L3 (gI (F_membersOf (gI (F_Frame_reachable f0 f1) t23L2)) t32L3)) + 1))), .own 2 1 (some ⟨b42, 0, none⟩) 1 1 ([1]), .own 2 1 b34 ((F_Frame_clusters f0 f1).length) c35 (F_Frame_clusters f0 f1), .own 2 1 b24 ((F_Frame_reachable f0 f1).length) c25 (F_Frame_reachable f0 f1), .rd 1 f1A f1.length f1C f1, .blk b2 #[.int .i64 f0, .slice f1A f1.length f1C] 30]) hS224 [0, 1, 2, 3, 4, 6, 5] (by decide) rfl)
             exact ⟨hE227, (by rw [ht187]; exact hS228)⟩
            ·
             have ht229 := bn_f ht187
             have hp230 := of_decide_eq_true ht229
             have hE231 := hE186; rw [ht187] at hE231; clear hE186
             refine wp_skip ?_
             refine p_bn ?_
             refine p_tn ?_
             have hE232 := hE231.sub (L' := [(1, .pointer (some ⟨b2, 0, none⟩)), (3, .slice b24 ((F_Frame_reachable f0 f1).length) c25), (4, .slice b34 ((F_Frame_clusters f0 f1).length) c35), (5, .slice b58 ((F_z_Repeat ([1]) f0).length) c59), (6, .int .i64 t23L2), (18, .int .i64 f0), (19, .int .i64 t19), (22, .int .i64 f0), (23, .int .i64 t23L2), (30, .slice b132 ((F_membersOf (gI (F_Frame_reachable f0 f1) t23L2)).length) c133), (31, .int .i64 ((F_membersOf (gI (F_Frame_reachable f0 f1) t23L2)).length : Int)), (32, .int .i64 t32L3)]) ⟨rfl, rfl, rfl, rfl, rfl, rfl, rfl, rfl, rfl, rfl, rfl, rfl, trivial⟩
             have hS233 := (St.pick (Γ' := [.own 2 1 b132 ((F_membersOf (gI (F_Frame_reachable f0 f1) t23L2)).length) c133 (F_membersOf (gI (F_Frame_reachable f0 f1) t23L2)), .own 2 1 b58 ((F_z_Repeat ([1]) f0).length) c59 out5L3, .own 2 1 (some ⟨b42, 0, none⟩) 1 1 ([1]), .own 2 1 b34 ((F_Frame_clusters f0 f1).length) c35 (F_Frame_clusters f0 f1), .own 2 1 b24 ((F_Frame_reachable f0 f1).length) c25 (F_Frame_reachable f0 f1), .rd 1 f1A f1.length f1C f1, .blk b2 #[.int .i64 f0, .slice f1A f1.length f1C] 30]) hS167 [0, 1, 2, 3, 4, 6, 5] (by decide) rfl)
             exact ⟨hE232, (by rw [ht187]; exact hS233)⟩
           ·
            rintro a234 w235 ⟨hE236, hS237⟩; clear hE157 hS144
            refine c_reg ?_
            refine q_step (v := .int .i64 (t32L3 + 1)) hE236 (y_add rfl rfl ⟨(by omega), (by omega)⟩) rfl rfl rfl ?_; intro a239 hE240; clear hE236
            refine q_step (v := .int .i64 (t32L3 + 1)) hE240 (y_move rfl) rfl rfl rfl ?_; intro a241 hE242; clear hE240
            refine c_nil ?_
            have hE243 := hE242.sub (L' := [(1, .pointer (some ⟨b2, 0, none⟩)), (3, .slice b24 ((F_Frame_reachable f0 f1).length) c25), (4, .slice b34 ((F_Frame_clusters f0 f1).length) c35), (5, .slice b58 ((F_z_Repeat ([1]) f0).length) c59), (6, .int .i64 t23L2), (18, .int .i64 f0), (19, .int .i64 t19), (22, .int .i64 f0), (23, .int .i64 t23L2), (30, .slice b132 ((F_membersOf (gI (F_Frame_reachable f0 f1) t23L2)).length) c133), (31, .int .i64 ((F_membersOf (gI (F_Frame_reachable f0 f1) t23L2)).length : Int)), (32, .int .i64 (t32L3 + 1))]) ⟨rfl, rfl, rfl, rfl, rfl, rfl, rfl, rfl, rfl, rfl, rfl, rfl, trivial⟩; clear hE242
            have hl244 := (St.rdO (i := 1) hS237 rfl).len1
            refine p_tn ⟨r151, Nat.lt_succ_self _, t32L3 + 1, bif (!decide ((gI (F_Frame_clusters f0 f1) t23L2) = (gI (F_Frame_clusters f0 f1) (gI (F_membersOf (gI (F_Frame_reachable f0 f1) t23L2)) t32L3)))) then sI out5L3 t23L2 (max (gI out5L3 t23L2) ((gI out5L3 (gI (F_membersOf (gI (F_Frame_reachable f0 f1) t23L2)) t32L3)) + 1)) else out5L3, (hT145.symm.trans (show F_Frame_worldDepths_L3b f0 f1 t23L2 (F_Frame_worldDepths_L3 f0 f1 t23L2 r151) t32L3 out5L3 = F_Frame_worldDepths_L3 f0 f1 t23L2 r151 (t32L3 + 1) (bif (!decide ((gI (F_Frame_clusters f0 f1) t23L2) = (gI (F_Frame_clusters f0 f1) (gI (F_membersOf (gI (F_Frame_reachable f0 f1) t23L2)) t32L3)))) then sI out5L3 t23L2 (max (gI out5L3 t23L2) ((gI out5L3 (gI (F_membersOf (gI (F_Frame_reachable f0 f1) t23L2)) t32L3)) + 1)) else out5L3) by unfold F_Frame_worldDepths_L3b; rw [ht155]; first | done | rfl)).symm, (by omega), (by first | omega | (simp only [sS_len, sL_len]; omega) | (simp only [List.length_replicate, sI_len]; omega) | (simp only [List.length_append, List.length_cons, List.length_nil, sI_len, cond_true, cond_false]; omega) | (simp only [List.length_append, List.length_cons, List.length_nil, sI_len, cond_eq_ite, apply_ite List.length]; split <;> simp only [List.length_append, List.length_cons, List.length_nil, sI_len] <;> omega) | grind), (by first | omega | (simp only [sS_len, sL_len]; omega) | (simp only [List.length_replicate, sI_len]; omega) | (simp only [List.length_append, List.length_cons, List.length_nil, sI_len, cond_true, cond_false]; omega) | (simp only [List.length_append, List.length_cons, List.length_nil, sI_len, cond_eq_ite, apply_ite List.length]; split <;> simp only [List.length_append, List.length_cons, List.length_nil, sI_len] <;> omega) | grind), (BdL.step _ (by assumption) (by omega)), (by first | omega | (simp only [sS_len, sL_len]; omega) | (simp only [List.length_replicate, sI_len]; omega) | (simp only [List.length_append, List.length_cons, List.length_nil, sI_len, cond_true, cond_false]; omega) | (simp only [List.length_append, List.length_cons, List.length_nil, sI_len, cond_eq_ite, apply_ite List.length]; split <;> simp only [List.length_append, List.length_cons, List.length_nil, sI_len] <;> omega) | grind), (hE243.sub (L' := [(1, .pointer (some ⟨b2, 0, none⟩)), (3, .slice b24 ((F_Frame_reachable f0 f1).length) c25), (4, .slice b34 ((F_Frame_clusters f0 f1).length) c35), (5, .slice b58 ((F_z_Repeat ([1]) f0).length) c59), (6, .int .i64 t23L2), (18, .int .i64 f0), (19, .int .i64 t19), (22, .int .i64 f0), (23, .int .i64 t23L2), (30, .slice b132 ((F_membersOf (gI (F_Frame_reachable f0 f1) t23L2)).length) c133), (31, .int .i64 ((F_membersOf (gI (F_Frame_reachable f0 f1) t23L2)).length : Int)), (32, .int .i64 (t32L3 + 1))]) ⟨rfl, rfl, rfl, rfl, rfl, rfl, rfl, rfl, rfl, rfl, rfl, rfl, trivial⟩), (St.pick (Γ' := [.own 2 1 b132 ((F_membersOf (gI (F_Frame_reachable f0 f1) t23L2)).length) c133 (F_membersOf (gI (F_Frame_reachable f0 f1) t23L2)), .own 2 1 b58 ((F_z_Repeat ([1]) f0).length) c59 (bif (!decide ((gI (F_Frame_clusters f0 f1) t23L2) = (gI (F_Frame_clusters f0 f1) (gI (F_membersOf (gI (F_Frame_reachable f0 f1) t23L2)) t32L3)))) then sI out5L3 t23L2 (max (gI out5L3 t23L2) ((gI out5L3 (gI (F_membersOf (gI (F_Frame_reachable f0 f1) t23L2)) t32L3)) + 1)) else out5L3), .own 2 1 (some ⟨b42, 0, none⟩) 1 1 ([1]), .own 2 1 b34 ((F_Frame_clusters f0 f1).length) c35 (F_Frame_clusters f0 f1), .own 2 1 b24 ((F_Frame_reachable f0 f1).length) c25 (F_Frame_reachable f0 f1), .blk b2 #[.int .i64 f0, .slice f1A f1.length f1C] 30, .rd 1 f1A f1.length f1C f1]) hS237 [0, 1, 2, 3, 4, 6, 5] (by decide) rfl)⟩
          ·
           have hp245 := of_decide_eq_false ht155
           have hE246 := hE154; rw [ht155] at hE246; clear hE154
           refine wp_exit ?_
           refine p_te ?_
           have hX247 : F_Frame_worldDepths_L3 f0 f1 t23L2 (Int.toNat (((F_membersOf (gI (F_Frame_reachable f0 f1) t23L2)).length : Int) - 0) + 1) 0 out5L2 = (t32L3, out5L3) := hT145.symm.trans (show F_Frame_worldDepths_L3b f0 f1 t23L2 (F_Frame_worldDepths_L3 f0 f1 t23L2 r151) t32L3 out5L3 = (t32L3, out5L3) by unfold F_Frame_worldDepths_L3b; rw [ht155]; first | done | rfl)
           refine p_te (p_be (p_tn ?_))
           exact ⟨(by rw [hX247]; exact (show 0 ≤ t32L3 from (by first | omega | (simp only [sS_len, sL_len]; omega) | (simp only [List.length_replicate, sI_len]; omega) | (simp only [List.length_append, List.length_cons, List.length_nil, sI_len, cond_true, cond_false]; omega) | (simp only [List.length_append, List.length_cons, List.length_nil, sI_len, cond_eq_ite, apply_ite List.length]; split <;> simp only [List.length_append, List.length_cons, List.length_nil, sI_len] <;> omega) | grind))), (by rw [hX247]; exact (show (out5L3.length : Int) = f0 from (by first | omega | (simp only [sS_len, sL_len]; omega) | (simp only [List.length_replicate, sI_len]; omega) | (simp only [List.length_append, List.length_cons, List.length_nil, sI_len, cond_true, cond_false]; omega) | (simp only [List.length_append, List.length_cons, List.length_nil, sI_len, cond_eq_ite, apply_ite List.length]; split <;> simp only [List.length_append, List.length_cons, List.length_nil, sI_len] <;> omega) | grind))), (by rw [hX247]; exact (show BdL out5L3 (1 + 64 * t19 + 8 * t23L2 + t32L3) from (by first | omega | (simp only [sS_len, sL_len]; omega) | (simp only [List.length_replicate, sI_len]; omega) | (simp only [List.length_append, List.length_cons, List.length_nil, sI_len, cond_true, cond_false]; omega) | (simp only [List.length_append, List.length_cons, List.length_nil, sI_len, cond_eq_ite, apply_ite List.length]; split <;> simp only [List.length_append, List.length_cons, List.length_nil, sI_len] <;> omega) | grind))), (by rw [hX247]; exact (show t32L3 ≤ ((F_membersOf (gI (F_Frame_reachable f0 f1) t23L2)).length : Int) from (by first | omega | (simp only [sS_len, sL_len]; omega) | (simp only [List.length_replicate, sI_len]; omega) | (simp only [List.length_append, List.length_cons, List.length_nil, sI_len, cond_true, cond_false]; omega) | (simp only [List.length_append, List.length_cons, List.length_nil, sI_len, cond_eq_ite, apply_ite List.length]; split <;> simp only [List.length_append, List.length_cons, List.length_nil, sI_len] <;> omega) | grind))), (by rw [hX247]; exact (hE246.sub (L' := [(1, .pointer (some ⟨b2, 0, none⟩)), (3, .slice b24 ((F_Frame_reachable f0 f1).length) c25), (4, .slice b34 ((F_Frame_clusters f0 f1).length) c35), (5, .slice b58 ((F_z_Repeat ([1]) f0).length) c59), (6, .int .i64 t23L2), (18, .int .i64 f0), (19, .int .i64 t19), (22, .int .i64 f0), (23, .int .i64 t23L2), (30, .slice b132 ((F_membersOf (gI (F_Frame_reachable f0 f1) t23L2)).length) c133), (31, .int .i64 ((F_membersOf (gI (F_Frame_reachable f0 f1) t23L2)).length : Int)), (32, .int .i64 t32L3)]) ⟨rfl, rfl, rfl, rfl, rfl, rfl, rfl, rfl, rfl, rfl, rfl, rfl, trivial⟩)), (by rw [hX247]; exact (St.pick (Γ' := [.own 2 1 b132 ((F_membersOf (gI (F_Frame_reachable f0 f1) t23L2)).length) c133 (F_membersOf (gI (F_Frame_reachable f0 f1) t23L2)), .own 2 1 b58 ((F_z_Repeat ([1]) f0).length) c59 out5L3, .own 2 1 (some ⟨b42, 0, none⟩) 1 1 ([1]), .own 2 1 b34 ((F_Frame_clusters f0 f1).length) c35 (F_Frame_clusters f0 f1), .own 2 1 b24 ((F_Frame_reachable f0 f1).length) c25 (F_Frame_reachable f0 f1), .blk b2 #[.int .i64 f0, .slice f1A f1.length f1C] 30, .rd 1 f1A f1.length f1C f1]) hS144 [0, 1, 2, 3, 4, 5, 6] (by decide) rfl))⟩
        ·
         rintro a248 w249 ⟨hi253, hi254, hi255, hi256, hE250, hS251⟩; clear hE139 hS130
         refine p_bn ?_
         refine p_tn ?_
         refine c_reg ?_
         refine q_step (v := .int .i64 (t23L2 + 1)) hE250 (y_add rfl rfl ⟨(by omega), (by omega)⟩) rfl rfl rfl ?_; intro a257 hE258; clear hE250
         refine q_step (v := .int .i64 (t23L2 + 1)) hE258 (y_move rfl) rfl rfl rfl ?_; intro a259 hE260; clear hE258
         refine c_nil ?_
         have hE261 := hE260.sub (L' := [(1, .pointer (some ⟨b2, 0, none⟩)), (3, .slice b24 ((F_Frame_reachable f0 f1).length) c25), (4, .slice b34 ((F_Frame_clusters f0 f1).length) c35), (5, .slice b58 ((F_z_Repeat ([1]) f0).length) c59), (18, .int .i64 f0), (19, .int .i64 t19), (22, .int .i64 f0), (23, .int .i64 (t23L2 + 1))]) ⟨rfl, rfl, rfl, rfl, rfl, rfl, rfl, rfl, trivial⟩; clear hE260
         refine p_tn ⟨r106, Nat.lt_succ_self _, t23L2 + 1, (F_Frame_worldDepths_L3 f0 f1 t23L2 (Int.toNat (((F_membersOf (gI (F_Frame_reachable f0 f1) t23L2)).length : Int) - 0) + 1) 0 out5L2).2, (hT100.symm.trans (show F_Frame_worldDepths_L2b f0 f1 (F_Frame_worldDepths_L2 f0 f1 r106) t23L2 out5L2 = F_Frame_worldDepths_L2 f0 f1 r106 (t23L2 + 1) ((F_Frame_worldDepths_L3 f0 f1 t23L2 (Int.toNat (((F_membersOf (gI (F_Frame_reachable f0 f1) t23L2)).length : Int) - 0) + 1) 0 out5L2).2) by unfold F_Frame_worldDepths_L2b; rw [ht110]; first | done | rfl)).symm, (by omega), (by first | omega | (simp only [sS_len, sL_len]; omega) | (simp only [List.length_replicate, sI_len]; omega) | (simp only [List.length_append, List.length_cons, List.length_nil, sI_len, cond_true, cond_false]; omega) | (simp only [List.length_append, List.length_cons, List.length_nil, sI_len, cond_eq_ite, apply_ite List.length]; split <;> simp only [List.length_append, List.length_cons, List.length_nil, sI_len] <;> omega) | grind), (by first | omega | (simp only [sS_len, sL_len]; omega) | (simp only [List.length_replicate, sI_len]; omega) | (simp only [List.length_append, List.length_cons, List.length_nil, sI_len, cond_true, cond_false]; omega) | (simp only [List.length_append, List.length_cons, List.length_nil, sI_len, cond_eq_ite, apply_ite List.length]; split <;> simp only [List.length_append, List.length_cons, List.length_nil, sI_len] <;> omega) | grind), (BdL.mono (by assumption) (by omega)), (by first | omega | (simp only [sS_len, sL_len]; omega) | (simp only [List.length_replicate, sI_len]; omega) | (simp only [List.length_append, List.length_cons, List.length_nil, sI_len, cond_true, cond_false]; omega) | (simp only [List.length_append, List.length_cons, List.length_nil, sI_len, cond_eq_ite, apply_ite List.length]; split <;> simp only [List.length_append, List.length_cons, List.length_nil, sI_len] <;> omega) | grind), (hE261.sub (L' := [(1, .pointer (some ⟨b2, 0, none⟩)), (3, .slice b24 ((F_Frame_reachable f0 f1).length) c25), (4, .slice b34 ((F_Frame_clusters f0 f1).length) c35), (5, .slice b58 ((F_z_Repeat ([1]) f0).length) c59), (18, .int .i64 f0), (19, .int .i64 t19), (22, .int .i64 f0), (23, .int .i64 (t23L2 + 1))]) ⟨rfl, rfl, rfl, rfl, rfl, rfl, rfl, rfl, trivial⟩), (St.pick (Γ' := [.own 2 1 b58 ((F_z_Repeat ([1]) f0).length) c59 ((F_Frame_worldDepths_L3 f0 f1 t23L2 (Int.toNat (((F_membersOf (gI (F_Frame_reachable f0 f1) t23L2)).length : Int) - 0) + 1) 0 out5L2).2), .own 2 1 (some ⟨b42, 0, none⟩) 1 1 ([1]), .own 2 1 b34 ((F_Frame_clusters f0 f1).length) c35 (F_Frame_clusters f0 f1), .own 2 1 b24 ((F_Frame_reachable f0 f1).length) c25 (F_Frame_reachable f0 f1), .blk b2 #[.int .i64 f0, .slice f1A f1.length f1C] 30, .rd 1 f1A f1.length f1C f1]) hS251 [1, 2, 3, 4, 5, 6] (by decide) rfl)⟩
       ·
        have hp262 := of_decide_eq_false ht110
        have hE263 := hE109; rw [ht110] at hE263; clear hE109
        refine wp_exit ?_
        refine p_te ?_
        have hX264 : F_Frame_worldDepths_L2 f0 f1 (Int.toNat (f0 - 0) + 1) 0 out5 = (t23L2, out5L2) := hT100.symm.trans (show F_Frame_worldDepths_L2b f0 f1 (F_Frame_worldDepths_L2 f0 f1 r106) t23L2 out5L2 = (t23L2, out5L2) by unfold F_Frame_worldDepths_L2b; rw [ht110]; first | done | rfl)
        refine p_te (p_be (p_tn ?_))
        exact ⟨(by rw [hX264]; exact (show 0 ≤ t23L2 from (by first | omega | (simp only [sS_len, sL_len]; omega) | (simp only [List.length_replicate, sI_len]; omega) | (simp only [List.length_append, List.length_cons, List.length_nil, sI_len, cond_true, cond_false]; omega) | (simp only [List.length_append, List.length_cons, List.length_nil, sI_len, cond_eq_ite, apply_ite List.length]; split <;> simp only [List.length_append, List.length_cons, List.length_nil, sI_len] <;> omega) | grind))), (by rw [hX264]; exact (show (out5L2.length : Int) = f0 from (by first | omega | (simp only [sS_len, sL_len]; omega) | (simp only [List.length_replicate, sI_len]; omega) | (simp only [List.length_append, List.length_cons, List.length_nil, sI_len, cond_true, cond_false]; omega) | (simp only [List.length_append, List.length_cons, List.length_nil, sI_len, cond_eq_ite, apply_ite List.length]; split <;> simp only [List.length_append, List.length_cons, List.length_nil, sI_len] <;> omega) | grind))), (by rw [hX264]; exact (show BdL out5L2 (1 + 64 * t19 + 8 * t23L2) from (by first | omega | (simp only [sS_len, sL_len]; omega) | (simp only [List.length_replicate, sI_len]; omega) | (simp only [List.length_append, List.length_cons, List.length_nil, sI_len, cond_true, cond_false]; omega) | (simp only [List.length_append, List.length_cons, List.length_nil, sI_len, cond_eq_ite, apply_ite List.length]; split <;> simp only [List.length_append, List.length_cons, List.length_nil, sI_len] <;> omega) | grind))), (by rw [hX264]; exact (show t23L2 ≤ f0 from (by first | omega | (simp only [sS_len, sL_len]; omega) | (simp only [List.length_replicate, sI_len]; omega) | (simp only [List.length_append, List.length_cons, List.length_nil, sI_len, cond_true, cond_false]; omega) | (simp only [List.length_append, List.length_cons, List.length_nil, sI_len, cond_eq_ite, apply_ite List.length]; split <;> simp only [List.length_append, List.length_cons, List.length_nil, sI_len] <;> omega) | grind))), (by rw [hX264]; exact (hE263.sub (L' := [(1, .pointer (some ⟨b2, 0, none⟩)), (3, .slice b24 ((F_Frame_reachable f0 f1).length) c25), (4, .slice b34 ((F_Frame_clusters f0 f1).length) c35), (5, .slice b58 ((F_z_Repeat ([1]) f0).length) c59), (18, .int .i64 f0), (19, .int .i64 t19), (22, .int .i64 f0), (23, .int .i64 t23L2)]) ⟨rfl, rfl, rfl, rfl, rfl, rfl, rfl, rfl, trivial⟩)), (by rw [hX264]; exact (St.pick (Γ' := [.own 2 1 b58 ((F_z_Repeat ([1]) f0).length) c59 out5L2, .own 2 1 (some ⟨b42, 0, none⟩) 1 1 ([1]), .own 2 1 b34 ((F_Frame_clusters f0 f1).length) c35 (F_Frame_clusters f0 f1), .own 2 1 b24 ((F_Frame_reachable f0 f1).length) c25 (F_Frame_reachable f0 f1), .blk b2 #[.int .i64 f0, .slice f1A f1.length f1C] 30, .rd 1 f1A f1.length f1C f1]) hS99 [0, 1, 2, 3, 4, 5] (by decide) rfl))⟩
     ·
      rintro a265 w266 ⟨hi270, hi271, hi272, hi273, hE267, hS268⟩; clear hE94 hS75
      refine p_bn ?_
      refine p_tn ?_
      refine c_reg ?_
      refine q_step (v := .int .i64 (t19 + 1)) hE267 (y_add rfl rfl ⟨(by omega), (by omega)⟩) rfl rfl rfl ?_; intro a274 hE275; clear hE267
      refine q_step (v := .int .i64 (t19 + 1)) hE275 (y_move rfl) rfl rfl rfl ?_; intro a276 hE277; clear hE275
      refine c_nil ?_
      have hE278 := hE277.sub (L' := [(1, .pointer (some ⟨b2, 0, none⟩)), (3, .slice b24 ((F_Frame_reachable f0 f1).length) c25), (4, .slice b34 ((F_Frame_clusters f0 f1).length) c35), (5, .slice b58 ((F_z_Repeat ([1]) f0).length) c59), (18, .int .i64 f0), (19, .int .i64 (t19 + 1))]) ⟨rfl, rfl, rfl, rfl, rfl, rfl, trivial⟩; clear hE277
      refine p_tn ⟨r81, Nat.lt_succ_self _, t19 + 1, (F_Frame_worldDepths_L2 f0 f1 (Int.toNat (f0 - 0) + 1) 0 out5).2, (hT76.symm.trans (show F_Frame_worldDepths_L1b f0 f1 (F_Frame_worldDepths_L1 f0 f1 r81) t19 out5 = F_Frame_worldDepths_L1 f0 f1 r81 (t19 + 1) ((F_Frame_worldDepths_L2 f0 f1 (Int.toNat (f0 - 0) + 1) 0 out5).2) by unfold F_Frame_worldDepths_L1b; rw [ht85]; first | done | rfl)).symm, (by omega), (by first | omega | (simp only [sS_len, sL_len]; omega) | (simp only [List.length_replicate, sI_len]; omega) | (simp only [List.length_append, List.length_cons, List.length_nil, sI_len, cond_true, cond_false]; omega) | (simp only [List.length_append, List.length_cons, List.length_nil, sI_len, cond_eq_ite, apply_ite List.length]; split <;> simp only [List.length_append, List.length_cons, List.length_nil, sI_len] <;> omega) | grind), (by first | omega | (simp only [sS_len, sL_len]; omega) | (simp only [List.length_replicate, sI_len]; omega) | (simp only [List.length_append, List.length_cons, List.length_nil, sI_len, cond_true, cond_false]; omega) | (simp only [List.length_append, List.length_cons, List.length_nil, sI_len, cond_eq_ite, apply_ite List.length]; split <;> simp only [List.length_append, List.length_cons, List.length_nil, sI_len] <;> omega) | grind), (BdL.mono (by assumption) (by omega)), (hE278.sub (L' := [(1, .pointer (some ⟨b2, 0, none⟩)), (3, .slice b24 ((F_Frame_reachable f0 f1).length) c25), (4, .slice b34 ((F_Frame_clusters f0 f1).length) c35), (5, .slice b58 ((F_z_Repeat ([1]) f0).length) c59), (18, .int .i64 f0), (19, .int .i64 (t19 + 1))]) ⟨rfl, rfl, rfl, rfl, rfl, rfl, trivial⟩), (St.pick (Γ' := [.own 2 1 b58 ((F_z_Repeat ([1]) f0).length) c59 ((F_Frame_worldDepths_L2 f0 f1 (Int.toNat (f0 - 0) + 1) 0 out5).2), .own 2 1 (some ⟨b42, 0, none⟩) 1 1 ([1]), .own 2 1 b34 ((F_Frame_clusters f0 f1).length) c35 (F_Frame_clusters f0 f1), .own 2 1 b24 ((F_Frame_reachable f0 f1).length) c25 (F_Frame_reachable f0 f1), .blk b2 #[.int .i64 f0, .slice f1A f1.length f1C] 30, .rd 1 f1A f1.length f1C f1]) hS268 [0, 1, 2, 3, 4, 5] (by decide) rfl)⟩
    ·
     have hp279 := of_decide_eq_false ht85
     have hE280 := hE84; rw [ht85] at hE280; clear hE84
     refine wp_exit ?_
     refine p_te ?_
     have hX281 : F_Frame_worldDepths_L1 f0 f1 (Int.toNat (f0 - 0) + 1) 0 (F_z_Repeat ([1]) f0) = (t19, out5) := hT76.symm.trans (show F_Frame_worldDepths_L1b f0 f1 (F_Frame_worldDepths_L1 f0 f1 r81) t19 out5 = (t19, out5) by unfold F_Frame_worldDepths_L1b; rw [ht85]; first | done | rfl)
     refine p_te (p_be (p_tn ?_))
     exact ⟨(by rw [hX281]; exact (show 0 ≤ t19 from (by first | omega | (simp only [sS_len, sL_len]; omega) | (simp only [List.length_replicate, sI_len]; omega) | (simp only [List.length_append, List.length_cons, List.length_nil, sI_len, cond_true, cond_false]; omega) | (simp only [List.length_append, List.length_cons, List.length_nil, sI_len, cond_eq_ite, apply_ite List.length]; split <;> simp only [List.length_append, List.length_cons, List.length_nil, sI_len] <;> omega) | grind))), (by rw [hX281]; exact (show (out5.length : Int) = f0 from (by first | omega | (simp only [sS_len, sL_len]; omega) | (simp only [List.length_replicate, sI_len]; omega) | (simp only [List.length_append, List.length_cons, List.length_nil, sI_len, cond_true, cond_false]; omega) | (simp only [List.length_append, List.length_cons, List.length_nil, sI_len, cond_eq_ite, apply_ite List.length]; split <;> simp only [List.length_append, List.length_cons, List.length_nil, sI_len] <;> omega) | grind))), (by rw [hX281]; exact (show BdL out5 (1 + 64 * t19) from (by first | omega | (simp only [sS_len, sL_len]; omega) | (simp only [List.length_replicate, sI_len]; omega) | (simp only [List.length_append, List.length_cons, List.length_nil, sI_len, cond_true, cond_false]; omega) | (simp only [List.length_append, List.length_cons, List.length_nil, sI_len, cond_eq_ite, apply_ite List.length]; split <;> simp only [List.length_append, List.length_cons, List.length_nil, sI_len] <;> omega) | grind))), (by rw [hX281]; exact (hE280.sub (L' := [(1, .pointer (some ⟨b2, 0, none⟩)), (3, .slice b24 ((F_Frame_reachable f0 f1).length) c25), (4, .slice b34 ((F_Frame_clusters f0 f1).length) c35), (5, .slice b58 ((F_z_Repeat ([1]) f0).length) c59), (18, .int .i64 f0), (19, .int .i64 t19)]) ⟨rfl, rfl, rfl, rfl, rfl, rfl, trivial⟩)), (by rw [hX281]; exact (St.pick (Γ' := [.own 2 1 b58 ((F_z_Repeat ([1]) f0).length) c59 out5, .own 2 1 (some ⟨b42, 0, none⟩) 1 1 ([1]), .own 2 1 b34 ((F_Frame_clusters f0 f1).length) c35 (F_Frame_clusters f0 f1), .own 2 1 b24 ((F_Frame_reachable f0 f1).length) c25 (F_Frame_reachable f0 f1), .blk b2 #[.int .i64 f0, .slice f1A f1.length f1C] 30, .rd 1 f1A f1.length f1C f1]) hS75 [0, 1, 2, 3, 4, 5] (by decide) rfl))⟩
  ·
   rintro a282 w283 ⟨hi287, hi288, hi289, hE284, hS285⟩; clear hE70 hS56
   refine p_tn ?_
   refine c_seq ?_
   refine c_reg ?_
   refine q_step (v := .slice b58 ((F_z_Repeat ([1]) f0).length) c59) hE284 (y_move rfl) rfl rfl rfl ?_; intro a290 hE291; clear hE284
   refine q_step (v := .slice b58 ((F_z_Repeat ([1]) f0).length) c59) hE291 (y_assign rfl) rfl rfl rfl ?_; intro a292 hE293; clear hE291
   refine c_nil ?_
   have hE294 := hE293.sub (L' := [(2, .slice b58 ((F_z_Repeat ([1]) f0).length) c59)]) ⟨rfl, trivial⟩; clear hE293
   refine p_tn ?_
   refine wp_ret ?_
   have hF : F_Frame_worldDepths f0 f1 = (F_Frame_worldDepths_L1 f0 f1 (Int.toNat (f0 - 0) + 1) 0 (F_z_Repeat ([1]) f0)).2 := by unfold F_Frame_worldDepths; rfl
   refine c_ret1 hE294 rfl rfl ?_
   exact ⟨b58, c59, (by rw [hF]; first | rfl | (rw [(St.rdO (i := 0) hS285 rfl).len1])), (by rw [hF, (St.rdO (i := 0) hS285 rfl).len1]; (try dsimp only); exact hS285.ok 0 _ rfl), hS285.ext⟩
theorem listLoopR9 {α : Type} (xs : List Int) (g : α → Int → α) (L : Nat → Int → α → Int × α) (hL : ∀ r o t, L (r + 1) t o = bif decide (t < (xs.length : Int)) then L r (t + 1) (g o (gI xs t)) else (t, o)) (o : α) :
    (L (Int.toNat ((xs.length : Int) - 0) + 1) 0 o).2 = xs.foldl g o := by
  rw [rangeLoopR0 (xs.length : Int) (by omega) (fun o t => g o (gI xs t)) L (fun r t o => hL r o t), Int.toNat_natCast]
  conv => rhs; rw [← map_gI xs]
  rw [List.foldl_map]
/-- One visit of an edge. -/
def wdG (f0 : Int) (f1 : List Int) (x : Nat) (o : List Int) (j : Nat) : List Int := bif edg f0 f1 x j then sI o (x : Int) (max (gI o (x : Int)) (gI o (j : Int) + 1)) else o
theorem wd_L3 {f0 : Int} {f1 : List Int} (hi : F_l05Is f0 f1 = true) {x : Nat} (hx : (x : Int) < f0) (o : List Int) : (F_Frame_worldDepths_L3 f0 f1 (x : Int) (Int.toNat (((F_membersOf (gI (F_Frame_reachable f0 f1) (x : Int))).length : Int) - 0) + 1) 0 o).2 = (List.range f0.toNat).foldl (wdG f0 f1 x) o := by
  have h := FrP.of hi
  have h8 := h.h0
  have hm := reached_mk hi (x := (x : Int)) (by omega) hx
  rw [listLoopR9 (F_membersOf (gI (F_Frame_reachable f0 f1) (x : Int))) (fun o y => bif (!decide ((gI (F_Frame_clusters f0 f1) (x : Int)) = (gI (F_Frame_clusters f0 f1) y))) then sI o (x : Int) (max (gI o (x : Int)) ((gI o y) + 1)) else o) (F_Frame_worldDepths_L3 f0 f1 (x : Int)) (fun r o t => by
    show F_Frame_worldDepths_L3b f0 f1 _ _ t o = _
    unfold F_Frame_worldDepths_L3b; rfl), members_fold (n := f0.toNat) (by omega) hm.1 hm.2]
  refine foldl_cg _ _ fun j hj o => ?_
  have hj8 := List.mem_range.1 hj
  unfold wdG edg
  rw [tb_has (n := f0.toNat) (by omega) hm (by omega), reach_row hi x hx, clusters_eq hi]
  show (bif rch f0 f1 x j then _ else o) = _
  rw [show decide (gI (F_l05Clusters f0 f1) (x : Int) = gI (F_l05Clusters f0 f1) (j : Int)) = decide (gI (F_l05Clusters f0 f1) (j : Int) = gI (F_l05Clusters f0 f1) (x : Int)) from decide_eq_decide.2 ⟨Eq.symm, Eq.symm⟩]
  cases rch f0 f1 x j
  · rw [Bool.and_false]; rfl
  · rw [Bool.and_true]; rfl
def F_DepthsOfWorlds (f0 : Int) (f1 : List Int) : (List Int) × (Int) :=
  bif (!(F_isFrame f0 f1)) then ([], 1) else (F_Frame_worldDepths f0 f1, 0)
theorem cf_DepthsOfWorlds (args : Array Value) (w : World) : (callFunc 31 args).run Try.prog w = .ok (.enter 31 args) w := by kernel_rfl
set_option maxRecDepth 100000 in
theorem c_DepthsOfWorlds (f0 : Int) (f1A : Option Addr) (f1N f1C : Nat) (f1 : List Int) (w : World) (f1R : RdS w 1 f1A f1N f1C f1) :
    Calls Try.prog 31 #[.agg #[.int .i64 f0, .slice f1A f1N f1C]] w (Ret fun v w' => ∃ b1 : Option Addr, ∃ c1 : Nat, v = .tuple #[.slice b1 ((F_DepthsOfWorlds f0 f1).1).length c1, .int .i64 ((F_DepthsOfWorlds f0 f1).2)] ∧ OwnS w' w.heap.size 2 1 b1 ((F_DepthsOfWorlds f0 f1).1).length c1 ((F_DepthsOfWorlds f0 f1).1) ∧ Ext w w') := by
  obtain rfl : f1N = f1.length := f1R.len1.symm
  have f1Le := f1R.le
  have hS := St.nil w
  have hS1 := St.rd0 hS rfl f1R; clear hS
  refine enter (args := [.agg #[.int .i64 f0, .slice f1A f1.length f1C]]) Try.func31 rfl rfl ?_
  rw [Try.ntmps31]; intro a hE
  have hE := hE.sub (L' := [(0, .agg #[.int .i64 f0, .slice f1A f1.length f1C])]) ⟨rfl, trivial⟩
  refine c_seq ?_
  refine c_reg ?_
  refine l_step hE rfl (l_box (v := .agg #[.int .i64 f0, .slice f1A f1.length f1C]) (cs := #[.int .i64 f0, .slice f1A f1.length f1C]) hS1 hE rfl rfl rfl ?_)
  intro b2 w3 hS6 he7 a4 hE5; clear hS1 hE
  refine q_step (v := .slice none 0 0) hE5 (y_assign rfl) rfl rfl rfl ?_; intro a8 hE9; clear hE5
  refine q_step (v := .int .i64 0) hE9 (y_assign rfl) rfl rfl rfl ?_; intro a10 hE11; clear hE9
  refine c_nil ?_
  have hE12 := hE11.sub (L' := [(1, .pointer (some ⟨b2, 0, none⟩))]) ⟨rfl, trivial⟩; clear hE11
  refine p_tn ?_
  refine c_seq ?_
  refine c_seq ?_
  refine c_reg ?_
  refine q_step (v := .agg #[.int .i64 f0, .slice f1A f1.length f1C]) hE12 (y_loadS Try.underlying30 rfl (by kernel_rfl) rfl (St.row (i := 0) hS6 rfl)) rfl rfl rfl ?_; intro a13 hE14; clear hE12
  refine l_step hE14 rfl (l_call (f := 96) (argv := [.agg #[.int .i64 f0, .slice f1A f1.length f1C]]) hE14 (fun _ => cf_isFrame _ _) rfl rfl (c_isFrame f0 f1A f1.length f1C f1 w3 (St.rdR (i := 1) hS6 rfl)) ?_)
  rintro _ w16 ⟨rfl, he20⟩ a17 hE18; clear hE14
  have hS19 := St.go hS6 he20; clear hS6
  refine q_step (v := .bool (!(F_isFrame f0 f1))) hE18 (y_not rfl) rfl rfl rfl ?_; intro a21 hE22; clear hE18
  refine c_nil ?_
  have hE23 := hE22.sub (L' := [(1, .pointer (some ⟨b2, 0, none⟩)), (6, .bool (!(F_isFrame f0 f1)))]) ⟨rfl, rfl, trivial⟩; clear hE22
  refine p_tn ?_
  refine c_cond hE23 rfl (fun ht24 => ?_) (fun ht24 => ?_)
  ·
   have ht25 := bn_t ht24
   have hE26 := hE23; rw [ht24] at hE26; clear hE23
   refine c_seq ?_
   refine c_reg ?_
   refine q_step (v := .slice none 0 0) hE26 (y_assign rfl) rfl rfl rfl ?_; intro a27 hE28; clear hE26
   refine q_step (v := .int .i64 1) hE28 (y_assign rfl) rfl rfl rfl ?_; intro a29 hE30; clear hE28
   refine c_nil ?_
   have hE31 := hE30.sub (L' := [(2, .slice none 0 0), (3, .int .i64 1)]) ⟨rfl, rfl, trivial⟩; clear hE30
   refine p_tn ?_
   refine wp_ret ?_
   refine p_tr ?_
   have hF : F_DepthsOfWorlds f0 f1 = ([], 1) := by unfold F_DepthsOfWorlds; rw [ht24]; first | done | rfl
   refine c_ret2 hE31 rfl rfl rfl ?_
   exact ⟨none, 0, (by rw [hF]; first | done | (dsimp only; done) | rfl), (by rw [hF]; (try dsimp only); exact OwnS.nilS _ _ _ _), hS19.ext⟩
  ·
   have ht32 := bn_f ht24
   have hp33 := isFrame_t ht32
   have hE34 := hE23; rw [ht24] at hE34; clear hE23
   refine wp_skip ?_
   refine p_tn ?_
   refine c_seq ?_
   refine c_reg ?_
   refine q_step (v := .agg #[.int .i64 f0, .slice f1A f1.length f1C]) hE34 (y_loadS Try.underlying30 rfl (by kernel_rfl) rfl (St.row (i := 0) hS19 rfl)) rfl rfl rfl ?_; intro a35 hE36; clear hE34
   refine l_step hE36 rfl (l_call (f := 97) (argv := [.agg #[.int .i64 f0, .slice f1A f1.length f1C]]) hE36 (fun _ => cf_Frame_worldDepths _ _) rfl rfl (c_Frame_worldDepths f0 f1A f1.length f1C f1 w16 (St.rdR (i := 1) hS19 rfl) (by rw [← isFrame_eq]; assumption)) ?_)
   rintro _ w38 ⟨b43, c44, rfl, ho45, he42⟩ a39 hE40; clear hE36
   have hS41 := St.own hS19 he42 ho45; clear hS19
   refine q_step (v := .slice b43 ((F_Frame_worldDepths f0 f1).length) c44) hE40 (y_assign rfl) rfl rfl rfl ?_; intro a46 hE47; clear hE40
   refine q_step (v := .int .i64 0) hE47 (y_assign rfl) rfl rfl rfl ?_; intro a48 hE49; clear hE47
   refine c_nil ?_
   have hE50 := hE49.sub (L' := [(2, .slice b43 ((F_Frame_worldDepths f0 f1).length) c44), (3, .int .i64 0)]) ⟨rfl, rfl, trivial⟩; clear hE49
   refine p_tn ?_
   refine wp_ret ?_
   have hF : F_DepthsOfWorlds f0 f1 = (F_Frame_worldDepths f0 f1, 0) := by unfold F_DepthsOfWorlds; rw [ht24]; first | done | rfl
   refine c_ret2 hE50 rfl rfl rfl ?_
   exact ⟨b43, c44, (by rw [hF]; first | done | (dsimp only; done) | rfl), (by rw [hF]; (try dsimp only); exact hS41.ok 0 _ rfl), hS41.ext⟩
end Go.Proofs.Ytlbonhloeefnmaa
