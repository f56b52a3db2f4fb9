/- GDWS: models and contracts, printed by wip/gen/gen.py -/
import Derived.Test.YtlbonhloeefnmaaKDWGDW0
set_option linter.unusedVariables false
set_option linter.unusedSimpArgs false
namespace Go.Proofs.Ytlbonhloeefnmaa
open Go.RowKit
def F_l05Depth_L1b (f0 : Int) (f1 : List Int) (clusters : List Int) (wp : Int) (self : Int → List Int → List Int → Int → Int) (rec : Int → Int → Int × Int) (best7 : Int) (v9 : Int) : Int × Int :=
  bif (decide (v9 < f0)) then (rec (bif ((!decide ((gI clusters v9) = (gI clusters wp))) && (F_l01Bit (F_l05Reach f0 f1 (powI wp)) v9)) then max best7 (self f0 f1 clusters v9) else best7) (v9 + 1)) else (best7, v9)
def F_l05Depth_L1 (f0 : Int) (f1 : List Int) (clusters : List Int) (wp : Int) (self : Int → List Int → List Int → Int → Int) : Nat → Int → Int → Int × Int
  | 0, best7, v9 => (best7, v9)
  | r + 1, best7, v9 => F_l05Depth_L1b f0 f1 clusters wp self (F_l05Depth_L1 f0 f1 clusters wp self r) best7 v9
def F_l05Depth_b (self : Int → List Int → List Int → Int → Int) (f0 : Int) (f1 : List Int) (clusters : List Int) (wp : Int) : Int :=
  ((F_l05Depth_L1 f0 f1 clusters wp self (Int.toNat (f0 - 0) + 1) 0 0).1) + 1
def F_l05Depth_r : Nat → Int → List Int → List Int → Int → Int
  | 0 => fun _ _ _ _ => default
  | r + 1 => F_l05Depth_b (F_l05Depth_r r)
def F_l05Depth (f0 : Int) (f1 : List Int) (clusters : List Int) (wp : Int) : Int := F_l05Depth_r (cntR f0 f1 wp + 1) f0 f1 clusters wp
theorem dep_form (self : Int → List Int → List Int → Int → Int) {f0 : Int} {f1 : List Int} (h : FrP f0 f1) {w : Nat} (hw : (w : Int) < f0) : F_l05Depth_b self f0 f1 (F_l05Clusters f0 f1) (w : Int) = (List.range f0.toNat).foldl (fun o (v : Nat) => bif edg f0 f1 w v then max o (self f0 f1 (F_l05Clusters f0 f1) (v : Int)) else o) 0 + 1 := by
  have h8 := h.h0
  unfold F_l05Depth_b
  rw [rangeLoop0 f0 h8.1 (fun o v => bif ((!decide ((gI (F_l05Clusters f0 f1) v) = (gI (F_l05Clusters f0 f1) (w : Int)))) && (F_l01Bit (F_l05Reach f0 f1 (powI (w : Int))) v)) then max o (self f0 f1 (F_l05Clusters f0 f1) v) else o) (F_l05Depth_L1 f0 f1 (F_l05Clusters f0 f1) (w : Int) self) (fun r o t => by
    show F_l05Depth_L1b f0 f1 _ _ self _ o t = _
    unfold F_l05Depth_L1b; rfl)]
  congr 1
  refine foldl_cg _ _ fun j hj o => ?_
  rw [rch_bit h hw (by have := List.mem_range.1 hj; omega)]; rfl
theorem dep_bd {f0 : Int} {f1 : List Int} (h : FrP f0 f1) : ∀ (r w : Nat), (w : Int) < f0 → cntR f0 f1 (w : Int) < r → 1 ≤ F_l05Depth_r r f0 f1 (F_l05Clusters f0 f1) (w : Int) ∧ F_l05Depth_r r f0 f1 (F_l05Clusters f0 f1) (w : Int) ≤ (cntR f0 f1 (w : Int) : Int) := by
  intro r
  induction r with
  | zero => intro w _ hm; omega
  | succ r ih =>
    intro w hw hm
    show 1 ≤ F_l05Depth_b (F_l05Depth_r r) f0 f1 (F_l05Clusters f0 f1) (w : Int) ∧ F_l05Depth_b (F_l05Depth_r r) f0 f1 (F_l05Clusters f0 f1) (w : Int) ≤ _
    rw [dep_form _ h hw]
    obtain ⟨a1, a2, a3⟩ := maxf (fun v => edg f0 f1 w v) (fun v : Nat => F_l05Depth_r r f0 f1 (F_l05Clusters f0 f1) (v : Int)) (List.range f0.toNat) 0
    have hp := cnt_pos h hw
    refine ⟨by omega, ?_⟩
    rcases a3 with a3 | ⟨v, b1, b2, b3⟩
    · rw [a3]; omega
    · rw [b3]
      have hv : (v : Int) < f0 := by have := List.mem_range.1 b1; omega
      have hc := edg_cnt h hw hv b2
      have := (ih v hv (by omega)).2
      omega
theorem depPost : ∀ (r : Nat) (f0 : Int) (f1 clusters : List Int) (wp : Int) (hf : 0 ≤ f0 ∧ f0 ≤ 8) (hfl : (f1.length : Int) = f0) (hfm : ∀ m : Int, 0 ≤ m → m < (f1.length : Int) → 0 ≤ gI f1 m ∧ gI f1 m ≤ fullI f0) (hcl : clusters = F_l05Clusters f0 f1) (hw : 0 ≤ wp ∧ wp < f0) (hm : cntR f0 f1 wp < r), 1 ≤ F_l05Depth_r r f0 f1 clusters wp ∧ F_l05Depth_r r f0 f1 clusters wp ≤ 8 := by
  intro r f0 f1 clusters wp hf hfl hfm hcl hw hm
  obtain ⟨w, rfl⟩ : ∃ n : Nat, wp = (n : Int) := ⟨wp.toNat, by omega⟩
  subst hcl
  have := dep_bd ⟨hf, hfl, hfm⟩ r w hw.2 hm
  have := cntN_le (fun j => tb (F_l05Reach f0 f1 (powI (w : Int))) j) f0.toNat
  have e : cntR f0 f1 (w : Int) = cntN f0.toNat (fun j => tb (F_l05Reach f0 f1 (powI (w : Int))) j) := rfl
  omega
theorem cf_l05Depth (args : Array Value) (w : World) : (callFunc 164 args).run Try.prog w = .ok (.enter 164 args) w := by kernel_rfl
set_option maxRecDepth 100000 in
theorem cb_l05Depth (self : Int → List Int → List Int → Int → Int) (mu : Nat) (hpost : ∀ (f0 : Int) (f1 : List Int) (clusters : List Int) (wp : Int) (hf : 0 ≤ f0 ∧ f0 ≤ 8) (hfl : (f1.length : Int) = f0) (hfm : ∀ m : Int, 0 ≤ m → m < (f1.length : Int) → 0 ≤ gI f1 m ∧ gI f1 m ≤ fullI f0) (hcl : clusters = F_l05Clusters f0 f1) (hw : 0 ≤ wp ∧ wp < f0) (hm : cntR f0 f1 wp < mu), 1 ≤ (self f0 f1 clusters wp) ∧ (self f0 f1 clusters wp) ≤ 8) (f0 : Int) (f1A : Option Addr) (f1N f1C : Nat) (f1 : List Int) (clustersA : Option Addr) (clustersN clustersC : Nat) (clusters : List Int) (wp : Int) (w : World) (f1R : RdS w 1 f1A f1N f1C f1) (clustersR : RdS w 1 clustersA clustersN clustersC clusters) (hf : 0 ≤ f0 ∧ f0 ≤ 8) (hfl : (f1.length : Int) = f0) (hfm : ∀ m : Int, 0 ≤ m → m < (f1.length : Int) → 0 ≤ gI f1 m ∧ gI f1 m ≤ fullI f0) (hcl : clusters = F_l05Clusters f0 f1) (hw : 0 ≤ wp ∧ wp < f0) (hmu : mu = cntR f0 f1 wp) (ih : ∀ (f0 : Int) (f1A : Option Addr) (f1N f1C : Nat) (f1 : List Int) (clustersA : Option Addr) (clustersN clustersC : Nat) (clusters : List Int) (wp : Int) (w : World) (f1R : RdS w 1 f1A f1N f1C f1) (clustersR : RdS w 1 clustersA clustersN clustersC clusters) (hf : 0 ≤ f0 ∧ f0 ≤ 8) (hfl : (f1.length : Int) = f0) (hfm : ∀ m : Int, 0 ≤ m → m < (f1.length : Int) → 0 ≤ gI f1 m ∧ gI f1 m ≤ fullI f0) (hcl : clusters = F_l05Clusters f0 f1) (hw : 0 ≤ wp ∧ wp < f0) (hdec : cntR f0 f1 wp < mu), Calls Try.prog 164 #[.agg #[.int .i64 f0, .slice f1A f1N f1C], .slice clustersA clustersN clustersC, .int .i64 wp] w (Ret fun v w' => v = .int .i64 (self f0 f1 clusters wp) ∧ Ext w w')) :
    Calls Try.prog 164 #[.agg #[.int .i64 f0, .slice f1A f1N f1C], .slice clustersA clustersN clustersC, .int .i64 wp] w (Ret fun v w' => v = .int .i64 (F_l05Depth_b self f0 f1 clusters wp) ∧ Ext w w') := by
  obtain rfl : f1N = f1.length := f1R.len1.symm
  have f1Le := f1R.le
  obtain rfl : clustersN = clusters.length := clustersR.len1.symm
  have clustersLe := clustersR.le
  have hcln : (clusters.length : Int) = f0 := by rw [hcl]; exact clus_len hf.1
  have hpw := pow_full (n := f0) (v := wp) (by omega) (by omega) (by omega)
  have hS := St.nil w
  have hS1 := St.rd0 hS rfl f1R; clear hS
  have hS2 := St.rd0 hS1 rfl clustersR; clear hS1
  refine enter (args := [.agg #[.int .i64 f0, .slice f1A f1.length f1C], .slice clustersA clusters.length clustersC, .int .i64 wp]) Try.func164 rfl rfl ?_
  rw [Try.ntmps164]; intro a hE
  have hE := hE.sub (L' := [(0, .agg #[.int .i64 f0, .slice f1A f1.length f1C]), (1, .slice clustersA clusters.length clustersC), (2, .int .i64 wp)]) ⟨rfl, rfl, rfl, trivial⟩
  refine c_seq ?_
  refine c_reg ?_
  refine l_step hE rfl (l_box (v := .agg #[.int .i64 f0, .slice f1A f1.length f1C]) (cs := #[.int .i64 f0, .slice f1A f1.length f1C]) hS2 hE rfl rfl rfl ?_)
  intro b3 w4 hS7 he8 a5 hE6; clear hS2 hE
  refine q_step (v := .int .i64 0) hE6 (y_assign rfl) rfl rfl rfl ?_; intro a9 hE10; clear hE6
  refine c_nil ?_
  have hE11 := hE10.sub (L' := [(1, .slice clustersA clusters.length clustersC), (2, .int .i64 wp), (3, .pointer (some ⟨b3, 0, none⟩))]) ⟨rfl, rfl, rfl, trivial⟩; clear hE10
  refine p_tn ?_
  refine c_seq ?_
  refine c_reg ?_
  refine q_step (v := .int .i64 0) hE11 (y_assign rfl) rfl rfl rfl ?_; intro a12 hE13; clear hE11
  refine c_nil ?_
  have hE14 := hE13.sub (L' := [(1, .slice clustersA clusters.length clustersC), (2, .int .i64 wp), (3, .pointer (some ⟨b3, 0, none⟩)), (7, .int .i64 0)]) ⟨rfl, rfl, rfl, rfl, trivial⟩; clear hE13
  refine p_tn ?_
  refine c_seq ?_
  refine d_start (fun w w' => (fun w' => w'.heap[b3]? = some (.cells #[.int .i64 f0, .slice f1A f1.length f1C] 30 (0, 0)) ∧ True) w → (fun w' => w'.heap[b3]? = some (.cells #[.int .i64 f0, .slice f1A f1.length f1C] 30 (0, 0)) ∧ True) w') [0] 5 (by kernel_rfl) rfl ?_
  intro w15 he16; have hS17 := St.go hS7 he16; clear hS7
  refine d_take (fun _ h => h) (fun _ _ h k => h k) (v := .agg #[.int .i64 f0, .slice f1A f1.length f1C]) 0 rfl hE14 (S := fun w' => w'.heap[b3]? = some (.cells #[.int .i64 f0, .slice f1A f1.length f1C] 30 (0, 0)) ∧ True) ⟨(St.row (i := 0) hS17 rfl _ (Ext.refl _)), trivial⟩ (y_loadS Try.underlying30 rfl (by kernel_rfl) rfl (fun _ h => h.1)) rfl rfl (by kernel_rfl) (by kernel_rfl) (by kernel_rfl) (by kernel_rfl) rfl rfl (fun _ _ _ h => h) ?_; intro a18 hE19; clear hE14
  refine d_pure (fun _ h => h) (v := .int .i64 wp) 1 rfl hE19 (y_move rfl) rfl (by kernel_rfl) (by kernel_rfl) (by kernel_rfl) rfl rfl (fun _ _ _ h => h) ?_; intro a20 hE21; clear hE19
  refine d_only 2 (by kernel_rfl) rfl hE21 rfl (l_call (f := 209) (argv := [.int .i64 wp]) hE21 (fun _ => cf_l01One _ _) rfl rfl (d_l01One wp w15 (by omega) (by omega)) ?_)
  rintro _ _ ⟨rfl, rfl⟩ a24 hE25; clear hE21
  refine ⟨fun _ _ => ⟨(St.row (i := 0) hS17 rfl _ (Ext.refl _)), trivial⟩, ?_⟩
  refine d_only 3 (by kernel_rfl) rfl hE25 rfl (l_call (f := 216) (argv := [.agg #[.int .i64 f0, .slice f1A f1.length f1C], .int .i64 (powI wp)]) hE25 (fun _ => cf_l05Reach _ _) rfl rfl (c_l05Reach f0 f1A f1.length f1C f1 (powI wp) w15 (St.rdR (i := 2) hS17 rfl) (by omega) (by omega) (by omega) hfm) ?_)
  rintro _ w29 ⟨rfl, he33⟩ a30 hE31; clear hE25
  have hS32 := St.go hS17 he33; clear hS17
  refine ⟨fun h => Bool.noConfusion (h.symm.trans (show exm _ _ _ = true by kernel_rfl)), ?_⟩
  refine d_pure (fun _ h => h) (v := .int .i64 (F_l05Reach f0 f1 (powI wp))) 4 rfl hE31 (y_assign rfl) rfl (by kernel_rfl) (by kernel_rfl) (by kernel_rfl) rfl rfl (fun _ _ _ h => h) ?_; intro a34 hE35; clear hE31
  refine d_done (by kernel_rfl) ?_
  have hE36 := hE35.sub (L' := [(1, .slice clustersA clusters.length clustersC), (2, .int .i64 wp), (3, .pointer (some ⟨b3, 0, none⟩)), (7, .int .i64 0), (8, .int .i64 (F_l05Reach f0 f1 (powI wp)))]) ⟨rfl, rfl, rfl, rfl, rfl, trivial⟩; clear hE35
  refine p_tn ?_
  refine c_seq ?_
  refine c_seq ?_
  refine c_reg ?_
  refine q_step (v := .int .i64 0) hE36 (y_assign rfl) rfl rfl rfl ?_; intro a37 hE38; clear hE36
  refine c_nil ?_
  have hE39 := hE38.sub (L' := [(1, .slice clustersA clusters.length clustersC), (2, .int .i64 wp), (3, .pointer (some ⟨b3, 0, none⟩)), (7, .int .i64 0), (8, .int .i64 (F_l05Reach f0 f1 (powI wp))), (9, .int .i64 0)]) ⟨rfl, rfl, rfl, rfl, rfl, rfl, trivial⟩; clear hE38
  refine p_tn ?_
  refine c_cut1 (fun a' w' => (0 ≤ ((F_l05Depth_L1 f0 f1 clusters wp self (Int.toNat (f0 - 0) + 1) 0 0).2)) ∧ (0 ≤ ((F_l05Depth_L1 f0 f1 clusters wp self (Int.toNat (f0 - 0) + 1) 0 0).1)) ∧ (((F_l05Depth_L1 f0 f1 clusters wp self (Int.toNat (f0 - 0) + 1) 0 0).1) ≤ 8) ∧ E a' 42 [(1, .slice clustersA clusters.length clustersC), (2, .int .i64 wp), (3, .pointer (some ⟨b3, 0, none⟩)), (7, .int .i64 ((F_l05Depth_L1 f0 f1 clusters wp self (Int.toNat (f0 - 0) + 1) 0 0).1)), (8, .int .i64 (F_l05Reach f0 f1 (powI wp))), (9, .int .i64 ((F_l05Depth_L1 f0 f1 clusters wp self (Int.toNat (f0 - 0) + 1) 0 0).2))] ∧ St w w' [.blk b3 #[.int .i64 f0, .slice f1A f1.length f1C] 30, .rd 1 clustersA clusters.length clustersC clusters, .rd 1 f1A f1.length f1C f1]) ?_ ?_
  ·
   refine wp_block ?_
   refine c_loop (fun r a' w' => ∃ best7 : Int, ∃ v9 : Int, F_l05Depth_L1 f0 f1 clusters wp self r best7 v9 = F_l05Depth_L1 f0 f1 clusters wp self (Int.toNat (f0 - 0) + 1) 0 0 ∧ Int.toNat (f0 - v9) < r ∧ (0 ≤ v9) ∧ (0 ≤ best7) ∧ (best7 ≤ 8) ∧ E a' 42 [(1, .slice clustersA clusters.length clustersC), (2, .int .i64 wp), (3, .pointer (some ⟨b3, 0, none⟩)), (7, .int .i64 best7), (8, .int .i64 (F_l05Reach f0 f1 (powI wp))), (9, .int .i64 v9)] ∧ St w w' [.blk b3 #[.int .i64 f0, .slice f1A f1.length f1C] 30, .rd 1 clustersA clusters.length clustersC clusters, .rd 1 f1A f1.length f1C f1]) (r := (Int.toNat (f0 - 0) + 1)) ?_ ?_
   · exact ⟨0, 0, rfl, Nat.lt_succ_self _, (by first | omega | (simp only [sS_len, sL_len]; omega) | (simp only [List.length_replicate, sI_len]; omega) | (simp only [List.length_append, List.length_cons, List.length_nil, sI_len, cond_true, cond_false]; omega) | (simp only [List.length_append, List.length_cons, List.length_nil, sI_len, cond_eq_ite, apply_ite List.length]; split <;> simp only [List.length_append, List.length_cons, List.length_nil, sI_len] <;> omega) | grind), (by first | omega | (simp only [sS_len, sL_len]; omega) | (simp only [List.length_replicate, sI_len]; omega) | (simp only [List.length_append, List.length_cons, List.length_nil, sI_len, cond_true, cond_false]; omega) | (simp only [List.length_append, List.length_cons, List.length_nil, sI_len, cond_eq_ite, apply_ite List.length]; split <;> simp only [List.length_append, List.length_cons, List.length_nil, sI_len] <;> omega) | grind), (by first | omega | (simp only [sS_len, sL_len]; omega) | (simp only [List.length_replicate, sI_len]; omega) | (simp only [List.length_append, List.length_cons, List.length_nil, sI_len, cond_true, cond_false]; omega) | (simp only [List.length_append, List.length_cons, List.length_nil, sI_len, cond_eq_ite, apply_ite List.length]; split <;> simp only [List.length_append, List.length_cons, List.length_nil, sI_len] <;> omega) | grind), (hE39.sub (L' := [(1, .slice clustersA clusters.length clustersC), (2, .int .i64 wp), (3, .pointer (some ⟨b3, 0, none⟩)), (7, .int .i64 0), (8, .int .i64 (F_l05Reach f0 f1 (powI wp))), (9, .int .i64 0)]) ⟨rfl, rfl, rfl, rfl, rfl, rfl, trivial⟩), (St.pick (Γ' := [.blk b3 #[.int .i64 f0, .slice f1A f1.length f1C] 30, .rd 1 clustersA clusters.length clustersC clusters, .rd 1 f1A f1.length f1C f1]) hS32 [0, 1, 2] (by decide) rfl)⟩
   ·
    clear hE39 hS32
    rintro r50 a41 w42 ⟨best7, v9, hT45, hr46, hi47, hi48, hi49, hE43, hS44⟩
    obtain ⟨r50, rfl⟩ : ∃ r', r50 = r' + 1 := ⟨r50 - 1, by omega⟩
    refine c_seq ?_
    refine c_seq ?_
    refine c_reg ?_
    refine q_step (v := .int .i64 v9) hE43 (y_move rfl) rfl rfl rfl ?_; intro a51 hE52; clear hE43
    refine q_step (v := .pointer (some ⟨b3, 0, none⟩)) hE52 (y_field rfl (fun _ => by kernel_rfl)) rfl rfl rfl ?_; intro a53 hE54; clear hE52
    refine q_step (v := .int .i64 f0) hE54 (y_load (fun _ => by kernel_rfl) rfl (St.cell (i := 0) hS44 rfl rfl)) rfl rfl rfl ?_; intro a55 hE56; clear hE54
    refine q_step (v := .bool (decide (v9 < f0))) hE56 (y_lss rfl rfl) rfl rfl rfl ?_; intro a57 hE58; clear hE56
    refine c_nil ?_
    have hE59 := hE58.sub (L' := [(1, .slice clustersA clusters.length clustersC), (2, .int .i64 wp), (3, .pointer (some ⟨b3, 0, none⟩)), (7, .int .i64 best7), (8, .int .i64 (F_l05Reach f0 f1 (powI wp))), (9, .int .i64 v9), (17, .bool (decide (v9 < f0)))]) ⟨rfl, rfl, rfl, rfl, rfl, rfl, rfl, trivial⟩; clear hE58
    refine p_tn ?_
    refine c_cond hE59 rfl (fun ht60 => ?_) (fun ht60 => ?_)
    ·
     have hp61 := of_decide_eq_true ht60
     have hE62 := hE59; rw [ht60] at hE62; clear hE59
     refine wp_skip ?_
     refine p_tn ?_
     refine c_cut (fun a' w' => E a' 42 [(1, .slice clustersA clusters.length clustersC), (2, .int .i64 wp), (3, .pointer (some ⟨b3, 0, none⟩)), (7, .int .i64 (bif ((!decide ((gI clusters v9) = (gI clusters wp))) && (F_l01Bit (F_l05Reach f0 f1 (powI wp)) v9)) then max best7 (self f0 f1 clusters v9) else best7)), (8, .int .i64 (F_l05Reach f0 f1 (powI wp))), (9, .int .i64 v9)] ∧ St w w' [.rd 1 f1A f1.length f1C f1, .blk b3 #[.int .i64 f0, .slice f1A f1.length f1C] 30, .rd 1 clustersA clusters.length clustersC clusters]) ?_ ?_
     ·
      refine wp_block ?_
      refine c_cut (fun a' w' => E a' 42 [(1, .slice clustersA clusters.length clustersC), (2, .int .i64 wp), (3, .pointer (some ⟨b3, 0, none⟩)), (7, .int .i64 best7), (8, .int .i64 (F_l05Reach f0 f1 (powI wp))), (9, .int .i64 v9), (33, .bool ((!decide ((gI clusters v9) = (gI clusters wp))) && (F_l01Bit (F_l05Reach f0 f1 (powI wp)) v9)))] ∧ St w w' [.rd 1 f1A f1.length f1C f1, .blk b3 #[.int .i64 f0, .slice f1A f1.length f1C] 30, .rd 1 clustersA clusters.length clustersC clusters]) ?_ ?_
      ·
       refine d_start (fun w w' => (fun w' => w'.cell? (adr clustersA (Int.toNat v9)) = some (.int .i64 (gI clusters v9)) ∧ w'.cell? (adr clustersA (Int.toNat wp)) = some (.int .i64 (gI clusters wp)) ∧ True) w → (fun w' => w'.cell? (adr clustersA (Int.toNat v9)) = some (.int .i64 (gI clusters v9)) ∧ w'.cell? (adr clustersA (Int.toNat wp)) = some (.int .i64 (gI clusters wp)) ∧ True) w') [3, 7] 14 (by kernel_rfl) rfl ?_
       intro w63 he64; have hS65 := St.go hS44 he64; clear hS44
       refine d_pure (fun _ h => h) (v := .slice clustersA clusters.length clustersC) 0 rfl hE62 (y_move rfl) rfl (by kernel_rfl) (by kernel_rfl) (by kernel_rfl) rfl rfl (fun _ _ _ h => h) ?_; intro a66 hE67; clear hE62
       refine d_pure (fun _ h => h) (v := .int .i64 v9) 1 rfl hE67 (y_move rfl) rfl (by kernel_rfl) (by kernel_rfl) (by kernel_rfl) rfl rfl (fun _ _ _ h => h) ?_; intro a68 hE69; clear hE67
       refine d_pure (fun _ h => h) (v := .pointer (some (adr clustersA (Int.toNat v9)))) 2 rfl hE69 (y_idx (by kernel_rfl) (fun _ => by kernel_rfl) rfl rfl (RdS.isS (m := v9) (St.rdR (i := 1) hS65 rfl) (by omega) (by omega)) (by omega) (by omega) (Nat.mul_one _).symm) rfl (by kernel_rfl) (by kernel_rfl) (by kernel_rfl) rfl rfl (fun _ _ _ h => h) ?_; intro a70 hE71; clear hE69
       refine d_take (fun _ h => h) (fun _ _ h k => h k) (v := .int .i64 (gI clusters v9)) 3 rfl hE71 (S := fun w' => w'.cell? (adr clustersA (Int.toNat v9)) = some (.int .i64 (gI clusters v9)) ∧ w'.cell? (adr clustersA (Int.toNat wp)) = some (.int .i64 (gI clusters wp)) ∧ True) ⟨(RdS.elt (St.rdR (i := 1) hS65 rfl) (by omega) (by omega) _ (Ext.refl _)), (RdS.elt (St.rdR (i := 1) hS65 rfl) (by omega) (by omega) _ (Ext.refl _)), trivial⟩ (y_load (fun _ => by kernel_rfl) rfl (fun _ h => h.1)) rfl rfl (by kernel_rfl) (by kernel_rfl) (by kernel_rfl) (by kernel_rfl) rfl rfl (fun _ _ _ h => h) ?_; intro a72 hE73; clear hE71
       refine d_pure (fun _ h => h) (v := .slice clustersA clusters.length clustersC) 4 rfl hE73 (y_move rfl) rfl (by kernel_rfl) (by kernel_rfl) (by kernel_rfl) rfl rfl (fun _ _ _ h => h) ?_; intro a74 hE75; clear hE73
       refine d_pure (fun _ h => h) (v := .int .i64 wp) 5 rfl hE75 (y_move rfl) rfl (by kernel_rfl) (by kernel_rfl) (by kernel_rfl) rfl rfl (fun _ _ _ h => h) ?_; intro a76 hE77; clear hE75
       refine d_pure (fun _ h => h) (v := .pointer (some (adr clustersA (Int.toNat wp)))) 6 rfl hE77 (y_idx (by kernel_rfl) (fun _ => by kernel_rfl) rfl rfl (RdS.isS (m := wp) (St.rdR (i := 1) hS65 rfl) (by omega) (by omega)) (by omega) (by omega) (Nat.mul_one _).symm) rfl (by kernel_rfl) (by kernel_rfl) (by kernel_rfl) rfl rfl (fun _ _ _ h => h) ?_; intro a78 hE79; clear hE77
       refine d_take (fun _ h => h) (fun _ _ h k => h k) (v := .int .i64 (gI clusters wp)) 7 rfl hE79 (S := fun w' => w'.cell? (adr clustersA (Int.toNat v9)) = some (.int .i64 (gI clusters v9)) ∧ w'.cell? (adr clustersA (Int.toNat wp)) = some (.int .i64 (gI clusters wp)) ∧ True) ⟨(RdS.elt (St.rdR (i := 1) hS65 rfl) (by omega) (by omega) _ (Ext.refl _)), (RdS.elt (St.rdR (i := 1) hS65 rfl) (by omega) (by omega) _ (Ext.refl _)), trivial⟩ (y_load (fun _ => by kernel_rfl) rfl (fun _ h => h.2.1)) rfl rfl (by kernel_rfl) (by kernel_rfl) (by kernel_rfl) (by kernel_rfl) rfl rfl (fun _ _ _ h => h) ?_; intro a80 hE81; clear hE79
       refine d_pure (fun _ h => h) (v := .bool (!decide ((gI clusters v9) = (gI clusters wp)))) 8 rfl hE81 (y_neq rfl rfl) rfl (by kernel_rfl) (by kernel_rfl) (by kernel_rfl) rfl rfl (fun _ _ _ h => h) ?_; intro a82 hE83; clear hE81
       refine d_pure (fun _ h => h) (v := .bool (!decide ((gI clusters v9) = (gI clusters wp)))) 9 rfl hE83 (y_move rfl) rfl (by kernel_rfl) (by kernel_rfl) (by kernel_rfl) rfl rfl (fun _ _ _ h => h) ?_; intro a84 hE85; clear hE83
       rcases Bool.eq_false_or_eq_true (!decide ((gI clusters v9) = (gI clusters wp))) with hb86 | hb86
       ·
        have hE87 := hE85; (try rw [hb86] at hE87); clear hE85
        have ht88 := bn_t hb86
        have hp89 := of_decide_eq_false ht88
        refine d_pure (fun _ h => h) (v := .int .i64 (F_l05Reach f0 f1 (powI wp))) 10 rfl hE87 (y_move rfl) rfl (by kernel_rfl) (by kernel_rfl) (by kernel_rfl) rfl rfl (fun _ _ _ h => h) ?_; intro a90 hE91; clear hE87
        refine d_pure (fun _ h => h) (v := .int .i64 v9) 11 rfl hE91 (y_move rfl) rfl (by kernel_rfl) (by kernel_rfl) (by kernel_rfl) rfl rfl (fun _ _ _ h => h) ?_; intro a92 hE93; clear hE91
        refine d_only 12 (by kernel_rfl) rfl hE93 rfl (l_call (f := 144) (argv := [.int .i64 (F_l05Reach f0 f1 (powI wp)), .int .i64 v9]) hE93 (fun _ => cf_l01Bit _ _) rfl rfl (c_l01Bit (F_l05Reach f0 f1 (powI wp)) v9 w63 (by omega) (by omega)) ?_)
        rintro _ _ ⟨rfl, rfl⟩ a96 hE97; clear hE93
        refine ⟨fun h => Bool.noConfusion (h.symm.trans (show exm _ _ _ = true by kernel_rfl)), ?_⟩
        refine d_pure (fun _ h => h) (v := .bool (F_l01Bit (F_l05Reach f0 f1 (powI wp)) v9)) 13 rfl hE97 (y_pick (b := true) rfl rfl) rfl (by kernel_rfl) (by kernel_rfl) (by kernel_rfl) rfl rfl (fun _ _ _ h => h) ?_; intro a100 hE101; clear hE97
        refine d_done (by kernel_rfl) ?_
        have hE102 := hE101.sub (L' := [(1, .slice clustersA clusters.length clustersC), (2, .int .i64 wp), (3, .pointer (some ⟨b3, 0, none⟩)), (7, .int .i64 best7), (8, .int .i64 (F_l05Reach f0 f1 (powI wp))), (9, .int .i64 v9), (33, .bool (F_l01Bit (F_l05Reach f0 f1 (powI wp)) v9))]) ⟨rfl, rfl, rfl, rfl, rfl, rfl, rfl, trivial⟩; clear hE101
        refine p_tn ?_
        have hE103 := hE102.sub (L' := [(1, .slice clustersA clusters.length clustersC), (2, .int .i64 wp), (3, .pointer (some ⟨b3, 0, none⟩)), (7, .int .i64 best7), (8, .int .i64 (F_l05Reach f0 f1 (powI wp))), (9, .int .i64 v9), (33, .bool (F_l01Bit (F_l05Reach f0 f1 (powI wp)) v9))]) ⟨rfl, rfl, rfl, rfl, rfl, rfl, rfl, trivial⟩
        have hS104 := (St.pick (Γ' := [.rd 1 f1A f1.length f1C f1, .blk b3 #[.int .i64 f0, .slice f1A f1.length f1C] 30, .rd 1 clustersA clusters.length clustersC clusters]) hS65 [2, 0, 1] (by decide) rfl)
        exact ⟨(by rw [hb86]; exact hE103), hS104⟩
       ·
        have hE105 := hE85; (try rw [hb86] at hE105); clear hE85
        have ht106 := bn_f hb86
        have hp107 := of_decide_eq_true ht106
        refine d_skip (fun _ h => h) 10 rfl hE105 rfl (by kernel_rfl) (by kernel_rfl) (by kernel_rfl) rfl rfl (fun _ _ _ h => h) ?_; intro a108 hE109; clear hE105
        refine d_skip (fun _ h => h) 11 rfl hE109 rfl (by kernel_rfl) (by kernel_rfl) (by kernel_rfl) rfl rfl (fun _ _ _ h => h) ?_; intro a110 hE111; clear hE109
        refine d_skip (fun _ h => h) 12 rfl hE111 rfl (by kernel_rfl) (by kernel_rfl) (by kernel_rfl) rfl rfl (fun _ _ _ h => h) ?_; intro a112 hE113; clear hE111
        refine d_pure (fun _ h => h) (v := .bool false) 13 rfl hE113 (y_pick (b := false) rfl rfl) rfl (by kernel_rfl) (by kernel_rfl) (by kernel_rfl) rfl rfl (fun _ _ _ h => h) ?_; intro a114 hE115; clear hE113
        refine d_done (by kernel_rfl) ?_
        have hE116 := hE115.sub (L' := [(1, .slice clustersA clusters.length clustersC), (2, .int .i64 wp), (3, .pointer (some ⟨b3, 0, none⟩)), (7, .int .i64 best7), (8, .int .i64 (F_l05Reach f0 f1 (powI wp))), (9, .int .i64 v9), (33, .bool false)]) ⟨rfl, rfl, rfl, rfl, rfl, rfl, rfl, trivial⟩; clear hE115
        refine p_tn ?_
        have hE117 := hE116.sub (L' := [(1, .slice clustersA clusters.length clustersC), (2, .int .i64 wp), (3, .pointer (some ⟨b3, 0, none⟩)), (7, .int .i64 best7), (8, .int .i64 (F_l05Reach f0 f1 (powI wp))), (9, .int .i64 v9), (33, .bool false)]) ⟨rfl, rfl, rfl, rfl, rfl, rfl, rfl, trivial⟩
        have hS118 := (St.pick (Γ' := [.rd 1 f1A f1.length f1C f1, .blk b3 #[.int .i64 f0, .slice f1A f1.length f1C] 30, .rd 1 clustersA clusters.length clustersC clusters]) hS65 [2, 0, 1] (by decide) rfl)
        exact ⟨(by rw [hb86]; exact hE117), hS118⟩
      ·
       rintro a119 w120 ⟨hE121, hS122⟩; clear hE62 hS44
       refine c_cond hE121 rfl (fun ht124 => ?_) (fun ht124 => ?_)
       ·
        obtain ⟨ht125, ht126⟩ := band_t ht124
        have ht127 := bn_t ht125
        have hp128 := of_decide_eq_false ht127
        have hE129 := hE121; rw [ht124] at hE129; clear hE121
        refine c_reg ?_
        refine q_step (v := .int .i64 best7) hE129 (y_move rfl) rfl rfl rfl ?_; intro a130 hE131; clear hE129
        refine q_step (v := .agg #[.int .i64 f0, .slice f1A f1.length f1C]) hE131 (y_loadS Try.underlying30 rfl (by kernel_rfl) rfl (St.row (i := 1) hS122 rfl)) rfl rfl rfl ?_; intro a132 hE133; clear hE131
        refine q_step (v := .slice clustersA clusters.length clustersC) hE133 (y_move rfl) rfl rfl rfl ?_; intro a134 hE135; clear hE133
        refine q_step (v := .int .i64 v9) hE135 (y_move rfl) rfl rfl rfl ?_; intro a136 hE137; clear hE135
        refine l_step hE137 rfl (l_call (f := 164) (argv := [.agg #[.int .i64 f0, .slice f1A f1.length f1C], .slice clustersA clusters.length clustersC, .int .i64 v9]) hE137 (fun _ => cf_l05Depth _ _) rfl rfl (ih f0 f1A f1.length f1C f1 clustersA clusters.length clustersC clusters v9 w120 (St.rdR (i := 0) hS122 rfl) (St.rdR (i := 2) hS122 rfl) (by omega) (by omega) (by omega) hcl (by omega) (by rw [hmu]; exact dep_dec hf hfl hfm hcl hw ⟨by omega, by omega⟩ (by with_reducible assumption) (by with_reducible assumption))) ?_)
        rintro _ w139 ⟨rfl, he143⟩ a140 hE141; clear hE137
        have hS142 := St.go hS122 he143; clear hS122
        refine q_step (v := .int .i64 (max best7 (self f0 f1 clusters v9))) hE141 (y_max rfl rfl) rfl rfl rfl ?_; intro a144 hE145; clear hE141
        refine q_step (v := .int .i64 (max best7 (self f0 f1 clusters v9))) hE145 (y_assign rfl) rfl rfl rfl ?_; intro a146 hE147; clear hE145
        refine c_nil ?_
        have hE148 := hE147.sub (L' := [(1, .slice clustersA clusters.length clustersC), (2, .int .i64 wp), (3, .pointer (some ⟨b3, 0, none⟩)), (7, .int .i64 (max best7 (self f0 f1 clusters v9))), (8, .int .i64 (F_l05Reach f0 f1 (powI wp))), (9, .int .i64 v9)]) ⟨rfl, rfl, rfl, rfl, rfl, rfl, trivial⟩; clear hE147
        refine p_bn ?_
        refine p_tn ?_
        have hE149 := hE148.sub (L' := [(1, .slice clustersA clusters.length clustersC), (2, .int .i64 wp), (3, .pointer (some ⟨b3, 0, none⟩)), (7, .int .i64 (max best7 (self f0 f1 clusters v9))), (8, .int .i64 (F_l05Reach f0 f1 (powI wp))), (9, .int .i64 v9)]) ⟨rfl, rfl, rfl, rfl, rfl, rfl, trivial⟩
        have hS150 := (St.pick (Γ' := [.rd 1 f1A f1.length f1C f1, .blk b3 #[.int .i64 f0, .slice f1A f1.length f1C] 30, .rd 1 clustersA clusters.length clustersC clusters]) hS142 [0, 1, 2] (by decide) rfl)
        exact ⟨(by rw [ht124]; exact hE149), hS150⟩
       ·
        have hE151 := hE121; rw [ht124] at hE151; clear hE121
        refine wp_skip ?_
        refine p_bn ?_
        refine p_tn ?_
        have hE152 := hE151.sub (L' := [(1, .slice clustersA clusters.length clustersC), (2, .int .i64 wp), (3, .pointer (some ⟨b3, 0, none⟩)), (7, .int .i64 best7), (8, .int .i64 (F_l05Reach f0 f1 (powI wp))), (9, .int .i64 v9)]) ⟨rfl, rfl, rfl, rfl, rfl, rfl, trivial⟩
        have hS153 := (St.pick (Γ' := [.rd 1 f1A f1.length f1C f1, .blk b3 #[.int .i64 f0, .slice f1A f1.length f1C] 30, .rd 1 clustersA clusters.length clustersC clusters]) hS122 [0, 1, 2] (by decide) rfl)
        exact ⟨(by rw [ht124]; exact hE152), hS153⟩
     ·
      rintro a154 w155 ⟨hE156, hS157⟩; clear hE62 hS44
      refine c_reg ?_
      refine q_step (v := .int .i64 v9) hE156 (y_move rfl) rfl rfl rfl ?_; intro a159 hE160; clear hE156
      refine q_step (v := .int .i64 (v9 + 1)) hE160 (y_add rfl rfl ⟨(by omega), (by omega)⟩) rfl rfl rfl ?_; intro a161 hE162; clear hE160
      refine q_step (v := .int .i64 (v9 + 1)) hE162 (y_assign rfl) rfl rfl rfl ?_; intro a163 hE164; clear hE162
      refine c_nil ?_
      have hE165 := hE164.sub (L' := [(1, .slice clustersA clusters.length clustersC), (2, .int .i64 wp), (3, .pointer (some ⟨b3, 0, none⟩)), (7, .int .i64 (bif ((!decide ((gI clusters v9) = (gI clusters wp))) && (F_l01Bit (F_l05Reach f0 f1 (powI wp)) v9)) then max best7 (self f0 f1 clusters v9) else best7)), (8, .int .i64 (F_l05Reach f0 f1 (powI wp))), (9, .int .i64 (v9 + 1))]) ⟨rfl, rfl, rfl, rfl, rfl, rfl, trivial⟩; clear hE164
      refine p_tn ⟨r50, Nat.lt_succ_self _, bif ((!decide ((gI clusters v9) = (gI clusters wp))) && (F_l01Bit (F_l05Reach f0 f1 (powI wp)) v9)) then max best7 (self f0 f1 clusters v9) else best7, v9 + 1, (hT45.symm.trans (show F_l05Depth_L1b f0 f1 clusters wp self (F_l05Depth_L1 f0 f1 clusters wp self r50) best7 v9 = F_l05Depth_L1 f0 f1 clusters wp self r50 (bif ((!decide ((gI clusters v9) = (gI clusters wp))) && (F_l01Bit (F_l05Reach f0 f1 (powI wp)) v9)) then max best7 (self f0 f1 clusters v9) else best7) (v9 + 1) by unfold F_l05Depth_L1b; rw [ht60]; first | done | rfl)).symm, (by omega), (by first | omega | (simp only [sS_len, sL_len]; omega) | (simp only [List.length_replicate, sI_len]; omega) | (simp only [List.length_append, List.length_cons, List.length_nil, sI_len, cond_true, cond_false]; omega) | (simp only [List.length_append, List.length_cons, List.length_nil, sI_len, cond_eq_ite, apply_ite List.length]; split <;> simp only [List.length_append, List.length_cons, List.length_nil, sI_len] <;> omega) | grind), (dep_keep ⟨by omega, by omega⟩ (fun hc => hpost f0 f1 clusters v9 hf hfl hfm hcl ⟨by omega, by omega⟩ (by rw [hmu]; exact dep_dec2 hf hfl hfm hcl hw ⟨by omega, by omega⟩ hc))).1, (dep_keep ⟨by omega, by omega⟩ (fun hc => hpost f0 f1 clusters v9 hf hfl hfm hcl ⟨by omega, by omega⟩ (by rw [hmu]; exact dep_dec2 hf hfl hfm hcl hw ⟨by omega, by omega⟩ hc))).2, (hE165.sub (L' := [(1, .slice clustersA clusters.length clustersC), (2, .int .i64 wp), (3, .pointer (some ⟨b3, 0, none⟩)), (7, .int .i64 (bif ((!decide ((gI clusters v9) = (gI clusters wp))) && (F_l01Bit (F_l05Reach f0 f1 (powI wp)) v9)) then max best7 (self f0 f1 clusters v9) else best7)), (8, .int .i64 (F_l05Reach f0 f1 (powI wp))), (9, .int .i64 (v9 + 1))]) ⟨rfl, rfl, rfl, rfl, rfl, rfl, trivial⟩), (St.pick (Γ' := [.blk b3 #[.int .i64 f0, .slice f1A f1.length f1C] 30, .rd 1 clustersA clusters.length clustersC clusters, .rd 1 f1A f1.length f1C f1]) hS157 [1, 2, 0] (by decide) rfl)⟩
    ·
     have hp166 := of_decide_eq_false ht60
     have hE167 := hE59; rw [ht60] at hE167; clear hE59
     refine wp_exit ?_
     refine p_te ?_
     have hX168 : F_l05Depth_L1 f0 f1 clusters wp self (Int.toNat (f0 - 0) + 1) 0 0 = (best7, v9) := hT45.symm.trans (show F_l05Depth_L1b f0 f1 clusters wp self (F_l05Depth_L1 f0 f1 clusters wp self r50) best7 v9 = (best7, v9) by unfold F_l05Depth_L1b; rw [ht60]; first | done | rfl)
     refine p_te (p_be (p_tn ?_))
     exact ⟨(by rw [hX168]; exact (show 0 ≤ v9 from (by first | omega | (simp only [sS_len, sL_len]; omega) | (simp only [List.length_replicate, sI_len]; omega) | (simp only [List.length_append, List.length_cons, List.length_nil, sI_len, cond_true, cond_false]; omega) | (simp only [List.length_append, List.length_cons, List.length_nil, sI_len, cond_eq_ite, apply_ite List.length]; split <;> simp only [List.length_append, List.length_cons, List.length_nil, sI_len] <;> omega) | grind))), (by rw [hX168]; exact (show 0 ≤ best7 from (by first | omega | (simp only [sS_len, sL_len]; omega) | (simp only [List.length_replicate, sI_len]; omega) | (simp only [List.length_append, List.length_cons, List.length_nil, sI_len, cond_true, cond_false]; omega) | (simp only [List.length_append, List.length_cons, List.length_nil, sI_len, cond_eq_ite, apply_ite List.length]; split <;> simp only [List.length_append, List.length_cons, List.length_nil, sI_len] <;> omega) | grind))), (by rw [hX168]; exact (show best7 ≤ 8 from (by first | omega | (simp only [sS_len, sL_len]; omega) | (simp only [List.length_replicate, sI_len]; omega) | (simp only [List.length_append, List.length_cons, List.length_nil, sI_len, cond_true, cond_false]; omega) | (simp only [List.length_append, List.length_cons, List.length_nil, sI_len, cond_eq_ite, apply_ite List.length]; split <;> simp only [List.length_append, List.length_cons, List.length_nil, sI_len] <;> omega) | grind))), (by rw [hX168]; exact (hE167.sub (L' := [(1, .slice clustersA clusters.length clustersC), (2, .int .i64 wp), (3, .pointer (some ⟨b3, 0, none⟩)), (7, .int .i64 best7), (8, .int .i64 (F_l05Reach f0 f1 (powI wp))), (9, .int .i64 v9)]) ⟨rfl, rfl, rfl, rfl, rfl, rfl, trivial⟩)), (St.pick (Γ' := [.blk b3 #[.int .i64 f0, .slice f1A f1.length f1C] 30, .rd 1 clustersA clusters.length clustersC clusters, .rd 1 f1A f1.length f1C f1]) hS44 [0, 1, 2] (by decide) rfl)⟩
  ·
   rintro a169 w170 ⟨hi174, hi175, hi176, hE171, hS172⟩; clear hE39 hS32
   refine p_tn ?_
   refine c_seq ?_
   refine c_reg ?_
   refine q_step (v := .int .i64 ((F_l05Depth_L1 f0 f1 clusters wp self (Int.toNat (f0 - 0) + 1) 0 0).1)) hE171 (y_move rfl) rfl rfl rfl ?_; intro a177 hE178; clear hE171
   refine q_step (v := .int .i64 (((F_l05Depth_L1 f0 f1 clusters wp self (Int.toNat (f0 - 0) + 1) 0 0).1) + 1)) hE178 (y_add rfl rfl ⟨(by omega), (by omega)⟩) rfl rfl rfl ?_; intro a179 hE180; clear hE178
   refine q_step (v := .int .i64 (((F_l05Depth_L1 f0 f1 clusters wp self (Int.toNat (f0 - 0) + 1) 0 0).1) + 1)) hE180 (y_assign rfl) rfl rfl rfl ?_; intro a181 hE182; clear hE180
   refine c_nil ?_
   have hE183 := hE182.sub (L' := [(6, .int .i64 (((F_l05Depth_L1 f0 f1 clusters wp self (Int.toNat (f0 - 0) + 1) 0 0).1) + 1))]) ⟨rfl, trivial⟩; clear hE182
   refine p_tn ?_
   refine wp_ret ?_
   have hF : F_l05Depth_b self f0 f1 clusters wp = ((F_l05Depth_L1 f0 f1 clusters wp self (Int.toNat (f0 - 0) + 1) 0 0).1) + 1 := by unfold F_l05Depth_b; rfl
   refine c_ret1 hE183 rfl rfl ?_
   exact ⟨(by rw [hF]; first | done | (dsimp only; done) | rfl), hS172.ext⟩
theorem c_l05Depth_r : ∀ (r : Nat) (f0 : Int) (f1A : Option Addr) (f1N f1C : Nat) (f1 : List Int) (clustersA : Option Addr) (clustersN clustersC : Nat) (clusters : List Int) (wp : Int) (w : World) (f1R : RdS w 1 f1A f1N f1C f1) (clustersR : RdS w 1 clustersA clustersN clustersC clusters) (hf : 0 ≤ f0 ∧ f0 ≤ 8) (hfl : (f1.length : Int) = f0) (hfm : ∀ m : Int, 0 ≤ m → m < (f1.length : Int) → 0 ≤ gI f1 m ∧ gI f1 m ≤ fullI f0) (hcl : clusters = F_l05Clusters f0 f1) (hw : 0 ≤ wp ∧ wp < f0) (hlt : cntR f0 f1 wp < r), Calls Try.prog 164 #[.agg #[.int .i64 f0, .slice f1A f1N f1C], .slice clustersA clustersN clustersC, .int .i64 wp] w (Ret fun v w' => v = .int .i64 ((F_l05Depth_r r) f0 f1 clusters wp) ∧ Ext w w') := by
  intro r
  induction r with
  | zero => intros; omega
  | succ r ih =>
    intro f0 f1A f1N f1C f1 clustersA clustersN clustersC clusters wp w f1R clustersR hf hfl hfm hcl hw hlt
    exact cb_l05Depth (F_l05Depth_r r) (cntR f0 f1 wp) (fun f0 f1 clusters wp hf hfl hfm hcl hw hm => depPost r f0 f1 clusters wp hf hfl hfm hcl hw (by omega)) f0 f1A f1N f1C f1 clustersA clustersN clustersC clusters wp w f1R clustersR hf hfl hfm hcl hw rfl (fun f0 f1A f1N f1C f1 clustersA clustersN clustersC clusters wp w f1R clustersR hf hfl hfm hcl hw hdec => ih f0 f1A f1N f1C f1 clustersA clustersN clustersC clusters wp w f1R clustersR hf hfl hfm hcl hw (by omega))
theorem c_l05Depth (f0 : Int) (f1A : Option Addr) (f1N f1C : Nat) (f1 : List Int) (clustersA : Option Addr) (clustersN clustersC : Nat) (clusters : List Int) (wp : Int) (w : World) (f1R : RdS w 1 f1A f1N f1C f1) (clustersR : RdS w 1 clustersA clustersN clustersC clusters) (hf : 0 ≤ f0 ∧ f0 ≤ 8) (hfl : (f1.length : Int) = f0) (hfm : ∀ m : Int, 0 ≤ m → m < (f1.length : Int) → 0 ≤ gI f1 m ∧ gI f1 m ≤ fullI f0) (hcl : clusters = F_l05Clusters f0 f1) (hw : 0 ≤ wp ∧ wp < f0) :
    Calls Try.prog 164 #[.agg #[.int .i64 f0, .slice f1A f1N f1C], .slice clustersA clustersN clustersC, .int .i64 wp] w (Ret fun v w' => v = .int .i64 (F_l05Depth f0 f1 clusters wp) ∧ Ext w w') := c_l05Depth_r (cntR f0 f1 wp + 1) f0 f1A f1N f1C f1 clustersA clustersN clustersC clusters wp w f1R clustersR hf hfl hfm hcl hw (Nat.lt_succ_self _)
theorem dep_fuel {f0 : Int} {f1 : List Int} (h : FrP f0 f1) : ∀ (r r' w : Nat), (w : Int) < f0 → cntR f0 f1 (w : Int) < r → cntR f0 f1 (w : Int) < r' → F_l05Depth_r r f0 f1 (F_l05Clusters f0 f1) (w : Int) = F_l05Depth_r r' f0 f1 (F_l05Clusters f0 f1) (w : Int) := by
  intro r
  induction r with
  | zero => intro r' w _ hm; omega
  | succ r ih =>
    intro r' w hw hm hm'
    obtain ⟨r', rfl⟩ : ∃ k, r' = k + 1 := ⟨r' - 1, by omega⟩
    show F_l05Depth_b (F_l05Depth_r r) f0 f1 (F_l05Clusters f0 f1) (w : Int) = F_l05Depth_b (F_l05Depth_r r') f0 f1 (F_l05Clusters f0 f1) (w : Int)
    rw [dep_form _ h hw, dep_form _ h hw]
    congr 1
    refine foldl_cg _ _ fun j hj o => ?_
    cases he : edg f0 f1 w j
    · rfl
    · have hv : (j : Int) < f0 := by have := List.mem_range.1 hj; omega
      have hc := edg_cnt h hw hv he
      rw [ih r' j hv (by omega) (by omega)]
/-- The depth of a world. -/
def dpt (f0 : Int) (f1 : List Int) (w : Nat) : Int := F_l05Depth f0 f1 (F_l05Clusters f0 f1) (w : Int)
theorem dpt_props {f0 : Int} {f1 : List Int} (h : FrP f0 f1) {w : Nat} (hw : (w : Int) < f0) : (1 ≤ dpt f0 f1 w ∧ dpt f0 f1 w ≤ f0) ∧ (∀ v : Nat, (v : Int) < f0 → edg f0 f1 w v = true → dpt f0 f1 v + 1 ≤ dpt f0 f1 w) ∧ (dpt f0 f1 w = 1 ∨ ∃ v : Nat, (v : Int) < f0 ∧ edg f0 f1 w v = true ∧ dpt f0 f1 w = dpt f0 f1 v + 1) := by
  have h8 := h.h0
  have hb := dep_bd h (cntR f0 f1 (w : Int) + 1) w hw (Nat.lt_succ_self _)
  have hc := cntN_le (fun j => tb (F_l05Reach f0 f1 (powI (w : Int))) j) f0.toNat
  have ec : cntR f0 f1 (w : Int) = cntN f0.toNat (fun j => tb (F_l05Reach f0 f1 (powI (w : Int))) j) := rfl
  have hd : dpt f0 f1 w = F_l05Depth_r (cntR f0 f1 (w : Int) + 1) f0 f1 (F_l05Clusters f0 f1) (w : Int) := rfl
  have hd2 : dpt f0 f1 w = (List.range f0.toNat).foldl (fun o (v : Nat) => bif edg f0 f1 w v then max o (dpt f0 f1 v) else o) 0 + 1 := by
    rw [hd]
    show F_l05Depth_b (F_l05Depth_r (cntR f0 f1 (w : Int))) f0 f1 (F_l05Clusters f0 f1) (w : Int) = _
    rw [dep_form _ h hw]
    congr 1
    refine foldl_cg _ _ fun j hj o => ?_
    cases he : edg f0 f1 w j
    · rfl
    · have hv : (j : Int) < f0 := by have := List.mem_range.1 hj; omega
      have hc := edg_cnt h hw hv he
      rw [dep_fuel h (cntR f0 f1 (w : Int)) (cntR f0 f1 (j : Int) + 1) j hv hc (Nat.lt_succ_self _)]; rfl
  obtain ⟨a1, a2, a3⟩ := maxf (fun v => edg f0 f1 w v) (fun v : Nat => dpt f0 f1 v) (List.range f0.toNat) 0
  refine ⟨⟨by rw [hd]; exact hb.1, by rw [hd]; omega⟩, fun v hv he => ?_, ?_⟩
  · have := a2 v (List.mem_range.2 (by omega)) he
    omega
  · rcases a3 with a3 | ⟨v, b1, b2, b3⟩
    · left; rw [hd2, a3]; rfl
    · exact .inr ⟨v, by have := List.mem_range.1 b1; omega, b2, by rw [hd2, b3]⟩
def F_l05Depths_L1b (f0 : Int) (f1 : List Int) (rec : (List Int) → Int → (List Int) × Int) (out4 : List Int) (w5 : Int) : (List Int) × Int :=
  bif (decide (w5 < f0)) then (rec (out4 ++ ([F_l05Depth f0 f1 (F_l05Clusters f0 f1) w5])) (w5 + 1)) else (out4, w5)
def F_l05Depths_L1 (f0 : Int) (f1 : List Int) : Nat → (List Int) → Int → (List Int) × Int
  | 0, out4, w5 => (out4, w5)
  | r + 1, out4, w5 => F_l05Depths_L1b f0 f1 (F_l05Depths_L1 f0 f1 r) out4 w5
def F_l05Depths (f0 : Int) (f1 : List Int) : List Int :=
  (F_l05Depths_L1 f0 f1 (Int.toNat (f0 - 0) + 1) ([]) 0).1
theorem cf_l05Depths (args : Array Value) (w : World) : (callFunc 95 args).run Try.prog w = .ok (.enter 95 args) w := by kernel_rfl
set_option maxRecDepth 100000 in
theorem c_l05Depths (f0 : Int) (f1A : Option Addr) (f1N f1C : Nat) (f1 : List Int) (w : World) (f1R : RdS w 1 f1A f1N f1C f1) (hf : 0 ≤ f0 ∧ f0 ≤ 8) (hfl : (f1.length : Int) = f0) (hfm : ∀ m : Int, 0 ≤ m → m < (f1.length : Int) → 0 ≤ gI f1 m ∧ gI f1 m ≤ fullI f0) :
    Calls Try.prog 95 #[.agg #[.int .i64 f0, .slice f1A f1N f1C]] w (Ret fun v w' => ∃ b1 : Option Addr, ∃ c1 : Nat, v = .slice b1 (F_l05Depths f0 f1).length c1 ∧ OwnS w' w.heap.size 2 1 b1 (F_l05Depths f0 f1).length c1 (F_l05Depths f0 f1) ∧ Ext w w') := by
  obtain rfl : f1N = f1.length := f1R.len1.symm
  have f1Le := f1R.le
  have hS := St.nil w
  have hS1 := St.rd0 hS rfl f1R; clear hS
  refine enter (args := [.agg #[.int .i64 f0, .slice f1A f1.length f1C]]) Try.func95 rfl rfl ?_
  rw [Try.ntmps95]; intro a hE
  have hE := hE.sub (L' := [(0, .agg #[.int .i64 f0, .slice f1A f1.length f1C])]) ⟨rfl, trivial⟩
  refine c_seq ?_
  refine c_reg ?_
  refine l_step hE rfl (l_box (v := .agg #[.int .i64 f0, .slice f1A f1.length f1C]) (cs := #[.int .i64 f0, .slice f1A f1.length f1C]) hS1 hE rfl rfl rfl ?_)
  intro b2 w3 hS6 he7 a4 hE5; clear hS1 hE
  refine q_step (v := .slice none 0 0) hE5 (y_assign rfl) rfl rfl rfl ?_; intro a8 hE9; clear hE5
  refine c_nil ?_
  have hE10 := hE9.sub (L' := [(1, .pointer (some ⟨b2, 0, none⟩))]) ⟨rfl, trivial⟩; clear hE9
  refine p_tn ?_
  refine c_seq ?_
  refine c_reg ?_
  refine q_step (v := .agg #[.int .i64 f0, .slice f1A f1.length f1C]) hE10 (y_loadS Try.underlying30 rfl (by kernel_rfl) rfl (St.row (i := 0) hS6 rfl)) rfl rfl rfl ?_; intro a11 hE12; clear hE10
  refine l_step hE12 rfl (l_call (f := 163) (argv := [.agg #[.int .i64 f0, .slice f1A f1.length f1C]]) hE12 (fun _ => cf_l05Clusters _ _) rfl rfl (c_l05Clusters f0 f1A f1.length f1C f1 w3 (St.rdR (i := 1) hS6 rfl) (by omega) (by omega) hfm) ?_)
  rintro _ w14 ⟨b19, c20, rfl, ho21, he18⟩ a15 hE16; clear hE12
  have hS17 := St.own hS6 he18 ho21; clear hS6
  refine l_step hE16 rfl (l_lit (e := 2) (s := 1) (xs := []) (vs := []) hS17 hE16 rfl (fun _ => by kernel_rfl) rfl rfl rfl ?_)
  intro b22 w23 hS26 he27 a24 hE25; clear hS17 hE16
  refine q_step (v := .slice b19 ((F_l05Clusters f0 f1).length) c20) hE25 (y_assign rfl) rfl rfl rfl ?_; intro a28 hE29; clear hE25
  refine q_step (v := .slice (some ⟨b22, 0, none⟩) 0 0) hE29 (y_assign rfl) rfl rfl rfl ?_; intro a30 hE31; clear hE29
  refine c_nil ?_
  have hE32 := hE31.sub (L' := [(1, .pointer (some ⟨b2, 0, none⟩)), (3, .slice b19 ((F_l05Clusters f0 f1).length) c20), (4, .slice (some ⟨b22, 0, none⟩) 0 0)]) ⟨rfl, rfl, rfl, trivial⟩; clear hE31
  refine p_tn ?_
  refine c_seq ?_
  refine c_seq ?_
  refine c_reg ?_
  refine q_step (v := .int .i64 0) hE32 (y_assign rfl) rfl rfl rfl ?_; intro a33 hE34; clear hE32
  refine c_nil ?_
  have hE35 := hE34.sub (L' := [(1, .pointer (some ⟨b2, 0, none⟩)), (3, .slice b19 ((F_l05Clusters f0 f1).length) c20), (4, .slice (some ⟨b22, 0, none⟩) 0 0), (5, .int .i64 0)]) ⟨rfl, rfl, rfl, rfl, trivial⟩; clear hE34
  refine p_tn ?_
  refine c_cut1 (fun a' w' => ∃ out4A_36 : Option Addr, ∃ out4C_36 : Nat, (0 ≤ ((F_l05Depths_L1 f0 f1 (Int.toNat (f0 - 0) + 1) ([]) 0).2)) ∧ ((((F_l05Depths_L1 f0 f1 (Int.toNat (f0 - 0) + 1) ([]) 0).1).length : Int) ≤ ((F_l05Depths_L1 f0 f1 (Int.toNat (f0 - 0) + 1) ([]) 0).2)) ∧ E a' 23 [(1, .pointer (some ⟨b2, 0, none⟩)), (3, .slice b19 ((F_l05Clusters f0 f1).length) c20), (4, .slice out4A_36 (((F_l05Depths_L1 f0 f1 (Int.toNat (f0 - 0) + 1) ([]) 0).1).length) out4C_36), (5, .int .i64 ((F_l05Depths_L1 f0 f1 (Int.toNat (f0 - 0) + 1) ([]) 0).2))] ∧ St w w' [.own 2 1 out4A_36 (((F_l05Depths_L1 f0 f1 (Int.toNat (f0 - 0) + 1) ([]) 0).1).length) out4C_36 ((F_l05Depths_L1 f0 f1 (Int.toNat (f0 - 0) + 1) ([]) 0).1), .own 2 1 b19 ((F_l05Clusters f0 f1).length) c20 (F_l05Clusters f0 f1), .blk b2 #[.int .i64 f0, .slice f1A f1.length f1C] 30, .rd 1 f1A f1.length f1C f1]) ?_ ?_
  ·
   refine wp_block ?_
   refine c_loop (fun r a' w' => ∃ out4 : List Int, ∃ w5 : Int, ∃ out4A : Option Addr, ∃ out4C : Nat, F_l05Depths_L1 f0 f1 r out4 w5 = F_l05Depths_L1 f0 f1 (Int.toNat (f0 - 0) + 1) ([]) 0 ∧ Int.toNat (f0 - w5) < r ∧ (0 ≤ w5) ∧ ((out4.length : Int) ≤ w5) ∧ E a' 23 [(1, .pointer (some ⟨b2, 0, none⟩)), (3, .slice b19 ((F_l05Clusters f0 f1).length) c20), (4, .slice out4A ((out4).length) out4C), (5, .int .i64 w5)] ∧ St w w' [.own 2 1 out4A ((out4).length) out4C out4, .own 2 1 b19 ((F_l05Clusters f0 f1).length) c20 (F_l05Clusters f0 f1), .blk b2 #[.int .i64 f0, .slice f1A f1.length f1C] 30, .rd 1 f1A f1.length f1C f1]) (r := (Int.toNat (f0 - 0) + 1)) ?_ ?_
   · exact ⟨[], 0, some ⟨b22, 0, none⟩, 0, rfl, Nat.lt_succ_self _, (by first | omega | (simp only [sS_len, sL_len]; omega) | (simp only [List.length_replicate, sI_len]; omega) | (simp only [List.length_append, List.length_cons, List.length_nil, sI_len, cond_true, cond_false]; omega) | (simp only [List.length_append, List.length_cons, List.length_nil, sI_len, cond_eq_ite, apply_ite List.length]; split <;> simp only [List.length_append, List.length_cons, List.length_nil, sI_len] <;> omega) | grind), (by first | omega | (simp only [sS_len, sL_len]; omega) | (simp only [List.length_replicate, sI_len]; omega) | (simp only [List.length_append, List.length_cons, List.length_nil, sI_len, cond_true, cond_false]; omega) | (simp only [List.length_append, List.length_cons, List.length_nil, sI_len, cond_eq_ite, apply_ite List.length]; split <;> simp only [List.length_append, List.length_cons, List.length_nil, sI_len] <;> omega) | grind), (hE35.sub (L' := [(1, .pointer (some ⟨b2, 0, none⟩)), (3, .slice b19 ((F_l05Clusters f0 f1).length) c20), (4, .slice (some ⟨b22, 0, none⟩) 0 0), (5, .int .i64 0)]) ⟨rfl, rfl, rfl, rfl, trivial⟩), (St.pick (Γ' := [.own 2 1 (some ⟨b22, 0, none⟩) 0 0 ([]), .own 2 1 b19 ((F_l05Clusters f0 f1).length) c20 (F_l05Clusters f0 f1), .blk b2 #[.int .i64 f0, .slice f1A f1.length f1C] 30, .rd 1 f1A f1.length f1C f1]) hS26 [0, 1, 2, 3] (by decide) rfl)⟩
   ·
    clear hE35 hS26
    rintro r45 a37 w38 ⟨out4, w5, out4A, out4C, hT41, hr42, hi43, hi44, hE39, hS40⟩
    obtain ⟨r45, rfl⟩ : ∃ r', r45 = r' + 1 := ⟨r45 - 1, by omega⟩
    refine c_seq ?_
    refine c_seq ?_
    refine c_reg ?_
    refine q_step (v := .int .i64 w5) hE39 (y_move rfl) rfl rfl rfl ?_; intro a46 hE47; clear hE39
    refine q_step (v := .pointer (some ⟨b2, 0, none⟩)) hE47 (y_field rfl (fun _ => by kernel_rfl)) rfl rfl rfl ?_; intro a48 hE49; clear hE47
    refine q_step (v := .int .i64 f0) hE49 (y_load (fun _ => by kernel_rfl) rfl (St.cell (i := 2) hS40 rfl rfl)) rfl rfl rfl ?_; intro a50 hE51; clear hE49
    refine q_step (v := .bool (decide (w5 < f0))) hE51 (y_lss rfl rfl) rfl rfl rfl ?_; intro a52 hE53; clear hE51
    refine c_nil ?_
    have hE54 := hE53.sub (L' := [(1, .pointer (some ⟨b2, 0, none⟩)), (3, .slice b19 ((F_l05Clusters f0 f1).length) c20), (4, .slice out4A ((out4).length) out4C), (5, .int .i64 w5), (12, .bool (decide (w5 < f0)))]) ⟨rfl, rfl, rfl, rfl, rfl, trivial⟩; clear hE53
    refine p_tn ?_
    refine c_cond hE54 rfl (fun ht55 => ?_) (fun ht55 => ?_)
    ·
     have hp56 := of_decide_eq_true ht55
     have hE57 := hE54; rw [ht55] at hE57; clear hE54
     refine wp_skip ?_
     refine p_tn ?_
     refine c_seq ?_
     refine wp_block ?_
     refine c_reg ?_
     refine q_step (v := .slice out4A ((out4).length) out4C) hE57 (y_move rfl) rfl rfl rfl ?_; intro a58 hE59; clear hE57
     refine q_step (v := .agg #[.int .i64 f0, .slice f1A f1.length f1C]) hE59 (y_loadS Try.underlying30 rfl (by kernel_rfl) rfl (St.row (i := 2) hS40 rfl)) rfl rfl rfl ?_; intro a60 hE61; clear hE59
     refine q_step (v := .slice b19 ((F_l05Clusters f0 f1).length) c20) hE61 (y_move rfl) rfl rfl rfl ?_; intro a62 hE63; clear hE61
     refine q_step (v := .int .i64 w5) hE63 (y_move rfl) rfl rfl rfl ?_; intro a64 hE65; clear hE63
     refine l_step hE65 rfl (l_call (f := 164) (argv := [.agg #[.int .i64 f0, .slice f1A f1.length f1C], .slice b19 ((F_l05Clusters f0 f1).length) c20, .int .i64 w5]) hE65 (fun _ => cf_l05Depth _ _) rfl rfl (c_l05Depth f0 f1A f1.length f1C f1 b19 ((F_l05Clusters f0 f1).length) c20 (F_l05Clusters f0 f1) w5 w38 (St.rdR (i := 3) hS40 rfl) (St.rdO (i := 1) hS40 rfl) (by omega) (by omega) hfm rfl (by omega)) ?_)
     rintro _ w67 ⟨rfl, he71⟩ a68 hE69; clear hE65
     have hS70 := St.go hS40 he71; clear hS40
     refine l_step hE69 rfl (l_lit (e := 2) (s := 1) (xs := [F_l05Depth f0 f1 (F_l05Clusters f0 f1) w5]) (vs := [.int .i64 (F_l05Depth f0 f1 (F_l05Clusters f0 f1) w5)]) hS70 hE69 rfl (fun _ => by kernel_rfl) rfl rfl rfl ?_)
     intro b72 w73 hS76 he77 a74 hE75; clear hS70 hE69
     obtain ⟨_, hi1, hi2, hi3, hi4⟩ := info_parts (show (Try.prog.info? 2).map (fun i => (i.zero, i.size, i.bytes)) = some (some (.int .i64 0), 1, 8) by kernel_rfl)
     refine l_step hE75 rfl (l_append (k := 1) (n' := (out4 ++ ([F_l05Depth f0 f1 (F_l05Clusters f0 f1) w5])).length) hS76 hE75 (by kernel_rfl) hi1 hi2 hi3 rfl (by decide) (by rw [hi4]; decide) rfl rfl rfl (St.rdO (i := 0) hS76 rfl) (by first | omega | (simp only [List.length_append, List.length_cons, List.length_nil]; omega)) (by have h1 := (St.rdO (i := 1) hS76 rfl).len1; have h2 := (St.rdO (i := 0) hS76 rfl).len1; first | rw [List.length_append, h1, h2] | (simp only [List.length_append])) rfl ?_)
     intro b78 c84 w79 hS82 a80 hE81; clear hS76 hE75 hi1 hi2 hi3 hi4
     refine q_step (v := .slice b78 ((out4 ++ ([F_l05Depth f0 f1 (F_l05Clusters f0 f1) w5])).length) c84) hE81 (y_assign rfl) rfl rfl rfl ?_; intro a85 hE86; clear hE81
     refine c_nil ?_
     have hE87 := hE86.sub (L' := [(1, .pointer (some ⟨b2, 0, none⟩)), (3, .slice b19 ((F_l05Clusters f0 f1).length) c20), (4, .slice b78 ((out4 ++ ([F_l05Depth f0 f1 (F_l05Clusters f0 f1) w5])).length) c84), (5, .int .i64 w5)]) ⟨rfl, rfl, rfl, rfl, trivial⟩; clear hE86
     refine p_bn ?_
     refine p_tn ?_
     refine c_reg ?_
     refine q_step (v := .int .i64 w5) hE87 (y_move rfl) rfl rfl rfl ?_; intro a88 hE89; clear hE87
     refine q_step (v := .int .i64 (w5 + 1)) hE89 (y_add rfl rfl ⟨(by omega), (by omega)⟩) rfl rfl rfl ?_; intro a90 hE91; clear hE89
     refine q_step (v := .int .i64 (w5 + 1)) hE91 (y_assign rfl) rfl rfl rfl ?_; intro a92 hE93; clear hE91
     refine c_nil ?_
     have hE94 := hE93.sub (L' := [(1, .pointer (some ⟨b2, 0, none⟩)), (3, .slice b19 ((F_l05Clusters f0 f1).length) c20), (4, .slice b78 ((out4 ++ ([F_l05Depth f0 f1 (F_l05Clusters f0 f1) w5])).length) c84), (5, .int .i64 (w5 + 1))]) ⟨rfl, rfl, rfl, rfl, trivial⟩; clear hE93
     refine p_tn ⟨r45, Nat.lt_succ_self _, out4 ++ ([F_l05Depth f0 f1 (F_l05Clusters f0 f1) w5]), w5 + 1, b78, c84, (hT41.symm.trans (show F_l05Depths_L1b f0 f1 (F_l05Depths_L1 f0 f1 r45) out4 w5 = F_l05Depths_L1 f0 f1 r45 (out4 ++ ([F_l05Depth f0 f1 (F_l05Clusters f0 f1) w5])) (w5 + 1) by unfold F_l05Depths_L1b; rw [ht55]; first | done | rfl)).symm, (by omega), (by first | omega | (simp only [sS_len, sL_len]; omega) | (simp only [List.length_replicate, sI_len]; omega) | (simp only [List.length_append, List.length_cons, List.length_nil, sI_len, cond_true, cond_false]; omega) | (simp only [List.length_append, List.length_cons, List.length_nil, sI_len, cond_eq_ite, apply_ite List.length]; split <;> simp only [List.length_append, List.length_cons, List.length_nil, sI_len] <;> omega) | grind), (by first | omega | (simp only [sS_len, sL_len]; omega) | (simp only [List.length_replicate, sI_len]; omega) | (simp only [List.length_append, List.length_cons, List.length_nil, sI_len, cond_true, cond_false]; omega) | (simp only [List.length_append, List.length_cons, List.length_nil, sI_len, cond_eq_ite, apply_ite List.length]; split <;> simp only [List.length_append, List.length_cons, List.length_nil, sI_len] <;> omega) | grind), (hE94.sub (L' := [(1, .pointer (some ⟨b2, 0, none⟩)), (3, .slice b19 ((F_l05Clusters f0 f1).length) c20), (4, .slice b78 ((out4 ++ ([F_l05Depth f0 f1 (F_l05Clusters f0 f1) w5])).length) c84), (5, .int .i64 (w5 + 1))]) ⟨rfl, rfl, rfl, rfl, trivial⟩), (St.pick (Γ' := [.own 2 1 b78 ((out4 ++ ([F_l05Depth f0 f1 (F_l05Clusters f0 f1) w5])).length) c84 (out4 ++ ([F_l05Depth f0 f1 (F_l05Clusters f0 f1) w5])), .own 2 1 b19 ((F_l05Clusters f0 f1).length) c20 (F_l05Clusters f0 f1), .blk b2 #[.int .i64 f0, .slice f1A f1.length f1C] 30, .rd 1 f1A f1.length f1C f1]) hS82 [1, 2, 3, 4] (by decide) rfl)⟩
    ·
     have hp95 := of_decide_eq_false ht55
     have hE96 := hE54; rw [ht55] at hE96; clear hE54
     refine wp_exit ?_
     refine p_te ?_
     have hX97 : F_l05Depths_L1 f0 f1 (Int.toNat (f0 - 0) + 1) ([]) 0 = (out4, w5) := hT41.symm.trans (show F_l05Depths_L1b f0 f1 (F_l05Depths_L1 f0 f1 r45) out4 w5 = (out4, w5) by unfold F_l05Depths_L1b; rw [ht55]; first | done | rfl)
     refine p_te (p_be (p_tn ?_))
     exact ⟨out4A, out4C, (by rw [hX97]; exact (show 0 ≤ w5 from (by first | omega | (simp only [sS_len, sL_len]; omega) | (simp only [List.length_replicate, sI_len]; omega) | (simp only [List.length_append, List.length_cons, List.length_nil, sI_len, cond_true, cond_false]; omega) | (simp only [List.length_append, List.length_cons, List.length_nil, sI_len, cond_eq_ite, apply_ite List.length]; split <;> simp only [List.length_append, List.length_cons, List.length_nil, sI_len] <;> omega) | grind))), (by rw [hX97]; exact (show (out4.length : Int) ≤ w5 from (by first | omega | (simp only [sS_len, sL_len]; omega) | (simp only [List.length_replicate, sI_len]; omega) | (simp only [List.length_append, List.length_cons, List.length_nil, sI_len, cond_true, cond_false]; omega) | (simp only [List.length_append, List.length_cons, List.length_nil, sI_len, cond_eq_ite, apply_ite List.length]; split <;> simp only [List.length_append, List.length_cons, List.length_nil, sI_len] <;> omega) | grind))), (by rw [hX97]; exact (hE96.sub (L' := [(1, .pointer (some ⟨b2, 0, none⟩)), (3, .slice b19 ((F_l05Clusters f0 f1).length) c20), (4, .slice out4A ((out4).length) out4C), (5, .int .i64 w5)]) ⟨rfl, rfl, rfl, rfl, trivial⟩)), (by rw [hX97]; exact (St.pick (Γ' := [.own 2 1 out4A ((out4).length) out4C out4, .own 2 1 b19 ((F_l05Clusters f0 f1).length) c20 (F_l05Clusters f0 f1), .blk b2 #[.int .i64 f0, .slice f1A f1.length f1C] 30, .rd 1 f1A f1.length f1C f1]) hS40 [0, 1, 2, 3] (by decide) rfl))⟩
  ·
   rintro a98 w99 ⟨out4A_36, out4C_36, hi103, hi104, hE100, hS101⟩; clear hE35 hS26
   refine p_tn ?_
   refine c_seq ?_
   refine c_reg ?_
   refine q_step (v := .slice out4A_36 (((F_l05Depths_L1 f0 f1 (Int.toNat (f0 - 0) + 1) ([]) 0).1).length) out4C_36) hE100 (y_move rfl) rfl rfl rfl ?_; intro a105 hE106; clear hE100
   refine q_step (v := .slice out4A_36 (((F_l05Depths_L1 f0 f1 (Int.toNat (f0 - 0) + 1) ([]) 0).1).length) out4C_36) hE106 (y_assign rfl) rfl rfl rfl ?_; intro a107 hE108; clear hE106
   refine c_nil ?_
   have hE109 := hE108.sub (L' := [(2, .slice out4A_36 (((F_l05Depths_L1 f0 f1 (Int.toNat (f0 - 0) + 1) ([]) 0).1).length) out4C_36)]) ⟨rfl, trivial⟩; clear hE108
   refine p_tn ?_
   refine wp_ret ?_
   have hF : F_l05Depths f0 f1 = (F_l05Depths_L1 f0 f1 (Int.toNat (f0 - 0) + 1) ([]) 0).1 := by unfold F_l05Depths; rfl
   refine c_ret1 hE109 rfl rfl ?_
   exact ⟨out4A_36, out4C_36, (by rw [hF]; first | done | (dsimp only; done) | rfl), (by rw [hF]; (try dsimp only); exact hS101.ok 0 _ rfl), hS101.ext⟩
theorem l05Depths_map (f0 : Int) (f1 : List Int) (h0 : 0 ≤ f0) : F_l05Depths f0 f1 = (List.range f0.toNat).map (dpt f0 f1) := by
  unfold F_l05Depths
  exact mapLoop0 f0 h0 (fun w => F_l05Depth f0 f1 (F_l05Clusters f0 f1) w) (F_l05Depths_L1 f0 f1) (fun r o t => by
    show F_l05Depths_L1b f0 f1 _ o t = _
    unfold F_l05Depths_L1b; rfl)
def F_s_DepthsOfWorlds (f0 : Int) (f1 : List Int) : (List Int) × (Int) :=
  bif (!(F_l05Is f0 f1)) then ([], 1) else (F_l05Depths f0 f1, 0)
theorem cf_s_DepthsOfWorlds (args : Array Value) (w : World) : (callFunc 29 args).run Try.prog w = .ok (.enter 29 args) w := by kernel_rfl
set_option maxRecDepth 100000 in
theorem c_s_DepthsOfWorlds (f0 : Int) (f1A : Option Addr) (f1N f1C : Nat) (f1 : List Int) (w : World) (f1R : RdS w 1 f1A f1N f1C f1) :
    Calls Try.prog 29 #[.agg #[.int .i64 f0, .slice f1A f1N f1C]] w (Ret fun v w' => ∃ b1 : Option Addr, ∃ c1 : Nat, v = .tuple #[.slice b1 ((F_s_DepthsOfWorlds f0 f1).1).length c1, .int .i64 ((F_s_DepthsOfWorlds f0 f1).2)] ∧ OwnS w' w.heap.size 2 1 b1 ((F_s_DepthsOfWorlds f0 f1).1).length c1 ((F_s_DepthsOfWorlds f0 f1).1) ∧ Ext w w') := by
  obtain rfl : f1N = f1.length := f1R.len1.symm
  have f1Le := f1R.le
  have hS := St.nil w
  have hS1 := St.rd0 hS rfl f1R; clear hS
  refine enter (args := [.agg #[.int .i64 f0, .slice f1A f1.length f1C]]) Try.func29 rfl rfl ?_
  rw [Try.ntmps29]; intro a hE
  have hE := hE.sub (L' := [(0, .agg #[.int .i64 f0, .slice f1A f1.length f1C])]) ⟨rfl, trivial⟩
  refine c_seq ?_
  refine c_reg ?_
  refine l_step hE rfl (l_box (v := .agg #[.int .i64 f0, .slice f1A f1.length f1C]) (cs := #[.int .i64 f0, .slice f1A f1.length f1C]) hS1 hE rfl rfl rfl ?_)
  intro b2 w3 hS6 he7 a4 hE5; clear hS1 hE
  refine q_step (v := .slice none 0 0) hE5 (y_assign rfl) rfl rfl rfl ?_; intro a8 hE9; clear hE5
  refine q_step (v := .int .i64 0) hE9 (y_assign rfl) rfl rfl rfl ?_; intro a10 hE11; clear hE9
  refine c_nil ?_
  have hE12 := hE11.sub (L' := [(1, .pointer (some ⟨b2, 0, none⟩))]) ⟨rfl, trivial⟩; clear hE11
  refine p_tn ?_
  refine c_seq ?_
  refine c_seq ?_
  refine c_reg ?_
  refine q_step (v := .agg #[.int .i64 f0, .slice f1A f1.length f1C]) hE12 (y_loadS Try.underlying30 rfl (by kernel_rfl) rfl (St.row (i := 0) hS6 rfl)) rfl rfl rfl ?_; intro a13 hE14; clear hE12
  refine l_step hE14 rfl (l_call (f := 94) (argv := [.agg #[.int .i64 f0, .slice f1A f1.length f1C]]) hE14 (fun _ => cf_l05Is _ _) rfl rfl (c_l05Is f0 f1A f1.length f1C f1 w3 (St.rdR (i := 1) hS6 rfl)) ?_)
  rintro _ w16 ⟨rfl, he20⟩ a17 hE18; clear hE14
  have hS19 := St.go hS6 he20; clear hS6
  refine q_step (v := .bool (!(F_l05Is f0 f1))) hE18 (y_not rfl) rfl rfl rfl ?_; intro a21 hE22; clear hE18
  refine c_nil ?_
  have hE23 := hE22.sub (L' := [(1, .pointer (some ⟨b2, 0, none⟩)), (6, .bool (!(F_l05Is f0 f1)))]) ⟨rfl, rfl, trivial⟩; clear hE22
  refine p_tn ?_
  refine c_cond hE23 rfl (fun ht24 => ?_) (fun ht24 => ?_)
  ·
   have ht25 := bn_t ht24
   have hE26 := hE23; rw [ht24] at hE26; clear hE23
   refine c_seq ?_
   refine c_reg ?_
   refine q_step (v := .slice none 0 0) hE26 (y_assign rfl) rfl rfl rfl ?_; intro a27 hE28; clear hE26
   refine q_step (v := .int .i64 1) hE28 (y_assign rfl) rfl rfl rfl ?_; intro a29 hE30; clear hE28
   refine c_nil ?_
   have hE31 := hE30.sub (L' := [(2, .slice none 0 0), (3, .int .i64 1)]) ⟨rfl, rfl, trivial⟩; clear hE30
   refine p_tn ?_
   refine wp_ret ?_
   refine p_tr ?_
   have hF : F_s_DepthsOfWorlds f0 f1 = ([], 1) := by unfold F_s_DepthsOfWorlds; rw [ht24]; first | done | rfl
   refine c_ret2 hE31 rfl rfl rfl ?_
   exact ⟨none, 0, (by rw [hF]; first | done | (dsimp only; done) | rfl), (by rw [hF]; (try dsimp only); exact OwnS.nilS _ _ _ _), hS19.ext⟩
  ·
   have ht32 := bn_f ht24
   have hp33 := l05Is_t ht32
   have hE34 := hE23; rw [ht24] at hE34; clear hE23
   refine wp_skip ?_
   refine p_tn ?_
   refine c_seq ?_
   refine c_reg ?_
   refine q_step (v := .agg #[.int .i64 f0, .slice f1A f1.length f1C]) hE34 (y_loadS Try.underlying30 rfl (by kernel_rfl) rfl (St.row (i := 0) hS19 rfl)) rfl rfl rfl ?_; intro a35 hE36; clear hE34
   refine l_step hE36 rfl (l_call (f := 95) (argv := [.agg #[.int .i64 f0, .slice f1A f1.length f1C]]) hE36 (fun _ => cf_l05Depths _ _) rfl rfl (c_l05Depths f0 f1A f1.length f1C f1 w16 (St.rdR (i := 1) hS19 rfl) (by omega) (by omega) (l05Is_m (by assumption))) ?_)
   rintro _ w38 ⟨b43, c44, rfl, ho45, he42⟩ a39 hE40; clear hE36
   have hS41 := St.own hS19 he42 ho45; clear hS19
   refine q_step (v := .slice b43 ((F_l05Depths f0 f1).length) c44) hE40 (y_assign rfl) rfl rfl rfl ?_; intro a46 hE47; clear hE40
   refine q_step (v := .int .i64 0) hE47 (y_assign rfl) rfl rfl rfl ?_; intro a48 hE49; clear hE47
   refine c_nil ?_
   have hE50 := hE49.sub (L' := [(2, .slice b43 ((F_l05Depths f0 f1).length) c44), (3, .int .i64 0)]) ⟨rfl, rfl, trivial⟩; clear hE49
   refine p_tn ?_
   refine wp_ret ?_
   have hF : F_s_DepthsOfWorlds f0 f1 = (F_l05Depths f0 f1, 0) := by unfold F_s_DepthsOfWorlds; rw [ht24]; first | done | rfl
   refine c_ret2 hE50 rfl rfl rfl ?_
   exact ⟨b43, c44, (by rw [hF]; first | done | (dsimp only; done) | rfl), (by rw [hF]; (try dsimp only); exact hS41.ok 0 _ rfl), hS41.ext⟩
end Go.Proofs.Ytlbonhloeefnmaa
