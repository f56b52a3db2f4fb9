/- GCF2: models and contracts, printed by wip/gen/gen.py -/
import Derived.Test.YtlbonhloeefnmaaKCXGCF
set_option linter.unusedVariables false
set_option linter.unusedSimpArgs false
namespace Go.Proofs.Ytlbonhloeefnmaa
open Go.RowKit
def F_euclidean_L3b (t15L2 : Int) (out3 : List Int) (rec : Bool → Int → (List Int) → Bool × Int × (List Int)) (grown4L3 : Bool) (t22L3 : Int) (out3L3 : List Int) : Bool × Int × (List Int) :=
  bif (decide (t22L3 < ((F_membersOf (gI out3 t15L2)).length : Int))) then (rec (grown4L3 || (!(F_within (gI out3 t15L2) (gI out3L3 (gI (F_membersOf (gI out3 t15L2)) t22L3))))) (t22L3 + 1) (sI out3L3 (gI (F_membersOf (gI out3 t15L2)) t22L3) (orI (gI out3L3 (gI (F_membersOf (gI out3 t15L2)) t22L3)) (gI out3 t15L2)))) else (grown4L3, t22L3, out3L3)
def F_euclidean_L3 (t15L2 : Int) (out3 : List Int) : Nat → Bool → Int → (List Int) → Bool × Int × (List Int)
  | 0, grown4L3, t22L3, out3L3 => (grown4L3, t22L3, out3L3)
  | r + 1, grown4L3, t22L3, out3L3 => F_euclidean_L3b t15L2 out3 (F_euclidean_L3 t15L2 out3 r) grown4L3 t22L3 out3L3
def F_euclidean_L2b (out3 : List Int) (rec : Bool → Int → (List Int) → Bool × Int × (List Int)) (grown4L2 : Bool) (t15L2 : Int) (out3L2 : List Int) : Bool × Int × (List Int) :=
  bif (decide (t15L2 < ((out3).length : Int))) then (rec ((F_euclidean_L3 t15L2 out3 (Int.toNat (((F_membersOf (gI out3 t15L2)).length : Int) - 0) + 1) grown4L2 0 out3L2).1) (t15L2 + 1) ((F_euclidean_L3 t15L2 out3 (Int.toNat (((F_membersOf (gI out3 t15L2)).length : Int) - 0) + 1) grown4L2 0 out3L2).2.2)) else (grown4L2, t15L2, out3L2)
def F_euclidean_L2 (out3 : List Int) : Nat → Bool → Int → (List Int) → Bool × Int × (List Int)
  | 0, grown4L2, t15L2, out3L2 => (grown4L2, t15L2, out3L2)
  | r + 1, grown4L2, t15L2, out3L2 => F_euclidean_L2b out3 (F_euclidean_L2 out3 r) grown4L2 t15L2 out3L2
def F_euclidean_L1b (rec : Bool → (List Int) → Bool × (List Int)) (grown4 : Bool) (out3 : List Int) : Bool × (List Int) :=
  bif grown4 then (rec ((F_euclidean_L2 out3 (Int.toNat (((out3).length : Int) - 0) + 1) false 0 out3).1) ((F_euclidean_L2 out3 (Int.toNat (((out3).length : Int) - 0) + 1) false 0 out3).2.2)) else (false, out3)
def F_euclidean_L1 : Nat → Bool → (List Int) → Bool × (List Int)
  | 0, grown4, out3 => (grown4, out3)
  | r + 1, grown4, out3 => F_euclidean_L1b (F_euclidean_L1 r) grown4 out3
def F_euclidean (ap : List Int) : List Int :=
  (F_euclidean_L1 (2 * (ecap (ap.length : Int) - sumN ap) + (bif true then 1 else 0) + 1) true ap).2
theorem cf_euclidean (args : Array Value) (w : World) : (callFunc 139 args).run Try.prog w = .ok (.enter 139 args) w := by kernel_rfl
set_option maxRecDepth 100000 in
theorem c_euclidean (apA : Option Addr) (apN apC : Nat) (ap : List Int) (w : World) (apR : RdS w 1 apA apN apC ap) (hl : ap.length ≤ 8) (hxa : ∀ m : Int, 0 ≤ m → m < (ap.length : Int) → 0 ≤ gI ap m ∧ gI ap m ≤ fullI (ap.length : Int)) :
    Calls Try.prog 139 #[.slice apA apN apC] w (Ret fun v w' => ∃ b1 : Option Addr, ∃ c1 : Nat, v = .slice b1 (F_euclidean ap).length c1 ∧ OwnS w' w.heap.size 2 1 b1 (F_euclidean ap).length c1 (F_euclidean ap) ∧ Ext w w') := by
  obtain rfl : apN = ap.length := apR.len1.symm
  have apLe := apR.le
  have hf8 := fullI_bd (n := (ap.length : Int)) (by omega) (by omega)
  have hRa := rl_ofL hxa
  have hS := St.nil w
  have hS1 := St.rd0 hS rfl apR; clear hS
  refine enter (args := [.slice apA ap.length apC]) Try.func139 rfl rfl ?_
  rw [Try.ntmps139]; intro a hE
  have hE := hE.sub (L' := [(0, .slice apA ap.length apC)]) ⟨rfl, trivial⟩
  refine c_seq ?_
  refine c_reg ?_
  refine q_step (v := .slice none 0 0) hE (y_assign rfl) rfl rfl rfl ?_; intro a2 hE3; clear hE
  refine c_nil ?_
  have hE4 := hE3.sub (L' := [(0, .slice apA ap.length apC)]) ⟨rfl, trivial⟩; clear hE3
  refine p_tn ?_
  refine c_seq ?_
  refine c_reg ?_
  refine q_step (v := .slice apA ap.length apC) hE4 (y_move rfl) rfl rfl rfl ?_; intro a5 hE6; clear hE4
  refine l_step hE6 rfl (l_call (f := 184) (argv := [.slice apA ap.length apC]) hE6 (fun _ => cf_z_CloneS _ _) rfl rfl (c_z_Clone apA ap.length apC ap w (St.rdR (i := 0) hS1 rfl) (by omega)) ?_)
  rintro _ w8 ⟨b13, c14, rfl, ho15, he12⟩ a9 hE10; clear hE6
  have hS11 := St.own hS1 he12 ho15; clear hS1
  refine q_step (v := .slice b13 ((ap).length) c14) hE10 (y_assign rfl) rfl rfl rfl ?_; intro a16 hE17; clear hE10
  refine c_nil ?_
  have hE18 := hE17.sub (L' := [(3, .slice b13 ((ap).length) c14)]) ⟨rfl, trivial⟩; clear hE17
  refine p_tn ?_
  refine c_seq ?_
  refine c_seq ?_
  refine c_reg ?_
  refine q_step (v := .bool true) hE18 (y_assign rfl) rfl rfl rfl ?_; intro a19 hE20; clear hE18
  refine c_nil ?_
  have hE21 := hE20.sub (L' := [(3, .slice b13 ((ap).length) c14), (4, .bool true)]) ⟨rfl, rfl, trivial⟩; clear hE20
  refine p_tn ?_
  refine c_cut1 (fun a' w' => ((((F_euclidean_L1 (2 * (ecap (ap.length : Int) - sumN ap) + (bif true then 1 else 0) + 1) true ap).2).length : Int) = (ap.length : Int)) ∧ (Rl ap.length ((F_euclidean_L1 (2 * (ecap (ap.length : Int) - sumN ap) + (bif true then 1 else 0) + 1) true ap).2)) ∧ E a' 46 [(3, .slice b13 ((ap).length) c14), (4, .bool ((F_euclidean_L1 (2 * (ecap (ap.length : Int) - sumN ap) + (bif true then 1 else 0) + 1) true ap).1))] ∧ St w w' [.own 2 1 b13 ((ap).length) c14 ((F_euclidean_L1 (2 * (ecap (ap.length : Int) - sumN ap) + (bif true then 1 else 0) + 1) true ap).2), .rd 1 apA ap.length apC ap]) ?_ ?_
  ·
   refine wp_block ?_
   refine c_loop (fun r a' w' => ∃ grown4 : Bool, ∃ out3 : List Int, F_euclidean_L1 r grown4 out3 = F_euclidean_L1 (2 * (ecap (ap.length : Int) - sumN ap) + (bif true then 1 else 0) + 1) true ap ∧ 2 * (ecap (ap.length : Int) - sumN out3) + (bif grown4 then 1 else 0) < r ∧ ((out3.length : Int) = (ap.length : Int)) ∧ (Rl ap.length out3) ∧ E a' 46 [(3, .slice b13 ((ap).length) c14), (4, .bool grown4)] ∧ St w w' [.own 2 1 b13 ((ap).length) c14 out3, .rd 1 apA ap.length apC ap]) (r := (2 * (ecap (ap.length : Int) - sumN ap) + (bif true then 1 else 0) + 1)) ?_ ?_
   · exact ⟨true, ap, rfl, Nat.lt_succ_self _, (by first | omega | (simp only [sS_len, sL_len]; omega) | (simp only [List.length_replicate, sI_len]; omega) | (simp only [List.length_append, List.length_cons, List.length_nil, sI_len, cond_true, cond_false]; omega) | (simp only [List.length_append, List.length_cons, List.length_nil, sI_len, cond_eq_ite, apply_ite List.length]; split <;> simp only [List.length_append, List.length_cons, List.length_nil, sI_len] <;> omega) | grind), hRa, (hE21.sub (L' := [(3, .slice b13 ((ap).length) c14), (4, .bool true)]) ⟨rfl, rfl, trivial⟩), (St.pick (Γ' := [.own 2 1 b13 ((ap).length) c14 ap, .rd 1 apA ap.length apC ap]) hS11 [0, 1] (by decide) rfl)⟩
   ·
    clear hE21 hS11
    rintro r31 a23 w24 ⟨grown4, out3, hT27, hr28, hi29, hi30, hE25, hS26⟩
    obtain ⟨r31, rfl⟩ : ∃ r', r31 = r' + 1 := ⟨r31 - 1, by omega⟩
    refine c_seq ?_
    refine c_seq ?_
    refine c_reg ?_
    refine q_step (v := .bool grown4) hE25 (y_move rfl) rfl rfl rfl ?_; intro a32 hE33; clear hE25
    refine c_nil ?_
    have hE34 := hE33.sub (L' := [(3, .slice b13 ((ap).length) c14), (4, .bool grown4), (11, .bool grown4)]) ⟨rfl, rfl, rfl, trivial⟩; clear hE33
    refine p_tn ?_
    refine c_cond hE34 rfl (fun ht35 => ?_) (fun ht35 => ?_)
    ·
     have hE36 := hE34; rw [ht35] at hE36; clear hE34
     refine wp_skip ?_
     refine p_tn ?_
     refine wp_block ?_
     refine c_seq ?_
     refine c_reg ?_
     refine q_step (v := .bool false) hE36 (y_assign rfl) rfl rfl rfl ?_; intro a37 hE38; clear hE36
     refine c_nil ?_
     have hE39 := hE38.sub (L' := [(3, .slice b13 ((ap).length) c14), (4, .bool false)]) ⟨rfl, rfl, trivial⟩; clear hE38
     refine p_tn ?_
     refine c_seq ?_
     refine c_reg ?_
     refine q_step (v := .slice b13 ((ap).length) c14) hE39 (y_move rfl) rfl rfl rfl ?_; intro a40 hE41; clear hE39
     refine l_step hE41 rfl (l_call (f := 184) (argv := [.slice b13 ((ap).length) c14]) hE41 (fun _ => cf_z_CloneS _ _) rfl rfl (c_z_Clone b13 ((ap).length) c14 out3 w24 (St.rdO (i := 0) hS26 rfl) (by omega)) ?_)
     rintro _ w43 ⟨b48, c49, rfl, ho50, he47⟩ a44 hE45; clear hE41
     have hS46 := St.own hS26 he47 ho50; clear hS26
     refine q_step (v := .int .i64 ((out3).length : Int)) hE45 (y_len (e := 2) (by kernel_rfl) rfl) rfl rfl rfl ?_; intro a51 hE52; clear hE45
     refine q_step (v := .int .i64 0) hE52 (y_move rfl) rfl rfl rfl ?_; intro a53 hE54; clear hE52
     refine c_nil ?_
     have hE55 := hE54.sub (L' := [(3, .slice b13 ((ap).length) c14), (4, .bool false), (13, .slice b48 ((out3).length) c49), (14, .int .i64 ((out3).length : Int)), (15, .int .i64 0)]) ⟨rfl, rfl, rfl, rfl, rfl, trivial⟩; clear hE54
     refine p_tn ?_
     refine c_cut1 (fun a' w' => (0 ≤ ((F_euclidean_L2 out3 (Int.toNat (((out3).length : Int) - 0) + 1) false 0 out3).2.1)) ∧ ((((F_euclidean_L2 out3 (Int.toNat (((out3).length : Int) - 0) + 1) false 0 out3).2.2).length : Int) = (ap.length : Int)) ∧ (Rl ap.length ((F_euclidean_L2 out3 (Int.toNat (((out3).length : Int) - 0) + 1) false 0 out3).2.2)) ∧ (Gr out3 ((F_euclidean_L2 out3 (Int.toNat (((out3).length : Int) - 0) + 1) false 0 out3).2.2) ((F_euclidean_L2 out3 (Int.toNat (((out3).length : Int) - 0) + 1) false 0 out3).1)) ∧ (((F_euclidean_L2 out3 (Int.toNat (((out3).length : Int) - 0) + 1) false 0 out3).2.1) ≤ ((out3).length : Int)) ∧ E a' 46 [(3, .slice b13 ((ap).length) c14), (4, .bool ((F_euclidean_L2 out3 (Int.toNat (((out3).length : Int) - 0) + 1) false 0 out3).1)), (13, .slice b48 ((out3).length) c49), (14, .int .i64 ((out3).length : Int)), (15, .int .i64 ((F_euclidean_L2 out3 (Int.toNat (((out3).length : Int) - 0) + 1) false 0 out3).2.1))] ∧ St w w' [.own 2 1 b48 ((out3).length) c49 out3, .own 2 1 b13 ((ap).length) c14 ((F_euclidean_L2 out3 (Int.toNat (((out3).length : Int) - 0) + 1) false 0 out3).2.2), .rd 1 apA ap.length apC ap]) ?_ ?_
     ·
      refine wp_block ?_
      refine c_loop (fun r a' w' => ∃ grown4L2 : Bool, ∃ t15L2 : Int, ∃ out3L2 : List Int, F_euclidean_L2 out3 r grown4L2 t15L2 out3L2 = F_euclidean_L2 out3 (Int.toNat (((out3).length : Int) - 0) + 1) false 0 out3 ∧ Int.toNat (((out3).length : Int) - t15L2) < r ∧ (0 ≤ t15L2) ∧ ((out3L2.length : Int) = (ap.length : Int)) ∧ (Rl ap.length out3L2) ∧ (Gr out3 out3L2 grown4L2) ∧ (t15L2 ≤ ((out3).length : Int)) ∧ E a' 46 [(3, .slice b13 ((ap).length) c14), (4, .bool grown4L2), (13, .slice b48 ((out3).length) c49), (14, .int .i64 ((out3).length : Int)), (15, .int .i64 t15L2)] ∧ St w w' [.own 2 1 b48 ((out3).length) c49 out3, .own 2 1 b13 ((ap).length) c14 out3L2, .rd 1 apA ap.length apC ap]) (r := (Int.toNat (((out3).length : Int) - 0) + 1)) ?_ ?_
      · exact ⟨false, 0, out3, rfl, Nat.lt_succ_self _, (by first | omega | (simp only [sS_len, sL_len]; omega) | (simp only [List.length_replicate, sI_len]; omega) | (simp only [List.length_append, List.length_cons, List.length_nil, sI_len, cond_true, cond_false]; omega) | (simp only [List.length_append, List.length_cons, List.length_nil, sI_len, cond_eq_ite, apply_ite List.length]; split <;> simp only [List.length_append, List.length_cons, List.length_nil, sI_len] <;> omega) | grind), (by first | omega | (simp only [sS_len, sL_len]; omega) | (simp only [List.length_replicate, sI_len]; omega) | (simp only [List.length_append, List.length_cons, List.length_nil, sI_len, cond_true, cond_false]; omega) | (simp only [List.length_append, List.length_cons, List.length_nil, sI_len, cond_eq_ite, apply_ite List.length]; split <;> simp only [List.length_append, List.length_cons, List.length_nil, sI_len] <;> omega) | grind), (by assumption), (Gr.refl _), (by first | omega | (simp only [sS_len, sL_len]; omega) | (simp only [List.length_replicate, sI_len]; omega) | (simp only [List.length_append, List.length_cons, List.length_nil, sI_len, cond_true, cond_false]; omega) | (simp only [List.length_append, List.length_cons, List.length_nil, sI_len, cond_eq_ite, apply_ite List.length]; split <;> simp only [List.length_append, List.length_cons, List.length_nil, sI_len] <;> omega) | grind), (hE55.sub (L' := [(3, .slice b13 ((ap).length) c14), (4, .bool false), (13, .slice b48 ((out3).length) c49), (14, .int .i64 ((out3).length : Int)), (15, .int .i64 0)]) ⟨rfl, rfl, rfl, rfl, rfl, trivial⟩), (St.pick (Γ' := [.own 2 1 b48 ((out3).length) c49 out3, .own 2 1 b13 ((ap).length) c14 out3, .rd 1 apA ap.length apC ap]) hS46 [0, 1, 2] (by decide) rfl)⟩
      ·
       clear hE55 hS46
       rintro r68 a57 w58 ⟨grown4L2, t15L2, out3L2, hT61, hr62, hi63, hi64, hi65, hi66, hi67, hE59, hS60⟩
       obtain ⟨r68, rfl⟩ : ∃ r', r68 = r' + 1 := ⟨r68 - 1, by omega⟩
       refine c_seq ?_
       refine c_reg ?_
       refine q_step (v := .bool (decide (t15L2 < ((out3).length : Int)))) hE59 (y_lss rfl rfl) rfl rfl rfl ?_; intro a69 hE70; clear hE59
       refine c_nil ?_
       have hE71 := hE70.sub (L' := [(3, .slice b13 ((ap).length) c14), (4, .bool grown4L2), (13, .slice b48 ((out3).length) c49), (14, .int .i64 ((out3).length : Int)), (15, .int .i64 t15L2), (16, .bool (decide (t15L2 < ((out3).length : Int))))]) ⟨rfl, rfl, rfl, rfl, rfl, rfl, trivial⟩; clear hE70
       refine p_tn ?_
       refine c_seq ?_
       refine c_cond hE71 rfl (fun ht72 => ?_) (fun ht72 => ?_)
       ·
        have hp73 := of_decide_eq_true ht72
        have hE74 := hE71; rw [ht72] at hE74; clear hE71
        have hmk := rl_mask (a := out3) (n := ap.length) (by assumption) t15L2 (by omega) (by omega)
        have hml := members_len (mask := gI out3 t15L2) (n := ap.length) (by omega) hmk.1 hmk.2
        have hmk1 : 0 ≤ gI out3 t15L2 := hmk.1
        have hmk2 : gI out3 t15L2 ≤ fullI (ap.length : Int) := hmk.2
        refine wp_skip ?_
        refine p_tn ?_
        refine c_seq ?_
        refine wp_block ?_
        refine c_seq ?_
        refine c_reg ?_
        refine q_step (v := .pointer (some (adr b48 (Int.toNat t15L2)))) hE74 (y_idx (by kernel_rfl) (fun _ => by kernel_rfl) rfl rfl (RdS.isS (m := t15L2) (St.rdO (i := 0) hS60 rfl) (by omega) (by omega)) (by omega) (by omega) (Nat.mul_one _).symm) rfl rfl rfl ?_; intro a75 hE76; clear hE74
        refine q_step (v := .int .i64 (gI out3 t15L2)) hE76 (y_load (fun _ => by kernel_rfl) rfl (RdS.elt (St.rdO (i := 0) hS60 rfl) (by omega) (by omega))) rfl rfl rfl ?_; intro a77 hE78; clear hE76
        refine q_step (v := .int .i64 (gI out3 t15L2)) hE78 (y_assign rfl) rfl rfl rfl ?_; intro a79 hE80; clear hE78
        refine c_nil ?_
        have hE81 := hE80.sub (L' := [(3, .slice b13 ((ap).length) c14), (4, .bool grown4L2), (6, .int .i64 (gI out3 t15L2)), (13, .slice b48 ((out3).length) c49), (14, .int .i64 ((out3).length : Int)), (15, .int .i64 t15L2)]) ⟨rfl, rfl, rfl, rfl, rfl, rfl, trivial⟩; clear hE80
        refine p_tn ?_
        refine c_seq ?_
        refine c_reg ?_
        refine q_step (v := .int .i64 (gI out3 t15L2)) hE81 (y_move rfl) rfl rfl rfl ?_; intro a82 hE83; clear hE81
        refine l_step hE83 rfl (l_call (f := 170) (argv := [.int .i64 (gI out3 t15L2)]) hE83 (fun _ => cf_membersOf _ _) rfl rfl (c_membersOf (gI out3 t15L2) w58 (by omega) (by omega)) ?_)
        rintro _ w85 ⟨b90, c91, rfl, ho92, he89⟩ a86 hE87; clear hE83
        have hS88 := St.own hS60 he89 ho92; clear hS60
        refine q_step (v := .int .i64 ((F_membersOf (gI out3 t15L2)).length : Int)) hE87 (y_len (e := 2) (by kernel_rfl) rfl) rfl rfl rfl ?_; intro a93 hE94; clear hE87
        refine q_step (v := .int .i64 0) hE94 (y_move rfl) rfl rfl rfl ?_; intro a95 hE96; clear hE94
        refine c_nil ?_
        have hE97 := hE96.sub (L' := [(3, .slice b13 ((ap).length) c14), (4, .bool grown4L2), (6, .int .i64 (gI out3 t15L2)), (13, .slice b48 ((out3).length) c49), (14, .int .i64 ((out3).length : Int)), (15, .int .i64 t15L2), (20, .slice b90 ((F_membersOf (gI out3 t15L2)).length) c91), (21, .int .i64 ((F_membersOf (gI out3 t15L2)).length : Int)), (22, .int .i64 0)]) ⟨rfl, rfl, rfl, rfl, rfl, rfl, rfl, rfl, rfl, trivial⟩; clear hE96
        refine p_tn ?_
        refine c_cut1 (fun a' w' => (0 ≤ ((F_euclidean_L3 t15L2 out3 (Int.toNat (((F_membersOf (gI out3 t15L2)).length : Int) - 0) + 1) grown4L2 0 out3L2).2.1)) ∧ ((((F_euclidean_L3 t15L2 out3 (Int.toNat (((F_membersOf (gI out3 t15L2)).length : Int) - 0) + 1) grown4L2 0 out3L2).2.2).length : Int) = (ap.length : Int)) ∧ (Rl ap.length ((F_euclidean_L3 t15L2 out3 (Int.toNat (((F_membersOf (gI out3 t15L2)).length : Int) - 0) + 1) grown4L2 0 out3L2).2.2)) ∧ (Gr out3 ((F_euclidean_L3 t15L2 out3 (Int.toNat (((F_membersOf (gI out3 t15L2)).length : Int) - 0) + 1) grown4L2 0 out3L2).2.2) ((F_euclidean_L3 t15L2 out3 (Int.toNat (((F_membersOf (gI out3 t15L2)).length : Int) - 0) + 1) grown4L2 0 out3L2).1)) ∧ (((F_euclidean_L3 t15L2 out3 (Int.toNat (((F_membersOf (gI out3 t15L2)).length : Int) - 0) + 1) grown4L2 0 out3L2).2.1) ≤ ((F_membersOf (gI out3 t15L2)).length : Int)) ∧ E a' 46 [(3, .slice b13 ((ap).length) c14), (4, .bool ((F_euclidean_L3 t15L2 out3 (Int.toNat (((F_membersOf (gI out3 t15L2)).length : Int) - 0) + 1) grown4L2 0 out3L2).1)), (6, .int .i64 (gI out3 t15L2)), (13, .slice b48 ((out3).length) c49), (14, .int .i64 ((out3).length : Int)), (15, .int .i64 t15L2), (20, .slice b90 ((F_membersOf (gI out3 t15L2)).length) c91), (21, .int .i64 ((F_membersOf (gI out3 t15L2)).length : Int)), (22, .int .i64 ((F_euclidean_L3 t15L2 out3 (Int.toNat (((F_membersOf (gI out3 t15L2)).length : Int) - 0) + 1) grown4L2 0 out3L2).2.1))] ∧ St w w' [.own 2 1 b90 ((F_membersOf (gI out3 t15L2)).length) c91 (F_membersOf (gI out3 t15L2)), .own 2 1 b48 ((out3).length) c49 out3, .own 2 1 b13 ((ap).length) c14 ((F_euclidean_L3 t15L2 out3 (Int.toNat (((F_membersOf (gI out3 t15L2)).length : Int) - 0) + 1) grown4L2 0 out3L2).2.2), .rd 1 apA ap.length apC ap]) ?_ ?_
        ·
         refine wp_block ?_
         refine c_loop (fun r a' w' => ∃ grown4L3 : Bool, ∃ t22L3 : Int, ∃ out3L3 : List Int, F_euclidean_L3 t15L2 out3 r grown4L3 t22L3 out3L3 = F_euclidean_L3 t15L2 out3 (Int.toNat (((F_membersOf (gI out3 t15L2)).length : Int) - 0) + 1) grown4L2 0 out3L2 ∧ Int.toNat (((F_membersOf (gI out3 t15L2)).length : Int) - t22L3) < r ∧ (0 ≤ t22L3) ∧ ((out3L3.length : Int) = (ap.length : Int)) ∧ (Rl ap.length out3L3) ∧ (Gr out3 out3L3 grown4L3) ∧ (t22L3 ≤ ((F_membersOf (gI out3 t15L2)).length : Int)) ∧ E a' 46 [(3, .slice b13 ((ap).length) c14), (4, .bool grown4L3), (6, .int .i64 (gI out3 t15L2)), (13, .slice b48 ((out3).length) c49), (14, .int .i64 ((out3).length : Int)), (15, .int .i64 t15L2), (20, .slice b90 ((F_membersOf (gI out3 t15L2)).length) c91), (21, .int .i64 ((F_membersOf (gI out3 t15L2)).length : Int)), (22, .int .i64 t22L3)] ∧ St w w' [.own 2 1 b90 ((F_membersOf (gI out3 t15L2)).length) c91 (F_membersOf (gI out3 t15L2)), .own 2 1 b48 ((out3).length) c49 out3, .own 2 1 b13 ((ap).length) c14 out3L3, .rd 1 apA ap.length apC ap]) (r := (Int.toNat (((F_membersOf (gI out3 t15L2)).length : Int) - 0) + 1)) ?_ ?_
         · exact ⟨grown4L2, 0, out3L2, rfl, Nat.lt_succ_self _, (by first | omega | (simp only [sS_len, sL_len]; omega) | (simp only [List.length_replicate, sI_len]; omega) | (simp only [List.length_append, List.length_cons, List.length_nil, sI_len, cond_true, cond_false]; omega) | (simp only [List.length_append, List.length_cons, List.length_nil, sI_len, cond_eq_ite, apply_ite List.length]; split <;> simp only [List.length_append, List.length_cons, List.length_nil, sI_len] <;> omega) | grind), (by assumption), (by assumption), (by assumption), (by first | omega | (simp only [sS_len, sL_len]; omega) | (simp only [List.length_replicate, sI_len]; omega) | (simp only [List.length_append, List.length_cons, List.length_nil, sI_len, cond_true, cond_false]; omega) | (simp only [List.length_append, List.length_cons, List.length_nil, sI_len, cond_eq_ite, apply_ite List.length]; split <;> simp only [List.length_append, List.length_cons, List.length_nil, sI_len] <;> omega) | grind), (hE97.sub (L' := [(3, .slice b13 ((ap).length) c14), (4, .bool grown4L2), (6, .int .i64 (gI out3 t15L2)), (13, .slice b48 ((out3).length) c49), (14, .int .i64 ((out3).length : Int)), (15, .int .i64 t15L2), (20, .slice b90 ((F_membersOf (gI out3 t15L2)).length) c91), (21, .int .i64 ((F_membersOf (gI out3 t15L2)).length : Int)), (22, .int .i64 0)]) ⟨rfl, rfl, rfl, rfl, rfl, rfl, rfl, rfl, rfl, trivial⟩), (St.pick (Γ' := [.own 2 1 b90 ((F_membersOf (gI out3 t15L2)).length) c91 (F_membersOf (gI out3 t15L2)), .own 2 1 b48 ((out3).length) c49 out3, .own 2 1 b13 ((ap).length) c14 out3L2, .rd 1 apA ap.length apC ap]) hS88 [0, 1, 2, 3] (by decide) rfl)⟩
         ·
          clear hE97 hS88
          rintro r110 a99 w100 ⟨grown4L3, t22L3, out3L3, hT103, hr104, hi105, hi106, hi107, hi108, hi109, hE101, hS102⟩
          obtain ⟨r110, rfl⟩ : ∃ r', r110 = r' + 1 := ⟨r110 - 1, by omega⟩
          refine c_seq ?_
          refine c_reg ?_
          refine q_step (v := .bool (decide (t22L3 < ((F_membersOf (gI out3 t15L2)).length : Int)))) hE101 (y_lss rfl rfl) rfl rfl rfl ?_; intro a111 hE112; clear hE101
          refine c_nil ?_
          have hE113 := hE112.sub (L' := [(3, .slice b13 ((ap).length) c14), (4, .bool grown4L3), (6, .int .i64 (gI out3 t15L2)), (13, .slice b48 ((out3).length) c49), (14, .int .i64 ((out3).length : Int)), (15, .int .i64 t15L2), (20, .slice b90 ((F_membersOf (gI out3 t15L2)).length) c91), (21, .int .i64 ((F_membersOf (gI out3 t15L2)).length : Int)), (22, .int .i64 t22L3), (23, .bool (decide (t22L3 < ((F_membersOf (gI out3 t15L2)).length : Int))))]) ⟨rfl, rfl, rfl, rfl, rfl, rfl, rfl, rfl, rfl, rfl, trivial⟩; clear hE112
          refine p_tn ?_
          refine c_seq ?_
          refine c_cond hE113 rfl (fun ht114 => ?_) (fun ht114 => ?_)
          ·
           have hp115 := of_decide_eq_true ht114
           have hE116 := hE113; rw [ht114] at hE116; clear hE113
           have hm1 := members_lt (mask := gI out3 t15L2) (n := ap.length) (by omega) hmk.1 hmk.2 t22L3 (by omega) (by omega)
           have hb := ec_body2 (n := ap.length) (m := gI out3 t15L2) (y := gI (F_membersOf (gI out3 t15L2)) t22L3) (a := out3L3) (by omega) (by assumption) hmk hm1.1 hm1.2
           refine wp_skip ?_
           refine p_tn ?_
           refine c_seq ?_
           refine wp_block ?_
           refine c_seq ?_
           refine c_reg ?_
           refine q_step (v := .pointer (some (adr b90 (Int.toNat t22L3)))) hE116 (y_idx (by kernel_rfl) (fun _ => by kernel_rfl) rfl rfl (RdS.isS (m := t22L3) (St.rdO (i := 0) hS102 rfl) (by omega) (by omega)) (by omega) (by omega) (Nat.mul_one _).symm) rfl rfl rfl ?_; intro a117 hE118; clear hE116
           refine q_step (v := .int .i64 (gI (F_membersOf (gI out3 t15L2)) t22L3)) hE118 (y_load (fun _ => by kernel_rfl) rfl (RdS.elt (St.rdO (i := 0) hS102 rfl) (by omega) (by omega))) rfl rfl rfl ?_; intro a119 hE120; clear hE118
           refine q_step (v := .int .i64 (gI (F_membersOf (gI out3 t15L2)) t22L3)) hE120 (y_assign rfl) rfl rfl rfl ?_; intro a121 hE122; clear hE120
           refine c_nil ?_
           have hE123 := hE122.sub (L' := [(3, .slice b13 ((ap).length) c14), (4, .bool grown4L3), (6, .int .i64 (gI out3 t15L2)), (8, .int .i64 (gI (F_membersOf (gI out3 t15L2)) t22L3)), (13, .slice b48 ((out3).length) c49), (14, .int .i64 ((out3).length : Int)), (15, .int .i64 t15L2), (20, .slice b90 ((F_membersOf (gI out3 t15L2)).length) c91), (21, .int .i64 ((F_membersOf (gI out3 t15L2)).length : Int)), (22, .int .i64 t22L3)]) ⟨rfl, rfl, rfl, rfl, rfl, rfl, rfl, rfl, rfl, rfl, trivial⟩; clear hE122
           refine p_tn ?_
           refine c_cut (fun a' w' => E a' 46 [(3, .slice b13 ((ap).length) c14), (4, .bool (grown4L3 || (!(F_within (gI out3 t15L2) (gI out3L3 (gI (F_membersOf (gI out3 t15L2)) t22L3)))))), (6, .int .i64 (gI out3 t15L2)), (8, .int .i64 (gI (F_membersOf (gI out3 t15L2)) t22L3)), (13, .slice b48 ((out3).length) c49), (14, .int .i64 ((out3).length : Int)), (15, .int .i64 t15L2), (20, .slice b90 ((F_membersOf (gI out3 t15L2)).length) c91), (21, .int .i64 ((F_membersOf (gI out3 t15L2)).length : Int)), (22, .int .i64 t22L3)] ∧ St w w' [.own 2 1 b90 ((F_membersOf (gI out3 t15L2)).length) c91 (F_membersOf (gI out3 t15L2)), .own 2 1 b48 ((out3).length) c49 out3, .own 2 1 b13 ((ap).length) c14 out3L3, .rd 1 apA ap.length apC ap]) ?_ ?_
           ·
            refine c_reg ?_
            refine q_step (v := .bool grown4L3) hE123 (y_move rfl) rfl rfl rfl ?_; intro a124 hE125; clear hE123
            refine q_step (v := .bool grown4L3) hE125 (y_move rfl) rfl rfl rfl ?_; intro a126 hE127; clear hE125
            rcases Bool.eq_false_or_eq_true grown4L3 with hb128 | hb128
            ·
             have hE129 := hE127; (try rw [hb128] at hE129); clear hE127
             refine q_skip hE129 rfl rfl rfl ?_; intro a130 hE131; clear hE129
             refine q_skip hE131 rfl rfl rfl ?_; intro a132 hE133; clear hE131
             refine q_skip hE133 rfl rfl rfl ?_; intro a134 hE135; clear hE133
             refine q_skip hE135 rfl rfl rfl ?_; intro a136 hE137; clear hE135
             refine q_skip hE137 rfl rfl rfl ?_; intro a138 hE139; clear hE137
             refine q_skip hE139 rfl rfl rfl ?_; intro a140 hE141; clear hE139
             refine q_skip hE141 rfl rfl rfl ?_; intro a142 hE143; clear hE141
             refine q_step (v := .bool true) hE143 (y_pick (b := true) rfl rfl) rfl rfl rfl ?_; intro a144 hE145; clear hE143
             refine q_step (v := .bool true) hE145 (y_assign rfl) rfl rfl rfl ?_; intro a146 hE147; clear hE145
             refine c_nil ?_
             have hE148 := hE147.sub (L' := [(3, .slice b13 ((ap).length) c14), (4, .bool true), (6, .int .i64 (gI out3 t15L2)), (8, .int .i64 (gI (F_membersOf (gI out3 t15L2)) t22L3)), (13, .slice b48 ((out3).length) c49), (14, .int .i64 ((out3).length : Int)), (15, .int .i64 t15L2), (20, .slice b90 ((F_membersOf (gI out3 t15L2)).length) c91), (21, .int .i64 ((F_membersOf (gI out3 t15L2)).length : Int)), (22, .int .i64 t22L3)]) ⟨rfl, rfl, rfl, rfl, rfl, rfl, rfl, rfl, rfl, rfl, trivial⟩; clear hE147
             refine p_tn ?_
             have hE149 := hE148.sub (L' := [(3, .slice b13 ((ap).length) c14), (4, .bool true), (6, .int .i64 (gI out3 t15L2)), (8, .int .i64 (gI (F_membersOf (gI out3 t15L2)) t22L3)), (13, .slice b48 ((out3).length) c49), (14, .int .i64 ((out3).length : Int)), (15, .int .i64 t15L2), (20, .slice b90 ((F_membersOf (gI out3 t15L2)).length) c91), (21, .int .i64 ((F_membersOf (gI out3 t15L2)).length : Int)), (22, .int .i64 t22L3)]) ⟨rfl, rfl, rfl, rfl, rfl, rfl, rfl, rfl, rfl, rfl, trivial⟩
             have hS150 := (St.pick (Γ' := [.own 2 1 b90 ((F_membersOf (gI out3 t15L2)).length) c91 (F_membersOf (gI out3 t15L2)), .own 2 1 b48 ((out3).length) c49 out3, .own 2 1 b13 ((ap).length) c14 out3L3, .rd 1 apA ap.length apC ap]) hS102 [0, 1, 2, 3] (by decide) rfl)
             exact ⟨(by rw [hb128]; exact hE149), hS150⟩
            ·
             have hE151 := hE127; (try rw [hb128] at hE151); clear hE127
             refine q_step (v := .int .i64 (gI out3 t15L2)) hE151 (y_move rfl) rfl rfl rfl ?_; intro a152 hE153; clear hE151
             refine q_step (v := .slice b13 ((ap).length) c14) hE153 (y_move rfl) rfl rfl rfl ?_; intro a154 hE155; clear hE153
             refine q_step (v := .int .i64 (gI (F_membersOf (gI out3 t15L2)) t22L3)) hE155 (y_move rfl) rfl rfl rfl ?_; intro a156 hE157; clear hE155
             refine q_step (v := .pointer (some (adr b13 (Int.toNat (gI (F_membersOf (gI out3 t15L2)) t22L3))))) hE157 (y_idx (by kernel_rfl) (fun _ => by kernel_rfl) rfl rfl (RdS.isS (m := gI (F_membersOf (gI out3 t15L2)) t22L3) (St.rdO (i := 2) hS102 rfl) (by omega) (by omega)) (by omega) (by omega) (Nat.mul_one _).symm) rfl rfl rfl ?_; intro a158 hE159; clear hE157
             refine q_step (v := .int .i64 (gI out3L3 (gI (F_membersOf (gI out3 t15L2)) t22L3))) hE159 (y_load (fun _ => by kernel_rfl) rfl (RdS.elt (St.rdO (i := 2) hS102 rfl) (by omega) (by omega))) rfl rfl rfl ?_; intro a160 hE161; clear hE159
             refine l_step hE161 rfl (l_call (f := 204) (argv := [.int .i64 (gI out3 t15L2), .int .i64 (gI out3L3 (gI (F_membersOf (gI out3 t15L2)) t22L3))]) hE161 (fun _ => cf_within _ _) rfl rfl (c_within (gI out3 t15L2) (gI out3L3 (gI (F_membersOf (gI out3 t15L2)) t22L3)) w100) ?_)
             rintro _ _ ⟨rfl, rfl⟩ a164 hE165; clear hE161
             refine q_step (v := .bool (!(F_within (gI out3 t15L2) (gI out3L3 (gI (F_membersOf (gI out3 t15L2)) t22L3))))) hE165 (y_not rfl) rfl rfl rfl ?_; intro a168 hE169; clear hE165
             refine q_step (v := .bool (!(F_within (gI out3 t15L2) (gI out3L3 (gI (F_membersOf (gI out3 t15L2)) t22L3))))) hE169 (y_pick (b := false) rfl rfl) rfl rfl rfl ?_; intro a170 hE171; clear hE169
             refine q_step (v := .bool (!(F_within (gI out3 t15L2) (gI out3L3 (gI (F_membersOf (gI out3 t15L2)) t22L3))))) hE171 (y_assign rfl) rfl rfl rfl ?_; intro a172 hE173; clear hE171
             refine c_nil ?_
             have hE174 := hE173.sub (L' := [(3, .slice b13 ((ap).length) c14), (4, .bool (!(F_within (gI out3 t15L2) (gI out3L3 (gI (F_membersOf (gI out3 t15L2)) t22L3))))), (6, .int .i64 (gI out3 t15L2)), (8, .int .i64 (gI (F_membersOf (gI out3 t15L2)) t22L3)), (13, .slice b48 ((out3).length) c49), (14, .int .i64 ((out3).length : Int)), (15, .int .i64 t15L2), (20, .slice b90 ((F_membersOf (gI out3 t15L2)).length) c91), (21, .int .i64 ((F_membersOf (gI out3 t15L2)).length : Int)), (22, .int .i64 t22L3)]) ⟨rfl, rfl, rfl, rfl, rfl, rfl, rfl, rfl, rfl, rfl, trivial⟩; clear hE173
             refine p_tn ?_
             have hE175 := hE174.sub (L' := [(3, .slice b13 ((ap).length) c14), (4, .bool (!(F_within (gI out3 t15L2) (gI out3L3 (gI (F_membersOf (gI out3 t15L2)) t22L3))))), (6, .int .i64 (gI out3 t15L2)), (8, .int .i64 (gI (F_membersOf (gI out3 t15L2)) t22L3)), (13, .slice b48 ((out3).length) c49), (14, .int .i64 ((out3).length : Int)), (15, .int .i64 t15L2), (20, .slice b90 ((F_membersOf (gI out3 t15L2)).length) c91), (21, .int .i64 ((F_membersOf (gI out3 t15L2)).length : Int)), (22, .int .i64 t22L3)]) ⟨rfl, rfl, rfl, rfl, rfl, rfl, rfl, rfl, rfl, rfl, trivial⟩
             have hS176 := (St.pick (Γ' := [.own 2 1 b90 ((F_membersOf (gI out3 t15L2)).length) c91 (F_membersOf (gI out3 t15L2)), .own 2 1 b48 ((out3).length) c49 out3, .own 2 1 b13 ((ap).length) c14 out3L3, .rd 1 apA ap.length apC ap]) hS102 [0, 1, 2, 3] (by decide) rfl)
             exact ⟨(by rw [hb128]; exact hE175), hS176⟩
           ·
            rintro a177 w178 ⟨hE179, hS180⟩; clear hE123 hS102
            refine c_reg ?_
            refine q_step (v := .slice b13 ((ap).length) c14) hE179 (y_move rfl) rfl rfl rfl ?_; intro a182 hE183; clear hE179
            refine q_step (v := .int .i64 (gI (F_membersOf (gI out3 t15L2)) t22L3)) hE183 (y_move rfl) rfl rfl rfl ?_; intro a184 hE185; clear hE183
            refine q_step (v := .pointer (some (adr b13 (Int.toNat (gI (F_membersOf (gI out3 t15L2)) t22L3))))) hE185 (y_idx (by kernel_rfl) (fun _ => by kernel_rfl) rfl rfl (RdS.isS (m := gI (F_membersOf (gI out3 t15L2)) t22L3) (St.rdO (i := 2) hS180 rfl) (by omega) (by omega)) (by omega) (by omega) (Nat.mul_one _).symm) rfl rfl rfl ?_; intro a186 hE187; clear hE185
            refine q_step (v := .int .i64 (gI out3L3 (gI (F_membersOf (gI out3 t15L2)) t22L3))) hE187 (y_load (fun _ => by kernel_rfl) rfl (RdS.elt (St.rdO (i := 2) hS180 rfl) (by omega) (by omega))) rfl rfl rfl ?_; intro a188 hE189; clear hE187
            refine q_step (v := .int .i64 (gI out3 t15L2)) hE189 (y_move rfl) rfl rfl rfl ?_; intro a190 hE191; clear hE189
            refine q_step (v := .int .i64 (orI (gI out3L3 (gI (F_membersOf (gI out3 t15L2)) t22L3)) (gI out3 t15L2))) hE191 (y_or rfl rfl) rfl rfl rfl ?_; intro a192 hE193; clear hE191
            refine q_step (v := .pointer (some (adr b13 (Int.toNat (gI (F_membersOf (gI out3 t15L2)) t22L3))))) hE193 (y_idx (by kernel_rfl) (fun _ => by kernel_rfl) rfl rfl (RdS.isS (m := gI (F_membersOf (gI out3 t15L2)) t22L3) (St.rdO (i := 2) hS180 rfl) (by omega) (by omega)) (by omega) (by omega) (Nat.mul_one _).symm) rfl rfl rfl ?_; intro a194 hE195; clear hE193
            refine l_step hE195 rfl (l_store (k := 2) hS180 hE195 (fun _ => by kernel_rfl) rfl rfl rfl (by omega) (by omega) ?_)
            intro w197 hS200 a198 hE199; clear hS180 hE195
            refine c_nil ?_
            have hE202 := hE199.sub (L' := [(3, .slice b13 ((ap).length) c14), (4, .bool (grown4L3 || (!(F_within (gI out3 t15L2) (gI out3L3 (gI (F_membersOf (gI out3 t15L2)) t22L3)))))), (6, .int .i64 (gI out3 t15L2)), (13, .slice b48 ((out3).length) c49), (14, .int .i64 ((out3).length : Int)), (15, .int .i64 t15L2), (20, .slice b90 ((F_membersOf (gI out3 t15L2)).length) c91), (21, .int .i64 ((F_membersOf (gI out3 t15L2)).length : Int)), (22, .int .i64 t22L3)]) ⟨rfl, rfl, rfl, rfl, rfl, rfl, rfl, rfl, rfl, trivial⟩; clear hE199
            refine p_bn ?_
            refine p_tn ?_
            refine c_reg ?_
            refine q_step (v := .int .i64 (t22L3 + 1)) hE202 (y_add rfl rfl ⟨(by omega), (by omega)⟩) rfl rfl rfl ?_; intro a203 hE204; clear hE202
            refine q_step (v := .int .i64 (t22L3 + 1)) hE204 (y_move rfl) rfl rfl rfl ?_; intro a205 hE206; clear hE204
            refine c_nil ?_
            have hE207 := hE206.sub (L' := [(3, .slice b13 ((ap).length) c14), (4, .bool (grown4L3 || (!(F_within (gI out3 t15L2) (gI out3L3 (gI (F_membersOf (gI out3 t15L2)) t22L3)))))), (6, .int .i64 (gI out3 t15L2)), (13, .slice b48 ((out3).length) c49), (14, .int .i64 ((out3).length : Int)), (15, .int .i64 t15L2), (20, .slice b90 ((F_membersOf (gI out3 t15L2)).length) c91), (21, .int .i64 ((F_membersOf (gI out3 t15L2)).length : Int)), (22, .int .i64 (t22L3 + 1))]) ⟨rfl, rfl, rfl, rfl, rfl, rfl, rfl, rfl, rfl, trivial⟩; clear hE206
            refine p_tn ⟨r110, Nat.lt_succ_self _, (grown4L3 || (!(F_within (gI out3 t15L2) (gI out3L3 (gI (F_membersOf (gI out3 t15L2)) t22L3))))), t22L3 + 1, sI out3L3 (gI (F_membersOf (gI out3 t15L2)) t22L3) (orI (gI out3L3 (gI (F_membersOf (gI out3 t15L2)) t22L3)) (gI out3 t15L2)), (hT103.symm.trans (show F_euclidean_L3b t15L2 out3 (F_euclidean_L3 t15L2 out3 r110) grown4L3 t22L3 out3L3 = F_euclidean_L3 t15L2 out3 r110 (grown4L3 || (!(F_within (gI out3 t15L2) (gI out3L3 (gI (F_membersOf (gI out3 t15L2)) t22L3))))) (t22L3 + 1) (sI out3L3 (gI (F_membersOf (gI out3 t15L2)) t22L3) (orI (gI out3L3 (gI (F_membersOf (gI out3 t15L2)) t22L3)) (gI out3 t15L2))) by unfold F_euclidean_L3b; rw [ht114]; first | done | rfl)).symm, (by omega), (by first | omega | (simp only [sS_len, sL_len]; omega) | (simp only [List.length_replicate, sI_len]; omega) | (simp only [List.length_append, List.length_cons, List.length_nil, sI_len, cond_true, cond_false]; omega) | (simp only [List.length_append, List.length_cons, List.length_nil, sI_len, cond_eq_ite, apply_ite List.length]; split <;> simp only [List.length_append, List.length_cons, List.length_nil, sI_len] <;> omega) | grind), (by have := hb.2.1; omega), hb.1, (hb.2.2 _ _ (by assumption)), (by first | omega | (simp only [sS_len, sL_len]; omega) | (simp only [List.length_replicate, sI_len]; omega) | (simp only [List.length_append, List.length_cons, List.length_nil, sI_len, cond_true, cond_false]; omega) | (simp only [List.length_append, List.length_cons, List.length_nil, sI_len, cond_eq_ite, apply_ite List.length]; split <;> simp only [List.length_append, List.length_cons, List.length_nil, sI_len] <;> omega) | grind), (hE207.sub (L' := [(3, .slice b13 ((ap).length) c14), (4, .bool (grown4L3 || (!(F_within (gI out3 t15L2) (gI out3L3 (gI (F_membersOf (gI out3 t15L2)) t22L3)))))), (6, .int .i64 (gI out3 t15L2)), (13, .slice b48 ((out3).length) c49), (14, .int .i64 ((out3).length : Int)), (15, .int .i64 t15L2), (20, .slice b90 ((F_membersOf (gI out3 t15L2)).length) c91), (21, .int .i64 ((F_membersOf (gI out3 t15L2)).length : Int)), (22, .int .i64 (t22L3 + 1))]) ⟨rfl, rfl, rfl, rfl, rfl, rfl, rfl, rfl, rfl, trivial⟩), (St.pick (Γ' := [.own 2 1 b90 ((F_membersOf (gI out3 t15L2)).length) c91 (F_membersOf (gI out3 t15L2)), .own 2 1 b48 ((out3).length) c49 out3, .own 2 1 b13 ((ap).length) c14 (sI out3L3 (gI (F_membersOf (gI out3 t15L2)) t22L3) (orI (gI out3L3 (gI (F_membersOf (gI out3 t15L2)) t22L3)) (gI out3 t15L2))), .rd 1 apA ap.length apC ap]) hS200 [0, 1, 2, 3] (by decide) rfl)⟩
          ·
           have hp208 := of_decide_eq_false ht114
           have hE209 := hE113; rw [ht114] at hE209; clear hE113
           refine wp_exit ?_
           refine p_te ?_
           have hX210 : F_euclidean_L3 t15L2 out3 (Int.toNat (((F_membersOf (gI out3 t15L2)).length : Int) - 0) + 1) grown4L2 0 out3L2 = (grown4L3, t22L3, out3L3) := hT103.symm.trans (show F_euclidean_L3b t15L2 out3 (F_euclidean_L3 t15L2 out3 r110) grown4L3 t22L3 out3L3 = (grown4L3, t22L3, out3L3) by unfold F_euclidean_L3b; rw [ht114]; first | done | rfl)
           refine p_te (p_be (p_tn ?_))
           exact ⟨(by rw [hX210]; exact (show 0 ≤ t22L3 from (by first | omega | (simp only [sS_len, sL_len]; omega) | (simp only [List.length_replicate, sI_len]; omega) | (simp only [List.length_append, List.length_cons, List.length_nil, sI_len, cond_true, cond_false]; omega) | (simp only [List.length_append, List.length_cons, List.length_nil, sI_len, cond_eq_ite, apply_ite List.length]; split <;> simp only [List.length_append, List.length_cons, List.length_nil, sI_len] <;> omega) | grind))), (by rw [hX210]; exact (show (out3L3.length : Int) = (ap.length : Int) from (by first | omega | (simp only [sS_len, sL_len]; omega) | (simp only [List.length_replicate, sI_len]; omega) | (simp only [List.length_append, List.length_cons, List.length_nil, sI_len, cond_true, cond_false]; omega) | (simp only [List.length_append, List.length_cons, List.length_nil, sI_len, cond_eq_ite, apply_ite List.length]; split <;> simp only [List.length_append, List.length_cons, List.length_nil, sI_len] <;> omega) | grind))), (by rw [hX210]; exact (show Rl ap.length out3L3 from (by first | omega | (simp only [sS_len, sL_len]; omega) | (simp only [List.length_replicate, sI_len]; omega) | (simp only [List.length_append, List.length_cons, List.length_nil, sI_len, cond_true, cond_false]; omega) | (simp only [List.length_append, List.length_cons, List.length_nil, sI_len, cond_eq_ite, apply_ite List.length]; split <;> simp only [List.length_append, List.length_cons, List.length_nil, sI_len] <;> omega) | grind))), (by rw [hX210]; exact (show Gr out3 out3L3 grown4L3 from (by first | omega | (simp only [sS_len, sL_len]; omega) | (simp only [List.length_replicate, sI_len]; omega) | (simp only [List.length_append, List.length_cons, List.length_nil, sI_len, cond_true, cond_false]; omega) | (simp only [List.length_append, List.length_cons, List.length_nil, sI_len, cond_eq_ite, apply_ite List.length]; split <;> simp only [List.length_append, List.length_cons, List.length_nil, sI_len] <;> omega) | grind))), (by rw [hX210]; exact (show t22L3 ≤ ((F_membersOf (gI out3 t15L2)).length : Int) from (by first | omega | (simp only [sS_len, sL_len]; omega) | (simp only [List.length_replicate, sI_len]; omega) | (simp only [List.length_append, List.length_cons, List.length_nil, sI_len, cond_true, cond_false]; omega) | (simp only [List.length_append, List.length_cons, List.length_nil, sI_len, cond_eq_ite, apply_ite List.length]; split <;> simp only [List.length_append, List.length_cons, List.length_nil, sI_len] <;> omega) | grind))), (by rw [hX210]; exact (hE209.sub (L' := [(3, .slice b13 ((ap).length) c14), (4, .bool grown4L3), (6, .int .i64 (gI out3 t15L2)), (13, .slice b48 ((out3).length) c49), (14, .int .i64 ((out3).length : Int)), (15, .int .i64 t15L2), (20, .slice b90 ((F_membersOf (gI out3 t15L2)).length) c91), (21, .int .i64 ((F_membersOf (gI out3 t15L2)).length : Int)), (22, .int .i64 t22L3)]) ⟨rfl, rfl, rfl, rfl, rfl, rfl, rfl, rfl, rfl, trivial⟩)), (by rw [hX210]; exact (St.pick (Γ' := [.own 2 1 b90 ((F_membersOf (gI out3 t15L2)).length) c91 (F_membersOf (gI out3 t15L2)), .own 2 1 b48 ((out3).length) c49 out3, .own 2 1 b13 ((ap).length) c14 out3L3, .rd 1 apA ap.length apC ap]) hS102 [0, 1, 2, 3] (by decide) rfl))⟩
        ·
         rintro a211 w212 ⟨hi216, hi217, hi218, hi219, hi220, hE213, hS214⟩; clear hE97 hS88
         refine p_bn ?_
         refine p_tn ?_
         refine c_reg ?_
         refine q_step (v := .int .i64 (t15L2 + 1)) hE213 (y_add rfl rfl ⟨(by omega), (by omega)⟩) rfl rfl rfl ?_; intro a221 hE222; clear hE213
         refine q_step (v := .int .i64 (t15L2 + 1)) hE222 (y_move rfl) rfl rfl rfl ?_; intro a223 hE224; clear hE222
         refine c_nil ?_
         have hE225 := hE224.sub (L' := [(3, .slice b13 ((ap).length) c14), (4, .bool ((F_euclidean_L3 t15L2 out3 (Int.toNat (((F_membersOf (gI out3 t15L2)).length : Int) - 0) + 1) grown4L2 0 out3L2).1)), (13, .slice b48 ((out3).length) c49), (14, .int .i64 ((out3).length : Int)), (15, .int .i64 (t15L2 + 1))]) ⟨rfl, rfl, rfl, rfl, rfl, trivial⟩; clear hE224
         refine p_tn ⟨r68, Nat.lt_succ_self _, (F_euclidean_L3 t15L2 out3 (Int.toNat (((F_membersOf (gI out3 t15L2)).length : Int) - 0) + 1) grown4L2 0 out3L2).1, t15L2 + 1, (F_euclidean_L3 t15L2 out3 (Int.toNat (((F_membersOf (gI out3 t15L2)).length : Int) - 0) + 1) grown4L2 0 out3L2).2.2, (hT61.symm.trans (show F_euclidean_L2b out3 (F_euclidean_L2 out3 r68) grown4L2 t15L2 out3L2 = F_euclidean_L2 out3 r68 ((F_euclidean_L3 t15L2 out3 (Int.toNat (((F_membersOf (gI out3 t15L2)).length : Int) - 0) + 1) grown4L2 0 out3L2).1) (t15L2 + 1) ((F_euclidean_L3 t15L2 out3 (Int.toNat (((F_membersOf (gI out3 t15L2)).length : Int) - 0) + 1) grown4L2 0 out3L2).2.2) by unfold F_euclidean_L2b; rw [ht72]; first | done | rfl)).symm, (by omega), (by first | omega | (simp only [sS_len, sL_len]; omega) | (simp only [List.length_replicate, sI_len]; omega) | (simp only [List.length_append, List.length_cons, List.length_nil, sI_len, cond_true, cond_false]; omega) | (simp only [List.length_append, List.length_cons, List.length_nil, sI_len, cond_eq_ite, apply_ite List.length]; split <;> simp only [List.length_append, List.length_cons, List.length_nil, sI_len] <;> omega) | grind), (by assumption), (by assumption), (by assumption), (by first | omega | (simp only [sS_len, sL_len]; omega) | (simp only [List.length_replicate, sI_len]; omega) | (simp only [List.length_append, List.length_cons, List.length_nil, sI_len, cond_true, cond_false]; omega) | (simp only [List.length_append, List.length_cons, List.length_nil, sI_len, cond_eq_ite, apply_ite List.length]; split <;> simp only [List.length_append, List.length_cons, List.length_nil, sI_len] <;> omega) | grind), (hE225.sub (L' := [(3, .slice b13 ((ap).length) c14), (4, .bool ((F_euclidean_L3 t15L2 out3 (Int.toNat (((F_membersOf (gI out3 t15L2)).length : Int) - 0) + 1) grown4L2 0 out3L2).1)), (13, .slice b48 ((out3).length) c49), (14, .int .i64 ((out3).length : Int)), (15, .int .i64 (t15L2 + 1))]) ⟨rfl, rfl, rfl, rfl, rfl, trivial⟩), (St.pick (Γ' := [.own 2 1 b48 ((out3).length) c49 out3, .own 2 1 b13 ((ap).length) c14 ((F_euclidean_L3 t15L2 out3 (Int.toNat (((F_membersOf (gI out3 t15L2)).length : Int) - 0) + 1) grown4L2 0 out3L2).2.2), .rd 1 apA ap.length apC ap]) hS214 [1, 2, 3] (by decide) rfl)⟩
       ·
        have hp226 := of_decide_eq_false ht72
        have hE227 := hE71; rw [ht72] at hE227; clear hE71
        refine wp_exit ?_
        refine p_te ?_
        have hX228 : F_euclidean_L2 out3 (Int.toNat (((out3).length : Int) - 0) + 1) false 0 out3 = (grown4L2, t15L2, out3L2) := hT61.symm.trans (show F_euclidean_L2b out3 (F_euclidean_L2 out3 r68) grown4L2 t15L2 out3L2 = (grown4L2, t15L2, out3L2) by unfold F_euclidean_L2b; rw [ht72]; first | done | rfl)
        refine p_te (p_be (p_tn ?_))
        exact ⟨(by rw [hX228]; exact (show 0 ≤ t15L2 from (by first | omega | (simp only [sS_len, sL_len]; omega) | (simp only [List.length_replicate, sI_len]; omega) | (simp only [List.length_append, List.length_cons, List.length_nil, sI_len, cond_true, cond_false]; omega) | (simp only [List.length_append, List.length_cons, List.length_nil, sI_len, cond_eq_ite, apply_ite List.length]; split <;> simp only [List.length_append, List.length_cons, List.length_nil, sI_len] <;> omega) | grind))), (by rw [hX228]; exact (show (out3L2.length : Int) = (ap.length : Int) from (by first | omega | (simp only [sS_len, sL_len]; omega) | (simp only [List.length_replicate, sI_len]; omega) | (simp only [List.length_append, List.length_cons, List.length_nil, sI_len, cond_true, cond_false]; omega) | (simp only [List.length_append, List.length_cons, List.length_nil, sI_len, cond_eq_ite, apply_ite List.length]; split <;> simp only [List.length_append, List.length_cons, List.length_nil, sI_len] <;> omega) | grind))), (by rw [hX228]; exact (show Rl ap.length out3L2 from (by first | omega | (simp only [sS_len, sL_len]; omega) | (simp only [List.length_replicate, sI_len]; omega) | (simp only [List.length_append, List.length_cons, List.length_nil, sI_len, cond_true, cond_false]; omega) | (simp only [List.length_append, List.length_cons, List.length_nil, sI_len, cond_eq_ite, apply_ite List.length]; split <;> simp only [List.length_append, List.length_cons, List.length_nil, sI_len] <;> omega) | grind))), (by rw [hX228]; exact (show Gr out3 out3L2 grown4L2 from (by first | omega | (simp only [sS_len, sL_len]; omega) | (simp only [List.length_replicate, sI_len]; omega) | (simp only [List.length_append, List.length_cons, List.length_nil, sI_len, cond_true, cond_false]; omega) | (simp only [List.length_append, List.length_cons, List.length_nil, sI_len, cond_eq_ite, apply_ite List.length]; split <;> simp only [List.length_append, List.length_cons, List.length_nil, sI_len] <;> omega) | grind))), (by rw [hX228]; exact (show t15L2 ≤ ((out3).length : Int) from (by first | omega | (simp only [sS_len, sL_len]; omega) | (simp only [List.length_replicate, sI_len]; omega) | (simp only [List.length_append, List.length_cons, List.length_nil, sI_len, cond_true, cond_false]; omega) | (simp only [List.length_append, List.length_cons, List.length_nil, sI_len, cond_eq_ite, apply_ite List.length]; split <;> simp only [List.length_append, List.length_cons, List.length_nil, sI_len] <;> omega) | grind))), (by rw [hX228]; exact (hE227.sub (L' := [(3, .slice b13 ((ap).length) c14), (4, .bool grown4L2), (13, .slice b48 ((out3).length) c49), (14, .int .i64 ((out3).length : Int)), (15, .int .i64 t15L2)]) ⟨rfl, rfl, rfl, rfl, rfl, trivial⟩)), (by rw [hX228]; exact (St.pick (Γ' := [.own 2 1 b48 ((out3).length) c49 out3, .own 2 1 b13 ((ap).length) c14 out3L2, .rd 1 apA ap.length apC ap]) hS60 [0, 1, 2] (by decide) rfl))⟩
     ·
      rintro a229 w230 ⟨hi234, hi235, hi236, hi237, hi238, hE231, hS232⟩; clear hE55 hS46
      refine p_bn ?_
      refine p_tn ⟨r31, Nat.lt_succ_self _, (F_euclidean_L2 out3 (Int.toNat (((out3).length : Int) - 0) + 1) false 0 out3).1, (F_euclidean_L2 out3 (Int.toNat (((out3).length : Int) - 0) + 1) false 0 out3).2.2, (hT27.symm.trans (show F_euclidean_L1b (F_euclidean_L1 r31) grown4 out3 = F_euclidean_L1 r31 ((F_euclidean_L2 out3 (Int.toNat (((out3).length : Int) - 0) + 1) false 0 out3).1) ((F_euclidean_L2 out3 (Int.toNat (((out3).length : Int) - 0) + 1) false 0 out3).2.2) by unfold F_euclidean_L1b; rw [ht35]; first | done | rfl)).symm, (Gr.dec (b0 := out3) (m := grown4) (by assumption) (rl_cap (f0 := (ap.length : Int)) (by omega) (by omega) (by rw [Int.toNat_natCast]; assumption)) (by assumption) (by assumption)), (by assumption), (by assumption), (hE231.sub (L' := [(3, .slice b13 ((ap).length) c14), (4, .bool ((F_euclidean_L2 out3 (Int.toNat (((out3).length : Int) - 0) + 1) false 0 out3).1))]) ⟨rfl, rfl, trivial⟩), (St.pick (Γ' := [.own 2 1 b13 ((ap).length) c14 ((F_euclidean_L2 out3 (Int.toNat (((out3).length : Int) - 0) + 1) false 0 out3).2.2), .rd 1 apA ap.length apC ap]) hS232 [1, 2] (by decide) rfl)⟩
    ·
     have hE239 := hE34; rw [ht35] at hE239; clear hE34
     refine wp_exit ?_
     refine p_te ?_
     have hX240 : F_euclidean_L1 (2 * (ecap (ap.length : Int) - sumN ap) + (bif true then 1 else 0) + 1) true ap = (false, out3) := hT27.symm.trans (show F_euclidean_L1b (F_euclidean_L1 r31) grown4 out3 = (false, out3) by unfold F_euclidean_L1b; rw [ht35]; first | done | rfl)
     refine p_te (p_be (p_tn ?_))
     exact ⟨(by rw [hX240]; exact (show (out3.length : Int) = (ap.length : Int) from (by first | omega | (simp only [sS_len, sL_len]; omega) | (simp only [List.length_replicate, sI_len]; omega) | (simp only [List.length_append, List.length_cons, List.length_nil, sI_len, cond_true, cond_false]; omega) | (simp only [List.length_append, List.length_cons, List.length_nil, sI_len, cond_eq_ite, apply_ite List.length]; split <;> simp only [List.length_append, List.length_cons, List.length_nil, sI_len] <;> omega) | grind))), (by rw [hX240]; exact (show Rl ap.length out3 from (by first | omega | (simp only [sS_len, sL_len]; omega) | (simp only [List.length_replicate, sI_len]; omega) | (simp only [List.length_append, List.length_cons, List.length_nil, sI_len, cond_true, cond_false]; omega) | (simp only [List.length_append, List.length_cons, List.length_nil, sI_len, cond_eq_ite, apply_ite List.length]; split <;> simp only [List.length_append, List.length_cons, List.length_nil, sI_len] <;> omega) | grind))), (by rw [hX240]; exact (hE239.sub (L' := [(3, .slice b13 ((ap).length) c14), (4, .bool false)]) ⟨rfl, rfl, trivial⟩)), (by rw [hX240]; exact (St.pick (Γ' := [.own 2 1 b13 ((ap).length) c14 out3, .rd 1 apA ap.length apC ap]) hS26 [0, 1] (by decide) rfl))⟩
  ·
   rintro a241 w242 ⟨hi246, hi247, hE243, hS244⟩; clear hE21 hS11
   refine p_tn ?_
   refine c_seq ?_
   refine c_reg ?_
   refine q_step (v := .slice b13 ((ap).length) c14) hE243 (y_move rfl) rfl rfl rfl ?_; intro a248 hE249; clear hE243
   refine q_step (v := .slice b13 ((ap).length) c14) hE249 (y_assign rfl) rfl rfl rfl ?_; intro a250 hE251; clear hE249
   refine c_nil ?_
   have hE252 := hE251.sub (L' := [(2, .slice b13 ((ap).length) c14)]) ⟨rfl, trivial⟩; clear hE251
   refine p_tn ?_
   refine wp_ret ?_
   have hF : F_euclidean ap = (F_euclidean_L1 (2 * (ecap (ap.length : Int) - sumN ap) + (bif true then 1 else 0) + 1) true ap).2 := by unfold F_euclidean; rfl
   refine c_ret1 hE252 rfl rfl ?_
   exact ⟨b13, c14, (by rw [hF]; first | rfl | (rw [(St.rdO (i := 0) hS244 rfl).len1])), (by rw [hF, (St.rdO (i := 0) hS244 rfl).len1]; (try dsimp only); exact hS244.ok 0 _ rfl), hS244.ext⟩
/-- Closed towards all that one row sees. -/
def EuS (S : Nat → Nat → Prop) : Prop := ∀ x y z, S x y → S x z → S y z
/-- Between a and its least Euclidean closure. -/
structure EuI (n : Nat) (a b : List Int) : Prop where
  rel : Rl n b
  sup : ∀ i j, i < n → rb a i j = true → rb b i j = true
  least : ∀ S : Nat → Nat → Prop, (∀ i j, i < n → rb a i j = true → S i j) → EuS S → ∀ i j, i < n → rb b i j = true → S i j
def EuC (n : Nat) (b : List Int) : Prop := ∀ x y, x < n → rb b x y = true → ∀ z, rb b x z = true → rb b y z = true
theorem EuI.uniq {n : Nat} {a b c : List Int} (hb : EuI n a b) (hB : EuC n b) (hc : EuI n a c) (hC : EuC n c) : b = c := by
  have key : ∀ {b c : List Int}, EuI n a b → EuC n b → EuI n a c → EuC n c → ∀ i j, i < n → rb b i j = true → rb c i j = true := fun {b c} hb hB hc hC i j hi hij =>
    (hb.least (fun x y => x < n ∧ rb c x y = true) (fun i j hi h => ⟨hi, hc.sup i j hi h⟩) (fun x y z h1 h2 => ⟨tb_lt (hc.rel.2 x h1.1) h1.2, hC x y h1.1 h1.2 z h2.2⟩) i j hi hij).2
  have l1 := hb.rel.1; have l2 := hc.rel.1
  apply ext_gi (by omega)
  intro k hk
  have e : gI b (k : Int) = gI c (k : Int) := by
    apply tb_ext (hb.rel.2 k (by omega)).1 (hc.rel.2 k (by omega)).1
    intro j
    have e1 := key hb hB hc hC k j (by omega)
    have e2 := key hc hC hb hB k j (by omega)
    unfold rb at e1 e2
    rw [Bool.eq_iff_iff]; exact ⟨e1, e2⟩
  unfold gI at e
  rwa [Int.toNat_natCast] at e
theorem EuI.step {n : Nat} (hn : n ≤ 8) {a b : List Int} (h : EuI n a b) {m : Int} (hm : Mk n m) {x y : Nat} (hy : y < n) (hmy : tb m y = true) (hml : ∀ S : Nat → Nat → Prop, (∀ i j, i < n → rb a i j = true → S i j) → EuS S → ∀ z, tb m z = true → S x z) : EuI n a (sI b (y : Int) (orI (gI b (y : Int)) m)) := by
  obtain ⟨c1, _, _⟩ := ec_core hn h.rel hm hy
  obtain ⟨o1, o2⟩ := Mk.or (by omega) (h.rel.2 y hy) hm
  refine ⟨c1, fun i j hi hij => ?_, fun S hS hE i j hi hij => ?_⟩
  · rw [rb_set h.rel hy]
    by_cases e : y = i
    · subst e
      rw [if_pos rfl, o2 j]
      have := h.sup y j hi hij
      unfold rb at this
      rw [this]; rfl
    · rw [if_neg e]; exact h.sup i j hi hij
  · rw [rb_set h.rel hy] at hij
    by_cases e : y = i
    · subst e
      rw [if_pos rfl, o2 j, Bool.or_eq_true] at hij
      rcases hij with hij | hij
      · exact h.least S hS hE y j hi hij
      · exact hE x y j (hml S hS hE y hmy) (hml S hS hE j hij)
    · rw [if_neg e] at hij; exact h.least S hS hE i j hi hij
theorem eu_s4 {n : Nat} (hn : n ≤ 8) {f1 : List Int} (hf : f1.length = n) (a : List Int) (x : Nat) (hx : x < n) : ∀ (k y : Nat) (flag : Bool) (b : List Int), y + k = n → EuI n a b →
    EuI n a (F_s_CloseFrame_L4 f1 (x : Int) (k + 1) flag (y : Int) b).2.2 ∧ sumN b ≤ sumN (F_s_CloseFrame_L4 f1 (x : Int) (k + 1) flag (y : Int) b).2.2 ∧
    (((F_s_CloseFrame_L4 f1 (x : Int) (k + 1) flag (y : Int) b).1 = flag ∧ (F_s_CloseFrame_L4 f1 (x : Int) (k + 1) flag (y : Int) b).2.2 = b ∧ ∀ y' : Nat, y ≤ y' → y' < n → tb (gI b (x : Int)) y' = true → anI (gI b (x : Int)) (gI b (y' : Int)) = 0) ∨
     ((F_s_CloseFrame_L4 f1 (x : Int) (k + 1) flag (y : Int) b).1 = true ∧ sumN b < sumN (F_s_CloseFrame_L4 f1 (x : Int) (k + 1) flag (y : Int) b).2.2)) := by
  intro k
  induction k with
  | zero =>
    intro y flag b hy hb
    have e : F_s_CloseFrame_L4 f1 (x : Int) (0 + 1) flag (y : Int) b = (flag, (y : Int), b) := by
      show F_s_CloseFrame_L4b f1 _ _ _ _ _ = _
      unfold F_s_CloseFrame_L4b
      rw [decide_eq_false (by omega)]; rfl
    rw [e]
    exact ⟨hb, Nat.le_refl _, .inl ⟨rfl, rfl, fun y' h1 h2 => by omega⟩⟩
  | succ k ih =>
    intro y flag b hy hb
    have e : F_s_CloseFrame_L4 f1 (x : Int) (k + 1 + 1) flag (y : Int) b = F_s_CloseFrame_L4 f1 (x : Int) (k + 1) (((F_has (gI b (x : Int)) (y : Int)) && (!decide ((anI (gI b (x : Int)) (gI b (y : Int))) = 0))) || flag) ((y + 1 : Nat) : Int) (bif ((F_has (gI b (x : Int)) (y : Int)) && (!decide ((anI (gI b (x : Int)) (gI b (y : Int))) = 0))) then sI b (y : Int) (orI (gI b (y : Int)) (gI b (x : Int))) else b) := by
      show F_s_CloseFrame_L4b f1 _ _ _ _ _ = _
      unfold F_s_CloseFrame_L4b
      rw [decide_eq_true (by omega), cond_true, show (y : Int) + 1 = ((y + 1 : Nat) : Int) by omega]; rfl
    rw [e]
    have hxm := hb.rel.2 x hx
    rw [tb_has (by omega) hxm (by omega)]
    cases hc : ((tb (gI b (x : Int)) y) && (!decide ((anI (gI b (x : Int)) (gI b (y : Int))) = 0)))
    · rw [Bool.false_or, cond_false]
      obtain ⟨h1, h2, h3⟩ := ih (y + 1) flag b (by omega) hb
      refine ⟨h1, h2, h3.imp (fun ⟨p1, p2, p3⟩ => ⟨p1, p2, fun y' q1 q2 q3 => ?_⟩) id⟩
      by_cases e : y' = y
      · subst e
        rw [q3, Bool.true_and, Bool.not_eq_false'] at hc
        exact of_decide_eq_true hc
      · exact p3 y' (by omega) q2 q3
    · rw [Bool.true_or, cond_true]
      rw [Bool.and_eq_true, Bool.not_eq_true', decide_eq_false_iff_not] at hc
      have hlt := (ec_core hn hb.rel hxm (y := y) (by omega)).2.2 hc.2
      have hst := hb.step hn hxm (x := x) (y := y) (by omega) hc.1 (fun S hS hE z hz => hb.least S hS hE x z hx hz)
      obtain ⟨h1, h2, h3⟩ := ih (y + 1) true _ (by omega) hst
      refine ⟨h1, by omega, .inr ⟨?_, by omega⟩⟩
      rcases h3 with ⟨p1, _, _⟩ | ⟨p1, _⟩ <;> exact p1
theorem eu_s3 {n : Nat} (hn : n ≤ 8) {f1 : List Int} (hf : f1.length = n) (a : List Int) : ∀ (k x : Nat) (flag : Bool) (b : List Int), x + k = n → EuI n a b →
    EuI n a (F_s_CloseFrame_L3 f1 (k + 1) flag (x : Int) b).2.2 ∧ sumN b ≤ sumN (F_s_CloseFrame_L3 f1 (k + 1) flag (x : Int) b).2.2 ∧
    (((F_s_CloseFrame_L3 f1 (k + 1) flag (x : Int) b).1 = flag ∧ (F_s_CloseFrame_L3 f1 (k + 1) flag (x : Int) b).2.2 = b ∧ ∀ x' y' : Nat, x ≤ x' → x' < n → y' < n → tb (gI b (x' : Int)) y' = true → anI (gI b (x' : Int)) (gI b (y' : Int)) = 0) ∨
     ((F_s_CloseFrame_L3 f1 (k + 1) flag (x : Int) b).1 = true ∧ sumN b < sumN (F_s_CloseFrame_L3 f1 (k + 1) flag (x : Int) b).2.2)) := by
  intro k
  induction k with
  | zero =>
    intro x flag b hx hb
    have e : F_s_CloseFrame_L3 f1 (0 + 1) flag (x : Int) b = (flag, (x : Int), b) := by
      show F_s_CloseFrame_L3b f1 _ _ _ _ = _
      unfold F_s_CloseFrame_L3b
      rw [decide_eq_false (by omega)]; rfl
    rw [e]
    exact ⟨hb, Nat.le_refl _, .inl ⟨rfl, rfl, fun x' y' h1 h2 => by omega⟩⟩
  | succ k ih =>
    intro x flag b hx hb
    have e : F_s_CloseFrame_L3 f1 (k + 1 + 1) flag (x : Int) b = F_s_CloseFrame_L3 f1 (k + 1) (F_s_CloseFrame_L4 f1 (x : Int) (n + 1) flag 0 b).1 ((x + 1 : Nat) : Int) (F_s_CloseFrame_L4 f1 (x : Int) (n + 1) flag 0 b).2.2 := by
      show F_s_CloseFrame_L3b f1 _ _ _ _ = _
      unfold F_s_CloseFrame_L3b
      rw [decide_eq_true (by omega), cond_true, show (x : Int) + 1 = ((x + 1 : Nat) : Int) by omega, show Int.toNat ((f1.length : Int) - 0) = n by omega]
    rw [e]
    obtain ⟨g1, g2, g3⟩ := eu_s4 hn hf a x (by omega) n 0 flag b (by omega) hb
    have g1' : EuI n a (F_s_CloseFrame_L4 f1 (x : Int) (n + 1) flag 0 b).2.2 := g1
    have g2' : sumN b ≤ sumN (F_s_CloseFrame_L4 f1 (x : Int) (n + 1) flag 0 b).2.2 := g2
    rcases g3 with ⟨p1, p2, p3⟩ | ⟨p1, p2⟩
    · have p1' : (F_s_CloseFrame_L4 f1 (x : Int) (n + 1) flag 0 b).1 = flag := p1
      have p2' : (F_s_CloseFrame_L4 f1 (x : Int) (n + 1) flag 0 b).2.2 = b := p2
      rw [p1', p2']
      obtain ⟨h1, h2, h3⟩ := ih (x + 1) flag b (by omega) hb
      refine ⟨h1, h2, h3.imp (fun ⟨q1, q2, q3⟩ => ⟨q1, q2, fun x' y' r1 r2 r3 r4 => ?_⟩) id⟩
      by_cases e : x' = x
      · subst e; exact p3 y' (by omega) r3 r4
      · exact q3 x' y' (by omega) r2 r3 r4
    · have p1' : (F_s_CloseFrame_L4 f1 (x : Int) (n + 1) flag 0 b).1 = true := p1
      have p2' : sumN b < sumN (F_s_CloseFrame_L4 f1 (x : Int) (n + 1) flag 0 b).2.2 := p2
      rw [p1']
      obtain ⟨h1, h2, h3⟩ := ih (x + 1) true _ (by omega) g1'
      refine ⟨h1, by omega, .inr ⟨?_, by omega⟩⟩
      rcases h3 with ⟨q1, _, _⟩ | ⟨q1, _⟩ <;> exact q1
theorem eu_closed {n : Nat} (hn : n ≤ 8) {b : List Int} (h : Rl n b) (hz : ∀ x y : Nat, x < n → y < n → tb (gI b (x : Int)) y = true → anI (gI b (x : Int)) (gI b (y : Int)) = 0) : EuC n b := by
  intro x y hx hxy z hxz
  have hy := tb_lt (h.2 x hx) hxy
  exact (Mk.anz (by omega) (h.2 x hx) (h.2 y hy)).1 (hz x y hx hy hxy) z hxz
theorem eu_s2 {n : Nat} (hn : n ≤ 8) {f1 : List Int} (hf : f1.length = n) (a : List Int) : ∀ (r : Nat) (flag : Bool) (b : List Int), 2 * (ecap (n : Int) - sumN b) + (bif flag then 1 else 0) < r → EuI n a b → (flag = false → EuC n b) →
    EuI n a (F_s_CloseFrame_L2 f1 r flag b).2 ∧ EuC n (F_s_CloseFrame_L2 f1 r flag b).2 := by
  intro r
  induction r with
  | zero => intro flag b h; omega
  | succ r ih =>
    intro flag b h hb hC
    show EuI n a (F_s_CloseFrame_L2b f1 _ flag b).2 ∧ EuC n (F_s_CloseFrame_L2b f1 _ flag b).2
    unfold F_s_CloseFrame_L2b
    cases flag
    · exact ⟨hb, hC rfl⟩
    · rw [cond_true] at h ⊢
      obtain ⟨g1, g2, g3⟩ := eu_s3 hn hf a n 0 false b (by omega) hb
      rw [show Int.toNat ((f1.length : Int) - 0) = n by omega]
      have g1' : EuI n a (F_s_CloseFrame_L3 f1 (n + 1) false 0 b).2.2 := g1
      have hcap := rl_cap (f0 := (n : Int)) (b := (F_s_CloseFrame_L3 f1 (n + 1) false 0 b).2.2) (by omega) (by omega) (by rw [Int.toNat_natCast]; exact g1'.rel)
      rcases g3 with ⟨p1, p2, p3⟩ | ⟨p1, p2⟩
      · have p1' : (F_s_CloseFrame_L3 f1 (n + 1) false 0 b).1 = false := p1
        have p2' : (F_s_CloseFrame_L3 f1 (n + 1) false 0 b).2.2 = b := p2
        rw [p1', p2']
        exact ih false b (by rw [cond_false]; omega) hb fun _ => eu_closed hn hb.rel fun x y hx hy hxy => p3 x y (by omega) hx hy hxy
      · have p1' : (F_s_CloseFrame_L3 f1 (n + 1) false 0 b).1 = true := p1
        have p2' : sumN b < sumN (F_s_CloseFrame_L3 f1 (n + 1) false 0 b).2.2 := p2
        rw [p1']
        exact ih true _ (by rw [cond_true]; omega) g1' fun h => by cases h
theorem eu_i3 {n : Nat} (hn : n ≤ 8) (a out : List Int) (ho : EuI n a out) (x : Nat) (hx : x < n) : ∀ (k t : Nat) (flag : Bool) (b : List Int), t + k = (F_membersOf (gI out (x : Int))).length → EuI n a b →
    EuI n a (F_euclidean_L3 (x : Int) out (k + 1) flag (t : Int) b).2.2 ∧ sumN b ≤ sumN (F_euclidean_L3 (x : Int) out (k + 1) flag (t : Int) b).2.2 ∧
    (((F_euclidean_L3 (x : Int) out (k + 1) flag (t : Int) b).1 = flag ∧ (F_euclidean_L3 (x : Int) out (k + 1) flag (t : Int) b).2.2 = b ∧ ∀ t' : Nat, t ≤ t' → t' < (F_membersOf (gI out (x : Int))).length → anI (gI out (x : Int)) (gI b (gI (F_membersOf (gI out (x : Int))) (t' : Int))) = 0) ∨
     ((F_euclidean_L3 (x : Int) out (k + 1) flag (t : Int) b).1 = true ∧ sumN b < sumN (F_euclidean_L3 (x : Int) out (k + 1) flag (t : Int) b).2.2)) := by
  have hmk := ho.rel.2 x hx
  intro k
  induction k with
  | zero =>
    intro t flag b ht hb
    have e : F_euclidean_L3 (x : Int) out (0 + 1) flag (t : Int) b = (flag, (t : Int), b) := by
      show F_euclidean_L3b _ out _ _ _ _ = _
      unfold F_euclidean_L3b
      rw [decide_eq_false (by omega)]; rfl
    rw [e]
    exact ⟨hb, Nat.le_refl _, .inl ⟨rfl, rfl, fun t' h1 h2 => by omega⟩⟩
  | succ k ih =>
    intro t flag b ht hb
    have hlt := members_lt (mask := gI out (x : Int)) (n := n) (by omega) hmk.1 hmk.2 (t : Int) (by omega) (by omega)
    have hmem : gI (F_membersOf (gI out (x : Int))) (t : Int) ∈ F_membersOf (gI out (x : Int)) := gI_mem (by omega) (by omega)
    have e : F_euclidean_L3 (x : Int) out (k + 1 + 1) flag (t : Int) b = F_euclidean_L3 (x : Int) out (k + 1) (flag || (!(F_within (gI out (x : Int)) (gI b (gI (F_membersOf (gI out (x : Int))) (t : Int)))))) ((t + 1 : Nat) : Int) (sI b (gI (F_membersOf (gI out (x : Int))) (t : Int)) (orI (gI b (gI (F_membersOf (gI out (x : Int))) (t : Int))) (gI out (x : Int)))) := by
      show F_euclidean_L3b _ out _ _ _ _ = _
      unfold F_euclidean_L3b
      rw [decide_eq_true (by omega), cond_true, show (t : Int) + 1 = ((t + 1 : Nat) : Int) by omega]
    rw [e]
    have hyt : tb (gI out (x : Int)) (gI (F_membersOf (gI out (x : Int))) (t : Int)).toNat = true := by
      generalize gI (F_membersOf (gI out (x : Int))) (t : Int) = y at hmem hlt
      rw [members_eq (n := n) (by omega) hmk.1 hmk.2, List.mem_map] at hmem
      obtain ⟨j, hj, rfl⟩ := hmem
      have := (List.mem_filter.1 hj).2
      rw [tb_has (n := n) (by omega) hmk (by have := List.mem_range.1 (List.mem_filter.1 hj).1; omega)] at this
      rw [Int.toNat_natCast]; exact this
    obtain ⟨c1, c2, c3⟩ := ec_core hn hb.rel hmk (y := (gI (F_membersOf (gI out (x : Int))) (t : Int)).toNat) (by omega)
    have hst := hb.step hn hmk (x := x) (y := (gI (F_membersOf (gI out (x : Int))) (t : Int)).toNat) (by omega) hyt (fun S hS hE z hz => ho.least S hS hE x z hx hz)
    rw [show (((gI (F_membersOf (gI out (x : Int))) (t : Int)).toNat : Nat) : Int) = gI (F_membersOf (gI out (x : Int))) (t : Int) by omega] at c1 c2 c3 hst
    unfold F_within
    by_cases hz : anI (gI out (x : Int)) (gI b (gI (F_membersOf (gI out (x : Int))) (t : Int))) = 0
    · rw [c2 hz, decide_eq_true hz, Bool.not_true, Bool.or_false]
      obtain ⟨h1, h2, h3⟩ := ih (t + 1) flag b (by omega) hb
      refine ⟨h1, h2, h3.imp (fun ⟨p1, p2, p3⟩ => ⟨p1, p2, fun t' q1 q2 => ?_⟩) id⟩
      by_cases e : t' = t
      · subst e; exact hz
      · exact p3 t' (by omega) q2
    · rw [decide_eq_false hz, Bool.not_false, Bool.or_true]
      have hlt2 := c3 hz
      obtain ⟨h1, h2, h3⟩ := ih (t + 1) true _ (by omega) hst
      refine ⟨h1, by omega, .inr ⟨?_, by omega⟩⟩
      rcases h3 with ⟨p1, _, _⟩ | ⟨p1, _⟩ <;> exact p1
theorem eu_i2 {n : Nat} (hn : n ≤ 8) (a out : List Int) (ho : EuI n a out) : ∀ (k x : Nat) (flag : Bool) (b : List Int), x + k = n → EuI n a b →
    EuI n a (F_euclidean_L2 out (k + 1) flag (x : Int) b).2.2 ∧ sumN b ≤ sumN (F_euclidean_L2 out (k + 1) flag (x : Int) b).2.2 ∧
    (((F_euclidean_L2 out (k + 1) flag (x : Int) b).1 = flag ∧ (F_euclidean_L2 out (k + 1) flag (x : Int) b).2.2 = b ∧ ∀ x' t' : Nat, x ≤ x' → x' < n → t' < (F_membersOf (gI out (x' : Int))).length → anI (gI out (x' : Int)) (gI b (gI (F_membersOf (gI out (x' : Int))) (t' : Int))) = 0) ∨
     ((F_euclidean_L2 out (k + 1) flag (x : Int) b).1 = true ∧ sumN b < sumN (F_euclidean_L2 out (k + 1) flag (x : Int) b).2.2)) := by
  have hol := ho.rel.1
  intro k
  induction k with
  | zero =>
    intro x flag b hx hb
    have e : F_euclidean_L2 out (0 + 1) flag (x : Int) b = (flag, (x : Int), b) := by
      show F_euclidean_L2b out _ _ _ _ = _
      unfold F_euclidean_L2b
      rw [decide_eq_false (by omega)]; rfl
    rw [e]
    exact ⟨hb, Nat.le_refl _, .inl ⟨rfl, rfl, fun x' t' h1 h2 => by omega⟩⟩
  | succ k ih =>
    intro x flag b hx hb
    have e : F_euclidean_L2 out (k + 1 + 1) flag (x : Int) b = F_euclidean_L2 out (k + 1) (F_euclidean_L3 (x : Int) out ((F_membersOf (gI out (x : Int))).length + 1) flag 0 b).1 ((x + 1 : Nat) : Int) (F_euclidean_L3 (x : Int) out ((F_membersOf (gI out (x : Int))).length + 1) flag 0 b).2.2 := by
      show F_euclidean_L2b out _ _ _ _ = _
      unfold F_euclidean_L2b
      rw [decide_eq_true (by omega), cond_true, show (x : Int) + 1 = ((x + 1 : Nat) : Int) by omega, show Int.toNat (((F_membersOf (gI out (x : Int))).length : Int) - 0) = (F_membersOf (gI out (x : Int))).length by omega]
    rw [e]
    obtain ⟨g1, g2, g3⟩ := eu_i3 hn a out ho x (by omega) (F_membersOf (gI out (x : Int))).length 0 flag b (by omega) hb
    have g1' : EuI n a (F_euclidean_L3 (x : Int) out ((F_membersOf (gI out (x : Int))).length + 1) flag 0 b).2.2 := g1
    have g2' : sumN b ≤ sumN (F_euclidean_L3 (x : Int) out ((F_membersOf (gI out (x : Int))).length + 1) flag 0 b).2.2 := g2
    rcases g3 with ⟨p1, p2, p3⟩ | ⟨p1, p2⟩
    · have p1' : (F_euclidean_L3 (x : Int) out ((F_membersOf (gI out (x : Int))).length + 1) flag 0 b).1 = flag := p1
      have p2' : (F_euclidean_L3 (x : Int) out ((F_membersOf (gI out (x : Int))).length + 1) flag 0 b).2.2 = b := p2
      rw [p1', p2']
      obtain ⟨h1, h2, h3⟩ := ih (x + 1) flag b (by omega) hb
      refine ⟨h1, h2, h3.imp (fun ⟨q1, q2, q3⟩ => ⟨q1, q2, fun x' t' r1 r2 r3 => ?_⟩) id⟩
      by_cases e : x' = x
      · subst e; exact p3 t' (by omega) r3
      · exact q3 x' t' (by omega) r2 r3
    · have p1' : (F_euclidean_L3 (x : Int) out ((F_membersOf (gI out (x : Int))).length + 1) flag 0 b).1 = true := p1
      have p2' : sumN b < sumN (F_euclidean_L3 (x : Int) out ((F_membersOf (gI out (x : Int))).length + 1) flag 0 b).2.2 := p2
      rw [p1']
      obtain ⟨h1, h2, h3⟩ := ih (x + 1) true _ (by omega) g1'
      refine ⟨h1, by omega, .inr ⟨?_, by omega⟩⟩
      rcases h3 with ⟨q1, _, _⟩ | ⟨q1, _⟩ <;> exact q1
theorem member_at {m : Int} {n : Nat} (hn : n ≤ 62) (hm : Mk n m) {y : Nat} (hy : tb m y = true) : ∃ t : Nat, t < (F_membersOf m).length ∧ gI (F_membersOf m) (t : Int) = (y : Int) := by
  have hyn := tb_lt hm hy
  have hmem : ((y : Nat) : Int) ∈ F_membersOf m := by
    rw [members_eq hn hm.1 hm.2, List.mem_map]
    exact ⟨y, List.mem_filter.2 ⟨List.mem_range.2 hyn, by rw [tb_has hn hm (by omega)]; exact hy⟩, rfl⟩
  obtain ⟨t, ht, e⟩ := List.mem_iff_getElem.1 hmem
  refine ⟨t, ht, ?_⟩
  unfold gI
  rw [Int.toNat_natCast, gi_get ht, e]
theorem eu_i1 {n : Nat} (hn : n ≤ 8) (a : List Int) : ∀ (r : Nat) (flag : Bool) (b : List Int), 2 * (ecap (n : Int) - sumN b) + (bif flag then 1 else 0) < r → EuI n a b → (flag = false → EuC n b) →
    EuI n a (F_euclidean_L1 r flag b).2 ∧ EuC n (F_euclidean_L1 r flag b).2 := by
  intro r
  induction r with
  | zero => intro flag b h; omega
  | succ r ih =>
    intro flag b h hb hC
    show EuI n a (F_euclidean_L1b _ flag b).2 ∧ EuC n (F_euclidean_L1b _ flag b).2
    unfold F_euclidean_L1b
    have hbl := hb.rel.1
    cases flag
    · exact ⟨hb, hC rfl⟩
    · rw [cond_true] at h ⊢
      obtain ⟨g1, g2, g3⟩ := eu_i2 hn a b hb n 0 false b (by omega) hb
      rw [show Int.toNat ((b.length : Int) - 0) = n by omega]
      have g1' : EuI n a (F_euclidean_L2 b (n + 1) false 0 b).2.2 := g1
      have hcap := rl_cap (f0 := (n : Int)) (b := (F_euclidean_L2 b (n + 1) false 0 b).2.2) (by omega) (by omega) (by rw [Int.toNat_natCast]; exact g1'.rel)
      rcases g3 with ⟨p1, p2, p3⟩ | ⟨p1, p2⟩
      · have p1' : (F_euclidean_L2 b (n + 1) false 0 b).1 = false := p1
        have p2' : (F_euclidean_L2 b (n + 1) false 0 b).2.2 = b := p2
        rw [p1', p2']
        refine ih false b (by rw [cond_false]; omega) hb fun _ => eu_closed hn hb.rel fun x y hx hy hxy => ?_
        obtain ⟨t, ht, e⟩ := member_at (n := n) (by omega) (hb.rel.2 x hx) hxy
        have := p3 x t (by omega) hx ht
        rwa [e] at this
      · have p1' : (F_euclidean_L2 b (n + 1) false 0 b).1 = true := p1
        have p2' : sumN b < sumN (F_euclidean_L2 b (n + 1) false 0 b).2.2 := p2
        rw [p1']
        exact ih true _ (by rw [cond_true]; omega) g1' fun h => by cases h
theorem EuI.start {n : Nat} {a : List Int} (h : Rl n a) : EuI n a a := ⟨h, fun _ _ _ h => h, fun _ hS _ i j hi h => hS i j hi h⟩
theorem euclid_eq {f0 : Int} {f1 : List Int} (h0 : 0 ≤ f0 ∧ f0 ≤ 8) (h : Rl f0.toNat f1) : F_euclidean f1 = (F_s_CloseFrame_L2 f1 (2 * (ecap f0 - sumN f1) + (bif true then 1 else 0) + 1) true f1).2 ∧ (F_euclidean f1).length = f0.toNat := by
  have hl := h.1
  have a1 := eu_i1 (n := f0.toNat) (by omega) f1 (2 * (ecap (f1.length : Int) - sumN f1) + (bif true then 1 else 0) + 1) true f1 (by rw [hl]; omega) (EuI.start h) (fun h => by cases h)
  have a2 := eu_s2 (n := f0.toNat) (by omega) hl f1 (2 * (ecap f0 - sumN f1) + (bif true then 1 else 0) + 1) true f1 (by rw [show ((f0.toNat : Nat) : Int) = f0 by omega]; omega) (EuI.start h) (fun h => by cases h)
  exact ⟨EuI.uniq a1.1 a1.2 a2.1 a2.2, a1.1.rel.1⟩
def F_CloseFrame_L1b (f1 : List Int) (rec : Int → (List Int) → Int × (List Int)) (t32 : Int) (out6 : List Int) : Int × (List Int) :=
  bif (decide (t32 < ((F_inverse f1).length : Int))) then (rec (t32 + 1) (sI out6 t32 (orI (gI out6 t32) (gI f1 t32)))) else (t32, out6)
def F_CloseFrame_L1 (f1 : List Int) : Nat → Int → (List Int) → Int × (List Int)
  | 0, t32, out6 => (t32, out6)
  | r + 1, t32, out6 => F_CloseFrame_L1b f1 (F_CloseFrame_L1 f1 r) t32 out6
def F_CloseFrame (f0 : Int) (f1 : List Int) (flag : Int) : (Int × List Int) × (Int) :=
  bif (!(F_isFrame f0 f1)) then ((0, []), 1) else (bif (decide (flag = 0)) then (((F_frameOf (F_reflexive f1)).1, F_reflexive f1), 0) else (bif (decide (flag = 2)) then (((F_frameOf (F_transitive f1)).1, F_transitive f1), 0) else (bif (decide (flag = 3)) then (((F_frameOf ((F_CloseFrame_L1 f1 (Int.toNat (((F_inverse f1).length : Int) - 0) + 1) 0 (F_inverse f1)).2)).1, (F_CloseFrame_L1 f1 (Int.toNat (((F_inverse f1).length : Int) - 0) + 1) 0 (F_inverse f1)).2), 0) else (bif (decide (flag = 4)) then (((F_frameOf (F_euclidean f1)).1, F_euclidean f1), 0) else ((0, []), 2)))))
theorem cf_CloseFrame (args : Array Value) (w : World) : (callFunc 76 args).run Try.prog w = .ok (.enter 76 args) w := by kernel_rfl
set_option maxRecDepth 100000 in
theorem c_CloseFrame (f0 : Int) (f1A : Option Addr) (f1N f1C : Nat) (f1 : List Int) (flag : Int) (w : World) (f1R : RdS w 1 f1A f1N f1C f1) :
    Calls Try.prog 76 #[.agg #[.int .i64 f0, .slice f1A f1N f1C], .int .i64 flag] w (Ret fun v w' => ∃ b1 : Option Addr, ∃ c1 : Nat, v = .tuple #[.agg #[.int .i64 (((F_CloseFrame f0 f1 flag).1).1), .slice b1 (((F_CloseFrame f0 f1 flag).1).2).length c1], .int .i64 ((F_CloseFrame f0 f1 flag).2)] ∧ OwnS w' w.heap.size 2 1 b1 (((F_CloseFrame f0 f1 flag).1).2).length c1 (((F_CloseFrame f0 f1 flag).1).2) ∧ Ext w w') := by
  obtain rfl : f1N = f1.length := f1R.len1.symm
  have f1Le := f1R.le
  have hS := St.nil w
  have hS1 := St.rd0 hS rfl f1R; clear hS
  refine enter (args := [.agg #[.int .i64 f0, .slice f1A f1.length f1C], .int .i64 flag]) Try.func76 rfl rfl ?_
  rw [Try.ntmps76]; intro a hE
  have hE := hE.sub (L' := [(0, .agg #[.int .i64 f0, .slice f1A f1.length f1C]), (1, .int .i64 flag)]) ⟨rfl, rfl, trivial⟩
  refine c_seq ?_
  refine c_reg ?_
  refine l_step hE rfl (l_box (v := .agg #[.int .i64 f0, .slice f1A f1.length f1C]) (cs := #[.int .i64 f0, .slice f1A f1.length f1C]) hS1 hE rfl rfl rfl ?_)
  intro b2 w3 hS6 he7 a4 hE5; clear hS1 hE
  refine l_step hE5 rfl (l_alloc (z := .agg #[.int .i64 0, .slice none 0 0]) (cs := #[.int .i64 0, .slice none 0 0]) hS6 hE5 (fun _ => by kernel_rfl) rfl rfl ?_)
  intro b8 w9 hS12 he13 a10 hE11; clear hS6 hE5
  refine q_step (v := .int .i64 0) hE11 (y_assign rfl) rfl rfl rfl ?_; intro a14 hE15; clear hE11
  refine c_nil ?_
  have hE16 := hE15.sub (L' := [(1, .int .i64 flag), (2, .pointer (some ⟨b2, 0, none⟩)), (4, .pointer (some ⟨b8, 0, none⟩))]) ⟨rfl, rfl, rfl, trivial⟩; clear hE15
  refine p_tn ?_
  refine c_seq ?_
  refine c_seq ?_
  refine c_reg ?_
  refine q_step (v := .agg #[.int .i64 f0, .slice f1A f1.length f1C]) hE16 (y_loadS Try.underlying30 rfl (by kernel_rfl) rfl (St.row (i := 1) hS12 rfl)) rfl rfl rfl ?_; intro a17 hE18; clear hE16
  refine l_step hE18 rfl (l_call (f := 96) (argv := [.agg #[.int .i64 f0, .slice f1A f1.length f1C]]) hE18 (fun _ => cf_isFrame _ _) rfl rfl (c_isFrame f0 f1A f1.length f1C f1 w9 (St.rdR (i := 2) hS12 rfl)) ?_)
  rintro _ w20 ⟨rfl, he24⟩ a21 hE22; clear hE18
  have hS23 := St.go hS12 he24; clear hS12
  refine q_step (v := .bool (!(F_isFrame f0 f1))) hE22 (y_not rfl) rfl rfl rfl ?_; intro a25 hE26; clear hE22
  refine c_nil ?_
  have hE27 := hE26.sub (L' := [(1, .int .i64 flag), (2, .pointer (some ⟨b2, 0, none⟩)), (4, .pointer (some ⟨b8, 0, none⟩)), (10, .bool (!(F_isFrame f0 f1)))]) ⟨rfl, rfl, rfl, rfl, trivial⟩; clear hE26
  refine p_tn ?_
  refine c_cond hE27 rfl (fun ht28 => ?_) (fun ht28 => ?_)
  ·
   have ht29 := bn_t ht28
   have hE30 := hE27; rw [ht28] at hE30; clear hE27
   refine c_seq ?_
   refine c_reg ?_
   refine q_step (v := .agg #[.int .i64 0, .slice none 0 0]) hE30 (y_build (vs := #[]) (fun a n hE => by simp) (fun _ => by kernel_rfl)) rfl rfl rfl ?_; intro a31 hE32; clear hE30
   refine l_step hE32 rfl (l_storeS (k := 0) (cs' := #[.int .i64 0, .slice none 0 0]) hS23 hE32 (by kernel_rfl) rfl rfl (by kernel_rfl) rfl rfl ?_)
   intro w34 hS37 a35 hE36; clear hS23 hE32
   refine q_step (v := .int .i64 1) hE36 (y_assign rfl) rfl rfl rfl ?_; intro a39 hE40; clear hE36
   refine c_nil ?_
   have hE41 := hE40.sub (L' := [(4, .pointer (some ⟨b8, 0, none⟩)), (5, .int .i64 1)]) ⟨rfl, rfl, trivial⟩; clear hE40
   refine p_tn ?_
   refine wp_ret ?_
   refine p_tr ?_
   have hF : F_CloseFrame f0 f1 flag = ((0, []), 1) := by unfold F_CloseFrame; rw [ht28]; first | done | rfl
   refine c_retC2 hE41 rfl rfl rfl Try.underlying30 rfl (by kernel_rfl) (St.row (i := 0) hS37 rfl _ (Ext.refl _)) ?_
   exact ⟨none, 0, (by rw [hF]; first | done | (dsimp only; done) | rfl), (by rw [hF]; (try dsimp only); exact OwnS.nilS _ _ _ _), hS37.ext⟩
  ·
   have ht42 := bn_f ht28
   have hp43 := isFrame_t ht42
   have hE44 := hE27; rw [ht28] at hE44; clear hE27
   refine wp_skip ?_
   refine p_tn ?_
   refine c_seq ?_
   refine c_seq ?_
   refine c_reg ?_
   refine q_step (v := .int .i64 flag) hE44 (y_move rfl) rfl rfl rfl ?_; intro a45 hE46; clear hE44
   refine c_nil ?_
   have hE47 := hE46.sub (L' := [(2, .pointer (some ⟨b2, 0, none⟩)), (4, .pointer (some ⟨b8, 0, none⟩)), (12, .int .i64 flag)]) ⟨rfl, rfl, rfl, trivial⟩; clear hE46
   refine p_tn ?_
   refine wp_block ?_
   refine c_seq ?_
   refine c_reg ?_
   refine q_step (v := .bool (decide (flag = 0))) hE47 (y_eql rfl rfl) rfl rfl rfl ?_; intro a48 hE49; clear hE47
   refine q_step (v := .bool (decide (flag = 0))) hE49 (y_assign rfl) rfl rfl rfl ?_; intro a50 hE51; clear hE49
   refine c_nil ?_
   have hE52 := hE51.sub (L' := [(2, .pointer (some ⟨b2, 0, none⟩)), (4, .pointer (some ⟨b8, 0, none⟩)), (12, .int .i64 flag), (13, .bool (decide (flag = 0)))]) ⟨rfl, rfl, rfl, rfl, trivial⟩; clear hE51
   refine p_tn ?_
   refine c_cond hE52 rfl (fun ht53 => ?_) (fun ht53 => ?_)
   ·
    have hp54 := of_decide_eq_true ht53
    have hE55 := hE52; rw [ht53] at hE55; clear hE52
    refine c_seq ?_
    refine c_reg ?_
    refine q_step (v := .pointer (some ⟨b2, 1, none⟩)) hE55 (y_field rfl (fun _ => by kernel_rfl)) rfl rfl rfl ?_; intro a56 hE57; clear hE55
    refine q_step (v := .slice f1A f1.length f1C) hE57 (y_load (fun _ => by kernel_rfl) rfl (St.cell (i := 1) hS23 rfl rfl)) rfl rfl rfl ?_; intro a58 hE59; clear hE57
    refine l_step hE59 rfl (l_call (f := 138) (argv := [.slice f1A f1.length f1C]) hE59 (fun _ => cf_reflexive _ _) rfl rfl (c_reflexive f1A f1.length f1C f1 w20 (St.rdR (i := 2) hS23 rfl) (by omega)) ?_)
    rintro _ w61 ⟨b66, c67, rfl, ho68, he65⟩ a62 hE63; clear hE59
    have hf69 := reflexive_len f1
    have hS64 := St.own hS23 he65 ho68; clear hS23
    refine l_step hE63 rfl (l_call (f := 106) (argv := [.slice b66 ((F_reflexive f1).length) c67]) hE63 (fun _ => cf_frameOf _ _) rfl rfl (c_frameOf b66 ((F_reflexive f1).length) c67 (F_reflexive f1) w61 (St.rdO (i := 0) hS64 rfl)) ?_)
    rintro _ w71 ⟨rfl, he75⟩ a72 hE73; clear hE63
    have hS74 := St.go hS64 he75; clear hS64
    refine l_step hE73 rfl (l_storeS (k := 1) (cs' := #[.int .i64 ((F_frameOf (F_reflexive f1)).1), .slice b66 ((F_reflexive f1).length) c67]) hS74 hE73 (by kernel_rfl) rfl rfl (by kernel_rfl) rfl rfl ?_)
    intro w77 hS80 a78 hE79; clear hS74 hE73
    refine q_step (v := .int .i64 0) hE79 (y_assign rfl) rfl rfl rfl ?_; intro a82 hE83; clear hE79
    refine c_nil ?_
    have hE84 := hE83.sub (L' := [(4, .pointer (some ⟨b8, 0, none⟩)), (5, .int .i64 0)]) ⟨rfl, rfl, trivial⟩; clear hE83
    refine p_tn ?_
    refine wp_ret ?_
    refine p_br ?_
    refine p_tr ?_
    have hF : F_CloseFrame f0 f1 flag = (((F_frameOf (F_reflexive f1)).1, F_reflexive f1), 0) := by unfold F_CloseFrame; rw [ht53, ht28]; first | done | rfl
    refine c_retC2 hE84 rfl rfl rfl Try.underlying30 rfl (by kernel_rfl) (St.row (i := 1) hS80 rfl _ (Ext.refl _)) ?_
    exact ⟨b66, c67, (by rw [hF]; first | done | (dsimp only; done) | rfl), (by rw [hF]; (try dsimp only); exact hS80.ok 0 _ rfl), hS80.ext⟩
   ·
    have hp85 := of_decide_eq_false ht53
    have hE86 := hE52; rw [ht53] at hE86; clear hE52
    refine c_seq ?_
    refine c_reg ?_
    refine q_step (v := .bool (decide (flag = 2))) hE86 (y_eql rfl rfl) rfl rfl rfl ?_; intro a87 hE88; clear hE86
    refine q_step (v := .bool (decide (flag = 2))) hE88 (y_assign rfl) rfl rfl rfl ?_; intro a89 hE90; clear hE88
    refine c_nil ?_
    have hE91 := hE90.sub (L' := [(2, .pointer (some ⟨b2, 0, none⟩)), (4, .pointer (some ⟨b8, 0, none⟩)), (12, .int .i64 flag), (19, .bool (decide (flag = 2)))]) ⟨rfl, rfl, rfl, rfl, trivial⟩; clear hE90
    refine p_tn ?_
    refine c_cond hE91 rfl (fun ht92 => ?_) (fun ht92 => ?_)
    ·
     have hp93 := of_decide_eq_true ht92
     have hE94 := hE91; rw [ht92] at hE94; clear hE91
     refine c_seq ?_
     refine c_reg ?_
     refine q_step (v := .pointer (some ⟨b2, 1, none⟩)) hE94 (y_field rfl (fun _ => by kernel_rfl)) rfl rfl rfl ?_; intro a95 hE96; clear hE94
     refine q_step (v := .slice f1A f1.length f1C) hE96 (y_load (fun _ => by kernel_rfl) rfl (St.cell (i := 1) hS23 rfl rfl)) rfl rfl rfl ?_; intro a97 hE98; clear hE96
     refine l_step hE98 rfl (l_call (f := 125) (argv := [.slice f1A f1.length f1C]) hE98 (fun _ => cf_transitive _ _) rfl rfl (c_transitive f1A f1.length f1C f1 w20 (St.rdR (i := 2) hS23 rfl) (by omega)) ?_)
     rintro _ w100 ⟨b105, c106, rfl, ho107, he104⟩ a101 hE102; clear hE98
     have hf108 := transitive_len f1
     have hS103 := St.own hS23 he104 ho107; clear hS23
     refine l_step hE102 rfl (l_call (f := 106) (argv := [.slice b105 ((F_transitive f1).length) c106]) hE102 (fun _ => cf_frameOf _ _) rfl rfl (c_frameOf b105 ((F_transitive f1).length) c106 (F_transitive f1) w100 (St.rdO (i := 0) hS103 rfl)) ?_)
     rintro _ w110 ⟨rfl, he114⟩ a111 hE112; clear hE102
     have hS113 := St.go hS103 he114; clear hS103
     refine l_step hE112 rfl (l_storeS (k := 1) (cs' := #[.int .i64 ((F_frameOf (F_transitive f1)).1), .slice b105 ((F_transitive f1).length) c106]) hS113 hE112 (by kernel_rfl) rfl rfl (by kernel_rfl) rfl rfl ?_)
     intro w116 hS119 a117 hE118; clear hS113 hE112
     refine q_step (v := .int .i64 0) hE118 (y_assign rfl) rfl rfl rfl ?_; intro a121 hE122; clear hE118
     refine c_nil ?_
     have hE123 := hE122.sub (L' := [(4, .pointer (some ⟨b8, 0, none⟩)), (5, .int .i64 0)]) ⟨rfl, rfl, trivial⟩; clear hE122
     refine p_tn ?_
     refine wp_ret ?_
     refine p_br ?_
     refine p_tr ?_
     have hF : F_CloseFrame f0 f1 flag = (((F_frameOf (F_transitive f1)).1, F_transitive f1), 0) := by unfold F_CloseFrame; rw [ht92, ht53, ht28]; first | done | rfl
     refine c_retC2 hE123 rfl rfl rfl Try.underlying30 rfl (by kernel_rfl) (St.row (i := 1) hS119 rfl _ (Ext.refl _)) ?_
     exact ⟨b105, c106, (by rw [hF]; first | done | (dsimp only; done) | rfl), (by rw [hF]; (try dsimp only); exact hS119.ok 0 _ rfl), hS119.ext⟩
    ·
     have hp124 := of_decide_eq_false ht92
     have hE125 := hE91; rw [ht92] at hE125; clear hE91
     refine c_seq ?_
     refine c_reg ?_
     refine q_step (v := .bool (decide (flag = 3))) hE125 (y_eql rfl rfl) rfl rfl rfl ?_; intro a126 hE127; clear hE125
     refine q_step (v := .bool (decide (flag = 3))) hE127 (y_assign rfl) rfl rfl rfl ?_; intro a128 hE129; clear hE127
     refine c_nil ?_
     have hE130 := hE129.sub (L' := [(2, .pointer (some ⟨b2, 0, none⟩)), (4, .pointer (some ⟨b8, 0, none⟩)), (12, .int .i64 flag), (25, .bool (decide (flag = 3)))]) ⟨rfl, rfl, rfl, rfl, trivial⟩; clear hE129
     refine p_tn ?_
     refine c_cond hE130 rfl (fun ht131 => ?_) (fun ht131 => ?_)
     ·
      have hp132 := of_decide_eq_true ht131
      have hE133 := hE130; rw [ht131] at hE133; clear hE130
      refine c_seq ?_
      refine c_reg ?_
      refine q_step (v := .pointer (some ⟨b2, 1, none⟩)) hE133 (y_field rfl (fun _ => by kernel_rfl)) rfl rfl rfl ?_; intro a134 hE135; clear hE133
      refine q_step (v := .slice f1A f1.length f1C) hE135 (y_load (fun _ => by kernel_rfl) rfl (St.cell (i := 1) hS23 rfl rfl)) rfl rfl rfl ?_; intro a136 hE137; clear hE135
      refine l_step hE137 rfl (l_call (f := 123) (argv := [.slice f1A f1.length f1C]) hE137 (fun _ => cf_inverse _ _) rfl rfl (c_inverse f1A f1.length f1C f1 w20 (St.rdR (i := 2) hS23 rfl) (by omega) (frame_mm (by assumption))) ?_)
      rintro _ w139 ⟨b144, c145, rfl, ho146, he143⟩ a140 hE141; clear hE137
      have hf147 := inverse_len f1
      have hS142 := St.own hS23 he143 ho146; clear hS23
      refine q_step (v := .slice b144 ((F_inverse f1).length) c145) hE141 (y_assign rfl) rfl rfl rfl ?_; intro a148 hE149; clear hE141
      refine c_nil ?_
      have hE150 := hE149.sub (L' := [(2, .pointer (some ⟨b2, 0, none⟩)), (4, .pointer (some ⟨b8, 0, none⟩)), (6, .slice b144 ((F_inverse f1).length) c145)]) ⟨rfl, rfl, rfl, trivial⟩; clear hE149
      refine p_tn ?_
      refine c_seq ?_
      refine c_seq ?_
      refine c_reg ?_
      refine q_step (v := .slice b144 ((F_inverse f1).length) c145) hE150 (y_move rfl) rfl rfl rfl ?_; intro a151 hE152; clear hE150
      refine q_step (v := .int .i64 ((F_inverse f1).length : Int)) hE152 (y_len (e := 2) (by kernel_rfl) rfl) rfl rfl rfl ?_; intro a153 hE154; clear hE152
      refine q_step (v := .int .i64 0) hE154 (y_move rfl) rfl rfl rfl ?_; intro a155 hE156; clear hE154
      refine c_nil ?_
      have hE157 := hE156.sub (L' := [(2, .pointer (some ⟨b2, 0, none⟩)), (4, .pointer (some ⟨b8, 0, none⟩)), (6, .slice b144 ((F_inverse f1).length) c145), (31, .int .i64 ((F_inverse f1).length : Int)), (32, .int .i64 0)]) ⟨rfl, rfl, rfl, rfl, rfl, trivial⟩; clear hE156
      refine p_tn ?_
      refine c_cut1 (fun a' w' => (0 ≤ ((F_CloseFrame_L1 f1 (Int.toNat (((F_inverse f1).length : Int) - 0) + 1) 0 (F_inverse f1)).1)) ∧ ((((F_CloseFrame_L1 f1 (Int.toNat (((F_inverse f1).length : Int) - 0) + 1) 0 (F_inverse f1)).2).length : Int) = f0) ∧ (((F_CloseFrame_L1 f1 (Int.toNat (((F_inverse f1).length : Int) - 0) + 1) 0 (F_inverse f1)).1) ≤ ((F_inverse f1).length : Int)) ∧ E a' 56 [(2, .pointer (some ⟨b2, 0, none⟩)), (4, .pointer (some ⟨b8, 0, none⟩)), (6, .slice b144 ((F_inverse f1).length) c145), (31, .int .i64 ((F_inverse f1).length : Int)), (32, .int .i64 ((F_CloseFrame_L1 f1 (Int.toNat (((F_inverse f1).length : Int) - 0) + 1) 0 (F_inverse f1)).1))] ∧ St w w' [.own 2 1 b144 ((F_inverse f1).length) c145 ((F_CloseFrame_L1 f1 (Int.toNat (((F_inverse f1).length : Int) - 0) + 1) 0 (F_inverse f1)).2), .blk b8 #[.int .i64 0, .slice none 0 0] 30, .blk b2 #[.int .i64 f0, .slice f1A f1.length f1C] 30, .rd 1 f1A f1.length f1C f1]) ?_ ?_
      ·
       refine wp_block ?_
       refine c_loop (fun r a' w' => ∃ t32 : Int, ∃ out6 : List Int, F_CloseFrame_L1 f1 r t32 out6 = F_CloseFrame_L1 f1 (Int.toNat (((F_inverse f1).length : Int) - 0) + 1) 0 (F_inverse f1) ∧ Int.toNat (((F_inverse f1).length : Int) - t32) < r ∧ (0 ≤ t32) ∧ ((out6.length : Int) = f0) ∧ (t32 ≤ ((F_inverse f1).length : Int)) ∧ E a' 56 [(2, .pointer (some ⟨b2, 0, none⟩)), (4, .pointer (some ⟨b8, 0, none⟩)), (6, .slice b144 ((F_inverse f1).length) c145), (31, .int .i64 ((F_inverse f1).length : Int)), (32, .int .i64 t32)] ∧ St w w' [.own 2 1 b144 ((F_inverse f1).length) c145 out6, .blk b8 #[.int .i64 0, .slice none 0 0] 30, .blk b2 #[.int .i64 f0, .slice f1A f1.length f1C] 30, .rd 1 f1A f1.length f1C f1]) (r := (Int.toNat (((F_inverse f1).length : Int) - 0) + 1)) ?_ ?_
       · exact ⟨0, F_inverse f1, rfl, Nat.lt_succ_self _, (by first | omega | (simp only [sS_len, sL_len]; omega) | (simp only [List.length_replicate, sI_len]; omega) | (simp only [List.length_append, List.length_cons, List.length_nil, sI_len, cond_true, cond_false]; omega) | (simp only [List.length_append, List.length_cons, List.length_nil, sI_len, cond_eq_ite, apply_ite List.length]; split <;> simp only [List.length_append, List.length_cons, List.length_nil, sI_len] <;> omega) | grind), (by first | omega | (simp only [sS_len, sL_len]; omega) | (simp only [List.length_replicate, sI_len]; omega) | (simp only [List.length_append, List.length_cons, List.length_nil, sI_len, cond_true, cond_false]; omega) | (simp only [List.length_append, List.length_cons, List.length_nil, sI_len, cond_eq_ite, apply_ite List.length]; split <;> simp only [List.length_append, List.length_cons, List.length_nil, sI_len] <;> omega) | grind), (by first | omega | (simp only [sS_len, sL_len]; omega) | (simp only [List.length_replicate, sI_len]; omega) | (simp only [List.length_append, List.length_cons, List.length_nil, sI_len, cond_true, cond_false]; omega) | (simp only [List.length_append, List.length_cons, List.length_nil, sI_len, cond_eq_ite, apply_ite List.length]; split <;> simp only [List.length_append, List.length_cons, List.length_nil, sI_len] <;> omega) | grind), (hE157.sub (L' := [(2, .pointer (some ⟨b2, 0, none⟩)), (4, .pointer (some ⟨b8, 0, none⟩)), (6, .slice b144 ((F_inverse f1).length) c145), (31, .int .i64 ((F_inverse f1).length : Int)), (32, .int .i64 0)]) ⟨rfl, rfl, rfl, rfl, rfl, trivial⟩), (St.pick (Γ' := [.own 2 1 b144 ((F_inverse f1).length) c145 (F_inverse f1), .blk b8 #[.int .i64 0, .slice none 0 0] 30, .blk b2 #[.int .i64 f0, .slice f1A f1.length f1C] 30, .rd 1 f1A f1.length f1C f1]) hS142 [0, 1, 2, 3] (by decide) rfl)⟩
       ·
        clear hE157 hS142
        rintro r168 a159 w160 ⟨t32, out6, hT163, hr164, hi165, hi166, hi167, hE161, hS162⟩
        obtain ⟨r168, rfl⟩ : ∃ r', r168 = r' + 1 := ⟨r168 - 1, by omega⟩
        refine c_seq ?_
        refine c_reg ?_
        refine q_step (v := .bool (decide (t32 < ((F_inverse f1).length : Int)))) hE161 (y_lss rfl rfl) rfl rfl rfl ?_; intro a169 hE170; clear hE161
        refine c_nil ?_
        have hE171 := hE170.sub (L' := [(2, .pointer (some ⟨b2, 0, none⟩)), (4, .pointer (some ⟨b8, 0, none⟩)), (6, .slice b144 ((F_inverse f1).length) c145), (31, .int .i64 ((F_inverse f1).length : Int)), (32, .int .i64 t32), (33, .bool (decide (t32 < ((F_inverse f1).length : Int))))]) ⟨rfl, rfl, rfl, rfl, rfl, rfl, trivial⟩; clear hE170
        refine p_tn ?_
        refine c_seq ?_
        refine c_cond hE171 rfl (fun ht172 => ?_) (fun ht172 => ?_)
        ·
         have hp173 := of_decide_eq_true ht172
         have hE174 := hE171; rw [ht172] at hE174; clear hE171
         refine wp_skip ?_
         refine p_tn ?_
         refine c_seq ?_
         refine wp_block ?_
         refine c_seq ?_
         refine c_reg ?_
         refine q_step (v := .int .i64 t32) hE174 (y_move rfl) rfl rfl rfl ?_; intro a175 hE176; clear hE174
         refine q_step (v := .int .i64 t32) hE176 (y_assign rfl) rfl rfl rfl ?_; intro a177 hE178; clear hE176
         refine c_nil ?_
         have hE179 := hE178.sub (L' := [(2, .pointer (some ⟨b2, 0, none⟩)), (4, .pointer (some ⟨b8, 0, none⟩)), (6, .slice b144 ((F_inverse f1).length) c145), (7, .int .i64 t32), (31, .int .i64 ((F_inverse f1).length : Int)), (32, .int .i64 t32)]) ⟨rfl, rfl, rfl, rfl, rfl, rfl, trivial⟩; clear hE178
         refine p_tn ?_
         refine d_start (fun w w' => (fun w' => w'.cell? (adr b144 (Int.toNat t32)) = some (.int .i64 (gI out6 t32)) ∧ w'.cell? ⟨b2, 1, none⟩ = some (.slice f1A f1.length f1C) ∧ w'.cell? (adr f1A (Int.toNat t32)) = some (.int .i64 (gI f1 t32)) ∧ True) w → (fun w' => w'.cell? (adr b144 (Int.toNat t32)) = some (.int .i64 (gI out6 t32)) ∧ w'.cell? ⟨b2, 1, none⟩ = some (.slice f1A f1.length f1C) ∧ w'.cell? (adr f1A (Int.toNat t32)) = some (.int .i64 (gI f1 t32)) ∧ True) w') [3, 5, 8] 12 (by kernel_rfl) rfl ?_
         intro w180 he181; have hS182 := St.go hS162 he181; clear hS162
         refine d_pure (fun _ h => h) (v := .slice b144 ((F_inverse f1).length) c145) 0 rfl hE179 (y_move rfl) rfl (by kernel_rfl) (by kernel_rfl) (by kernel_rfl) rfl rfl (fun _ _ _ h => h) ?_; intro a183 hE184; clear hE179
         refine d_pure (fun _ h => h) (v := .int .i64 t32) 1 rfl hE184 (y_move rfl) rfl (by kernel_rfl) (by kernel_rfl) (by kernel_rfl) rfl rfl (fun _ _ _ h => h) ?_; intro a185 hE186; clear hE184
         refine d_pure (fun _ h => h) (v := .pointer (some (adr b144 (Int.toNat t32)))) 2 rfl hE186 (y_idx (by kernel_rfl) (fun _ => by kernel_rfl) rfl rfl (RdS.isS (m := t32) (St.rdO (i := 0) hS182 rfl) (by omega) (by omega)) (by omega) (by omega) (Nat.mul_one _).symm) rfl (by kernel_rfl) (by kernel_rfl) (by kernel_rfl) rfl rfl (fun _ _ _ h => h) ?_; intro a187 hE188; clear hE186
         refine d_take (fun _ h => h) (fun _ _ h k => h k) (v := .int .i64 (gI out6 t32)) 3 rfl hE188 (S := fun w' => w'.cell? (adr b144 (Int.toNat t32)) = some (.int .i64 (gI out6 t32)) ∧ w'.cell? ⟨b2, 1, none⟩ = some (.slice f1A f1.length f1C) ∧ w'.cell? (adr f1A (Int.toNat t32)) = some (.int .i64 (gI f1 t32)) ∧ True) ⟨(RdS.elt (St.rdO (i := 0) hS182 rfl) (by omega) (by omega) _ (Ext.refl _)), (St.cell (i := 2) hS182 rfl rfl _ (Ext.refl _)), (RdS.elt (St.rdR (i := 3) hS182 rfl) (by omega) (by omega) _ (Ext.refl _)), trivial⟩ (y_load (fun _ => by kernel_rfl) rfl (fun _ h => h.1)) rfl rfl (by kernel_rfl) (by kernel_rfl) (by kernel_rfl) (by kernel_rfl) rfl rfl (fun _ _ _ h => h) ?_; intro a189 hE190; clear hE188
         refine d_pure (fun _ h => h) (v := .pointer (some ⟨b2, 1, none⟩)) 4 rfl hE190 (y_field rfl (fun _ => by kernel_rfl)) rfl (by kernel_rfl) (by kernel_rfl) (by kernel_rfl) rfl rfl (fun _ _ _ h => h) ?_; intro a191 hE192; clear hE190
         refine d_take (fun _ h => h) (fun _ _ h k => h k) (v := .slice f1A f1.length f1C) 5 rfl hE192 (S := fun w' => w'.cell? (adr b144 (Int.toNat t32)) = some (.int .i64 (gI out6 t32)) ∧ w'.cell? ⟨b2, 1, none⟩ = some (.slice f1A f1.length f1C) ∧ w'.cell? (adr f1A (Int.toNat t32)) = some (.int .i64 (gI f1 t32)) ∧ True) ⟨(RdS.elt (St.rdO (i := 0) hS182 rfl) (by omega) (by omega) _ (Ext.refl _)), (St.cell (i := 2) hS182 rfl rfl _ (Ext.refl _)), (RdS.elt (St.rdR (i := 3) hS182 rfl) (by omega) (by omega) _ (Ext.refl _)), trivial⟩ (y_load (fun _ => by kernel_rfl) rfl (fun _ h => h.2.1)) rfl rfl (by kernel_rfl) (by kernel_rfl) (by kernel_rfl) (by kernel_rfl) rfl rfl (fun _ _ _ h => h) ?_; intro a193 hE194; clear hE192
         refine d_pure (fun _ h => h) (v := .int .i64 t32) 6 rfl hE194 (y_move rfl) rfl (by kernel_rfl) (by kernel_rfl) (by kernel_rfl) rfl rfl (fun _ _ _ h => h) ?_; intro a195 hE196; clear hE194
         refine d_pure (fun _ h => h) (v := .pointer (some (adr f1A (Int.toNat t32)))) 7 rfl hE196 (y_idx (by kernel_rfl) (fun _ => by kernel_rfl) rfl rfl (RdS.isS (m := t32) (St.rdR (i := 3) hS182 rfl) (by omega) (by omega)) (by omega) (by omega) (Nat.mul_one _).symm) rfl (by kernel_rfl) (by kernel_rfl) (by kernel_rfl) rfl rfl (fun _ _ _ h => h) ?_; intro a197 hE198; clear hE196
         refine d_take (fun _ h => h) (fun _ _ h k => h k) (v := .int .i64 (gI f1 t32)) 8 rfl hE198 (S := fun w' => w'.cell? (adr b144 (Int.toNat t32)) = some (.int .i64 (gI out6 t32)) ∧ w'.cell? ⟨b2, 1, none⟩ = some (.slice f1A f1.length f1C) ∧ w'.cell? (adr f1A (Int.toNat t32)) = some (.int .i64 (gI f1 t32)) ∧ True) ⟨(RdS.elt (St.rdO (i := 0) hS182 rfl) (by omega) (by omega) _ (Ext.refl _)), (St.cell (i := 2) hS182 rfl rfl _ (Ext.refl _)), (RdS.elt (St.rdR (i := 3) hS182 rfl) (by omega) (by omega) _ (Ext.refl _)), trivial⟩ (y_load (fun _ => by kernel_rfl) rfl (fun _ h => h.2.2.1)) rfl rfl (by kernel_rfl) (by kernel_rfl) (by kernel_rfl) (by kernel_rfl) rfl rfl (fun _ _ _ h => h) ?_; intro a199 hE200; clear hE198
         refine d_pure (fun _ h => h) (v := .int .i64 (orI (gI out6 t32) (gI f1 t32))) 9 rfl hE200 (y_or rfl rfl) rfl (by kernel_rfl) (by kernel_rfl) (by kernel_rfl) rfl rfl (fun _ _ _ h => h) ?_; intro a201 hE202; clear hE200
         refine d_pure (fun _ h => h) (v := .pointer (some (adr b144 (Int.toNat t32)))) 10 rfl hE202 (y_idx (by kernel_rfl) (fun _ => by kernel_rfl) rfl rfl (RdS.isS (m := t32) (St.rdO (i := 0) hS182 rfl) (by omega) (by omega)) (by omega) (by omega) (Nat.mul_one _).symm) rfl (by kernel_rfl) (by kernel_rfl) (by kernel_rfl) rfl rfl (fun _ _ _ h => h) ?_; intro a203 hE204; clear hE202
         refine d_only 11 (by kernel_rfl) rfl hE204 rfl (l_store (k := 0) hS182 hE204 (fun _ => by kernel_rfl) rfl rfl rfl (by omega) (by omega) ?_)
         intro w206 hS209 a207 hE208; clear hS182 hE204
         refine ⟨fun h => Bool.noConfusion (h.symm.trans (show exm _ _ _ = true by kernel_rfl)), ?_⟩
         refine d_done (by kernel_rfl) ?_
         have hE211 := hE208.sub (L' := [(2, .pointer (some ⟨b2, 0, none⟩)), (4, .pointer (some ⟨b8, 0, none⟩)), (6, .slice b144 ((F_inverse f1).length) c145), (31, .int .i64 ((F_inverse f1).length : Int)), (32, .int .i64 t32)]) ⟨rfl, rfl, rfl, rfl, rfl, trivial⟩; clear hE208
         refine p_bn ?_
         refine p_tn ?_
         refine c_reg ?_
         refine q_step (v := .int .i64 (t32 + 1)) hE211 (y_add rfl rfl ⟨(by omega), (by omega)⟩) rfl rfl rfl ?_; intro a212 hE213; clear hE211
         refine q_step (v := .int .i64 (t32 + 1)) hE213 (y_move rfl) rfl rfl rfl ?_; intro a214 hE215; clear hE213
         refine c_nil ?_
         have hE216 := hE215.sub (L' := [(2, .pointer (some ⟨b2, 0, none⟩)), (4, .pointer (some ⟨b8, 0, none⟩)), (6, .slice b144 ((F_inverse f1).length) c145), (31, .int .i64 ((F_inverse f1).length : Int)), (32, .int .i64 (t32 + 1))]) ⟨rfl, rfl, rfl, rfl, rfl, trivial⟩; clear hE215
         refine p_tn ⟨r168, Nat.lt_succ_self _, t32 + 1, sI out6 t32 (orI (gI out6 t32) (gI f1 t32)), (hT163.symm.trans (show F_CloseFrame_L1b f1 (F_CloseFrame_L1 f1 r168) t32 out6 = F_CloseFrame_L1 f1 r168 (t32 + 1) (sI out6 t32 (orI (gI out6 t32) (gI f1 t32))) by unfold F_CloseFrame_L1b; rw [ht172]; first | done | rfl)).symm, (by omega), (by first | omega | (simp only [sS_len, sL_len]; omega) | (simp only [List.length_replicate, sI_len]; omega) | (simp only [List.length_append, List.length_cons, List.length_nil, sI_len, cond_true, cond_false]; omega) | (simp only [List.length_append, List.length_cons, List.length_nil, sI_len, cond_eq_ite, apply_ite List.length]; split <;> simp only [List.length_append, List.length_cons, List.length_nil, sI_len] <;> omega) | grind), (by first | omega | (simp only [sS_len, sL_len]; omega) | (simp only [List.length_replicate, sI_len]; omega) | (simp only [List.length_append, List.length_cons, List.length_nil, sI_len, cond_true, cond_false]; omega) | (simp only [List.length_append, List.length_cons, List.length_nil, sI_len, cond_eq_ite, apply_ite List.length]; split <;> simp only [List.length_append, List.length_cons, List.length_nil, sI_len] <;> omega) | grind), (by first | omega | (simp only [sS_len, sL_len]; omega) | (simp only [List.length_replicate, sI_len]; omega) | (simp only [List.length_append, List.length_cons, List.length_nil, sI_len, cond_true, cond_false]; omega) | (simp only [List.length_append, List.length_cons, List.length_nil, sI_len, cond_eq_ite, apply_ite List.length]; split <;> simp only [List.length_append, List.length_cons, List.length_nil, sI_len] <;> omega) | grind), (hE216.sub (L' := [(2, .pointer (some ⟨b2, 0, none⟩)), (4, .pointer (some ⟨b8, 0, none⟩)), (6, .slice b144 ((F_inverse f1).length) c145), (31, .int .i64 ((F_inverse f1).length : Int)), (32, .int .i64 (t32 + 1))]) ⟨rfl, rfl, rfl, rfl, rfl, trivial⟩), (St.pick (Γ' := [.own 2 1 b144 ((F_inverse f1).length) c145 (sI out6 t32 (orI (gI out6 t32) (gI f1 t32))), .blk b8 #[.int .i64 0, .slice none 0 0] 30, .blk b2 #[.int .i64 f0, .slice f1A f1.length f1C] 30, .rd 1 f1A f1.length f1C f1]) hS209 [0, 1, 2, 3] (by decide) rfl)⟩
        ·
         have hp217 := of_decide_eq_false ht172
         have hE218 := hE171; rw [ht172] at hE218; clear hE171
         refine wp_exit ?_
         refine p_te ?_
         have hX219 : F_CloseFrame_L1 f1 (Int.toNat (((F_inverse f1).length : Int) - 0) + 1) 0 (F_inverse f1) = (t32, out6) := hT163.symm.trans (show F_CloseFrame_L1b f1 (F_CloseFrame_L1 f1 r168) t32 out6 = (t32, out6) by unfold F_CloseFrame_L1b; rw [ht172]; first | done | rfl)
         refine p_te (p_be (p_tn ?_))
         exact ⟨(by rw [hX219]; exact (show 0 ≤ t32 from (by first | omega | (simp only [sS_len, sL_len]; omega) | (simp only [List.length_replicate, sI_len]; omega) | (simp only [List.length_append, List.length_cons, List.length_nil, sI_len, cond_true, cond_false]; omega) | (simp only [List.length_append, List.length_cons, List.length_nil, sI_len, cond_eq_ite, apply_ite List.length]; split <;> simp only [List.length_append, List.length_cons, List.length_nil, sI_len] <;> omega) | grind))), (by rw [hX219]; exact (show (out6.length : Int) = f0 from (by first | omega | (simp only [sS_len, sL_len]; omega) | (simp only [List.length_replicate, sI_len]; omega) | (simp only [List.length_append, List.length_cons, List.length_nil, sI_len, cond_true, cond_false]; omega) | (simp only [List.length_append, List.length_cons, List.length_nil, sI_len, cond_eq_ite, apply_ite List.length]; split <;> simp only [List.length_append, List.length_cons, List.length_nil, sI_len] <;> omega) | grind))), (by rw [hX219]; exact (show t32 ≤ ((F_inverse f1).length : Int) from (by first | omega | (simp only [sS_len, sL_len]; omega) | (simp only [List.length_replicate, sI_len]; omega) | (simp only [List.length_append, List.length_cons, List.length_nil, sI_len, cond_true, cond_false]; omega) | (simp only [List.length_append, List.length_cons, List.length_nil, sI_len, cond_eq_ite, apply_ite List.length]; split <;> simp only [List.length_append, List.length_cons, List.length_nil, sI_len] <;> omega) | grind))), (by rw [hX219]; exact (hE218.sub (L' := [(2, .pointer (some ⟨b2, 0, none⟩)), (4, .pointer (some ⟨b8, 0, none⟩)), (6, .slice b144 ((F_inverse f1).length) c145), (31, .int .i64 ((F_inverse f1).length : Int)), (32, .int .i64 t32)]) ⟨rfl, rfl, rfl, rfl, rfl, trivial⟩)), (by rw [hX219]; exact (St.pick (Γ' := [.own 2 1 b144 ((F_inverse f1).length) c145 out6, .blk b8 #[.int .i64 0, .slice none 0 0] 30, .blk b2 #[.int .i64 f0, .slice f1A f1.length f1C] 30, .rd 1 f1A f1.length f1C f1]) hS162 [0, 1, 2, 3] (by decide) rfl))⟩
      ·
       rintro a220 w221 ⟨hi225, hi226, hi227, hE222, hS223⟩; clear hE157 hS142
       refine p_tn ?_
       refine c_seq ?_
       refine c_reg ?_
       refine q_step (v := .slice b144 ((F_inverse f1).length) c145) hE222 (y_move rfl) rfl rfl rfl ?_; intro a228 hE229; clear hE222
       refine l_step hE229 rfl (l_call (f := 106) (argv := [.slice b144 ((F_inverse f1).length) c145]) hE229 (fun _ => cf_frameOf _ _) rfl rfl (c_frameOf b144 ((F_inverse f1).length) c145 ((F_CloseFrame_L1 f1 (Int.toNat (((F_inverse f1).length : Int) - 0) + 1) 0 (F_inverse f1)).2) w221 (St.rdO (i := 0) hS223 rfl)) ?_)
       rintro _ w231 ⟨rfl, he235⟩ a232 hE233; clear hE229
       have hS234 := St.go hS223 he235; clear hS223
       refine l_step hE233 rfl (l_storeS (k := 1) (cs' := #[.int .i64 ((F_frameOf ((F_CloseFrame_L1 f1 (Int.toNat (((F_inverse f1).length : Int) - 0) + 1) 0 (F_inverse f1)).2)).1), .slice b144 ((F_inverse f1).length) c145]) hS234 hE233 (by kernel_rfl) rfl rfl (by kernel_rfl) rfl rfl ?_)
       intro w237 hS240 a238 hE239; clear hS234 hE233
       refine q_step (v := .int .i64 0) hE239 (y_assign rfl) rfl rfl rfl ?_; intro a242 hE243; clear hE239
       refine c_nil ?_
       have hE244 := hE243.sub (L' := [(4, .pointer (some ⟨b8, 0, none⟩)), (5, .int .i64 0)]) ⟨rfl, rfl, trivial⟩; clear hE243
       refine p_tn ?_
       refine wp_ret ?_
       refine p_br ?_
       refine p_tr ?_
       have hF : F_CloseFrame f0 f1 flag = (((F_frameOf ((F_CloseFrame_L1 f1 (Int.toNat (((F_inverse f1).length : Int) - 0) + 1) 0 (F_inverse f1)).2)).1, (F_CloseFrame_L1 f1 (Int.toNat (((F_inverse f1).length : Int) - 0) + 1) 0 (F_inverse f1)).2), 0) := by unfold F_CloseFrame; rw [ht131, ht92, ht53, ht28]; first | done | rfl
       refine c_retC2 hE244 rfl rfl rfl Try.underlying30 rfl (by kernel_rfl) (St.row (i := 1) hS240 rfl _ (Ext.refl _)) ?_
       exact ⟨b144, c145, (by rw [hF]; first | rfl | (rw [(St.rdO (i := 0) hS240 rfl).len1])), (by rw [hF, (St.rdO (i := 0) hS240 rfl).len1]; (try dsimp only); exact hS240.ok 0 _ rfl), hS240.ext⟩
     ·
      have hp245 := of_decide_eq_false ht131
      have hE246 := hE130; rw [ht131] at hE246; clear hE130
      refine c_seq ?_
      refine c_reg ?_
      refine q_step (v := .bool (decide (flag = 4))) hE246 (y_eql rfl rfl) rfl rfl rfl ?_; intro a247 hE248; clear hE246
      refine q_step (v := .bool (decide (flag = 4))) hE248 (y_assign rfl) rfl rfl rfl ?_; intro a249 hE250; clear hE248
      refine c_nil ?_
      have hE251 := hE250.sub (L' := [(2, .pointer (some ⟨b2, 0, none⟩)), (4, .pointer (some ⟨b8, 0, none⟩)), (49, .bool (decide (flag = 4)))]) ⟨rfl, rfl, rfl, trivial⟩; clear hE250
      refine p_tn ?_
      refine c_cond hE251 rfl (fun ht252 => ?_) (fun ht252 => ?_)
      ·
       have hp253 := of_decide_eq_true ht252
       have hE254 := hE251; rw [ht252] at hE254; clear hE251
       refine c_seq ?_
       refine c_reg ?_
       refine q_step (v := .pointer (some ⟨b2, 1, none⟩)) hE254 (y_field rfl (fun _ => by kernel_rfl)) rfl rfl rfl ?_; intro a255 hE256; clear hE254
       refine q_step (v := .slice f1A f1.length f1C) hE256 (y_load (fun _ => by kernel_rfl) rfl (St.cell (i := 1) hS23 rfl rfl)) rfl rfl rfl ?_; intro a257 hE258; clear hE256
       refine l_step hE258 rfl (l_call (f := 139) (argv := [.slice f1A f1.length f1C]) hE258 (fun _ => cf_euclidean _ _) rfl rfl (c_euclidean f1A f1.length f1C f1 w20 (St.rdR (i := 2) hS23 rfl) (by omega) (frame_mm (by assumption))) ?_)
       rintro _ w260 ⟨b265, c266, rfl, ho267, he264⟩ a261 hE262; clear hE258
       have hS263 := St.own hS23 he264 ho267; clear hS23
       refine l_step hE262 rfl (l_call (f := 106) (argv := [.slice b265 ((F_euclidean f1).length) c266]) hE262 (fun _ => cf_frameOf _ _) rfl rfl (c_frameOf b265 ((F_euclidean f1).length) c266 (F_euclidean f1) w260 (St.rdO (i := 0) hS263 rfl)) ?_)
       rintro _ w269 ⟨rfl, he273⟩ a270 hE271; clear hE262
       have hS272 := St.go hS263 he273; clear hS263
       refine l_step hE271 rfl (l_storeS (k := 1) (cs' := #[.int .i64 ((F_frameOf (F_euclidean f1)).1), .slice b265 ((F_euclidean f1).length) c266]) hS272 hE271 (by kernel_rfl) rfl rfl (by kernel_rfl) rfl rfl ?_)
       intro w275 hS278 a276 hE277; clear hS272 hE271
       refine q_step (v := .int .i64 0) hE277 (y_assign rfl) rfl rfl rfl ?_; intro a280 hE281; clear hE277
       refine c_nil ?_
       have hE282 := hE281.sub (L' := [(4, .pointer (some ⟨b8, 0, none⟩)), (5, .int .i64 0)]) ⟨rfl, rfl, trivial⟩; clear hE281
       refine p_tn ?_
       refine wp_ret ?_
       refine p_br ?_
       refine p_tr ?_
       have hF : F_CloseFrame f0 f1 flag = (((F_frameOf (F_euclidean f1)).1, F_euclidean f1), 0) := by unfold F_CloseFrame; rw [ht252, ht131, ht92, ht53, ht28]; first | done | rfl
       refine c_retC2 hE282 rfl rfl rfl Try.underlying30 rfl (by kernel_rfl) (St.row (i := 1) hS278 rfl _ (Ext.refl _)) ?_
       exact ⟨b265, c266, (by rw [hF]; first | done | (dsimp only; done) | rfl), (by rw [hF]; (try dsimp only); exact hS278.ok 0 _ rfl), hS278.ext⟩
      ·
       have hp283 := of_decide_eq_false ht252
       have hE284 := hE251; rw [ht252] at hE284; clear hE251
       refine wp_skip ?_
       refine p_bn ?_
       refine p_tn ?_
       refine c_seq ?_
       refine c_reg ?_
       refine q_step (v := .agg #[.int .i64 0, .slice none 0 0]) hE284 (y_build (vs := #[]) (fun a n hE => by simp) (fun _ => by kernel_rfl)) rfl rfl rfl ?_; intro a285 hE286; clear hE284
       refine l_step hE286 rfl (l_storeS (k := 0) (cs' := #[.int .i64 0, .slice none 0 0]) hS23 hE286 (by kernel_rfl) rfl rfl (by kernel_rfl) rfl rfl ?_)
       intro w288 hS291 a289 hE290; clear hS23 hE286
       refine q_step (v := .int .i64 2) hE290 (y_assign rfl) rfl rfl rfl ?_; intro a293 hE294; clear hE290
       refine c_nil ?_
       have hE295 := hE294.sub (L' := [(4, .pointer (some ⟨b8, 0, none⟩)), (5, .int .i64 2)]) ⟨rfl, rfl, trivial⟩; clear hE294
       refine p_tn ?_
       refine wp_ret ?_
       have hF : F_CloseFrame f0 f1 flag = ((0, []), 2) := by unfold F_CloseFrame; rw [ht252, ht131, ht92, ht53, ht28]; first | done | rfl
       refine c_retC2 hE295 rfl rfl rfl Try.underlying30 rfl (by kernel_rfl) (St.row (i := 0) hS291 rfl _ (Ext.refl _)) ?_
       exact ⟨none, 0, (by rw [hF]; first | done | (dsimp only; done) | rfl), (by rw [hF]; (try dsimp only); exact OwnS.nilS _ _ _ _), hS291.ext⟩
theorem or_comm' {n : Nat} (hn : n ≤ 62) {a b : Int} (ha : Mk n a) (hb : Mk n b) : orI a b = orI b a := by
  obtain ⟨h1, h2⟩ := Mk.or hn ha hb
  obtain ⟨h3, h4⟩ := Mk.or hn hb ha
  apply tb_ext h1.1 h3.1
  intro j
  rw [h2 j, h4 j, Bool.or_comm]
theorem CloseFrame_both (f0 : Int) (f1 : List Int) (flag : Int) : F_CloseFrame f0 f1 flag = F_s_CloseFrame f0 f1 flag ∧ (F_CloseFrame f0 f1 flag).1.2.length ≤ 8 := by
  unfold F_CloseFrame F_s_CloseFrame F_frameOf
  rw [isFrame_eq]
  cases h : F_l05Is f0 f1
  · simp
  · have hf := l05Is_t h
    have hR := rl_of hf.1.1 hf.2 (l05Is_m h)
    simp only [Bool.not_true, cond_false]
    cases h1 : decide (flag = 0)
    · cases h2 : decide (flag = 2)
      · cases h3 : decide (flag = 3)
        · cases h4 : decide (flag = 4)
          · simp
          · obtain ⟨e1, e2⟩ := euclid_eq hf.1 hR
            simp only [cond_true, cond_false] at e1 ⊢
            rw [← e1]
            refine ⟨rfl, ?_⟩
            show (F_euclidean f1).length ≤ 8
            omega
        · simp only [cond_true, cond_false]
          have hil : (F_inverse f1).length = f1.length := inverse_len f1
          obtain ⟨m1, m2⟩ := mapLoop ((F_inverse f1).length : Int) (fun x o => orI o (gI f1 x)) (F_CloseFrame_L1 f1) (fun r t xs _ _ => rfl) (F_inverse f1) rfl
          obtain ⟨m3, m4⟩ := mapLoop (f1.length : Int) (fun x o => orI o (gI (F_l01Inverse f1) x)) (F_s_CloseFrame_L1 f1) (fun r t xs _ _ => rfl) f1 rfl
          have e : (F_CloseFrame_L1 f1 (Int.toNat (((F_inverse f1).length : Int) - 0) + 1) 0 (F_inverse f1)).2 = (F_s_CloseFrame_L1 f1 (Int.toNat ((f1.length : Int) - 0) + 1) 0 f1).2 := by
            apply ext_gi (by omega)
            intro j hj
            have a1 := m2 j (by omega)
            have a2 := m4 j (by omega)
            have hinv : Mk f0.toNat (gI (F_inverse f1) (j : Int)) := by
              rw [inverse_eq (n := f0.toNat) (by omega) hR, (l01Inverse_rows f1).2 j (by omega)]
              exact (fold_or (n := f0.toNat) (by omega) (fun i : Nat => F_l01Bit (gI f1 (i : Int)) (j : Int)) (fun i : Nat => powI (i : Int)) (List.range f1.length) 0 (Mk.zero _) (fun i hi _ => Mk.pow (by have := List.mem_range.1 hi; omega))).1
            rw [or_comm' (n := f0.toNat) (by omega) hinv (hR.2 j (by omega)), inverse_eq (n := f0.toNat) (by omega) hR] at a1
            unfold gI at a1 a2
            rw [Int.toNat_natCast] at a1 a2
            rw [inverse_eq (n := f0.toNat) (by omega) hR]
            exact a1.trans a2.symm
          rw [e]
          refine ⟨rfl, ?_⟩
          show (F_s_CloseFrame_L1 f1 (Int.toNat ((f1.length : Int) - 0) + 1) 0 f1).2.length ≤ 8
          omega
      · simp only [cond_true, cond_false]
        rw [l01Closure_eq]
        refine ⟨rfl, ?_⟩
        show (F_transitive f1).length ≤ 8
        rw [transitive_len]; omega
    · simp only [cond_true]
      rw [reflexive_eq (by omega)]
      refine ⟨rfl, ?_⟩
      show (F_l01Reflexive f1).length ≤ 8
      rw [l01Reflexive_len]; omega
theorem CloseFrame_len (f0 : Int) (f1 : List Int) (flag : Int) : (F_CloseFrame f0 f1 flag).1.2.length ≤ 8 := (CloseFrame_both f0 f1 flag).2
theorem CloseFrame_cd (f0 : Int) (f1 : List Int) (flag : Int) : 0 ≤ (F_CloseFrame f0 f1 flag).2 ∧ (F_CloseFrame f0 f1 flag).2 ≤ 2 := by
  unfold F_CloseFrame
  cases F_isFrame f0 f1 <;> cases decide (flag = 0) <;> cases decide (flag = 2) <;> cases decide (flag = 3) <;> cases decide (flag = 4) <;> simp only [Bool.not_true, Bool.not_false, cond_true, cond_false] <;> omega
end Go.Proofs.Ytlbonhloeefnmaa
