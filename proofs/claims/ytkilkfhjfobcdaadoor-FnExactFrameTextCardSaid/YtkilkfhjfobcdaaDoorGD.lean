/- GD: models and contracts, printed by wip/gen/gen.py -/
import Derived.Test.YtkilkfhjfobcdaaDoorGC
set_option linter.unusedVariables false
set_option linter.unusedSimpArgs false
namespace Go.Proofs.YtkilkfhjfobcdaaDoor
open Go.RowKit

def F_l05Is (f0 : Int) (f1 : List Int) : Bool :=
  ((F_l01In f0 0 8) && ((decide ((f1.length : Int) = f0)) && (F_l01Masks f0 f1)))
theorem cf_l05Is (args : Array Value) (w : World) : (callFunc 10 args).run Tryd.prog w = .ok (.enter 10 args) w := by kernel_rfl
set_option maxRecDepth 100000 in
theorem c_l05Is (f0 : Int) (f1A : Option Addr) (f1N f1C : Nat) (f1 : List Int) (w : World) (f1R : RdS w 1 f1A f1N f1C f1) :
    Calls Tryd.prog 10 #[.agg #[.int .i64 f0, .slice f1A f1N f1C]] w (Ret fun v w' => v = .bool (F_l05Is f0 f1) ∧ Ext w w') := by
  obtain rfl : f1N = f1.length := f1R.len1.symm
  have f1Le := f1R.le
  have hS := St.nil w
  have hS1 := St.rd0 hS rfl f1R; clear hS
  refine enter (args := [.agg #[.int .i64 f0, .slice f1A f1.length f1C]]) Tryd.func10 rfl rfl ?_
  rw [Tryd.ntmps10]; intro a hE
  have hE := hE.sub (L' := [(0, .agg #[.int .i64 f0, .slice f1A f1.length f1C])]) ⟨rfl, trivial⟩
  refine c_seq ?_
  refine c_reg ?_
  refine l_step hE rfl (l_box (v := .agg #[.int .i64 f0, .slice f1A f1.length f1C]) (cs := #[.int .i64 f0, .slice f1A f1.length f1C]) hS1 hE rfl rfl rfl ?_)
  intro b2 w3 hS6 he7 a4 hE5; clear hS1 hE
  refine q_step (v := .bool false) hE5 (y_assign rfl) rfl rfl rfl ?_; intro a8 hE9; clear hE5
  refine c_nil ?_
  have hE10 := hE9.sub (L' := [(1, .pointer (some ⟨b2, 0, none⟩))]) ⟨rfl, trivial⟩; clear hE9
  refine p_tn ?_
  refine c_cut (fun a' w' => E a' 21 [(2, .bool ((F_l01In f0 0 8) && ((decide ((f1.length : Int) = f0)) && (F_l01Masks f0 f1))))] ∧ St w w' [.rd 1 f1A f1.length f1C f1, .blk b2 #[.int .i64 f0, .slice f1A f1.length f1C] 28]) ?_ ?_
  ·
   refine c_reg ?_
   refine q_step (v := .pointer (some ⟨b2, 0, none⟩)) hE10 (y_field rfl (fun _ => by kernel_rfl)) rfl rfl rfl ?_; intro a11 hE12; clear hE10
   refine q_step (v := .int .i64 f0) hE12 (y_load (fun _ => by kernel_rfl) rfl (St.cell (i := 0) hS6 rfl rfl)) rfl rfl rfl ?_; intro a13 hE14; clear hE12
   refine l_step hE14 rfl (l_call (f := 16) (argv := [.int .i64 f0, .int .i64 0, .int .i64 8]) hE14 (fun _ => cf_l01In _ _) rfl rfl (c_l01In f0 0 8 w3) ?_)
   rintro _ _ ⟨rfl, rfl⟩ a17 hE18; clear hE14
   refine q_step (v := .bool (F_l01In f0 0 8)) hE18 (y_move rfl) rfl rfl rfl ?_; intro a21 hE22; clear hE18
   rcases Bool.eq_false_or_eq_true (F_l01In f0 0 8) with hb23 | hb23
   ·
    have hE24 := hE22; (try rw [hb23] at hE24); clear hE22
    have hp25 := F_l01In_t hb23
    refine q_step (v := .pointer (some ⟨b2, 1, none⟩)) hE24 (y_field rfl (fun _ => by kernel_rfl)) rfl rfl rfl ?_; intro a26 hE27; clear hE24
    refine q_step (v := .slice f1A f1.length f1C) hE27 (y_load (fun _ => by kernel_rfl) rfl (St.cell (i := 0) hS6 rfl rfl)) rfl rfl rfl ?_; intro a28 hE29; clear hE27
    refine q_step (v := .int .i64 (f1.length : Int)) hE29 (y_len (e := 2) (by kernel_rfl) rfl) rfl rfl rfl ?_; intro a30 hE31; clear hE29
    refine q_step (v := .pointer (some ⟨b2, 0, none⟩)) hE31 (y_field rfl (fun _ => by kernel_rfl)) rfl rfl rfl ?_; intro a32 hE33; clear hE31
    refine q_step (v := .int .i64 f0) hE33 (y_load (fun _ => by kernel_rfl) rfl (St.cell (i := 0) hS6 rfl rfl)) rfl rfl rfl ?_; intro a34 hE35; clear hE33
    refine q_step (v := .bool (decide ((f1.length : Int) = f0))) hE35 (y_eql rfl rfl) rfl rfl rfl ?_; intro a36 hE37; clear hE35
    refine q_step (v := .bool (decide ((f1.length : Int) = f0))) hE37 (y_pick (b := true) rfl rfl) rfl rfl rfl ?_; intro a38 hE39; clear hE37
    refine q_step (v := .bool (decide ((f1.length : Int) = f0))) hE39 (y_move rfl) rfl rfl rfl ?_; intro a40 hE41; clear hE39
    rcases Bool.eq_false_or_eq_true (decide ((f1.length : Int) = f0)) with hb42 | hb42
    ·
     have hE43 := hE41; (try rw [hb42] at hE43); clear hE41
     have hp44 := of_decide_eq_true hb42
     refine q_step (v := .pointer (some ⟨b2, 0, none⟩)) hE43 (y_field rfl (fun _ => by kernel_rfl)) rfl rfl rfl ?_; intro a45 hE46; clear hE43
     refine q_step (v := .int .i64 f0) hE46 (y_load (fun _ => by kernel_rfl) rfl (St.cell (i := 0) hS6 rfl rfl)) rfl rfl rfl ?_; intro a47 hE48; clear hE46
     refine q_step (v := .pointer (some ⟨b2, 1, none⟩)) hE48 (y_field rfl (fun _ => by kernel_rfl)) rfl rfl rfl ?_; intro a49 hE50; clear hE48
     refine q_step (v := .slice f1A f1.length f1C) hE50 (y_load (fun _ => by kernel_rfl) rfl (St.cell (i := 0) hS6 rfl rfl)) rfl rfl rfl ?_; intro a51 hE52; clear hE50
     refine l_step hE52 rfl (l_call (f := 17) (argv := [.int .i64 f0, .slice f1A f1.length f1C]) hE52 (fun _ => cf_l01Masks _ _) rfl rfl (c_l01Masks f0 f1A f1.length f1C f1 w3 (St.rdR (i := 1) hS6 rfl) (by omega) (by omega)) ?_)
     rintro _ w54 ⟨rfl, he58⟩ a55 hE56; clear hE52
     have hS57 := St.go hS6 he58; clear hS6
     refine q_step (v := .bool (F_l01Masks f0 f1)) hE56 (y_pick (b := true) rfl rfl) rfl rfl rfl ?_; intro a59 hE60; clear hE56
     refine q_step (v := .bool (F_l01Masks f0 f1)) hE60 (y_assign rfl) rfl rfl rfl ?_; intro a61 hE62; clear hE60
     refine c_nil ?_
     have hE63 := hE62.sub (L' := [(2, .bool (F_l01Masks f0 f1))]) ⟨rfl, trivial⟩; clear hE62
     refine p_tn ?_
     have hE64 := hE63.sub (L' := [(2, .bool (F_l01Masks f0 f1))]) ⟨rfl, trivial⟩
     have hS65 := (St.pick (Γ' := [.rd 1 f1A f1.length f1C f1, .blk b2 #[.int .i64 f0, .slice f1A f1.length f1C] 28]) hS57 [1, 0] (by decide) rfl)
     exact ⟨(by rw [hb42, hb23]; exact hE64), hS65⟩
    ·
     have hE66 := hE41; (try rw [hb42] at hE66); clear hE41
     have hp67 := of_decide_eq_false hb42
     refine q_skip hE66 rfl rfl rfl ?_; intro a68 hE69; clear hE66
     refine q_skip hE69 rfl rfl rfl ?_; intro a70 hE71; clear hE69
     refine q_skip hE71 rfl rfl rfl ?_; intro a72 hE73; clear hE71
     refine q_skip hE73 rfl rfl rfl ?_; intro a74 hE75; clear hE73
     refine q_skip hE75 rfl rfl rfl ?_; intro a76 hE77; clear hE75
     refine q_step (v := .bool false) hE77 (y_pick (b := false) rfl rfl) rfl rfl rfl ?_; intro a78 hE79; clear hE77
     refine q_step (v := .bool false) hE79 (y_assign rfl) rfl rfl rfl ?_; intro a80 hE81; clear hE79
     refine c_nil ?_
     have hE82 := hE81.sub (L' := [(2, .bool false)]) ⟨rfl, trivial⟩; clear hE81
     refine p_tn ?_
     have hE83 := hE82.sub (L' := [(2, .bool false)]) ⟨rfl, trivial⟩
     have hS84 := (St.pick (Γ' := [.rd 1 f1A f1.length f1C f1, .blk b2 #[.int .i64 f0, .slice f1A f1.length f1C] 28]) hS6 [1, 0] (by decide) rfl)
     exact ⟨(by rw [hb42, hb23]; exact hE83), hS84⟩
   ·
    have hE85 := hE22; (try rw [hb23] at hE85); clear hE22
    refine q_skip hE85 rfl rfl rfl ?_; intro a86 hE87; clear hE85
    refine q_skip hE87 rfl rfl rfl ?_; intro a88 hE89; clear hE87
    refine q_skip hE89 rfl rfl rfl ?_; intro a90 hE91; clear hE89
    refine q_skip hE91 rfl rfl rfl ?_; intro a92 hE93; clear hE91
    refine q_skip hE93 rfl rfl rfl ?_; intro a94 hE95; clear hE93
    refine q_skip hE95 rfl rfl rfl ?_; intro a96 hE97; clear hE95
    refine q_step (v := .bool false) hE97 (y_pick (b := false) rfl rfl) rfl rfl rfl ?_; intro a98 hE99; clear hE97
    refine q_step (v := .bool false) hE99 (y_move rfl) rfl rfl rfl ?_; intro a100 hE101; clear hE99
    refine q_skip hE101 rfl rfl rfl ?_; intro a102 hE103; clear hE101
    refine q_skip hE103 rfl rfl rfl ?_; intro a104 hE105; clear hE103
    refine q_skip hE105 rfl rfl rfl ?_; intro a106 hE107; clear hE105
    refine q_skip hE107 rfl rfl rfl ?_; intro a108 hE109; clear hE107
    refine q_skip hE109 rfl rfl rfl ?_; intro a110 hE111; clear hE109
    refine q_step (v := .bool false) hE111 (y_pick (b := false) rfl rfl) rfl rfl rfl ?_; intro a112 hE113; clear hE111
    refine q_step (v := .bool false) hE113 (y_assign rfl) rfl rfl rfl ?_; intro a114 hE115; clear hE113
    refine c_nil ?_
    have hE116 := hE115.sub (L' := [(2, .bool false)]) ⟨rfl, trivial⟩; clear hE115
    refine p_tn ?_
    have hE117 := hE116.sub (L' := [(2, .bool false)]) ⟨rfl, trivial⟩
    have hS118 := (St.pick (Γ' := [.rd 1 f1A f1.length f1C f1, .blk b2 #[.int .i64 f0, .slice f1A f1.length f1C] 28]) hS6 [1, 0] (by decide) rfl)
    exact ⟨(by rw [hb23]; exact hE117), hS118⟩
  ·
   rintro a119 w120 ⟨hE121, hS122⟩; clear hE10 hS6
   refine wp_ret ?_
   have hF : F_l05Is f0 f1 = ((F_l01In f0 0 8) && ((decide ((f1.length : Int) = f0)) && (F_l01Masks f0 f1))) := by unfold F_l05Is; rfl
   refine c_ret1 hE121 rfl rfl ?_
   exact ⟨(by rw [hF]; first | done | (dsimp only; done) | rfl), hS122.ext⟩

theorem l05Is_t {f0 : Int} {f1 : List Int} (h : F_l05Is f0 f1 = true) : (0 ≤ f0 ∧ f0 ≤ 8) ∧ (f1.length : Int) = f0 := by
  unfold F_l05Is at h
  simp only [Bool.and_eq_true, decide_eq_true_eq] at h
  exact ⟨F_l01In_t h.1, h.2.1⟩

def F_isFrame (f0 : Int) (f1 : List Int) : Bool :=
  ((F_inRange f0 0 8) && ((decide ((f1.length : Int) = f0)) && (F_isRelation f1)))
theorem cf_isFrame (args : Array Value) (w : World) : (callFunc 13 args).run Tryd.prog w = .ok (.enter 13 args) w := by kernel_rfl
set_option maxRecDepth 100000 in
theorem c_isFrame (f0 : Int) (f1A : Option Addr) (f1N f1C : Nat) (f1 : List Int) (w : World) (f1R : RdS w 1 f1A f1N f1C f1) :
    Calls Tryd.prog 13 #[.agg #[.int .i64 f0, .slice f1A f1N f1C]] w (Ret fun v w' => v = .bool (F_isFrame f0 f1) ∧ Ext w w') := by
  obtain rfl : f1N = f1.length := f1R.len1.symm
  have f1Le := f1R.le
  have hS := St.nil w
  have hS1 := St.rd0 hS rfl f1R; clear hS
  refine enter (args := [.agg #[.int .i64 f0, .slice f1A f1.length f1C]]) Tryd.func13 rfl rfl ?_
  rw [Tryd.ntmps13]; intro a hE
  have hE := hE.sub (L' := [(0, .agg #[.int .i64 f0, .slice f1A f1.length f1C])]) ⟨rfl, trivial⟩
  refine c_seq ?_
  refine c_reg ?_
  refine l_step hE rfl (l_box (v := .agg #[.int .i64 f0, .slice f1A f1.length f1C]) (cs := #[.int .i64 f0, .slice f1A f1.length f1C]) hS1 hE rfl rfl rfl ?_)
  intro b2 w3 hS6 he7 a4 hE5; clear hS1 hE
  refine q_step (v := .bool false) hE5 (y_assign rfl) rfl rfl rfl ?_; intro a8 hE9; clear hE5
  refine c_nil ?_
  have hE10 := hE9.sub (L' := [(1, .pointer (some ⟨b2, 0, none⟩))]) ⟨rfl, trivial⟩; clear hE9
  refine p_tn ?_
  refine c_cut (fun a' w' => E a' 19 [(2, .bool ((F_inRange f0 0 8) && ((decide ((f1.length : Int) = f0)) && (F_isRelation f1))))] ∧ St w w' [.rd 1 f1A f1.length f1C f1, .blk b2 #[.int .i64 f0, .slice f1A f1.length f1C] 28]) ?_ ?_
  ·
   refine d_start (fun w w' => (fun w' => w'.cell? ⟨b2, 0, none⟩ = some (.int .i64 f0) ∧ w'.cell? ⟨b2, 1, none⟩ = some (.slice f1A f1.length f1C) ∧ w'.cell? ⟨b2, 0, none⟩ = some (.int .i64 f0) ∧ w'.cell? ⟨b2, 1, none⟩ = some (.slice f1A f1.length f1C) ∧ True) w → (fun w' => w'.cell? ⟨b2, 0, none⟩ = some (.int .i64 f0) ∧ w'.cell? ⟨b2, 1, none⟩ = some (.slice f1A f1.length f1C) ∧ w'.cell? ⟨b2, 0, none⟩ = some (.int .i64 f0) ∧ w'.cell? ⟨b2, 1, none⟩ = some (.slice f1A f1.length f1C) ∧ True) w') [1, 5, 8, 13] 17 (by kernel_rfl) rfl ?_
   intro w11 he12; have hS13 := St.go hS6 he12; clear hS6
   refine d_pure (fun _ h => h) (v := .pointer (some ⟨b2, 0, none⟩)) 0 rfl hE10 (y_field rfl (fun _ => by kernel_rfl)) rfl (by kernel_rfl) (by kernel_rfl) (by kernel_rfl) rfl rfl (fun _ _ _ h => h) ?_; intro a14 hE15; clear hE10
   refine d_take (fun _ h => h) (fun _ _ h k => h k) (v := .int .i64 f0) 1 rfl hE15 (S := fun w' => w'.cell? ⟨b2, 0, none⟩ = some (.int .i64 f0) ∧ w'.cell? ⟨b2, 1, none⟩ = some (.slice f1A f1.length f1C) ∧ w'.cell? ⟨b2, 0, none⟩ = some (.int .i64 f0) ∧ w'.cell? ⟨b2, 1, none⟩ = some (.slice f1A f1.length f1C) ∧ True) ⟨(St.cell (i := 0) hS13 rfl rfl _ (Ext.refl _)), (St.cell (i := 0) hS13 rfl rfl _ (Ext.refl _)), (St.cell (i := 0) hS13 rfl rfl _ (Ext.refl _)), (St.cell (i := 0) hS13 rfl rfl _ (Ext.refl _)), trivial⟩ (y_load (fun _ => by kernel_rfl) rfl (fun _ h => h.1)) rfl rfl (by kernel_rfl) (by kernel_rfl) (by kernel_rfl) (by kernel_rfl) rfl rfl (fun _ _ _ h => h) ?_; intro a16 hE17; clear hE15
   refine d_only 2 (by kernel_rfl) rfl hE17 rfl (l_call (f := 20) (argv := [.int .i64 f0, .int .i64 0, .int .i64 8]) hE17 (fun _ => cf_inRange _ _) rfl rfl (c_inRange f0 0 8 w11) ?_)
   rintro _ _ ⟨rfl, rfl⟩ a20 hE21; clear hE17
   refine ⟨fun _ _ => ⟨(St.cell (i := 0) hS13 rfl rfl _ (Ext.refl _)), (St.cell (i := 0) hS13 rfl rfl _ (Ext.refl _)), (St.cell (i := 0) hS13 rfl rfl _ (Ext.refl _)), (St.cell (i := 0) hS13 rfl rfl _ (Ext.refl _)), trivial⟩, ?_⟩
   refine d_pure (fun _ h => h) (v := .bool (F_inRange f0 0 8)) 3 rfl hE21 (y_move rfl) rfl (by kernel_rfl) (by kernel_rfl) (by kernel_rfl) rfl rfl (fun _ _ _ h => h) ?_; intro a24 hE25; clear hE21
   rcases Bool.eq_false_or_eq_true (F_inRange f0 0 8) with hb26 | hb26
   ·
    have hE27 := hE25; (try rw [hb26] at hE27); clear hE25
    have hp28 := F_inRange_t hb26
    refine d_pure (fun _ h => h) (v := .pointer (some ⟨b2, 1, none⟩)) 4 rfl hE27 (y_field rfl (fun _ => by kernel_rfl)) rfl (by kernel_rfl) (by kernel_rfl) (by kernel_rfl) rfl rfl (fun _ _ _ h => h) ?_; intro a29 hE30; clear hE27
    refine d_take (fun _ h => h) (fun _ _ h k => h k) (v := .slice f1A f1.length f1C) 5 rfl hE30 (S := fun w' => w'.cell? ⟨b2, 0, none⟩ = some (.int .i64 f0) ∧ w'.cell? ⟨b2, 1, none⟩ = some (.slice f1A f1.length f1C) ∧ w'.cell? ⟨b2, 0, none⟩ = some (.int .i64 f0) ∧ w'.cell? ⟨b2, 1, none⟩ = some (.slice f1A f1.length f1C) ∧ True) ⟨(St.cell (i := 0) hS13 rfl rfl _ (Ext.refl _)), (St.cell (i := 0) hS13 rfl rfl _ (Ext.refl _)), (St.cell (i := 0) hS13 rfl rfl _ (Ext.refl _)), (St.cell (i := 0) hS13 rfl rfl _ (Ext.refl _)), trivial⟩ (y_load (fun _ => by kernel_rfl) rfl (fun _ h => h.2.1)) rfl rfl (by kernel_rfl) (by kernel_rfl) (by kernel_rfl) (by kernel_rfl) rfl rfl (fun _ _ _ h => h) ?_; intro a31 hE32; clear hE30
    refine d_pure (fun _ h => h) (v := .pointer (some ⟨b2, 0, none⟩)) 7 rfl hE32 (y_field rfl (fun _ => by kernel_rfl)) rfl (by kernel_rfl) (by kernel_rfl) (by kernel_rfl) rfl rfl (fun _ _ _ h => h) ?_; intro a33 hE34; clear hE32
    refine d_take (fun _ h => h) (fun _ _ h k => h k) (v := .int .i64 f0) 8 rfl hE34 (S := fun w' => w'.cell? ⟨b2, 0, none⟩ = some (.int .i64 f0) ∧ w'.cell? ⟨b2, 1, none⟩ = some (.slice f1A f1.length f1C) ∧ w'.cell? ⟨b2, 0, none⟩ = some (.int .i64 f0) ∧ w'.cell? ⟨b2, 1, none⟩ = some (.slice f1A f1.length f1C) ∧ True) ⟨(St.cell (i := 0) hS13 rfl rfl _ (Ext.refl _)), (St.cell (i := 0) hS13 rfl rfl _ (Ext.refl _)), (St.cell (i := 0) hS13 rfl rfl _ (Ext.refl _)), (St.cell (i := 0) hS13 rfl rfl _ (Ext.refl _)), trivial⟩ (y_load (fun _ => by kernel_rfl) rfl (fun _ h => h.2.2.1)) rfl rfl (by kernel_rfl) (by kernel_rfl) (by kernel_rfl) (by kernel_rfl) rfl rfl (fun _ _ _ h => h) ?_; intro a35 hE36; clear hE34
    refine d_only 6 (by kernel_rfl) rfl hE36 rfl (l_call (f := 21) (argv := [.slice f1A f1.length f1C]) hE36 (fun _ => cf_size _ _) rfl rfl (d_size f1A f1.length f1C f1 w11 (St.rdR (i := 1) hS13 rfl)) ?_)
    rintro _ _ ⟨rfl, rfl⟩ a39 hE40; clear hE36
    refine ⟨fun _ _ => ⟨(St.cell (i := 0) hS13 rfl rfl _ (Ext.refl _)), (St.cell (i := 0) hS13 rfl rfl _ (Ext.refl _)), (St.cell (i := 0) hS13 rfl rfl _ (Ext.refl _)), (St.cell (i := 0) hS13 rfl rfl _ (Ext.refl _)), trivial⟩, ?_⟩
    refine d_pure (fun _ h => h) (v := .bool (decide ((f1.length : Int) = f0))) 9 rfl hE40 (y_eql rfl rfl) rfl (by kernel_rfl) (by kernel_rfl) (by kernel_rfl) rfl rfl (fun _ _ _ h => h) ?_; intro a43 hE44; clear hE40
    refine d_pure (fun _ h => h) (v := .bool (decide ((f1.length : Int) = f0))) 10 rfl hE44 (y_pick (b := true) rfl rfl) rfl (by kernel_rfl) (by kernel_rfl) (by kernel_rfl) rfl rfl (fun _ _ _ h => h) ?_; intro a45 hE46; clear hE44
    refine d_pure (fun _ h => h) (v := .bool (decide ((f1.length : Int) = f0))) 11 rfl hE46 (y_move rfl) rfl (by kernel_rfl) (by kernel_rfl) (by kernel_rfl) rfl rfl (fun _ _ _ h => h) ?_; intro a47 hE48; clear hE46
    rcases Bool.eq_false_or_eq_true (decide ((f1.length : Int) = f0)) with hb49 | hb49
    ·
     have hE50 := hE48; (try rw [hb49] at hE50); clear hE48
     have hp51 := of_decide_eq_true hb49
     refine d_pure (fun _ h => h) (v := .pointer (some ⟨b2, 1, none⟩)) 12 rfl hE50 (y_field rfl (fun _ => by kernel_rfl)) rfl (by kernel_rfl) (by kernel_rfl) (by kernel_rfl) rfl rfl (fun _ _ _ h => h) ?_; intro a52 hE53; clear hE50
     refine d_take (fun _ h => h) (fun _ _ h k => h k) (v := .slice f1A f1.length f1C) 13 rfl hE53 (S := fun w' => w'.cell? ⟨b2, 0, none⟩ = some (.int .i64 f0) ∧ w'.cell? ⟨b2, 1, none⟩ = some (.slice f1A f1.length f1C) ∧ w'.cell? ⟨b2, 0, none⟩ = some (.int .i64 f0) ∧ w'.cell? ⟨b2, 1, none⟩ = some (.slice f1A f1.length f1C) ∧ True) ⟨(St.cell (i := 0) hS13 rfl rfl _ (Ext.refl _)), (St.cell (i := 0) hS13 rfl rfl _ (Ext.refl _)), (St.cell (i := 0) hS13 rfl rfl _ (Ext.refl _)), (St.cell (i := 0) hS13 rfl rfl _ (Ext.refl _)), trivial⟩ (y_load (fun _ => by kernel_rfl) rfl (fun _ h => h.2.2.2.1)) rfl rfl (by kernel_rfl) (by kernel_rfl) (by kernel_rfl) (by kernel_rfl) rfl rfl (fun _ _ _ h => h) ?_; intro a54 hE55; clear hE53
     refine d_only 14 (by kernel_rfl) rfl hE55 rfl (l_call (f := 22) (argv := [.slice f1A f1.length f1C]) hE55 (fun _ => cf_isRelation _ _) rfl rfl (c_isRelation f1A f1.length f1C f1 w11 (St.rdR (i := 1) hS13 rfl)) ?_)
     rintro _ w57 ⟨rfl, he61⟩ a58 hE59; clear hE55
     have hS60 := St.go hS13 he61; clear hS13
     refine ⟨fun h => Bool.noConfusion (h.symm.trans (show exm _ _ _ = true by kernel_rfl)), ?_⟩
     refine d_pure (fun _ h => h) (v := .bool (F_isRelation f1)) 15 rfl hE59 (y_pick (b := true) rfl rfl) rfl (by kernel_rfl) (by kernel_rfl) (by kernel_rfl) rfl rfl (fun _ _ _ h => h) ?_; intro a62 hE63; clear hE59
     refine d_pure (fun _ h => h) (v := .bool (F_isRelation f1)) 16 rfl hE63 (y_assign rfl) rfl (by kernel_rfl) (by kernel_rfl) (by kernel_rfl) rfl rfl (fun _ _ _ h => h) ?_; intro a64 hE65; clear hE63
     refine d_done (by kernel_rfl) ?_
     have hE66 := hE65.sub (L' := [(2, .bool (F_isRelation f1))]) ⟨rfl, trivial⟩; clear hE65
     refine p_tn ?_
     have hE67 := hE66.sub (L' := [(2, .bool (F_isRelation f1))]) ⟨rfl, trivial⟩
     have hS68 := (St.pick (Γ' := [.rd 1 f1A f1.length f1C f1, .blk b2 #[.int .i64 f0, .slice f1A f1.length f1C] 28]) hS60 [1, 0] (by decide) rfl)
     exact ⟨(by rw [hb49, hb26]; exact hE67), hS68⟩
    ·
     have hE69 := hE48; (try rw [hb49] at hE69); clear hE48
     have hp70 := of_decide_eq_false hb49
     refine d_skip (fun _ h => h) 12 rfl hE69 rfl (by kernel_rfl) (by kernel_rfl) (by kernel_rfl) rfl rfl (fun _ _ _ h => h) ?_; intro a71 hE72; clear hE69
     refine d_skip (fun _ h => h) 13 rfl hE72 rfl (by kernel_rfl) (by kernel_rfl) (by kernel_rfl) rfl rfl (fun _ _ _ h => h) ?_; intro a73 hE74; clear hE72
     refine d_skip (fun _ h => h) 14 rfl hE74 rfl (by kernel_rfl) (by kernel_rfl) (by kernel_rfl) rfl rfl (fun _ _ _ h => h) ?_; intro a75 hE76; clear hE74
     refine d_pure (fun _ h => h) (v := .bool false) 15 rfl hE76 (y_pick (b := false) rfl rfl) rfl (by kernel_rfl) (by kernel_rfl) (by kernel_rfl) rfl rfl (fun _ _ _ h => h) ?_; intro a77 hE78; clear hE76
     refine d_pure (fun _ h => h) (v := .bool false) 16 rfl hE78 (y_assign rfl) rfl (by kernel_rfl) (by kernel_rfl) (by kernel_rfl) rfl rfl (fun _ _ _ h => h) ?_; intro a79 hE80; clear hE78
     refine d_done (by kernel_rfl) ?_
     have hE81 := hE80.sub (L' := [(2, .bool false)]) ⟨rfl, trivial⟩; clear hE80
     refine p_tn ?_
     have hE82 := hE81.sub (L' := [(2, .bool false)]) ⟨rfl, trivial⟩
     have hS83 := (St.pick (Γ' := [.rd 1 f1A f1.length f1C f1, .blk b2 #[.int .i64 f0, .slice f1A f1.length f1C] 28]) hS13 [1, 0] (by decide) rfl)
     exact ⟨(by rw [hb49, hb26]; exact hE82), hS83⟩
   ·
    have hE84 := hE25; (try rw [hb26] at hE84); clear hE25
    refine d_skip (fun _ h => h) 4 rfl hE84 rfl (by kernel_rfl) (by kernel_rfl) (by kernel_rfl) rfl rfl (fun _ _ _ h => h) ?_; intro a85 hE86; clear hE84
    refine d_skip (fun _ h => h) 5 rfl hE86 rfl (by kernel_rfl) (by kernel_rfl) (by kernel_rfl) rfl rfl (fun _ _ _ h => h) ?_; intro a87 hE88; clear hE86
    refine d_skip (fun _ h => h) 6 rfl hE88 rfl (by kernel_rfl) (by kernel_rfl) (by kernel_rfl) rfl rfl (fun _ _ _ h => h) ?_; intro a89 hE90; clear hE88
    refine d_skip (fun _ h => h) 7 rfl hE90 rfl (by kernel_rfl) (by kernel_rfl) (by kernel_rfl) rfl rfl (fun _ _ _ h => h) ?_; intro a91 hE92; clear hE90
    refine d_skip (fun _ h => h) 8 rfl hE92 rfl (by kernel_rfl) (by kernel_rfl) (by kernel_rfl) rfl rfl (fun _ _ _ h => h) ?_; intro a93 hE94; clear hE92
    refine d_skip (fun _ h => h) 9 rfl hE94 rfl (by kernel_rfl) (by kernel_rfl) (by kernel_rfl) rfl rfl (fun _ _ _ h => h) ?_; intro a95 hE96; clear hE94
    refine d_pure (fun _ h => h) (v := .bool false) 10 rfl hE96 (y_pick (b := false) rfl rfl) rfl (by kernel_rfl) (by kernel_rfl) (by kernel_rfl) rfl rfl (fun _ _ _ h => h) ?_; intro a97 hE98; clear hE96
    refine d_pure (fun _ h => h) (v := .bool false) 11 rfl hE98 (y_move rfl) rfl (by kernel_rfl) (by kernel_rfl) (by kernel_rfl) rfl rfl (fun _ _ _ h => h) ?_; intro a99 hE100; clear hE98
    refine d_skip (fun _ h => h) 12 rfl hE100 rfl (by kernel_rfl) (by kernel_rfl) (by kernel_rfl) rfl rfl (fun _ _ _ h => h) ?_; intro a101 hE102; clear hE100
    refine d_skip (fun _ h => h) 13 rfl hE102 rfl (by kernel_rfl) (by kernel_rfl) (by kernel_rfl) rfl rfl (fun _ _ _ h => h) ?_; intro a103 hE104; clear hE102
    refine d_skip (fun _ h => h) 14 rfl hE104 rfl (by kernel_rfl) (by kernel_rfl) (by kernel_rfl) rfl rfl (fun _ _ _ h => h) ?_; intro a105 hE106; clear hE104
    refine d_pure (fun _ h => h) (v := .bool false) 15 rfl hE106 (y_pick (b := false) rfl rfl) rfl (by kernel_rfl) (by kernel_rfl) (by kernel_rfl) rfl rfl (fun _ _ _ h => h) ?_; intro a107 hE108; clear hE106
    refine d_pure (fun _ h => h) (v := .bool false) 16 rfl hE108 (y_assign rfl) rfl (by kernel_rfl) (by kernel_rfl) (by kernel_rfl) rfl rfl (fun _ _ _ h => h) ?_; intro a109 hE110; clear hE108
    refine d_done (by kernel_rfl) ?_
    have hE111 := hE110.sub (L' := [(2, .bool false)]) ⟨rfl, trivial⟩; clear hE110
    refine p_tn ?_
    have hE112 := hE111.sub (L' := [(2, .bool false)]) ⟨rfl, trivial⟩
    have hS113 := (St.pick (Γ' := [.rd 1 f1A f1.length f1C f1, .blk b2 #[.int .i64 f0, .slice f1A f1.length f1C] 28]) hS13 [1, 0] (by decide) rfl)
    exact ⟨(by rw [hb26]; exact hE112), hS113⟩
  ·
   rintro a114 w115 ⟨hE116, hS117⟩; clear hE10 hS6
   refine wp_ret ?_
   have hF : F_isFrame f0 f1 = ((F_inRange f0 0 8) && ((decide ((f1.length : Int) = f0)) && (F_isRelation f1))) := by unfold F_isFrame; rfl
   refine c_ret1 hE116 rfl rfl ?_
   exact ⟨(by rw [hF]; first | done | (dsimp only; done) | rfl), hS117.ext⟩

theorem isFrame_t {f0 : Int} {f1 : List Int} (h : F_isFrame f0 f1 = true) : (0 ≤ f0 ∧ f0 ≤ 8) ∧ (f1.length : Int) = f0 := by
  unfold F_isFrame at h
  simp only [Bool.and_eq_true, decide_eq_true_eq] at h
  exact ⟨F_inRange_t h.1, h.2.1⟩
theorem isFrame_eq (f0 : Int) (f1 : List Int) : F_isFrame f0 f1 = F_l05Is f0 f1 := by
  unfold F_isFrame F_l05Is
  by_cases h : 0 ≤ f0 ∧ f0 ≤ 8
  · by_cases h2 : (f1.length : Int) = f0
    · rw [isRel_eq (by omega), h2]; rfl
    · rw [decide_eq_false h2]; simp
  · have e1 : F_inRange f0 0 8 = false := by
      cases e : F_inRange f0 0 8
      · rfl
      · exact absurd (F_inRange_t e) h
    have e2 : F_l01In f0 0 8 = false := by
      cases e : F_l01In f0 0 8
      · rfl
      · exact absurd (F_l01In_t e) h
    rw [e1, e2]; rfl

theorem masks_mem {np : Int} {list : List Int} (h : F_l01Masks np list = true) : ∀ m : Int, 0 ≤ m → m < (list.length : Int) → 0 ≤ gI list m ∧ gI list m ≤ fullI np := by
  intro m h0 h1
  rw [masks_eq, List.all_eq_true] at h
  unfold gI
  rw [gi_get (by omega)]
  exact F_l01In_t (h _ (List.getElem_mem _))

theorem l05Is_m {f0 : Int} {f1 : List Int} (h : F_l05Is f0 f1 = true) : ∀ m : Int, 0 ≤ m → m < (f1.length : Int) → 0 ≤ gI f1 m ∧ gI f1 m ≤ fullI f0 := by
  unfold F_l05Is at h
  simp only [Bool.and_eq_true, decide_eq_true_eq] at h
  exact masks_mem h.2.2

end Go.Proofs.YtkilkfhjfobcdaaDoor
