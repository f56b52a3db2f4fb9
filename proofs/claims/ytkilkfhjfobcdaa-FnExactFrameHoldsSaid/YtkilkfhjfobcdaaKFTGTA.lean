/- GTA: models and contracts, printed by wip/gen/gen.py -/
import Derived.Test.YtkilkfhjfobcdaaKFTGA
import Derived.Test.YtkilkfhjfobcdaaKFTShare
set_option linter.unusedVariables false
set_option linter.unusedSimpArgs false
namespace Go.Proofs.Ytkilkfhjfobcdaa
open Go.RowKit
def F_l_szPointNodeS (ap : List Int) (left : Int) : Int :=
  bif (decide ((left - (((ap).length / 3 : Nat) : Int)) < 0)) then (-1) else (left - (((ap).length / 3 : Nat) : Int))
theorem cf_l_szPointNodeS (args : Array Value) (w : World) : (callFunc 42 args).run Try.prog w = .ok (.enter 42 args) w := by kernel_rfl
set_option maxRecDepth 100000 in
theorem c_l_szPointNodeS (apA : Option Addr) (apN apC : Nat) (ap : List Int) (left : Int) (w : World) (apR : RdS w 3 apA apN apC ap) (hl : left ≤ 1048576) (hl0 : 0 ≤ left) :
    Calls Try.prog 42 #[.slice apA apN apC, .int .i64 left] w (Ret fun v w' => v = .int .i64 (F_l_szPointNodeS ap left) ∧ w = w') := by
  obtain rfl : apN = ap.length / 3 := (apR.lenD (by decide)).symm
  have apEv := apR.ev (by decide)
  have apLe := apR.le
  have hS := St.nil w
  have hS1 := St.rd0 hS rfl apR; clear hS
  refine enter (args := [.slice apA ((ap).length / 3 : Nat) apC, .int .i64 left]) Try.func42 rfl rfl ?_
  rw [Try.ntmps42]; intro a hE
  have hE := hE.sub (L' := [(0, .slice apA ((ap).length / 3 : Nat) apC), (1, .int .i64 left)]) ⟨rfl, rfl, trivial⟩
  refine c_seq ?_
  refine c_reg ?_
  refine q_step (v := .int .i64 0) hE (y_assign rfl) rfl rfl rfl ?_; intro a2 hE3; clear hE
  refine c_nil ?_
  have hE4 := hE3.sub (L' := [(0, .slice apA ((ap).length / 3 : Nat) apC), (1, .int .i64 left)]) ⟨rfl, rfl, trivial⟩; clear hE3
  refine p_tn ?_
  refine c_seq ?_
  refine c_reg ?_
  refine q_step (v := .int .i64 left) hE4 (y_move rfl) rfl rfl rfl ?_; intro a5 hE6; clear hE4
  refine q_step (v := .slice apA ((ap).length / 3 : Nat) apC) hE6 (y_move rfl) rfl rfl rfl ?_; intro a7 hE8; clear hE6
  refine q_step (v := .int .i64 (((ap).length / 3 : Nat) : Int)) hE8 (y_len (e := 117) (by kernel_rfl) rfl) rfl rfl rfl ?_; intro a9 hE10; clear hE8
  refine q_step (v := .int .i64 (left - (((ap).length / 3 : Nat) : Int))) hE10 (y_sub rfl rfl ⟨(by omega), (by omega)⟩) rfl rfl rfl ?_; intro a11 hE12; clear hE10
  refine q_step (v := .int .i64 (left - (((ap).length / 3 : Nat) : Int))) hE12 (y_assign rfl) rfl rfl rfl ?_; intro a13 hE14; clear hE12
  refine c_nil ?_
  have hE15 := hE14.sub (L' := [(1, .int .i64 (left - (((ap).length / 3 : Nat) : Int)))]) ⟨rfl, trivial⟩; clear hE14
  refine p_tn ?_
  refine c_seq ?_
  refine c_seq ?_
  refine c_reg ?_
  refine q_step (v := .int .i64 (left - (((ap).length / 3 : Nat) : Int))) hE15 (y_move rfl) rfl rfl rfl ?_; intro a16 hE17; clear hE15
  refine q_step (v := .bool (decide ((left - (((ap).length / 3 : Nat) : Int)) < 0))) hE17 (y_lss rfl rfl) rfl rfl rfl ?_; intro a18 hE19; clear hE17
  refine c_nil ?_
  have hE20 := hE19.sub (L' := [(1, .int .i64 (left - (((ap).length / 3 : Nat) : Int))), (10, .bool (decide ((left - (((ap).length / 3 : Nat) : Int)) < 0)))]) ⟨rfl, rfl, trivial⟩; clear hE19
  refine p_tn ?_
  refine c_cond hE20 rfl (fun ht21 => ?_) (fun ht21 => ?_)
  ·
   have hp22 := of_decide_eq_true ht21
   have hE23 := hE20; rw [ht21] at hE23; clear hE20
   refine c_seq ?_
   refine c_reg ?_
   refine q_step (v := .int .i64 (-1)) hE23 (y_assign rfl) rfl rfl rfl ?_; intro a24 hE25; clear hE23
   refine c_nil ?_
   have hE26 := hE25.sub (L' := [(4, .int .i64 (-1))]) ⟨rfl, trivial⟩; clear hE25
   refine p_tn ?_
   refine wp_ret ?_
   refine p_tr ?_
   have hF : F_l_szPointNodeS ap left = -1 := by unfold F_l_szPointNodeS; rw [ht21]; first | done | rfl
   refine c_ret1 hE26 rfl rfl ?_
   exact ⟨(by rw [hF]; first | done | (dsimp only; done) | rfl), rfl⟩
  ·
   have hp27 := of_decide_eq_false ht21
   have hE28 := hE20; rw [ht21] at hE28; clear hE20
   refine wp_skip ?_
   refine p_tn ?_
   refine c_seq ?_
   refine c_reg ?_
   refine q_step (v := .int .i64 (left - (((ap).length / 3 : Nat) : Int))) hE28 (y_move rfl) rfl rfl rfl ?_; intro a29 hE30; clear hE28
   refine q_step (v := .int .i64 (left - (((ap).length / 3 : Nat) : Int))) hE30 (y_assign rfl) rfl rfl rfl ?_; intro a31 hE32; clear hE30
   refine c_nil ?_
   have hE33 := hE32.sub (L' := [(4, .int .i64 (left - (((ap).length / 3 : Nat) : Int)))]) ⟨rfl, trivial⟩; clear hE32
   refine p_tn ?_
   refine wp_ret ?_
   have hF : F_l_szPointNodeS ap left = left - (((ap).length / 3 : Nat) : Int) := by unfold F_l_szPointNodeS; rw [ht21]; first | done | rfl
   refine c_ret1 hE33 rfl rfl ?_
   exact ⟨(by rw [hF]; first | done | (dsimp only; done) | rfl), rfl⟩
theorem szPointNodeS_bound {ap : List Int} {left : Int} (h : ¬ F_l_szPointNodeS ap left < 0) : ((ap.length / 3 : Nat) : Int) ≤ left ∧ 0 ≤ F_l_szPointNodeS ap left ∧ F_l_szPointNodeS ap left ≤ left := by
  unfold F_l_szPointNodeS at *
  by_cases h1 : left - ((ap.length / 3 : Nat) : Int) < 0
  · rw [decide_eq_true h1] at h; exact absurd (show (-1 : Int) < 0 by decide) h
  · rw [decide_eq_false h1] at *; simp only [cond_false] at *; omega
def F_l_toPointNode (ap0 : Int) (ap1 : Int) (ap2 : Int) : Int × Int × Int :=
  (ap0, ap1, ap2)
theorem cf_l_toPointNode (args : Array Value) (w : World) : (callFunc 103 args).run Try.prog w = .ok (.enter 103 args) w := by kernel_rfl
set_option maxRecDepth 100000 in
theorem c_l_toPointNode (ap0 : Int) (ap1 : Int) (ap2 : Int) (w : World) :
    Calls Try.prog 103 #[.agg #[.int .i64 ap0, .int .i64 ap1, .int .i64 ap2]] w (Ret fun v w' => v = .agg #[.int .i64 ((F_l_toPointNode ap0 ap1 ap2).1), .int .i64 ((F_l_toPointNode ap0 ap1 ap2).2.1), .int .i64 ((F_l_toPointNode ap0 ap1 ap2).2.2)] ∧ Ext w w') := by
  have hS := St.nil w
  refine enter (args := [.agg #[.int .i64 ap0, .int .i64 ap1, .int .i64 ap2]]) Try.func103 rfl rfl ?_
  rw [Try.ntmps103]; intro a hE
  have hE := hE.sub (L' := [(0, .agg #[.int .i64 ap0, .int .i64 ap1, .int .i64 ap2])]) ⟨rfl, trivial⟩
  refine c_seq ?_
  refine c_reg ?_
  refine l_step hE rfl (l_box (v := .agg #[.int .i64 ap0, .int .i64 ap1, .int .i64 ap2]) (cs := #[.int .i64 ap0, .int .i64 ap1, .int .i64 ap2]) hS hE rfl rfl rfl ?_)
  intro b1 w2 hS5 he6 a3 hE4; clear hS hE
  refine l_step hE4 rfl (l_alloc (z := .agg #[.int .i64 0, .int .i64 0, .int .i64 0]) (cs := #[.int .i64 0, .int .i64 0, .int .i64 0]) hS5 hE4 (fun _ => by kernel_rfl) rfl rfl ?_)
  intro b7 w8 hS11 he12 a9 hE10; clear hS5 hE4
  refine c_nil ?_
  have hE13 := hE10.sub (L' := [(1, .pointer (some ⟨b1, 0, none⟩)), (2, .pointer (some ⟨b7, 0, none⟩))]) ⟨rfl, rfl, trivial⟩; clear hE10
  refine p_tn ?_
  refine c_seq ?_
  refine c_reg ?_
  refine l_step hE13 rfl (l_alloc (z := .agg #[.int .i64 0, .int .i64 0, .int .i64 0]) (cs := #[.int .i64 0, .int .i64 0, .int .i64 0]) hS11 hE13 (fun _ => by kernel_rfl) rfl rfl ?_)
  intro b14 w15 hS18 he19 a16 hE17; clear hS11 hE13
  refine c_nil ?_
  have hE20 := hE17.sub (L' := [(1, .pointer (some ⟨b1, 0, none⟩)), (2, .pointer (some ⟨b7, 0, none⟩)), (3, .pointer (some ⟨b14, 0, none⟩))]) ⟨rfl, rfl, rfl, trivial⟩; clear hE17
  refine p_tn ?_
  refine c_seq ?_
  refine c_reg ?_
  refine q_step (v := .pointer (some ⟨b1, 0, none⟩)) hE20 (y_field rfl (fun _ => by kernel_rfl)) rfl rfl rfl ?_; intro a21 hE22; clear hE20
  refine q_step (v := .int .i64 ap0) hE22 (y_load (fun _ => by kernel_rfl) rfl (St.cell (i := 2) hS18 rfl rfl)) rfl rfl rfl ?_; intro a23 hE24; clear hE22
  refine q_step (v := .pointer (some ⟨b14, 0, none⟩)) hE24 (y_field rfl (fun _ => by kernel_rfl)) rfl rfl rfl ?_; intro a25 hE26; clear hE24
  refine l_step hE26 rfl (l_storeB (k := 0) (cs' := #[.int .i64 ap0, .int .i64 0, .int .i64 0]) hS18 hE26 (fun _ => by kernel_rfl) rfl rfl rfl rfl rfl rfl rfl ?_)
  intro w28 hS31 a29 hE30; clear hS18 hE26
  refine c_nil ?_
  have hE33 := hE30.sub (L' := [(1, .pointer (some ⟨b1, 0, none⟩)), (2, .pointer (some ⟨b7, 0, none⟩)), (3, .pointer (some ⟨b14, 0, none⟩))]) ⟨rfl, rfl, rfl, trivial⟩; clear hE30
  refine p_tn ?_
  refine c_seq ?_
  refine c_reg ?_
  refine q_step (v := .pointer (some ⟨b1, 1, none⟩)) hE33 (y_field rfl (fun _ => by kernel_rfl)) rfl rfl rfl ?_; intro a34 hE35; clear hE33
  refine q_step (v := .int .i64 ap1) hE35 (y_load (fun _ => by kernel_rfl) rfl (St.cell (i := 2) hS31 rfl rfl)) rfl rfl rfl ?_; intro a36 hE37; clear hE35
  refine q_step (v := .pointer (some ⟨b14, 1, none⟩)) hE37 (y_field rfl (fun _ => by kernel_rfl)) rfl rfl rfl ?_; intro a38 hE39; clear hE37
  refine l_step hE39 rfl (l_storeB (k := 0) (cs' := #[.int .i64 ap0, .int .i64 ap1, .int .i64 0]) hS31 hE39 (fun _ => by kernel_rfl) rfl rfl rfl rfl rfl rfl rfl ?_)
  intro w41 hS44 a42 hE43; clear hS31 hE39
  refine c_nil ?_
  have hE46 := hE43.sub (L' := [(1, .pointer (some ⟨b1, 0, none⟩)), (2, .pointer (some ⟨b7, 0, none⟩)), (3, .pointer (some ⟨b14, 0, none⟩))]) ⟨rfl, rfl, rfl, trivial⟩; clear hE43
  refine p_tn ?_
  refine c_seq ?_
  refine c_reg ?_
  refine q_step (v := .pointer (some ⟨b1, 2, none⟩)) hE46 (y_field rfl (fun _ => by kernel_rfl)) rfl rfl rfl ?_; intro a47 hE48; clear hE46
  refine q_step (v := .int .i64 ap2) hE48 (y_load (fun _ => by kernel_rfl) rfl (St.cell (i := 2) hS44 rfl rfl)) rfl rfl rfl ?_; intro a49 hE50; clear hE48
  refine q_step (v := .pointer (some ⟨b14, 2, none⟩)) hE50 (y_field rfl (fun _ => by kernel_rfl)) rfl rfl rfl ?_; intro a51 hE52; clear hE50
  refine l_step hE52 rfl (l_storeB (k := 0) (cs' := #[.int .i64 ap0, .int .i64 ap1, .int .i64 ap2]) hS44 hE52 (fun _ => by kernel_rfl) rfl rfl rfl rfl rfl rfl rfl ?_)
  intro w54 hS57 a55 hE56; clear hS44 hE52
  refine c_nil ?_
  have hE59 := hE56.sub (L' := [(2, .pointer (some ⟨b7, 0, none⟩)), (3, .pointer (some ⟨b14, 0, none⟩))]) ⟨rfl, rfl, trivial⟩; clear hE56
  refine p_tn ?_
  refine c_seq ?_
  refine c_reg ?_
  refine q_step (v := .agg #[.int .i64 ap0, .int .i64 ap1, .int .i64 ap2]) hE59 (y_loadS Try.underlying115 rfl (by kernel_rfl) rfl (St.row (i := 0) hS57 rfl)) rfl rfl rfl ?_; intro a60 hE61; clear hE59
  refine l_step hE61 rfl (l_storeS (k := 1) (cs' := #[.int .i64 ap0, .int .i64 ap1, .int .i64 ap2]) hS57 hE61 (by kernel_rfl) rfl rfl (by kernel_rfl) rfl rfl ?_)
  intro w63 hS66 a64 hE65; clear hS57 hE61
  refine c_nil ?_
  have hE68 := hE65.sub (L' := [(2, .pointer (some ⟨b7, 0, none⟩))]) ⟨rfl, trivial⟩; clear hE65
  refine p_tn ?_
  refine wp_ret ?_
  have hF : F_l_toPointNode ap0 ap1 ap2 = (ap0, ap1, ap2) := by unfold F_l_toPointNode; rfl
  refine c_retC hE68 rfl rfl Try.underlying115 rfl (by kernel_rfl) (St.row (i := 1) hS66 rfl _ (Ext.refl _)) ?_
  exact ⟨(by rw [hF]; first | done | (dsimp only; done) | rfl), hS66.ext⟩
theorem d_l_toPointNode (ap0 ap1 ap2 : Int) (w : World) :
    Calls Try.prog 103 #[.agg #[.int .i64 ap0, .int .i64 ap1, .int .i64 ap2]] w (Ret fun v w' => v = .agg #[.int .i64 ap0, .int .i64 ap1, .int .i64 ap2] ∧ Ext w w') := c_l_toPointNode ap0 ap1 ap2 w
theorem gi_sS3 {xs : List Int} {s j : Nat} {m y : Int} {k : Nat} (h : m.toNat * s + j < xs.length) : gi (sS s j xs m y) k = if m.toNat * s + j = k then y else gi xs k := by
  unfold sS; exact gi_set h
def F_l_toPointNodeS_L1b (ap : List Int) (rec : Int → (List Int) → Int × (List Int)) (i4 : Int) (out3 : List Int) : Int × (List Int) :=
  bif (decide (i4 < (((ap).length / 3 : Nat) : Int))) then (rec (i4 + 1) (sS 3 2 (sS 3 1 (sS 3 0 out3 i4 (gS 3 0 ap i4)) i4 (gS 3 1 ap i4)) i4 (gS 3 2 ap i4))) else (i4, out3)
def F_l_toPointNodeS_L1 (ap : List Int) : Nat → Int → (List Int) → Int × (List Int)
  | 0, i4, out3 => (i4, out3)
  | r + 1, i4, out3 => F_l_toPointNodeS_L1b ap (F_l_toPointNodeS_L1 ap r) i4 out3
def F_l_toPointNodeS (ap : List Int) : List Int :=
  (F_l_toPointNodeS_L1 ap (Int.toNat ((((ap).length / 3 : Nat) : Int) - 0) + 1) 0 (List.replicate (Int.toNat (((ap).length / 3 : Nat) : Int) * 3) 0)).2
theorem cf_l_toPointNodeS (args : Array Value) (w : World) : (callFunc 45 args).run Try.prog w = .ok (.enter 45 args) w := by kernel_rfl
set_option maxRecDepth 100000 in
theorem c_l_toPointNodeS (apA : Option Addr) (apN apC : Nat) (ap : List Int) (w : World) (apR : RdS w 3 apA apN apC ap) (hl : ap.length ≤ 3145728) :
    Calls Try.prog 45 #[.slice apA apN apC] w (Ret fun v w' => ∃ b1 : Option Addr, ∃ c1 : Nat, v = .slice b1 ((F_l_toPointNodeS ap).length / 3 : Nat) c1 ∧ OwnS w' w.heap.size 115 3 b1 ((F_l_toPointNodeS ap).length / 3 : Nat) c1 (F_l_toPointNodeS ap) ∧ Ext w w') := by
  obtain rfl : apN = ap.length / 3 := (apR.lenD (by decide)).symm
  have apEv := apR.ev (by decide)
  have apLe := apR.le
  have hS := St.nil w
  have hS1 := St.rd0 hS rfl apR; clear hS
  refine enter (args := [.slice apA ((ap).length / 3 : Nat) apC]) Try.func45 rfl rfl ?_
  rw [Try.ntmps45]; intro a hE
  have hE := hE.sub (L' := [(0, .slice apA ((ap).length / 3 : Nat) apC)]) ⟨rfl, trivial⟩
  refine c_seq ?_
  refine c_reg ?_
  refine q_step (v := .slice none 0 0) hE (y_assign rfl) rfl rfl rfl ?_; intro a2 hE3; clear hE
  refine c_nil ?_
  have hE4 := hE3.sub (L' := [(0, .slice apA ((ap).length / 3 : Nat) apC)]) ⟨rfl, trivial⟩; clear hE3
  refine p_tn ?_
  refine c_seq ?_
  refine c_reg ?_
  refine q_step (v := .slice apA ((ap).length / 3 : Nat) apC) hE4 (y_move rfl) rfl rfl rfl ?_; intro a5 hE6; clear hE4
  refine q_step (v := .int .i64 (((ap).length / 3 : Nat) : Int)) hE6 (y_len (e := 117) (by kernel_rfl) rfl) rfl rfl rfl ?_; intro a7 hE8; clear hE6
  refine l_step hE8 rfl (l_make3 (e := 115) (m := (((ap).length / 3 : Nat) : Int)) (n' := ((List.replicate (Int.toNat (((ap).length / 3 : Nat) : Int) * 3) (0 : Int)).length / 3 : Nat)) hS1 hE8 (by kernel_rfl) (by kernel_rfl) rfl rfl (by omega) (by omega) rfl (by simp) ?_)
  intro b9 w10 hS13 he14 a11 hE12; clear hS1 hE8
  have hv15 : (List.replicate (Int.toNat (((ap).length / 3 : Nat) : Int) * 3) (0 : Int)).length = Int.toNat (((ap).length / 3 : Nat) : Int) * 3 := List.length_replicate
  refine q_step (v := .slice b9 ((List.replicate (Int.toNat (((ap).length / 3 : Nat) : Int) * 3) (0 : Int)).length / 3 : Nat) ((List.replicate (Int.toNat (((ap).length / 3 : Nat) : Int) * 3) (0 : Int)).length / 3 : Nat)) hE12 (y_assign rfl) rfl rfl rfl ?_; intro a16 hE17; clear hE12
  refine c_nil ?_
  have hE18 := hE17.sub (L' := [(0, .slice apA ((ap).length / 3 : Nat) apC), (3, .slice b9 ((List.replicate (Int.toNat (((ap).length / 3 : Nat) : Int) * 3) (0 : Int)).length / 3 : Nat) ((List.replicate (Int.toNat (((ap).length / 3 : Nat) : Int) * 3) (0 : Int)).length / 3 : Nat))]) ⟨rfl, rfl, trivial⟩; clear hE17
  refine p_tn ?_
  refine c_seq ?_
  refine c_seq ?_
  refine c_reg ?_
  refine q_step (v := .int .i64 0) hE18 (y_assign rfl) rfl rfl rfl ?_; intro a19 hE20; clear hE18
  refine c_nil ?_
  have hE21 := hE20.sub (L' := [(0, .slice apA ((ap).length / 3 : Nat) apC), (3, .slice b9 ((List.replicate (Int.toNat (((ap).length / 3 : Nat) : Int) * 3) (0 : Int)).length / 3 : Nat) ((List.replicate (Int.toNat (((ap).length / 3 : Nat) : Int) * 3) (0 : Int)).length / 3 : Nat)), (4, .int .i64 0)]) ⟨rfl, rfl, rfl, trivial⟩; clear hE20
  refine p_tn ?_
  refine c_cut1 (fun a' w' => (0 ≤ ((F_l_toPointNodeS_L1 ap (Int.toNat ((((ap).length / 3 : Nat) : Int) - 0) + 1) 0 (List.replicate (Int.toNat (((ap).length / 3 : Nat) : Int) * 3) 0)).1)) ∧ (((F_l_toPointNodeS_L1 ap (Int.toNat ((((ap).length / 3 : Nat) : Int) - 0) + 1) 0 (List.replicate (Int.toNat (((ap).length / 3 : Nat) : Int) * 3) 0)).2).length = ap.length) ∧ (((F_l_toPointNodeS_L1 ap (Int.toNat ((((ap).length / 3 : Nat) : Int) - 0) + 1) 0 (List.replicate (Int.toNat (((ap).length / 3 : Nat) : Int) * 3) 0)).1) ≤ (((ap).length / 3 : Nat) : Int)) ∧ E a' 23 [(0, .slice apA ((ap).length / 3 : Nat) apC), (3, .slice b9 ((List.replicate (Int.toNat (((ap).length / 3 : Nat) : Int) * 3) (0 : Int)).length / 3 : Nat) ((List.replicate (Int.toNat (((ap).length / 3 : Nat) : Int) * 3) (0 : Int)).length / 3 : Nat)), (4, .int .i64 ((F_l_toPointNodeS_L1 ap (Int.toNat ((((ap).length / 3 : Nat) : Int) - 0) + 1) 0 (List.replicate (Int.toNat (((ap).length / 3 : Nat) : Int) * 3) 0)).1))] ∧ St w w' [.own 115 3 b9 ((List.replicate (Int.toNat (((ap).length / 3 : Nat) : Int) * 3) (0 : Int)).length / 3 : Nat) ((List.replicate (Int.toNat (((ap).length / 3 : Nat) : Int) * 3) (0 : Int)).length / 3 : Nat) ((F_l_toPointNodeS_L1 ap (Int.toNat ((((ap).length / 3 : Nat) : Int) - 0) + 1) 0 (List.replicate (Int.toNat (((ap).length / 3 : Nat) : Int) * 3) 0)).2), .rd 3 apA ((ap).length / 3 : Nat) apC ap]) ?_ ?_
  ·
   refine wp_block ?_
   refine c_loop (fun r a' w' => ∃ i4 : Int, ∃ out3 : List Int, F_l_toPointNodeS_L1 ap r i4 out3 = F_l_toPointNodeS_L1 ap (Int.toNat ((((ap).length / 3 : Nat) : Int) - 0) + 1) 0 (List.replicate (Int.toNat (((ap).length / 3 : Nat) : Int) * 3) 0) ∧ Int.toNat ((((ap).length / 3 : Nat) : Int) - i4) < r ∧ (0 ≤ i4) ∧ (out3.length = ap.length) ∧ (i4 ≤ (((ap).length / 3 : Nat) : Int)) ∧ E a' 23 [(0, .slice apA ((ap).length / 3 : Nat) apC), (3, .slice b9 ((List.replicate (Int.toNat (((ap).length / 3 : Nat) : Int) * 3) (0 : Int)).length / 3 : Nat) ((List.replicate (Int.toNat (((ap).length / 3 : Nat) : Int) * 3) (0 : Int)).length / 3 : Nat)), (4, .int .i64 i4)] ∧ St w w' [.own 115 3 b9 ((List.replicate (Int.toNat (((ap).length / 3 : Nat) : Int) * 3) (0 : Int)).length / 3 : Nat) ((List.replicate (Int.toNat (((ap).length / 3 : Nat) : Int) * 3) (0 : Int)).length / 3 : Nat) out3, .rd 3 apA ((ap).length / 3 : Nat) apC ap]) (r := (Int.toNat ((((ap).length / 3 : Nat) : Int) - 0) + 1)) ?_ ?_
   · exact ⟨0, List.replicate (Int.toNat (((ap).length / 3 : Nat) : Int) * 3) 0, rfl, Nat.lt_succ_self _, (by first | omega | (simp only [sS_len, sL_len]; omega) | (simp only [List.length_replicate, sI_len]; omega) | (simp only [List.length_append, List.length_cons, List.length_nil, sI_len, cond_true, cond_false]; omega) | (simp only [List.length_append, List.length_cons, List.length_nil, sI_len, cond_eq_ite, apply_ite List.length]; split <;> simp only [List.length_append, List.length_cons, List.length_nil, sI_len] <;> omega) | grind), (by first | omega | (simp only [sS_len, sL_len]; omega) | (simp only [List.length_replicate, sI_len]; omega) | (simp only [List.length_append, List.length_cons, List.length_nil, sI_len, cond_true, cond_false]; omega) | (simp only [List.length_append, List.length_cons, List.length_nil, sI_len, cond_eq_ite, apply_ite List.length]; split <;> simp only [List.length_append, List.length_cons, List.length_nil, sI_len] <;> omega) | grind), (by first | omega | (simp only [sS_len, sL_len]; omega) | (simp only [List.length_replicate, sI_len]; omega) | (simp only [List.length_append, List.length_cons, List.length_nil, sI_len, cond_true, cond_false]; omega) | (simp only [List.length_append, List.length_cons, List.length_nil, sI_len, cond_eq_ite, apply_ite List.length]; split <;> simp only [List.length_append, List.length_cons, List.length_nil, sI_len] <;> omega) | grind), (hE21.sub (L' := [(0, .slice apA ((ap).length / 3 : Nat) apC), (3, .slice b9 ((List.replicate (Int.toNat (((ap).length / 3 : Nat) : Int) * 3) (0 : Int)).length / 3 : Nat) ((List.replicate (Int.toNat (((ap).length / 3 : Nat) : Int) * 3) (0 : Int)).length / 3 : Nat)), (4, .int .i64 0)]) ⟨rfl, rfl, rfl, trivial⟩), (St.pick (Γ' := [.own 115 3 b9 ((List.replicate (Int.toNat (((ap).length / 3 : Nat) : Int) * 3) (0 : Int)).length / 3 : Nat) ((List.replicate (Int.toNat (((ap).length / 3 : Nat) : Int) * 3) (0 : Int)).length / 3 : Nat) (List.replicate (Int.toNat (((ap).length / 3 : Nat) : Int) * 3) 0), .rd 3 apA ((ap).length / 3 : Nat) apC ap]) hS13 [0, 1] (by decide) rfl)⟩
   ·
    clear hE21 hS13
    rintro r32 a23 w24 ⟨i4, out3, hT27, hr28, hi29, hi30, hi31, hE25, hS26⟩
    obtain ⟨r32, rfl⟩ : ∃ r', r32 = r' + 1 := ⟨r32 - 1, by omega⟩
    refine c_seq ?_
    refine c_seq ?_
    refine c_reg ?_
    refine q_step (v := .int .i64 i4) hE25 (y_move rfl) rfl rfl rfl ?_; intro a33 hE34; clear hE25
    refine q_step (v := .slice apA ((ap).length / 3 : Nat) apC) hE34 (y_move rfl) rfl rfl rfl ?_; intro a35 hE36; clear hE34
    refine q_step (v := .int .i64 (((ap).length / 3 : Nat) : Int)) hE36 (y_len (e := 117) (by kernel_rfl) rfl) rfl rfl rfl ?_; intro a37 hE38; clear hE36
    refine q_step (v := .bool (decide (i4 < (((ap).length / 3 : Nat) : Int)))) hE38 (y_lss rfl rfl) rfl rfl rfl ?_; intro a39 hE40; clear hE38
    refine c_nil ?_
    have hE41 := hE40.sub (L' := [(0, .slice apA ((ap).length / 3 : Nat) apC), (3, .slice b9 ((List.replicate (Int.toNat (((ap).length / 3 : Nat) : Int) * 3) (0 : Int)).length / 3 : Nat) ((List.replicate (Int.toNat (((ap).length / 3 : Nat) : Int) * 3) (0 : Int)).length / 3 : Nat)), (4, .int .i64 i4), (11, .bool (decide (i4 < (((ap).length / 3 : Nat) : Int))))]) ⟨rfl, rfl, rfl, rfl, trivial⟩; clear hE40
    refine p_tn ?_
    refine c_cond hE41 rfl (fun ht42 => ?_) (fun ht42 => ?_)
    ·
     have hp43 := of_decide_eq_true ht42
     have hE44 := hE41; rw [ht42] at hE44; clear hE41
     refine wp_skip ?_
     refine p_tn ?_
     refine c_seq ?_
     refine wp_block ?_
     refine c_reg ?_
     refine q_step (v := .slice b9 ((List.replicate (Int.toNat (((ap).length / 3 : Nat) : Int) * 3) (0 : Int)).length / 3 : Nat) ((List.replicate (Int.toNat (((ap).length / 3 : Nat) : Int) * 3) (0 : Int)).length / 3 : Nat)) hE44 (y_move rfl) rfl rfl rfl ?_; intro a45 hE46; clear hE44
     refine q_step (v := .int .i64 i4) hE46 (y_move rfl) rfl rfl rfl ?_; intro a47 hE48; clear hE46
     refine q_step (v := .slice apA ((ap).length / 3 : Nat) apC) hE48 (y_move rfl) rfl rfl rfl ?_; intro a49 hE50; clear hE48
     refine q_step (v := .int .i64 i4) hE50 (y_move rfl) rfl rfl rfl ?_; intro a51 hE52; clear hE50
     refine q_step (v := .pointer (some (adr apA (Int.toNat i4 * 3)))) hE52 (y_idx (by kernel_rfl) (fun _ => by kernel_rfl) rfl rfl (RdS.isS (m := i4) (St.rdR (i := 1) hS26 rfl) (by omega) (by omega)) (by omega) (by omega) rfl) rfl rfl rfl ?_; intro a53 hE54; clear hE52
     refine q_step (v := .agg #[.int .i64 (gS 3 0 ap i4), .int .i64 (gS 3 1 ap i4), .int .i64 (gS 3 2 ap i4)]) hE54 (y_loadE Try.underlying117 rfl (by kernel_rfl) rfl (RdS.rng3 (St.rdR (i := 1) hS26 rfl) (by omega) (by omega))) rfl rfl rfl ?_; intro a55 hE56; clear hE54
     refine l_step hE56 rfl (l_call (f := 103) (argv := [.agg #[.int .i64 (gS 3 0 ap i4), .int .i64 (gS 3 1 ap i4), .int .i64 (gS 3 2 ap i4)]]) hE56 (fun _ => cf_l_toPointNode _ _) rfl rfl (d_l_toPointNode (gS 3 0 ap i4) (gS 3 1 ap i4) (gS 3 2 ap i4) w24) ?_)
     rintro _ w58 ⟨rfl, he62⟩ a59 hE60; clear hE56
     have hS61 := St.go hS26 he62; clear hS26
     refine q_step (v := .pointer (some (adr b9 (Int.toNat i4 * 3)))) hE60 (y_idx (by kernel_rfl) (fun _ => by kernel_rfl) rfl rfl (RdS.isS (m := i4) (St.rdO (i := 0) hS61 rfl) (by omega) (by omega)) (by omega) (by omega) rfl) rfl rfl rfl ?_; intro a63 hE64; clear hE60
     refine l_step hE64 rfl (l_storeE3 (k := 0) hS61 hE64 (fun _ => by kernel_rfl) rfl rfl rfl (by omega) (by omega) ?_)
     intro w66 hS69 a67 hE68; clear hS61 hE64
     refine c_nil ?_
     have hE71 := hE68.sub (L' := [(0, .slice apA ((ap).length / 3 : Nat) apC), (3, .slice b9 ((List.replicate (Int.toNat (((ap).length / 3 : Nat) : Int) * 3) (0 : Int)).length / 3 : Nat) ((List.replicate (Int.toNat (((ap).length / 3 : Nat) : Int) * 3) (0 : Int)).length / 3 : Nat)), (4, .int .i64 i4)]) ⟨rfl, rfl, rfl, trivial⟩; clear hE68
     refine p_bn ?_
     refine p_tn ?_
     refine c_reg ?_
     refine q_step (v := .int .i64 i4) hE71 (y_move rfl) rfl rfl rfl ?_; intro a72 hE73; clear hE71
     refine q_step (v := .int .i64 (i4 + 1)) hE73 (y_add rfl rfl ⟨(by omega), (by omega)⟩) rfl rfl rfl ?_; intro a74 hE75; clear hE73
     refine q_step (v := .int .i64 (i4 + 1)) hE75 (y_assign rfl) rfl rfl rfl ?_; intro a76 hE77; clear hE75
     refine c_nil ?_
     have hE78 := hE77.sub (L' := [(0, .slice apA ((ap).length / 3 : Nat) apC), (3, .slice b9 ((List.replicate (Int.toNat (((ap).length / 3 : Nat) : Int) * 3) (0 : Int)).length / 3 : Nat) ((List.replicate (Int.toNat (((ap).length / 3 : Nat) : Int) * 3) (0 : Int)).length / 3 : Nat)), (4, .int .i64 (i4 + 1))]) ⟨rfl, rfl, rfl, trivial⟩; clear hE77
     refine p_tn ⟨r32, Nat.lt_succ_self _, i4 + 1, sS 3 2 (sS 3 1 (sS 3 0 out3 i4 (gS 3 0 ap i4)) i4 (gS 3 1 ap i4)) i4 (gS 3 2 ap i4), (hT27.symm.trans (show F_l_toPointNodeS_L1b ap (F_l_toPointNodeS_L1 ap r32) i4 out3 = F_l_toPointNodeS_L1 ap r32 (i4 + 1) (sS 3 2 (sS 3 1 (sS 3 0 out3 i4 (gS 3 0 ap i4)) i4 (gS 3 1 ap i4)) i4 (gS 3 2 ap i4)) by unfold F_l_toPointNodeS_L1b; rw [ht42]; first | done | rfl)).symm, (by omega), (by first | omega | (simp only [sS_len, sL_len]; omega) | (simp only [List.length_replicate, sI_len]; omega) | (simp only [List.length_append, List.length_cons, List.length_nil, sI_len, cond_true, cond_false]; omega) | (simp only [List.length_append, List.length_cons, List.length_nil, sI_len, cond_eq_ite, apply_ite List.length]; split <;> simp only [List.length_append, List.length_cons, List.length_nil, sI_len] <;> omega) | grind), (by first | omega | (simp only [sS_len, sL_len]; omega) | (simp only [List.length_replicate, sI_len]; omega) | (simp only [List.length_append, List.length_cons, List.length_nil, sI_len, cond_true, cond_false]; omega) | (simp only [List.length_append, List.length_cons, List.length_nil, sI_len, cond_eq_ite, apply_ite List.length]; split <;> simp only [List.length_append, List.length_cons, List.length_nil, sI_len] <;> omega) | grind), (by first | omega | (simp only [sS_len, sL_len]; omega) | (simp only [List.length_replicate, sI_len]; omega) | (simp only [List.length_append, List.length_cons, List.length_nil, sI_len, cond_true, cond_false]; omega) | (simp only [List.length_append, List.length_cons, List.length_nil, sI_len, cond_eq_ite, apply_ite List.length]; split <;> simp only [List.length_append, List.length_cons, List.length_nil, sI_len] <;> omega) | grind), (hE78.sub (L' := [(0, .slice apA ((ap).length / 3 : Nat) apC), (3, .slice b9 ((List.replicate (Int.toNat (((ap).length / 3 : Nat) : Int) * 3) (0 : Int)).length / 3 : Nat) ((List.replicate (Int.toNat (((ap).length / 3 : Nat) : Int) * 3) (0 : Int)).length / 3 : Nat)), (4, .int .i64 (i4 + 1))]) ⟨rfl, rfl, rfl, trivial⟩), (St.pick (Γ' := [.own 115 3 b9 ((List.replicate (Int.toNat (((ap).length / 3 : Nat) : Int) * 3) (0 : Int)).length / 3 : Nat) ((List.replicate (Int.toNat (((ap).length / 3 : Nat) : Int) * 3) (0 : Int)).length / 3 : Nat) (sS 3 2 (sS 3 1 (sS 3 0 out3 i4 (gS 3 0 ap i4)) i4 (gS 3 1 ap i4)) i4 (gS 3 2 ap i4)), .rd 3 apA ((ap).length / 3 : Nat) apC ap]) hS69 [0, 1] (by decide) rfl)⟩
    ·
     have hp79 := of_decide_eq_false ht42
     have hE80 := hE41; rw [ht42] at hE80; clear hE41
     refine wp_exit ?_
     refine p_te ?_
     have hX81 : F_l_toPointNodeS_L1 ap (Int.toNat ((((ap).length / 3 : Nat) : Int) - 0) + 1) 0 (List.replicate (Int.toNat (((ap).length / 3 : Nat) : Int) * 3) 0) = (i4, out3) := hT27.symm.trans (show F_l_toPointNodeS_L1b ap (F_l_toPointNodeS_L1 ap r32) i4 out3 = (i4, out3) by unfold F_l_toPointNodeS_L1b; rw [ht42]; first | done | rfl)
     refine p_te (p_be (p_tn ?_))
     exact ⟨(by rw [hX81]; exact (show 0 ≤ i4 from (by first | omega | (simp only [sS_len, sL_len]; omega) | (simp only [List.length_replicate, sI_len]; omega) | (simp only [List.length_append, List.length_cons, List.length_nil, sI_len, cond_true, cond_false]; omega) | (simp only [List.length_append, List.length_cons, List.length_nil, sI_len, cond_eq_ite, apply_ite List.length]; split <;> simp only [List.length_append, List.length_cons, List.length_nil, sI_len] <;> omega) | grind))), (by rw [hX81]; exact (show out3.length = ap.length from (by first | omega | (simp only [sS_len, sL_len]; omega) | (simp only [List.length_replicate, sI_len]; omega) | (simp only [List.length_append, List.length_cons, List.length_nil, sI_len, cond_true, cond_false]; omega) | (simp only [List.length_append, List.length_cons, List.length_nil, sI_len, cond_eq_ite, apply_ite List.length]; split <;> simp only [List.length_append, List.length_cons, List.length_nil, sI_len] <;> omega) | grind))), (by rw [hX81]; exact (show i4 ≤ (((ap).length / 3 : Nat) : Int) from (by first | omega | (simp only [sS_len, sL_len]; omega) | (simp only [List.length_replicate, sI_len]; omega) | (simp only [List.length_append, List.length_cons, List.length_nil, sI_len, cond_true, cond_false]; omega) | (simp only [List.length_append, List.length_cons, List.length_nil, sI_len, cond_eq_ite, apply_ite List.length]; split <;> simp only [List.length_append, List.length_cons, List.length_nil, sI_len] <;> omega) | grind))), (by rw [hX81]; exact (hE80.sub (L' := [(0, .slice apA ((ap).length / 3 : Nat) apC), (3, .slice b9 ((List.replicate (Int.toNat (((ap).length / 3 : Nat) : Int) * 3) (0 : Int)).length / 3 : Nat) ((List.replicate (Int.toNat (((ap).length / 3 : Nat) : Int) * 3) (0 : Int)).length / 3 : Nat)), (4, .int .i64 i4)]) ⟨rfl, rfl, rfl, trivial⟩)), (by rw [hX81]; exact (St.pick (Γ' := [.own 115 3 b9 ((List.replicate (Int.toNat (((ap).length / 3 : Nat) : Int) * 3) (0 : Int)).length / 3 : Nat) ((List.replicate (Int.toNat (((ap).length / 3 : Nat) : Int) * 3) (0 : Int)).length / 3 : Nat) out3, .rd 3 apA ((ap).length / 3 : Nat) apC ap]) hS26 [0, 1] (by decide) rfl))⟩
  ·
   rintro a82 w83 ⟨hi87, hi88, hi89, hE84, hS85⟩; clear hE21 hS13
   refine p_tn ?_
   refine c_seq ?_
   refine c_reg ?_
   refine q_step (v := .slice b9 ((List.replicate (Int.toNat (((ap).length / 3 : Nat) : Int) * 3) (0 : Int)).length / 3 : Nat) ((List.replicate (Int.toNat (((ap).length / 3 : Nat) : Int) * 3) (0 : Int)).length / 3 : Nat)) hE84 (y_move rfl) rfl rfl rfl ?_; intro a90 hE91; clear hE84
   refine q_step (v := .slice b9 ((List.replicate (Int.toNat (((ap).length / 3 : Nat) : Int) * 3) (0 : Int)).length / 3 : Nat) ((List.replicate (Int.toNat (((ap).length / 3 : Nat) : Int) * 3) (0 : Int)).length / 3 : Nat)) hE91 (y_assign rfl) rfl rfl rfl ?_; intro a92 hE93; clear hE91
   refine c_nil ?_
   have hE94 := hE93.sub (L' := [(2, .slice b9 ((List.replicate (Int.toNat (((ap).length / 3 : Nat) : Int) * 3) (0 : Int)).length / 3 : Nat) ((List.replicate (Int.toNat (((ap).length / 3 : Nat) : Int) * 3) (0 : Int)).length / 3 : Nat))]) ⟨rfl, trivial⟩; clear hE93
   refine p_tn ?_
   refine wp_ret ?_
   have hF : F_l_toPointNodeS ap = (F_l_toPointNodeS_L1 ap (Int.toNat ((((ap).length / 3 : Nat) : Int) - 0) + 1) 0 (List.replicate (Int.toNat (((ap).length / 3 : Nat) : Int) * 3) 0)).2 := by unfold F_l_toPointNodeS; rfl
   refine c_ret1 hE94 rfl rfl ?_
   exact ⟨b9, ((List.replicate (Int.toNat (((ap).length / 3 : Nat) : Int) * 3) (0 : Int)).length / 3 : Nat), (by rw [hF]; first | rfl | (rw [((St.rdO (i := 0) hS85 rfl).lenD (by decide))])), (by rw [hF, ((St.rdO (i := 0) hS85 rfl).lenD (by decide))]; (try dsimp only); exact hS85.ok 0 _ rfl), hS85.ext⟩
theorem toPtS_key (ap : List Int) (he : ap.length = ap.length / 3 * 3) : ∀ (k : Nat) (i : Int) (xs : List Int), 0 ≤ i → ((ap.length / 3 : Nat) : Int) - i = k → xs.length = ap.length → (∀ j : Nat, (j : Int) < 3 * i → gi xs j = gi ap j) → (F_l_toPointNodeS_L1 ap (k + 1) i xs).2 = ap := by
  intro k
  induction k with
  | zero =>
    intro i xs h0 hk hl hp
    show (F_l_toPointNodeS_L1b ap _ i xs).2 = ap
    unfold F_l_toPointNodeS_L1b
    rw [decide_eq_false (by omega)]
    show xs = ap
    exact ext_gi hl fun j hj => hp j (by omega)
  | succ k ih =>
    intro i xs h0 hk hl hp
    show (F_l_toPointNodeS_L1b ap _ i xs).2 = ap
    unfold F_l_toPointNodeS_L1b
    rw [decide_eq_true (by omega)]
    refine ih (i + 1) (sS 3 2 (sS 3 1 (sS 3 0 xs i (gS 3 0 ap i)) i (gS 3 1 ap i)) i (gS 3 2 ap i)) (by omega) (by omega) (by rw [sS_len, sS_len, sS_len]; exact hl) fun j hj => ?_
    rw [gi_sS3 (by rw [sS_len, sS_len]; omega), gi_sS3 (by rw [sS_len]; omega), gi_sS3 (by omega)]
    by_cases e : i.toNat * 3 + 2 = j
    · rw [if_pos e]; unfold gS; rw [e]
    · rw [if_neg e]
      by_cases e' : i.toNat * 3 + 1 = j
      · rw [if_pos e']; unfold gS; rw [e']
      · rw [if_neg e']
        by_cases e2 : i.toNat * 3 + 0 = j
        · rw [if_pos e2]; unfold gS; rw [e2]
        · rw [if_neg e2]; exact hp j (by omega)
theorem toPtS_eq (ap : List Int) (he : ap.length = ap.length / 3 * 3) : F_l_toPointNodeS ap = ap := by
  unfold F_l_toPointNodeS
  have e : Int.toNat (((ap.length / 3 : Nat) : Int) - 0) = ap.length / 3 := by omega
  rw [e]
  exact toPtS_key ap he (ap.length / 3) 0 _ (by omega) (by omega) (by rw [List.length_replicate, Int.toNat_natCast]; omega) fun j hj => by omega
theorem d_l_toPointNodeS (apA : Option Addr) (apN apC : Nat) (ap : List Int) (w : World) (apR : RdS w 3 apA apN apC ap) (hl : ap.length ≤ 3145728) :
    Calls Try.prog 45 #[.slice apA apN apC] w (Ret fun v w' => ∃ b1 : Option Addr, ∃ c1 : Nat, v = .slice b1 ((ap).length / 3 : Nat) c1 ∧ OwnS w' w.heap.size 115 3 b1 ((ap).length / 3 : Nat) c1 ap ∧ Ext w w') := by
  have := c_l_toPointNodeS apA apN apC ap w apR hl
  rwa [toPtS_eq ap (apR.ev (by decide))] at this
def F_l_eqPointNode (ap0 : Int) (ap1 : Int) (ap2 : Int) (bp0 : Int) (bp1 : Int) (bp2 : Int) : Bool :=
  bif (!decide (ap0 = bp0)) then false else (bif (!decide (ap1 = bp1)) then false else (bif (!decide (ap2 = bp2)) then false else true))
theorem cf_l_eqPointNode (args : Array Value) (w : World) : (callFunc 111 args).run Try.prog w = .ok (.enter 111 args) w := by kernel_rfl
set_option maxRecDepth 100000 in
theorem c_l_eqPointNode (ap0 : Int) (ap1 : Int) (ap2 : Int) (bp0 : Int) (bp1 : Int) (bp2 : Int) (w : World) :
    Calls Try.prog 111 #[.agg #[.int .i64 ap0, .int .i64 ap1, .int .i64 ap2], .agg #[.int .i64 bp0, .int .i64 bp1, .int .i64 bp2]] w (Ret fun v w' => v = .bool (F_l_eqPointNode ap0 ap1 ap2 bp0 bp1 bp2) ∧ Ext w w') := by
  have hS := St.nil w
  refine enter (args := [.agg #[.int .i64 ap0, .int .i64 ap1, .int .i64 ap2], .agg #[.int .i64 bp0, .int .i64 bp1, .int .i64 bp2]]) Try.func111 rfl rfl ?_
  rw [Try.ntmps111]; intro a hE
  have hE := hE.sub (L' := [(0, .agg #[.int .i64 ap0, .int .i64 ap1, .int .i64 ap2]), (1, .agg #[.int .i64 bp0, .int .i64 bp1, .int .i64 bp2])]) ⟨rfl, rfl, trivial⟩
  refine c_seq ?_
  refine c_reg ?_
  refine l_step hE rfl (l_box (v := .agg #[.int .i64 ap0, .int .i64 ap1, .int .i64 ap2]) (cs := #[.int .i64 ap0, .int .i64 ap1, .int .i64 ap2]) hS hE rfl rfl rfl ?_)
  intro b1 w2 hS5 he6 a3 hE4; clear hS hE
  refine l_step hE4 rfl (l_box (v := .agg #[.int .i64 bp0, .int .i64 bp1, .int .i64 bp2]) (cs := #[.int .i64 bp0, .int .i64 bp1, .int .i64 bp2]) hS5 hE4 rfl rfl rfl ?_)
  intro b7 w8 hS11 he12 a9 hE10; clear hS5 hE4
  refine q_step (v := .bool false) hE10 (y_assign rfl) rfl rfl rfl ?_; intro a13 hE14; clear hE10
  refine c_nil ?_
  have hE15 := hE14.sub (L' := [(2, .pointer (some ⟨b1, 0, none⟩)), (3, .pointer (some ⟨b7, 0, none⟩))]) ⟨rfl, rfl, trivial⟩; clear hE14
  refine p_tn ?_
  refine c_seq ?_
  refine c_seq ?_
  refine c_reg ?_
  refine q_step (v := .pointer (some ⟨b1, 0, none⟩)) hE15 (y_field rfl (fun _ => by kernel_rfl)) rfl rfl rfl ?_; intro a16 hE17; clear hE15
  refine q_step (v := .int .i64 ap0) hE17 (y_load (fun _ => by kernel_rfl) rfl (St.cell (i := 1) hS11 rfl rfl)) rfl rfl rfl ?_; intro a18 hE19; clear hE17
  refine q_step (v := .pointer (some ⟨b7, 0, none⟩)) hE19 (y_field rfl (fun _ => by kernel_rfl)) rfl rfl rfl ?_; intro a20 hE21; clear hE19
  refine q_step (v := .int .i64 bp0) hE21 (y_load (fun _ => by kernel_rfl) rfl (St.cell (i := 0) hS11 rfl rfl)) rfl rfl rfl ?_; intro a22 hE23; clear hE21
  refine q_step (v := .bool (!decide (ap0 = bp0))) hE23 (y_neq rfl rfl) rfl rfl rfl ?_; intro a24 hE25; clear hE23
  refine c_nil ?_
  have hE26 := hE25.sub (L' := [(2, .pointer (some ⟨b1, 0, none⟩)), (3, .pointer (some ⟨b7, 0, none⟩)), (9, .bool (!decide (ap0 = bp0)))]) ⟨rfl, rfl, rfl, trivial⟩; clear hE25
  refine p_tn ?_
  refine c_cond hE26 rfl (fun ht27 => ?_) (fun ht27 => ?_)
  ·
   have ht28 := bn_t ht27
   have hp29 := of_decide_eq_false ht28
   have hE30 := hE26; rw [ht27] at hE30; clear hE26
   refine c_seq ?_
   refine c_reg ?_
   refine q_step (v := .bool false) hE30 (y_assign rfl) rfl rfl rfl ?_; intro a31 hE32; clear hE30
   refine c_nil ?_
   have hE33 := hE32.sub (L' := [(4, .bool false)]) ⟨rfl, trivial⟩; clear hE32
   refine p_tn ?_
   refine wp_ret ?_
   refine p_tr ?_
   have hF : F_l_eqPointNode ap0 ap1 ap2 bp0 bp1 bp2 = false := by unfold F_l_eqPointNode; rw [ht27]; first | done | rfl
   refine c_ret1 hE33 rfl rfl ?_
   exact ⟨(by rw [hF]; first | done | (dsimp only; done) | rfl), hS11.ext⟩
  ·
   have ht34 := bn_f ht27
   have hp35 := of_decide_eq_true ht34
   have hE36 := hE26; rw [ht27] at hE36; clear hE26
   refine wp_skip ?_
   refine p_tn ?_
   refine c_seq ?_
   refine c_seq ?_
   refine c_reg ?_
   refine q_step (v := .pointer (some ⟨b1, 1, none⟩)) hE36 (y_field rfl (fun _ => by kernel_rfl)) rfl rfl rfl ?_; intro a37 hE38; clear hE36
   refine q_step (v := .int .i64 ap1) hE38 (y_load (fun _ => by kernel_rfl) rfl (St.cell (i := 1) hS11 rfl rfl)) rfl rfl rfl ?_; intro a39 hE40; clear hE38
   refine q_step (v := .pointer (some ⟨b7, 1, none⟩)) hE40 (y_field rfl (fun _ => by kernel_rfl)) rfl rfl rfl ?_; intro a41 hE42; clear hE40
   refine q_step (v := .int .i64 bp1) hE42 (y_load (fun _ => by kernel_rfl) rfl (St.cell (i := 0) hS11 rfl rfl)) rfl rfl rfl ?_; intro a43 hE44; clear hE42
   refine q_step (v := .bool (!decide (ap1 = bp1))) hE44 (y_neq rfl rfl) rfl rfl rfl ?_; intro a45 hE46; clear hE44
   refine c_nil ?_
   have hE47 := hE46.sub (L' := [(2, .pointer (some ⟨b1, 0, none⟩)), (3, .pointer (some ⟨b7, 0, none⟩)), (14, .bool (!decide (ap1 = bp1)))]) ⟨rfl, rfl, rfl, trivial⟩; clear hE46
   refine p_tn ?_
   refine c_cond hE47 rfl (fun ht48 => ?_) (fun ht48 => ?_)
   ·
    have ht49 := bn_t ht48
    have hp50 := of_decide_eq_false ht49
    have hE51 := hE47; rw [ht48] at hE51; clear hE47
    refine c_seq ?_
    refine c_reg ?_
    refine q_step (v := .bool false) hE51 (y_assign rfl) rfl rfl rfl ?_; intro a52 hE53; clear hE51
    refine c_nil ?_
    have hE54 := hE53.sub (L' := [(4, .bool false)]) ⟨rfl, trivial⟩; clear hE53
    refine p_tn ?_
    refine wp_ret ?_
    refine p_tr ?_
    have hF : F_l_eqPointNode ap0 ap1 ap2 bp0 bp1 bp2 = false := by unfold F_l_eqPointNode; rw [ht48, ht27]; first | done | rfl
    refine c_ret1 hE54 rfl rfl ?_
    exact ⟨(by rw [hF]; first | done | (dsimp only; done) | rfl), hS11.ext⟩
   ·
    have ht55 := bn_f ht48
    have hp56 := of_decide_eq_true ht55
    have hE57 := hE47; rw [ht48] at hE57; clear hE47
    refine wp_skip ?_
    refine p_tn ?_
    refine c_seq ?_
    refine c_seq ?_
    refine c_reg ?_
    refine q_step (v := .pointer (some ⟨b1, 2, none⟩)) hE57 (y_field rfl (fun _ => by kernel_rfl)) rfl rfl rfl ?_; intro a58 hE59; clear hE57
    refine q_step (v := .int .i64 ap2) hE59 (y_load (fun _ => by kernel_rfl) rfl (St.cell (i := 1) hS11 rfl rfl)) rfl rfl rfl ?_; intro a60 hE61; clear hE59
    refine q_step (v := .pointer (some ⟨b7, 2, none⟩)) hE61 (y_field rfl (fun _ => by kernel_rfl)) rfl rfl rfl ?_; intro a62 hE63; clear hE61
    refine q_step (v := .int .i64 bp2) hE63 (y_load (fun _ => by kernel_rfl) rfl (St.cell (i := 0) hS11 rfl rfl)) rfl rfl rfl ?_; intro a64 hE65; clear hE63
    refine q_step (v := .bool (!decide (ap2 = bp2))) hE65 (y_neq rfl rfl) rfl rfl rfl ?_; intro a66 hE67; clear hE65
    refine c_nil ?_
    have hE68 := hE67.sub (L' := [(19, .bool (!decide (ap2 = bp2)))]) ⟨rfl, trivial⟩; clear hE67
    refine p_tn ?_
    refine c_cond hE68 rfl (fun ht69 => ?_) (fun ht69 => ?_)
    ·
     have ht70 := bn_t ht69
     have hp71 := of_decide_eq_false ht70
     have hE72 := hE68; rw [ht69] at hE72; clear hE68
     refine c_seq ?_
     refine c_reg ?_
     refine q_step (v := .bool false) hE72 (y_assign rfl) rfl rfl rfl ?_; intro a73 hE74; clear hE72
     refine c_nil ?_
     have hE75 := hE74.sub (L' := [(4, .bool false)]) ⟨rfl, trivial⟩; clear hE74
     refine p_tn ?_
     refine wp_ret ?_
     refine p_tr ?_
     have hF : F_l_eqPointNode ap0 ap1 ap2 bp0 bp1 bp2 = false := by unfold F_l_eqPointNode; rw [ht69, ht48, ht27]; first | done | rfl
     refine c_ret1 hE75 rfl rfl ?_
     exact ⟨(by rw [hF]; first | done | (dsimp only; done) | rfl), hS11.ext⟩
    ·
     have ht76 := bn_f ht69
     have hp77 := of_decide_eq_true ht76
     have hE78 := hE68; rw [ht69] at hE78; clear hE68
     refine wp_skip ?_
     refine p_tn ?_
     refine c_seq ?_
     refine c_reg ?_
     refine q_step (v := .bool true) hE78 (y_assign rfl) rfl rfl rfl ?_; intro a79 hE80; clear hE78
     refine c_nil ?_
     have hE81 := hE80.sub (L' := [(4, .bool true)]) ⟨rfl, trivial⟩; clear hE80
     refine p_tn ?_
     refine wp_ret ?_
     have hF : F_l_eqPointNode ap0 ap1 ap2 bp0 bp1 bp2 = true := by unfold F_l_eqPointNode; rw [ht69, ht48, ht27]; first | done | rfl
     refine c_ret1 hE81 rfl rfl ?_
     exact ⟨(by rw [hF]; first | done | (dsimp only; done) | rfl), hS11.ext⟩
theorem d_l_eqPointNode (ap0 ap1 ap2 bp0 bp1 bp2 : Int) (w : World) :
    Calls Try.prog 111 #[.agg #[.int .i64 ap0, .int .i64 ap1, .int .i64 ap2], .agg #[.int .i64 bp0, .int .i64 bp1, .int .i64 bp2]] w (Ret fun v w' => v = .bool (decide (ap0 = bp0) && (decide (ap1 = bp1) && decide (ap2 = bp2))) ∧ Ext w w') := by
  have := c_l_eqPointNode ap0 ap1 ap2 bp0 bp1 bp2 w
  have e : F_l_eqPointNode ap0 ap1 ap2 bp0 bp1 bp2 = (decide (ap0 = bp0) && (decide (ap1 = bp1) && decide (ap2 = bp2))) := by
    unfold F_l_eqPointNode
    by_cases h0 : ap0 = bp0 <;> by_cases h1 : ap1 = bp1 <;> by_cases h2 : ap2 = bp2 <;> simp [h0, h1, h2]
  rwa [e] at this
def F_l_eqPointNodeS_L1b (ap : List Int) (bp : List Int) (rec : Int → Except (Bool) (Int)) (i5 : Int) : Except (Bool) (Int) :=
  bif (decide (i5 < (((ap).length / 3 : Nat) : Int))) then (bif (!(decide ((gS 3 0 ap i5) = (gS 3 0 bp i5)) && (decide ((gS 3 1 ap i5) = (gS 3 1 bp i5)) && decide ((gS 3 2 ap i5) = (gS 3 2 bp i5))))) then (.error false) else (rec (i5 + 1))) else (.ok i5)
def F_l_eqPointNodeS_L1 (ap : List Int) (bp : List Int) : Nat → Int → Except (Bool) (Int)
  | 0, i5 => .ok i5
  | r + 1, i5 => F_l_eqPointNodeS_L1b ap bp (F_l_eqPointNodeS_L1 ap bp r) i5
def F_l_eqPointNodeS (ap : List Int) (bp : List Int) : Bool :=
  bif (!decide ((((ap).length / 3 : Nat) : Int) = (((bp).length / 3 : Nat) : Int))) then false else (bif (isOk (F_l_eqPointNodeS_L1 ap bp (Int.toNat ((((ap).length / 3 : Nat) : Int) - 0) + 1) 0)) then true else (errD (F_l_eqPointNodeS_L1 ap bp (Int.toNat ((((ap).length / 3 : Nat) : Int) - 0) + 1) 0)))
theorem cf_l_eqPointNodeS (args : Array Value) (w : World) : (callFunc 48 args).run Try.prog w = .ok (.enter 48 args) w := by kernel_rfl
set_option maxRecDepth 100000 in
theorem c_l_eqPointNodeS (apA : Option Addr) (apN apC : Nat) (ap : List Int) (bpA : Option Addr) (bpN bpC : Nat) (bp : List Int) (w : World) (apR : RdS w 3 apA apN apC ap) (bpR : RdS w 3 bpA bpN bpC bp) :
    Calls Try.prog 48 #[.slice apA apN apC, .slice bpA bpN bpC] w (Ret fun v w' => v = .bool (F_l_eqPointNodeS ap bp) ∧ Ext w w') := by
  obtain rfl : apN = ap.length / 3 := (apR.lenD (by decide)).symm
  have apEv := apR.ev (by decide)
  have apLe := apR.le
  obtain rfl : bpN = bp.length / 3 := (bpR.lenD (by decide)).symm
  have bpEv := bpR.ev (by decide)
  have bpLe := bpR.le
  have hS := St.nil w
  have hS1 := St.rd0 hS rfl apR; clear hS
  have hS2 := St.rd0 hS1 rfl bpR; clear hS1
  refine enter (args := [.slice apA ((ap).length / 3 : Nat) apC, .slice bpA ((bp).length / 3 : Nat) bpC]) Try.func48 rfl rfl ?_
  rw [Try.ntmps48]; intro a hE
  have hE := hE.sub (L' := [(0, .slice apA ((ap).length / 3 : Nat) apC), (1, .slice bpA ((bp).length / 3 : Nat) bpC)]) ⟨rfl, rfl, trivial⟩
  refine c_seq ?_
  refine c_reg ?_
  refine q_step (v := .bool false) hE (y_assign rfl) rfl rfl rfl ?_; intro a3 hE4; clear hE
  refine c_nil ?_
  have hE5 := hE4.sub (L' := [(0, .slice apA ((ap).length / 3 : Nat) apC), (1, .slice bpA ((bp).length / 3 : Nat) bpC)]) ⟨rfl, rfl, trivial⟩; clear hE4
  refine p_tn ?_
  refine c_seq ?_
  refine c_seq ?_
  refine c_reg ?_
  refine q_step (v := .slice apA ((ap).length / 3 : Nat) apC) hE5 (y_move rfl) rfl rfl rfl ?_; intro a6 hE7; clear hE5
  refine q_step (v := .int .i64 (((ap).length / 3 : Nat) : Int)) hE7 (y_len (e := 115) (by kernel_rfl) rfl) rfl rfl rfl ?_; intro a8 hE9; clear hE7
  refine q_step (v := .slice bpA ((bp).length / 3 : Nat) bpC) hE9 (y_move rfl) rfl rfl rfl ?_; intro a10 hE11; clear hE9
  refine q_step (v := .int .i64 (((bp).length / 3 : Nat) : Int)) hE11 (y_len (e := 115) (by kernel_rfl) rfl) rfl rfl rfl ?_; intro a12 hE13; clear hE11
  refine q_step (v := .bool (!decide ((((ap).length / 3 : Nat) : Int) = (((bp).length / 3 : Nat) : Int)))) hE13 (y_neq rfl rfl) rfl rfl rfl ?_; intro a14 hE15; clear hE13
  refine c_nil ?_
  have hE16 := hE15.sub (L' := [(0, .slice apA ((ap).length / 3 : Nat) apC), (1, .slice bpA ((bp).length / 3 : Nat) bpC), (10, .bool (!decide ((((ap).length / 3 : Nat) : Int) = (((bp).length / 3 : Nat) : Int))))]) ⟨rfl, rfl, rfl, trivial⟩; clear hE15
  refine p_tn ?_
  refine c_cond hE16 rfl (fun ht17 => ?_) (fun ht17 => ?_)
  ·
   have ht18 := bn_t ht17
   have hp19 := of_decide_eq_false ht18
   have hE20 := hE16; rw [ht17] at hE20; clear hE16
   refine c_seq ?_
   refine c_reg ?_
   refine q_step (v := .bool false) hE20 (y_assign rfl) rfl rfl rfl ?_; intro a21 hE22; clear hE20
   refine c_nil ?_
   have hE23 := hE22.sub (L' := [(4, .bool false)]) ⟨rfl, trivial⟩; clear hE22
   refine p_tn ?_
   refine wp_ret ?_
   refine p_tr ?_
   have hF : F_l_eqPointNodeS ap bp = false := by unfold F_l_eqPointNodeS; rw [ht17]; first | done | rfl
   refine c_ret1 hE23 rfl rfl ?_
   exact ⟨(by rw [hF]; first | done | (dsimp only; done) | rfl), hS2.ext⟩
  ·
   have ht24 := bn_f ht17
   have hp25 := of_decide_eq_true ht24
   have hE26 := hE16; rw [ht17] at hE26; clear hE16
   refine wp_skip ?_
   refine p_tn ?_
   refine c_seq ?_
   refine c_seq ?_
   refine c_reg ?_
   refine q_step (v := .int .i64 0) hE26 (y_assign rfl) rfl rfl rfl ?_; intro a27 hE28; clear hE26
   refine c_nil ?_
   have hE29 := hE28.sub (L' := [(0, .slice apA ((ap).length / 3 : Nat) apC), (1, .slice bpA ((bp).length / 3 : Nat) bpC), (5, .int .i64 0)]) ⟨rfl, rfl, rfl, trivial⟩; clear hE28
   refine p_tn ?_
   refine c_cut1 (fun a' w' => isOk (F_l_eqPointNodeS_L1 ap bp (Int.toNat ((((ap).length / 3 : Nat) : Int) - 0) + 1) 0) = true ∧ (0 ≤ (okD (F_l_eqPointNodeS_L1 ap bp (Int.toNat ((((ap).length / 3 : Nat) : Int) - 0) + 1) 0))) ∧ ((okD (F_l_eqPointNodeS_L1 ap bp (Int.toNat ((((ap).length / 3 : Nat) : Int) - 0) + 1) 0)) ≤ (((ap).length / 3 : Nat) : Int)) ∧ E a' 27 [(0, .slice apA ((ap).length / 3 : Nat) apC), (1, .slice bpA ((bp).length / 3 : Nat) bpC), (5, .int .i64 (okD (F_l_eqPointNodeS_L1 ap bp (Int.toNat ((((ap).length / 3 : Nat) : Int) - 0) + 1) 0)))] ∧ St w w' [.rd 3 bpA ((bp).length / 3 : Nat) bpC bp, .rd 3 apA ((ap).length / 3 : Nat) apC ap]) ?_ ?_
   ·
    refine wp_block ?_
    refine c_loop (fun r a' w' => ∃ i5 : Int, F_l_eqPointNodeS_L1 ap bp r i5 = F_l_eqPointNodeS_L1 ap bp (Int.toNat ((((ap).length / 3 : Nat) : Int) - 0) + 1) 0 ∧ Int.toNat ((((ap).length / 3 : Nat) : Int) - i5) < r ∧ (0 ≤ i5) ∧ (i5 ≤ (((ap).length / 3 : Nat) : Int)) ∧ E a' 27 [(0, .slice apA ((ap).length / 3 : Nat) apC), (1, .slice bpA ((bp).length / 3 : Nat) bpC), (5, .int .i64 i5)] ∧ St w w' [.rd 3 bpA ((bp).length / 3 : Nat) bpC bp, .rd 3 apA ((ap).length / 3 : Nat) apC ap]) (r := (Int.toNat ((((ap).length / 3 : Nat) : Int) - 0) + 1)) ?_ ?_
    · exact ⟨0, rfl, Nat.lt_succ_self _, (by first | omega | (simp only [sS_len, sL_len]; omega) | (simp only [List.length_replicate, sI_len]; omega) | (simp only [List.length_append, List.length_cons, List.length_nil, sI_len, cond_true, cond_false]; omega) | (simp only [List.length_append, List.length_cons, List.length_nil, sI_len, cond_eq_ite, apply_ite List.length]; split <;> simp only [List.length_append, List.length_cons, List.length_nil, sI_len] <;> omega) | grind), (by first | omega | (simp only [sS_len, sL_len]; omega) | (simp only [List.length_replicate, sI_len]; omega) | (simp only [List.length_append, List.length_cons, List.length_nil, sI_len, cond_true, cond_false]; omega) | (simp only [List.length_append, List.length_cons, List.length_nil, sI_len, cond_eq_ite, apply_ite List.length]; split <;> simp only [List.length_append, List.length_cons, List.length_nil, sI_len] <;> omega) | grind), (hE29.sub (L' := [(0, .slice apA ((ap).length / 3 : Nat) apC), (1, .slice bpA ((bp).length / 3 : Nat) bpC), (5, .int .i64 0)]) ⟨rfl, rfl, rfl, trivial⟩), (St.pick (Γ' := [.rd 3 bpA ((bp).length / 3 : Nat) bpC bp, .rd 3 apA ((ap).length / 3 : Nat) apC ap]) hS2 [0, 1] (by decide) rfl)⟩
    ·
     clear hE29 hS2
     rintro r39 a31 w32 ⟨i5, hT35, hr36, hi37, hi38, hE33, hS34⟩
     obtain ⟨r39, rfl⟩ : ∃ r', r39 = r' + 1 := ⟨r39 - 1, by omega⟩
     refine c_seq ?_
     refine c_seq ?_
     refine c_reg ?_
     refine q_step (v := .int .i64 i5) hE33 (y_move rfl) rfl rfl rfl ?_; intro a40 hE41; clear hE33
     refine q_step (v := .slice apA ((ap).length / 3 : Nat) apC) hE41 (y_move rfl) rfl rfl rfl ?_; intro a42 hE43; clear hE41
     refine q_step (v := .int .i64 (((ap).length / 3 : Nat) : Int)) hE43 (y_len (e := 115) (by kernel_rfl) rfl) rfl rfl rfl ?_; intro a44 hE45; clear hE43
     refine q_step (v := .bool (decide (i5 < (((ap).length / 3 : Nat) : Int)))) hE45 (y_lss rfl rfl) rfl rfl rfl ?_; intro a46 hE47; clear hE45
     refine c_nil ?_
     have hE48 := hE47.sub (L' := [(0, .slice apA ((ap).length / 3 : Nat) apC), (1, .slice bpA ((bp).length / 3 : Nat) bpC), (5, .int .i64 i5), (14, .bool (decide (i5 < (((ap).length / 3 : Nat) : Int))))]) ⟨rfl, rfl, rfl, rfl, trivial⟩; clear hE47
     refine p_tn ?_
     refine c_cond hE48 rfl (fun ht49 => ?_) (fun ht49 => ?_)
     ·
      have hp50 := of_decide_eq_true ht49
      have hE51 := hE48; rw [ht49] at hE51; clear hE48
      refine wp_skip ?_
      refine p_tn ?_
      refine c_seq ?_
      refine wp_block ?_
      refine c_seq ?_
      refine d_start (fun w w' => (fun w' => rngA w' (adr apA (Int.toNat i5 * 3)) [.int .i64 (gS 3 0 ap i5), .int .i64 (gS 3 1 ap i5), .int .i64 (gS 3 2 ap i5)] ∧ rngA w' (adr bpA (Int.toNat i5 * 3)) [.int .i64 (gS 3 0 bp i5), .int .i64 (gS 3 1 bp i5), .int .i64 (gS 3 2 bp i5)] ∧ True) w → (fun w' => rngA w' (adr apA (Int.toNat i5 * 3)) [.int .i64 (gS 3 0 ap i5), .int .i64 (gS 3 1 ap i5), .int .i64 (gS 3 2 ap i5)] ∧ rngA w' (adr bpA (Int.toNat i5 * 3)) [.int .i64 (gS 3 0 bp i5), .int .i64 (gS 3 1 bp i5), .int .i64 (gS 3 2 bp i5)] ∧ True) w') [3, 7] 10 (by kernel_rfl) rfl ?_
      intro w52 he53; have hS54 := St.go hS34 he53; clear hS34
      refine d_pure (fun _ h => h) (v := .slice apA ((ap).length / 3 : Nat) apC) 0 rfl hE51 (y_move rfl) rfl (by kernel_rfl) (by kernel_rfl) (by kernel_rfl) rfl rfl (fun _ _ _ h => h) ?_; intro a55 hE56; clear hE51
      refine d_pure (fun _ h => h) (v := .int .i64 i5) 1 rfl hE56 (y_move rfl) rfl (by kernel_rfl) (by kernel_rfl) (by kernel_rfl) rfl rfl (fun _ _ _ h => h) ?_; intro a57 hE58; clear hE56
      refine d_pure (fun _ h => h) (v := .pointer (some (adr apA (Int.toNat i5 * 3)))) 2 rfl hE58 (y_idx (by kernel_rfl) (fun _ => by kernel_rfl) rfl rfl (RdS.isS (m := i5) (St.rdR (i := 1) hS54 rfl) (by omega) (by omega)) (by omega) (by omega) rfl) rfl (by kernel_rfl) (by kernel_rfl) (by kernel_rfl) rfl rfl (fun _ _ _ h => h) ?_; intro a59 hE60; clear hE58
      refine d_take (fun _ h => h) (fun _ _ h k => h k) (v := .agg #[.int .i64 (gS 3 0 ap i5), .int .i64 (gS 3 1 ap i5), .int .i64 (gS 3 2 ap i5)]) 3 rfl hE60 (S := fun w' => rngA w' (adr apA (Int.toNat i5 * 3)) [.int .i64 (gS 3 0 ap i5), .int .i64 (gS 3 1 ap i5), .int .i64 (gS 3 2 ap i5)] ∧ rngA w' (adr bpA (Int.toNat i5 * 3)) [.int .i64 (gS 3 0 bp i5), .int .i64 (gS 3 1 bp i5), .int .i64 (gS 3 2 bp i5)] ∧ True) ⟨(RdS.rng3 (St.rdR (i := 1) hS54 rfl) (by omega) (by omega) _ (Ext.refl _)), (RdS.rng3 (St.rdR (i := 0) hS54 rfl) (by omega) (by omega) _ (Ext.refl _)), trivial⟩ (y_loadE Try.underlying115 rfl (by kernel_rfl) rfl (fun _ h => h.1)) rfl rfl (by kernel_rfl) (by kernel_rfl) (by kernel_rfl) (by kernel_rfl) rfl rfl (fun _ _ _ h => h) ?_; intro a61 hE62; clear hE60
      refine d_pure (fun _ h => h) (v := .slice bpA ((bp).length / 3 : Nat) bpC) 4 rfl hE62 (y_move rfl) rfl (by kernel_rfl) (by kernel_rfl) (by kernel_rfl) rfl rfl (fun _ _ _ h => h) ?_; intro a63 hE64; clear hE62
      refine d_pure (fun _ h => h) (v := .int .i64 i5) 5 rfl hE64 (y_move rfl) rfl (by kernel_rfl) (by kernel_rfl) (by kernel_rfl) rfl rfl (fun _ _ _ h => h) ?_; intro a65 hE66; clear hE64
      refine d_pure (fun _ h => h) (v := .pointer (some (adr bpA (Int.toNat i5 * 3)))) 6 rfl hE66 (y_idx (by kernel_rfl) (fun _ => by kernel_rfl) rfl rfl (RdS.isS (m := i5) (St.rdR (i := 0) hS54 rfl) (by omega) (by omega)) (by omega) (by omega) rfl) rfl (by kernel_rfl) (by kernel_rfl) (by kernel_rfl) rfl rfl (fun _ _ _ h => h) ?_; intro a67 hE68; clear hE66
      refine d_take (fun _ h => h) (fun _ _ h k => h k) (v := .agg #[.int .i64 (gS 3 0 bp i5), .int .i64 (gS 3 1 bp i5), .int .i64 (gS 3 2 bp i5)]) 7 rfl hE68 (S := fun w' => rngA w' (adr apA (Int.toNat i5 * 3)) [.int .i64 (gS 3 0 ap i5), .int .i64 (gS 3 1 ap i5), .int .i64 (gS 3 2 ap i5)] ∧ rngA w' (adr bpA (Int.toNat i5 * 3)) [.int .i64 (gS 3 0 bp i5), .int .i64 (gS 3 1 bp i5), .int .i64 (gS 3 2 bp i5)] ∧ True) ⟨(RdS.rng3 (St.rdR (i := 1) hS54 rfl) (by omega) (by omega) _ (Ext.refl _)), (RdS.rng3 (St.rdR (i := 0) hS54 rfl) (by omega) (by omega) _ (Ext.refl _)), trivial⟩ (y_loadE Try.underlying115 rfl (by kernel_rfl) rfl (fun _ h => h.2.1)) rfl rfl (by kernel_rfl) (by kernel_rfl) (by kernel_rfl) (by kernel_rfl) rfl rfl (fun _ _ _ h => h) ?_; intro a69 hE70; clear hE68
      refine d_only 8 (by kernel_rfl) rfl hE70 rfl (l_call (f := 111) (argv := [.agg #[.int .i64 (gS 3 0 ap i5), .int .i64 (gS 3 1 ap i5), .int .i64 (gS 3 2 ap i5)], .agg #[.int .i64 (gS 3 0 bp i5), .int .i64 (gS 3 1 bp i5), .int .i64 (gS 3 2 bp i5)]]) hE70 (fun _ => cf_l_eqPointNode _ _) rfl rfl (d_l_eqPointNode (gS 3 0 ap i5) (gS 3 1 ap i5) (gS 3 2 ap i5) (gS 3 0 bp i5) (gS 3 1 bp i5) (gS 3 2 bp i5) w52) ?_)
      rintro _ w72 ⟨rfl, he76⟩ a73 hE74; clear hE70
      have hS75 := St.go hS54 he76; clear hS54
      refine ⟨fun h => Bool.noConfusion (h.symm.trans (show exm _ _ _ = true by kernel_rfl)), ?_⟩
      refine d_pure (fun _ h => h) (v := .bool (!(decide ((gS 3 0 ap i5) = (gS 3 0 bp i5)) && (decide ((gS 3 1 ap i5) = (gS 3 1 bp i5)) && decide ((gS 3 2 ap i5) = (gS 3 2 bp i5)))))) 9 rfl hE74 (y_not rfl) rfl (by kernel_rfl) (by kernel_rfl) (by kernel_rfl) rfl rfl (fun _ _ _ h => h) ?_; intro a77 hE78; clear hE74
      refine d_done (by kernel_rfl) ?_
      have hE79 := hE78.sub (L' := [(0, .slice apA ((ap).length / 3 : Nat) apC), (1, .slice bpA ((bp).length / 3 : Nat) bpC), (5, .int .i64 i5), (26, .bool (!(decide ((gS 3 0 ap i5) = (gS 3 0 bp i5)) && (decide ((gS 3 1 ap i5) = (gS 3 1 bp i5)) && decide ((gS 3 2 ap i5) = (gS 3 2 bp i5))))))]) ⟨rfl, rfl, rfl, rfl, trivial⟩; clear hE78
      refine p_tn ?_
      refine c_cond hE79 rfl (fun ht80 => ?_) (fun ht80 => ?_)
      ·
       have ht81 := bn_t ht80
       have hE82 := hE79; rw [ht80] at hE82; clear hE79
       refine c_seq ?_
       refine c_reg ?_
       refine q_step (v := .bool false) hE82 (y_assign rfl) rfl rfl rfl ?_; intro a83 hE84; clear hE82
       refine c_nil ?_
       have hE85 := hE84.sub (L' := [(4, .bool false)]) ⟨rfl, trivial⟩; clear hE84
       refine p_tn ?_
       refine wp_ret ?_
       refine p_br ?_
       refine p_tr ?_
       have hX86 : F_l_eqPointNodeS_L1 ap bp (Int.toNat ((((ap).length / 3 : Nat) : Int) - 0) + 1) 0 = .error false := hT35.symm.trans (show F_l_eqPointNodeS_L1b ap bp (F_l_eqPointNodeS_L1 ap bp r39) i5 = .error false by unfold F_l_eqPointNodeS_L1b; rw [ht80, ht49]; first | done | rfl)
       refine p_tr (p_br (p_tr ?_))
       refine p_tr ?_
       have hF : F_l_eqPointNodeS ap bp = false := by unfold F_l_eqPointNodeS; rw [hX86, ht17]; first | done | rfl
       refine c_ret1 hE85 rfl rfl ?_
       exact ⟨(by rw [hF]; first | done | (dsimp only; done) | rfl), hS75.ext⟩
      ·
       have ht87 := bn_f ht80
       obtain ⟨ht88, ht89⟩ := band_t ht87
       have hp90 := of_decide_eq_true ht88
       obtain ⟨ht91, ht92⟩ := band_t ht89
       have hp93 := of_decide_eq_true ht91
       have hp94 := of_decide_eq_true ht92
       have hE95 := hE79; rw [ht80] at hE95; clear hE79
       refine wp_skip ?_
       refine p_bn ?_
       refine p_tn ?_
       refine c_reg ?_
       refine q_step (v := .int .i64 i5) hE95 (y_move rfl) rfl rfl rfl ?_; intro a96 hE97; clear hE95
       refine q_step (v := .int .i64 (i5 + 1)) hE97 (y_add rfl rfl ⟨(by omega), (by omega)⟩) rfl rfl rfl ?_; intro a98 hE99; clear hE97
       refine q_step (v := .int .i64 (i5 + 1)) hE99 (y_assign rfl) rfl rfl rfl ?_; intro a100 hE101; clear hE99
       refine c_nil ?_
       have hE102 := hE101.sub (L' := [(0, .slice apA ((ap).length / 3 : Nat) apC), (1, .slice bpA ((bp).length / 3 : Nat) bpC), (5, .int .i64 (i5 + 1))]) ⟨rfl, rfl, rfl, trivial⟩; clear hE101
       refine p_tn ⟨r39, Nat.lt_succ_self _, i5 + 1, (hT35.symm.trans (show F_l_eqPointNodeS_L1b ap bp (F_l_eqPointNodeS_L1 ap bp r39) i5 = F_l_eqPointNodeS_L1 ap bp r39 (i5 + 1) by unfold F_l_eqPointNodeS_L1b; rw [ht80, ht49]; first | done | rfl)).symm, (by omega), (by first | omega | (simp only [sS_len, sL_len]; omega) | (simp only [List.length_replicate, sI_len]; omega) | (simp only [List.length_append, List.length_cons, List.length_nil, sI_len, cond_true, cond_false]; omega) | (simp only [List.length_append, List.length_cons, List.length_nil, sI_len, cond_eq_ite, apply_ite List.length]; split <;> simp only [List.length_append, List.length_cons, List.length_nil, sI_len] <;> omega) | grind), (by first | omega | (simp only [sS_len, sL_len]; omega) | (simp only [List.length_replicate, sI_len]; omega) | (simp only [List.length_append, List.length_cons, List.length_nil, sI_len, cond_true, cond_false]; omega) | (simp only [List.length_append, List.length_cons, List.length_nil, sI_len, cond_eq_ite, apply_ite List.length]; split <;> simp only [List.length_append, List.length_cons, List.length_nil, sI_len] <;> omega) | grind), (hE102.sub (L' := [(0, .slice apA ((ap).length / 3 : Nat) apC), (1, .slice bpA ((bp).length / 3 : Nat) bpC), (5, .int .i64 (i5 + 1))]) ⟨rfl, rfl, rfl, trivial⟩), (St.pick (Γ' := [.rd 3 bpA ((bp).length / 3 : Nat) bpC bp, .rd 3 apA ((ap).length / 3 : Nat) apC ap]) hS75 [0, 1] (by decide) rfl)⟩
     ·
      have hp103 := of_decide_eq_false ht49
      have hE104 := hE48; rw [ht49] at hE104; clear hE48
      refine wp_exit ?_
      refine p_te ?_
      have hX105 : F_l_eqPointNodeS_L1 ap bp (Int.toNat ((((ap).length / 3 : Nat) : Int) - 0) + 1) 0 = .ok i5 := hT35.symm.trans (show F_l_eqPointNodeS_L1b ap bp (F_l_eqPointNodeS_L1 ap bp r39) i5 = .ok i5 by unfold F_l_eqPointNodeS_L1b; rw [ht49]; first | done | rfl)
      refine p_te (p_be (p_tn ?_))
      exact ⟨(by rw [hX105]; rfl), (by rw [hX105]; exact (show 0 ≤ i5 from (by first | omega | (simp only [sS_len, sL_len]; omega) | (simp only [List.length_replicate, sI_len]; omega) | (simp only [List.length_append, List.length_cons, List.length_nil, sI_len, cond_true, cond_false]; omega) | (simp only [List.length_append, List.length_cons, List.length_nil, sI_len, cond_eq_ite, apply_ite List.length]; split <;> simp only [List.length_append, List.length_cons, List.length_nil, sI_len] <;> omega) | grind))), (by rw [hX105]; exact (show i5 ≤ (((ap).length / 3 : Nat) : Int) from (by first | omega | (simp only [sS_len, sL_len]; omega) | (simp only [List.length_replicate, sI_len]; omega) | (simp only [List.length_append, List.length_cons, List.length_nil, sI_len, cond_true, cond_false]; omega) | (simp only [List.length_append, List.length_cons, List.length_nil, sI_len, cond_eq_ite, apply_ite List.length]; split <;> simp only [List.length_append, List.length_cons, List.length_nil, sI_len] <;> omega) | grind))), (by rw [hX105]; exact (hE104.sub (L' := [(0, .slice apA ((ap).length / 3 : Nat) apC), (1, .slice bpA ((bp).length / 3 : Nat) bpC), (5, .int .i64 i5)]) ⟨rfl, rfl, rfl, trivial⟩)), (St.pick (Γ' := [.rd 3 bpA ((bp).length / 3 : Nat) bpC bp, .rd 3 apA ((ap).length / 3 : Nat) apC ap]) hS34 [0, 1] (by decide) rfl)⟩
   ·
    rintro a106 w107 ⟨hO110, hi111, hi112, hE108, hS109⟩; clear hE29 hS2
    refine p_tn ?_
    refine c_seq ?_
    refine c_reg ?_
    refine q_step (v := .bool true) hE108 (y_assign rfl) rfl rfl rfl ?_; intro a113 hE114; clear hE108
    refine c_nil ?_
    have hE115 := hE114.sub (L' := [(4, .bool true)]) ⟨rfl, trivial⟩; clear hE114
    refine p_tn ?_
    refine wp_ret ?_
    have hF : F_l_eqPointNodeS ap bp = true := by unfold F_l_eqPointNodeS; rw [hO110, ht17]; first | done | rfl
    refine c_ret1 hE115 rfl rfl ?_
    exact ⟨(by rw [hF]; first | done | (dsimp only; done) | rfl), hS109.ext⟩
theorem eqPtS_key (ap bp : List Int) (hl : ap.length = bp.length) (he : ap.length = ap.length / 3 * 3) : ∀ (k : Nat) (i : Int), 0 ≤ i → ((ap.length / 3 : Nat) : Int) - i = k → (∀ j : Nat, (j : Int) < 3 * i → gi ap j = gi bp j) →
    (bif isOk (F_l_eqPointNodeS_L1 ap bp (k + 1) i) then true else errD (F_l_eqPointNodeS_L1 ap bp (k + 1) i)) = decide (ap = bp) := by
  intro k
  induction k with
  | zero =>
    intro i h0 hk hp
    have e : F_l_eqPointNodeS_L1 ap bp (0 + 1) i = .ok i := by
      show F_l_eqPointNodeS_L1b ap bp _ i = _
      unfold F_l_eqPointNodeS_L1b
      rw [decide_eq_false (by omega)]; rfl
    rw [e]
    have : ap = bp := ext_gi hl fun j hj => hp j (by omega)
    rw [decide_eq_true this]; rfl
  | succ k ih =>
    intro i h0 hk hp
    have e : F_l_eqPointNodeS_L1 ap bp (k + 1 + 1) i = bif !(decide (gS 3 0 ap i = gS 3 0 bp i) && (decide (gS 3 1 ap i = gS 3 1 bp i) && decide (gS 3 2 ap i = gS 3 2 bp i))) then .error false else F_l_eqPointNodeS_L1 ap bp (k + 1) (i + 1) := by
      show F_l_eqPointNodeS_L1b ap bp _ i = _
      unfold F_l_eqPointNodeS_L1b
      rw [decide_eq_true (by omega)]; rfl
    rw [e]
    by_cases h : gS 3 0 ap i = gS 3 0 bp i ∧ gS 3 1 ap i = gS 3 1 bp i ∧ gS 3 2 ap i = gS 3 2 bp i
    · rw [decide_eq_true h.1, decide_eq_true h.2.1, decide_eq_true h.2.2]
      refine ih (i + 1) (by omega) (by omega) fun j hj => ?_
      obtain ⟨h2, h3, h4⟩ := h
      unfold gS at h2 h3 h4
      by_cases e : i.toNat * 3 + 0 = j
      · rw [e] at h2; exact h2
      · by_cases e' : i.toNat * 3 + 1 = j
        · rw [e'] at h3; exact h3
        · by_cases e2 : i.toNat * 3 + 2 = j
          · rw [e2] at h4; exact h4
          · exact hp j (by omega)
    · have : ¬ ap = bp := fun h' => h (by rw [h']; exact ⟨rfl, rfl, rfl⟩)
      rw [decide_eq_false this, ← Bool.decide_and, ← Bool.decide_and, decide_eq_false h]; rfl
theorem eqPtS_eq (ap bp : List Int) (he : ap.length = ap.length / 3 * 3) (hb : bp.length = bp.length / 3 * 3) : F_l_eqPointNodeS ap bp = decide (ap = bp) := by
  unfold F_l_eqPointNodeS
  by_cases hl : ap.length = bp.length
  · rw [decide_eq_true (by rw [hl]), Bool.not_true, cond_false, show Int.toNat (((ap.length / 3 : Nat) : Int) - 0) = ap.length / 3 by omega]
    exact eqPtS_key ap bp hl he (ap.length / 3) 0 (by omega) (by omega) fun j hj => by omega
  · rw [decide_eq_false (by omega)]
    have : ¬ ap = bp := fun h' => hl (by rw [h'])
    rw [decide_eq_false this]; rfl
theorem d_l_eqPointNodeS (apA : Option Addr) (apN apC : Nat) (ap : List Int) (bpA : Option Addr) (bpN bpC : Nat) (bp : List Int) (w : World) (apR : RdS w 3 apA apN apC ap) (bpR : RdS w 3 bpA bpN bpC bp) :
    Calls Try.prog 48 #[.slice apA apN apC, .slice bpA bpN bpC] w (Ret fun v w' => v = .bool (decide (ap = bp)) ∧ Ext w w') := by
  have := c_l_eqPointNodeS apA apN apC ap bpA bpN bpC bp w apR bpR
  rwa [eqPtS_eq ap bp (apR.ev (by decide)) (bpR.ev (by decide))] at this
end Go.Proofs.Ytkilkfhjfobcdaa
