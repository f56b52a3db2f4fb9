/- GNB: models and contracts, printed by wip/gen/gen.py -/
import Derived.Test.YtkilkfhjfobcdaaKFBGC
import Derived.Test.YtkilkfhjfobcdaaKFBNest
set_option linter.unusedVariables false
set_option linter.unusedSimpArgs false
namespace Go.Proofs.Ytkilkfhjfobcdaa
open Go.RowKit
def F_l02Parts (kind : Int) : Int :=
  bif ((decide (kind = 2)) || ((decide (kind = 3)) || (decide (kind = 4)))) then 2 else (bif ((decide (kind = 5)) || (decide (kind = 6))) then 1 else 0)
theorem cf_l02Parts (args : Array Value) (w : World) : (callFunc 135 args).run Try.prog w = .ok (.enter 135 args) w := by kernel_rfl
set_option maxRecDepth 100000 in
theorem c_l02Parts (kind : Int) (w : World) :
    Calls Try.prog 135 #[.int .i64 kind] w (Ret fun v w' => v = .int .i64 (F_l02Parts kind) ∧ w = w') := by
  have hS := St.nil w
  refine enter (args := [.int .i64 kind]) Try.func135 rfl rfl ?_
  rw [Try.ntmps135]; intro a hE
  have hE := hE.sub (L' := [(0, .int .i64 kind)]) ⟨rfl, trivial⟩
  refine c_seq ?_
  refine c_reg ?_
  refine q_step (v := .int .i64 0) hE (y_assign rfl) rfl rfl rfl ?_; intro a1 hE2; clear hE
  refine c_nil ?_
  have hE3 := hE2.sub (L' := [(0, .int .i64 kind)]) ⟨rfl, trivial⟩; clear hE2
  refine p_tn ?_
  refine c_seq ?_
  refine c_seq ?_
  refine c_reg ?_
  refine q_step (v := .int .i64 kind) hE3 (y_move rfl) rfl rfl rfl ?_; intro a4 hE5; clear hE3
  refine c_nil ?_
  have hE6 := hE5.sub (L' := [(3, .int .i64 kind)]) ⟨rfl, trivial⟩; clear hE5
  refine p_tn ?_
  refine wp_block ?_
  refine c_cut (fun a' w' => w = w' ∧ E a' 11 [(3, .int .i64 kind), (4, .bool ((decide (kind = 2)) || ((decide (kind = 3)) || (decide (kind = 4)))))]) ?_ ?_
  ·
   refine c_seq ?_
   refine c_reg ?_
   refine q_step (v := .bool (decide (kind = 2))) hE6 (y_eql rfl rfl) rfl rfl rfl ?_; intro a7 hE8; clear hE6
   refine q_step (v := .bool (decide (kind = 2))) hE8 (y_assign rfl) rfl rfl rfl ?_; intro a9 hE10; clear hE8
   refine c_nil ?_
   have hE11 := hE10.sub (L' := [(3, .int .i64 kind), (4, .bool (decide (kind = 2)))]) ⟨rfl, rfl, trivial⟩; clear hE10
   refine p_tn ?_
   refine c_cond hE11 rfl (fun ht12 => ?_) (fun ht12 => ?_)
   ·
    have hp13 := of_decide_eq_true ht12
    have hE14 := hE11; rw [ht12] at hE14; clear hE11
    refine wp_skip ?_
    refine p_tn ?_
    have hE15 := hE14.sub (L' := [(3, .int .i64 kind), (4, .bool true)]) ⟨rfl, rfl, trivial⟩
    exact ⟨rfl, (by rw [ht12]; exact hE15)⟩
   ·
    have hp16 := of_decide_eq_false ht12
    have hE17 := hE11; rw [ht12] at hE17; clear hE11
    refine c_seq ?_
    refine c_reg ?_
    refine q_step (v := .bool (decide (kind = 3))) hE17 (y_eql rfl rfl) rfl rfl rfl ?_; intro a18 hE19; clear hE17
    refine q_step (v := .bool (decide (kind = 3))) hE19 (y_assign rfl) rfl rfl rfl ?_; intro a20 hE21; clear hE19
    refine c_nil ?_
    have hE22 := hE21.sub (L' := [(3, .int .i64 kind), (4, .bool (decide (kind = 3)))]) ⟨rfl, rfl, trivial⟩; clear hE21
    refine p_tn ?_
    refine c_cond hE22 rfl (fun ht23 => ?_) (fun ht23 => ?_)
    ·
     have hp24 := of_decide_eq_true ht23
     have hE25 := hE22; rw [ht23] at hE25; clear hE22
     refine wp_skip ?_
     refine p_tn ?_
     have hE26 := hE25.sub (L' := [(3, .int .i64 kind), (4, .bool true)]) ⟨rfl, rfl, trivial⟩
     exact ⟨rfl, (by rw [ht23, ht12]; exact hE26)⟩
    ·
     have hp27 := of_decide_eq_false ht23
     have hE28 := hE22; rw [ht23] at hE28; clear hE22
     refine c_reg ?_
     refine q_step (v := .bool (decide (kind = 4))) hE28 (y_eql rfl rfl) rfl rfl rfl ?_; intro a29 hE30; clear hE28
     refine q_step (v := .bool (decide (kind = 4))) hE30 (y_assign rfl) rfl rfl rfl ?_; intro a31 hE32; clear hE30
     refine c_nil ?_
     have hE33 := hE32.sub (L' := [(3, .int .i64 kind), (4, .bool (decide (kind = 4)))]) ⟨rfl, rfl, trivial⟩; clear hE32
     refine p_tn ?_
     have hE34 := hE33.sub (L' := [(3, .int .i64 kind), (4, .bool (decide (kind = 4)))]) ⟨rfl, rfl, trivial⟩
     exact ⟨rfl, (by rw [ht23, ht12]; exact hE34)⟩
  ·
   rintro a35 _ ⟨rfl, hE37⟩; clear hE6
   refine c_cond hE37 rfl (fun ht40 => ?_) (fun ht40 => ?_)
   ·
    have hE41 := hE37; rw [ht40] at hE41; clear hE37
    refine c_seq ?_
    refine c_reg ?_
    refine q_step (v := .int .i64 2) hE41 (y_assign rfl) rfl rfl rfl ?_; intro a42 hE43; clear hE41
    refine c_nil ?_
    have hE44 := hE43.sub (L' := [(2, .int .i64 2)]) ⟨rfl, trivial⟩; clear hE43
    refine p_tn ?_
    refine wp_ret ?_
    refine p_br ?_
    refine p_tr ?_
    have hF : F_l02Parts kind = 2 := by unfold F_l02Parts; rw [ht40]; first | done | rfl
    refine c_ret1 hE44 rfl rfl ?_
    exact ⟨(by rw [hF]; first | done | (dsimp only; done) | rfl), rfl⟩
   ·
    obtain ⟨ht45, ht46⟩ := bor_f ht40
    have hp47 := of_decide_eq_false ht45
    obtain ⟨ht48, ht49⟩ := bor_f ht46
    have hp50 := of_decide_eq_false ht48
    have hp51 := of_decide_eq_false ht49
    have hE52 := hE37; rw [ht40] at hE52; clear hE37
    refine c_cut (fun a' w' => w = w' ∧ E a' 11 [(8, .bool ((decide (kind = 5)) || (decide (kind = 6))))]) ?_ ?_
    ·
     refine c_seq ?_
     refine c_reg ?_
     refine q_step (v := .bool (decide (kind = 5))) hE52 (y_eql rfl rfl) rfl rfl rfl ?_; intro a53 hE54; clear hE52
     refine q_step (v := .bool (decide (kind = 5))) hE54 (y_assign rfl) rfl rfl rfl ?_; intro a55 hE56; clear hE54
     refine c_nil ?_
     have hE57 := hE56.sub (L' := [(3, .int .i64 kind), (8, .bool (decide (kind = 5)))]) ⟨rfl, rfl, trivial⟩; clear hE56
     refine p_tn ?_
     refine c_cond hE57 rfl (fun ht58 => ?_) (fun ht58 => ?_)
     ·
      have hp59 := of_decide_eq_true ht58
      have hE60 := hE57; rw [ht58] at hE60; clear hE57
      refine wp_skip ?_
      refine p_tn ?_
      have hE61 := hE60.sub (L' := [(8, .bool true)]) ⟨rfl, trivial⟩
      exact ⟨rfl, (by rw [ht58]; exact hE61)⟩
     ·
      have hp62 := of_decide_eq_false ht58
      have hE63 := hE57; rw [ht58] at hE63; clear hE57
      refine c_reg ?_
      refine q_step (v := .bool (decide (kind = 6))) hE63 (y_eql rfl rfl) rfl rfl rfl ?_; intro a64 hE65; clear hE63
      refine q_step (v := .bool (decide (kind = 6))) hE65 (y_assign rfl) rfl rfl rfl ?_; intro a66 hE67; clear hE65
      refine c_nil ?_
      have hE68 := hE67.sub (L' := [(8, .bool (decide (kind = 6)))]) ⟨rfl, trivial⟩; clear hE67
      refine p_tn ?_
      have hE69 := hE68.sub (L' := [(8, .bool (decide (kind = 6)))]) ⟨rfl, trivial⟩
      exact ⟨rfl, (by rw [ht58]; exact hE69)⟩
    ·
     rintro a70 _ ⟨rfl, hE72⟩; clear hE52
     refine c_cond hE72 rfl (fun ht75 => ?_) (fun ht75 => ?_)
     ·
      have hE76 := hE72; rw [ht75] at hE76; clear hE72
      refine c_seq ?_
      refine c_reg ?_
      refine q_step (v := .int .i64 1) hE76 (y_assign rfl) rfl rfl rfl ?_; intro a77 hE78; clear hE76
      refine c_nil ?_
      have hE79 := hE78.sub (L' := [(2, .int .i64 1)]) ⟨rfl, trivial⟩; clear hE78
      refine p_tn ?_
      refine wp_ret ?_
      refine p_br ?_
      refine p_tr ?_
      have hF : F_l02Parts kind = 1 := by unfold F_l02Parts; rw [ht75, ht40]; first | done | rfl
      refine c_ret1 hE79 rfl rfl ?_
      exact ⟨(by rw [hF]; first | done | (dsimp only; done) | rfl), rfl⟩
     ·
      obtain ⟨ht80, ht81⟩ := bor_f ht75
      have hp82 := of_decide_eq_false ht80
      have hp83 := of_decide_eq_false ht81
      have hE84 := hE72; rw [ht75] at hE84; clear hE72
      refine wp_skip ?_
      refine p_bn ?_
      refine p_tn ?_
      refine c_seq ?_
      refine c_reg ?_
      refine q_step (v := .int .i64 0) hE84 (y_assign rfl) rfl rfl rfl ?_; intro a85 hE86; clear hE84
      refine c_nil ?_
      have hE87 := hE86.sub (L' := [(2, .int .i64 0)]) ⟨rfl, trivial⟩; clear hE86
      refine p_tn ?_
      refine wp_ret ?_
      have hF : F_l02Parts kind = 0 := by unfold F_l02Parts; rw [ht75, ht40]; first | done | rfl
      refine c_ret1 hE87 rfl rfl ?_
      exact ⟨(by rw [hF]; first | done | (dsimp only; done) | rfl), rfl⟩
def F_partsOf (kind : Int) : Int :=
  bif ((decide (kind = 2)) || ((decide (kind = 3)) || (decide (kind = 4)))) then 2 else (bif ((decide (kind = 5)) || (decide (kind = 6))) then 1 else 0)
theorem cf_partsOf (args : Array Value) (w : World) : (callFunc 126 args).run Try.prog w = .ok (.enter 126 args) w := by kernel_rfl
set_option maxRecDepth 100000 in
theorem c_partsOf (kind : Int) (w : World) :
    Calls Try.prog 126 #[.int .i64 kind] w (Ret fun v w' => v = .int .i64 (F_partsOf kind) ∧ w = w') := by
  have hS := St.nil w
  refine enter (args := [.int .i64 kind]) Try.func126 rfl rfl ?_
  rw [Try.ntmps126]; intro a hE
  have hE := hE.sub (L' := [(0, .int .i64 kind)]) ⟨rfl, trivial⟩
  refine c_seq ?_
  refine c_reg ?_
  refine q_step (v := .int .i64 0) hE (y_assign rfl) rfl rfl rfl ?_; intro a1 hE2; clear hE
  refine c_nil ?_
  have hE3 := hE2.sub (L' := [(0, .int .i64 kind)]) ⟨rfl, trivial⟩; clear hE2
  refine p_tn ?_
  refine c_seq ?_
  refine c_seq ?_
  refine c_reg ?_
  refine q_step (v := .int .i64 kind) hE3 (y_move rfl) rfl rfl rfl ?_; intro a4 hE5; clear hE3
  refine c_nil ?_
  have hE6 := hE5.sub (L' := [(3, .int .i64 kind)]) ⟨rfl, trivial⟩; clear hE5
  refine p_tn ?_
  refine wp_block ?_
  refine c_cut (fun a' w' => w = w' ∧ E a' 11 [(3, .int .i64 kind), (4, .bool ((decide (kind = 2)) || ((decide (kind = 3)) || (decide (kind = 4)))))]) ?_ ?_
  ·
   refine c_seq ?_
   refine c_reg ?_
   refine q_step (v := .bool (decide (kind = 2))) hE6 (y_eql rfl rfl) rfl rfl rfl ?_; intro a7 hE8; clear hE6
   refine q_step (v := .bool (decide (kind = 2))) hE8 (y_assign rfl) rfl rfl rfl ?_; intro a9 hE10; clear hE8
   refine c_nil ?_
   have hE11 := hE10.sub (L' := [(3, .int .i64 kind), (4, .bool (decide (kind = 2)))]) ⟨rfl, rfl, trivial⟩; clear hE10
   refine p_tn ?_
   refine c_cond hE11 rfl (fun ht12 => ?_) (fun ht12 => ?_)
   ·
    have hp13 := of_decide_eq_true ht12
    have hE14 := hE11; rw [ht12] at hE14; clear hE11
    refine wp_skip ?_
    refine p_tn ?_
    have hE15 := hE14.sub (L' := [(3, .int .i64 kind), (4, .bool true)]) ⟨rfl, rfl, trivial⟩
    exact ⟨rfl, (by rw [ht12]; exact hE15)⟩
   ·
    have hp16 := of_decide_eq_false ht12
    have hE17 := hE11; rw [ht12] at hE17; clear hE11
    refine c_seq ?_
    refine c_reg ?_
    refine q_step (v := .bool (decide (kind = 3))) hE17 (y_eql rfl rfl) rfl rfl rfl ?_; intro a18 hE19; clear hE17
    refine q_step (v := .bool (decide (kind = 3))) hE19 (y_assign rfl) rfl rfl rfl ?_; intro a20 hE21; clear hE19
    refine c_nil ?_
    have hE22 := hE21.sub (L' := [(3, .int .i64 kind), (4, .bool (decide (kind = 3)))]) ⟨rfl, rfl, trivial⟩; clear hE21
    refine p_tn ?_
    refine c_cond hE22 rfl (fun ht23 => ?_) (fun ht23 => ?_)
    ·
     have hp24 := of_decide_eq_true ht23
     have hE25 := hE22; rw [ht23] at hE25; clear hE22
     refine wp_skip ?_
     refine p_tn ?_
     have hE26 := hE25.sub (L' := [(3, .int .i64 kind), (4, .bool true)]) ⟨rfl, rfl, trivial⟩
     exact ⟨rfl, (by rw [ht23, ht12]; exact hE26)⟩
    ·
     have hp27 := of_decide_eq_false ht23
     have hE28 := hE22; rw [ht23] at hE28; clear hE22
     refine c_reg ?_
     refine q_step (v := .bool (decide (kind = 4))) hE28 (y_eql rfl rfl) rfl rfl rfl ?_; intro a29 hE30; clear hE28
     refine q_step (v := .bool (decide (kind = 4))) hE30 (y_assign rfl) rfl rfl rfl ?_; intro a31 hE32; clear hE30
     refine c_nil ?_
     have hE33 := hE32.sub (L' := [(3, .int .i64 kind), (4, .bool (decide (kind = 4)))]) ⟨rfl, rfl, trivial⟩; clear hE32
     refine p_tn ?_
     have hE34 := hE33.sub (L' := [(3, .int .i64 kind), (4, .bool (decide (kind = 4)))]) ⟨rfl, rfl, trivial⟩
     exact ⟨rfl, (by rw [ht23, ht12]; exact hE34)⟩
  ·
   rintro a35 _ ⟨rfl, hE37⟩; clear hE6
   refine c_cond hE37 rfl (fun ht40 => ?_) (fun ht40 => ?_)
   ·
    have hE41 := hE37; rw [ht40] at hE41; clear hE37
    refine c_seq ?_
    refine c_reg ?_
    refine q_step (v := .int .i64 2) hE41 (y_assign rfl) rfl rfl rfl ?_; intro a42 hE43; clear hE41
    refine c_nil ?_
    have hE44 := hE43.sub (L' := [(2, .int .i64 2)]) ⟨rfl, trivial⟩; clear hE43
    refine p_tn ?_
    refine wp_ret ?_
    refine p_br ?_
    refine p_tr ?_
    have hF : F_partsOf kind = 2 := by unfold F_partsOf; rw [ht40]; first | done | rfl
    refine c_ret1 hE44 rfl rfl ?_
    exact ⟨(by rw [hF]; first | done | (dsimp only; done) | rfl), rfl⟩
   ·
    obtain ⟨ht45, ht46⟩ := bor_f ht40
    have hp47 := of_decide_eq_false ht45
    obtain ⟨ht48, ht49⟩ := bor_f ht46
    have hp50 := of_decide_eq_false ht48
    have hp51 := of_decide_eq_false ht49
    have hE52 := hE37; rw [ht40] at hE52; clear hE37
    refine c_cut (fun a' w' => w = w' ∧ E a' 11 [(8, .bool ((decide (kind = 5)) || (decide (kind = 6))))]) ?_ ?_
    ·
     refine c_seq ?_
     refine c_reg ?_
     refine q_step (v := .bool (decide (kind = 5))) hE52 (y_eql rfl rfl) rfl rfl rfl ?_; intro a53 hE54; clear hE52
     refine q_step (v := .bool (decide (kind = 5))) hE54 (y_assign rfl) rfl rfl rfl ?_; intro a55 hE56; clear hE54
     refine c_nil ?_
     have hE57 := hE56.sub (L' := [(3, .int .i64 kind), (8, .bool (decide (kind = 5)))]) ⟨rfl, rfl, trivial⟩; clear hE56
     refine p_tn ?_
     refine c_cond hE57 rfl (fun ht58 => ?_) (fun ht58 => ?_)
     ·
      have hp59 := of_decide_eq_true ht58
      have hE60 := hE57; rw [ht58] at hE60; clear hE57
      refine wp_skip ?_
      refine p_tn ?_
      have hE61 := hE60.sub (L' := [(8, .bool true)]) ⟨rfl, trivial⟩
      exact ⟨rfl, (by rw [ht58]; exact hE61)⟩
     ·
      have hp62 := of_decide_eq_false ht58
      have hE63 := hE57; rw [ht58] at hE63; clear hE57
      refine c_reg ?_
      refine q_step (v := .bool (decide (kind = 6))) hE63 (y_eql rfl rfl) rfl rfl rfl ?_; intro a64 hE65; clear hE63
      refine q_step (v := .bool (decide (kind = 6))) hE65 (y_assign rfl) rfl rfl rfl ?_; intro a66 hE67; clear hE65
      refine c_nil ?_
      have hE68 := hE67.sub (L' := [(8, .bool (decide (kind = 6)))]) ⟨rfl, trivial⟩; clear hE67
      refine p_tn ?_
      have hE69 := hE68.sub (L' := [(8, .bool (decide (kind = 6)))]) ⟨rfl, trivial⟩
      exact ⟨rfl, (by rw [ht58]; exact hE69)⟩
    ·
     rintro a70 _ ⟨rfl, hE72⟩; clear hE52
     refine c_cond hE72 rfl (fun ht75 => ?_) (fun ht75 => ?_)
     ·
      have hE76 := hE72; rw [ht75] at hE76; clear hE72
      refine c_seq ?_
      refine c_reg ?_
      refine q_step (v := .int .i64 1) hE76 (y_assign rfl) rfl rfl rfl ?_; intro a77 hE78; clear hE76
      refine c_nil ?_
      have hE79 := hE78.sub (L' := [(2, .int .i64 1)]) ⟨rfl, trivial⟩; clear hE78
      refine p_tn ?_
      refine wp_ret ?_
      refine p_br ?_
      refine p_tr ?_
      have hF : F_partsOf kind = 1 := by unfold F_partsOf; rw [ht75, ht40]; first | done | rfl
      refine c_ret1 hE79 rfl rfl ?_
      exact ⟨(by rw [hF]; first | done | (dsimp only; done) | rfl), rfl⟩
     ·
      obtain ⟨ht80, ht81⟩ := bor_f ht75
      have hp82 := of_decide_eq_false ht80
      have hp83 := of_decide_eq_false ht81
      have hE84 := hE72; rw [ht75] at hE84; clear hE72
      refine wp_skip ?_
      refine p_bn ?_
      refine p_tn ?_
      refine c_seq ?_
      refine c_reg ?_
      refine q_step (v := .int .i64 0) hE84 (y_assign rfl) rfl rfl rfl ?_; intro a85 hE86; clear hE84
      refine c_nil ?_
      have hE87 := hE86.sub (L' := [(2, .int .i64 0)]) ⟨rfl, trivial⟩; clear hE86
      refine p_tn ?_
      refine wp_ret ?_
      have hF : F_partsOf kind = 0 := by unfold F_partsOf; rw [ht75, ht40]; first | done | rfl
      refine c_ret1 hE87 rfl rfl ?_
      exact ⟨(by rw [hF]; first | done | (dsimp only; done) | rfl), rfl⟩
theorem l02Parts_bd (k : Int) : 0 ≤ F_l02Parts k ∧ F_l02Parts k ≤ 2 := by
  unfold F_l02Parts
  cases (decide (k = 2) || (decide (k = 3) || decide (k = 4))) <;> cases (decide (k = 5) || decide (k = 6)) <;> simp
theorem partsOf_bd (k : Int) : 0 ≤ F_partsOf k ∧ F_partsOf k ≤ 2 := l02Parts_bd k
def F_l02Part_L1b (ap : List Int) (rec : Int → Int → Except (Int) (Int × Int)) (i1 : Int) (open5 : Int) : Except (Int) (Int × Int) :=
  bif (decide (0 < open5)) then (bif (decide ((((ap).length / 2 : Nat) : Int) ≤ i1)) then (.error (-1)) else (rec (i1 + 1) ((open5 - 1) + (F_l02Parts (gS 2 0 ap i1))))) else (.ok (i1, open5))
def F_l02Part_L1 (ap : List Int) : Nat → Int → Int → Except (Int) (Int × Int)
  | 0, i1, open5 => .ok (i1, open5)
  | r + 1, i1, open5 => F_l02Part_L1b ap (F_l02Part_L1 ap r) i1 open5
def F_l02Part (ap : List Int) (i : Int) : Int :=
  bif (isOk (F_l02Part_L1 ap (Int.toNat (((ap.length / 2 : Nat) : Int) - i) + 1) i 1)) then ((okD (F_l02Part_L1 ap (Int.toNat (((ap.length / 2 : Nat) : Int) - i) + 1) i 1)).1) else (errD (F_l02Part_L1 ap (Int.toNat (((ap.length / 2 : Nat) : Int) - i) + 1) i 1))
theorem cf_l02Part (args : Array Value) (w : World) : (callFunc 72 args).run Try.prog w = .ok (.enter 72 args) w := by kernel_rfl
set_option maxRecDepth 100000 in
theorem c_l02Part (apA : Option Addr) (apN apC : Nat) (ap : List Int) (i : Int) (w : World) (apR : RdS w 2 apA apN apC ap) (hl : ap.length ≤ 4194304) (h0 : 0 ≤ i) :
    Calls Try.prog 72 #[.slice apA apN apC, .int .i64 i] w (Ret fun v w' => v = .int .i64 (F_l02Part ap i) ∧ Ext w w') := by
  obtain rfl : apN = ap.length / 2 := (apR.lenD (by decide)).symm
  have apEv := apR.ev (by decide)
  have apLe := apR.le
  have hS := St.nil w
  have hS1 := St.rd0 hS rfl apR; clear hS
  refine enter (args := [.slice apA ((ap).length / 2 : Nat) apC, .int .i64 i]) Try.func72 rfl rfl ?_
  rw [Try.ntmps72]; intro a hE
  have hE := hE.sub (L' := [(0, .slice apA ((ap).length / 2 : Nat) apC), (1, .int .i64 i)]) ⟨rfl, rfl, trivial⟩
  refine c_seq ?_
  refine c_reg ?_
  refine q_step (v := .int .i64 0) hE (y_assign rfl) rfl rfl rfl ?_; intro a2 hE3; clear hE
  refine c_nil ?_
  have hE4 := hE3.sub (L' := [(0, .slice apA ((ap).length / 2 : Nat) apC), (1, .int .i64 i)]) ⟨rfl, rfl, trivial⟩; clear hE3
  refine p_tn ?_
  refine c_seq ?_
  refine c_reg ?_
  refine q_step (v := .int .i64 1) hE4 (y_assign rfl) rfl rfl rfl ?_; intro a5 hE6; clear hE4
  refine c_nil ?_
  have hE7 := hE6.sub (L' := [(0, .slice apA ((ap).length / 2 : Nat) apC), (1, .int .i64 i), (5, .int .i64 1)]) ⟨rfl, rfl, rfl, trivial⟩; clear hE6
  refine p_tn ?_
  refine c_cut (fun a' w' => isOk (F_l02Part_L1 ap (Int.toNat (((ap.length / 2 : Nat) : Int) - i) + 1) i 1) = true ∧ (i ≤ ((okD (F_l02Part_L1 ap (Int.toNat (((ap.length / 2 : Nat) : Int) - i) + 1) i 1)).1)) ∧ (0 ≤ ((okD (F_l02Part_L1 ap (Int.toNat (((ap.length / 2 : Nat) : Int) - i) + 1) i 1)).2)) ∧ (((okD (F_l02Part_L1 ap (Int.toNat (((ap.length / 2 : Nat) : Int) - i) + 1) i 1)).2) ≤ ((okD (F_l02Part_L1 ap (Int.toNat (((ap.length / 2 : Nat) : Int) - i) + 1) i 1)).1) - i + 1) ∧ E a' 24 [(0, .slice apA ((ap).length / 2 : Nat) apC), (1, .int .i64 ((okD (F_l02Part_L1 ap (Int.toNat (((ap.length / 2 : Nat) : Int) - i) + 1) i 1)).1)), (5, .int .i64 ((okD (F_l02Part_L1 ap (Int.toNat (((ap.length / 2 : Nat) : Int) - i) + 1) i 1)).2))] ∧ St w w' [.rd 2 apA ((ap).length / 2 : Nat) apC ap]) ?_ ?_
  ·
   refine wp_block ?_
   refine c_loop (fun r a' w' => ∃ i1 : Int, ∃ open5 : Int, F_l02Part_L1 ap r i1 open5 = F_l02Part_L1 ap (Int.toNat (((ap.length / 2 : Nat) : Int) - i) + 1) i 1 ∧ Int.toNat (((ap.length / 2 : Nat) : Int) - i1) < r ∧ (i ≤ i1) ∧ (0 ≤ open5) ∧ (open5 ≤ i1 - i + 1) ∧ E a' 24 [(0, .slice apA ((ap).length / 2 : Nat) apC), (1, .int .i64 i1), (5, .int .i64 open5)] ∧ St w w' [.rd 2 apA ((ap).length / 2 : Nat) apC ap]) (r := (Int.toNat (((ap.length / 2 : Nat) : Int) - i) + 1)) ?_ ?_
   · exact ⟨i, 1, rfl, Nat.lt_succ_self _, (by first | omega | (simp only [sS_len, sL_len]; omega) | (simp only [List.length_replicate, sI_len]; omega) | (simp only [List.length_append, List.length_cons, List.length_nil, sI_len, cond_true, cond_false]; omega) | (simp only [List.length_append, List.length_cons, List.length_nil, sI_len, cond_eq_ite, apply_ite List.length]; split <;> simp only [List.length_append, List.length_cons, List.length_nil, sI_len] <;> omega) | grind), (by first | omega | (simp only [sS_len, sL_len]; omega) | (simp only [List.length_replicate, sI_len]; omega) | (simp only [List.length_append, List.length_cons, List.length_nil, sI_len, cond_true, cond_false]; omega) | (simp only [List.length_append, List.length_cons, List.length_nil, sI_len, cond_eq_ite, apply_ite List.length]; split <;> simp only [List.length_append, List.length_cons, List.length_nil, sI_len] <;> omega) | grind), (by first | omega | (simp only [sS_len, sL_len]; omega) | (simp only [List.length_replicate, sI_len]; omega) | (simp only [List.length_append, List.length_cons, List.length_nil, sI_len, cond_true, cond_false]; omega) | (simp only [List.length_append, List.length_cons, List.length_nil, sI_len, cond_eq_ite, apply_ite List.length]; split <;> simp only [List.length_append, List.length_cons, List.length_nil, sI_len] <;> omega) | grind), (hE7.sub (L' := [(0, .slice apA ((ap).length / 2 : Nat) apC), (1, .int .i64 i), (5, .int .i64 1)]) ⟨rfl, rfl, rfl, trivial⟩), (St.pick (Γ' := [.rd 2 apA ((ap).length / 2 : Nat) apC ap]) hS1 [0] (by decide) rfl)⟩
   ·
    clear hE7 hS1
    rintro r18 a9 w10 ⟨i1, open5, hT13, hr14, hi15, hi16, hi17, hE11, hS12⟩
    obtain ⟨r18, rfl⟩ : ∃ r', r18 = r' + 1 := ⟨r18 - 1, by omega⟩
    refine c_seq ?_
    refine c_seq ?_
    refine c_reg ?_
    refine q_step (v := .int .i64 open5) hE11 (y_move rfl) rfl rfl rfl ?_; intro a19 hE20; clear hE11
    refine q_step (v := .bool (decide (0 < open5))) hE20 (y_gtr rfl rfl) rfl rfl rfl ?_; intro a21 hE22; clear hE20
    refine c_nil ?_
    have hE23 := hE22.sub (L' := [(0, .slice apA ((ap).length / 2 : Nat) apC), (1, .int .i64 i1), (5, .int .i64 open5), (7, .bool (decide (0 < open5)))]) ⟨rfl, rfl, rfl, rfl, trivial⟩; clear hE22
    refine p_tn ?_
    refine c_cond hE23 rfl (fun ht24 => ?_) (fun ht24 => ?_)
    ·
     have hp25 := of_decide_eq_true ht24
     have hE26 := hE23; rw [ht24] at hE26; clear hE23
     refine wp_skip ?_
     refine p_tn ?_
     refine wp_block ?_
     refine c_seq ?_
     refine c_seq ?_
     refine c_reg ?_
     refine q_step (v := .int .i64 i1) hE26 (y_move rfl) rfl rfl rfl ?_; intro a27 hE28; clear hE26
     refine q_step (v := .slice apA ((ap).length / 2 : Nat) apC) hE28 (y_move rfl) rfl rfl rfl ?_; intro a29 hE30; clear hE28
     refine q_step (v := .int .i64 (((ap).length / 2 : Nat) : Int)) hE30 (y_len (e := 94) (by kernel_rfl) rfl) rfl rfl rfl ?_; intro a31 hE32; clear hE30
     refine q_step (v := .bool (decide ((((ap).length / 2 : Nat) : Int) ≤ i1))) hE32 (y_geq rfl rfl) rfl rfl rfl ?_; intro a33 hE34; clear hE32
     refine c_nil ?_
     have hE35 := hE34.sub (L' := [(0, .slice apA ((ap).length / 2 : Nat) apC), (1, .int .i64 i1), (5, .int .i64 open5), (11, .bool (decide ((((ap).length / 2 : Nat) : Int) ≤ i1)))]) ⟨rfl, rfl, rfl, rfl, trivial⟩; clear hE34
     refine p_tn ?_
     refine c_cond hE35 rfl (fun ht36 => ?_) (fun ht36 => ?_)
     ·
      have hp37 := of_decide_eq_true ht36
      have hE38 := hE35; rw [ht36] at hE38; clear hE35
      refine c_seq ?_
      refine c_reg ?_
      refine q_step (v := .int .i64 (-1)) hE38 (y_assign rfl) rfl rfl rfl ?_; intro a39 hE40; clear hE38
      refine c_nil ?_
      have hE41 := hE40.sub (L' := [(4, .int .i64 (-1))]) ⟨rfl, trivial⟩; clear hE40
      refine p_tn ?_
      refine wp_ret ?_
      refine p_tr ?_
      refine p_br ?_
      have hX42 : F_l02Part_L1 ap (Int.toNat (((ap.length / 2 : Nat) : Int) - i) + 1) i 1 = .error (-1) := hT13.symm.trans (show F_l02Part_L1b ap (F_l02Part_L1 ap r18) i1 open5 = .error (-1) by unfold F_l02Part_L1b; rw [ht36, ht24]; first | done | rfl)
      refine p_tr (p_br (p_tr ?_))
      have hF : F_l02Part ap i = -1 := by unfold F_l02Part; rw [hX42]; first | done | rfl
      refine c_ret1 hE41 rfl rfl ?_
      exact ⟨(by rw [hF]; first | done | (dsimp only; done) | rfl), hS12.ext⟩
     ·
      have hp43 := of_decide_eq_false ht36
      have hE44 := hE35; rw [ht36] at hE44; clear hE35
      refine wp_skip ?_
      refine p_tn ?_
      refine c_seq ?_
      refine c_reg ?_
      refine q_step (v := .int .i64 open5) hE44 (y_move rfl) rfl rfl rfl ?_; intro a45 hE46; clear hE44
      refine q_step (v := .int .i64 (open5 - 1)) hE46 (y_sub rfl rfl ⟨(by omega), (by omega)⟩) rfl rfl rfl ?_; intro a47 hE48; clear hE46
      refine q_step (v := .slice apA ((ap).length / 2 : Nat) apC) hE48 (y_move rfl) rfl rfl rfl ?_; intro a49 hE50; clear hE48
      refine q_step (v := .int .i64 i1) hE50 (y_move rfl) rfl rfl rfl ?_; intro a51 hE52; clear hE50
      refine q_step (v := .pointer (some (adr apA (Int.toNat i1 * 2)))) hE52 (y_idx (by kernel_rfl) (fun _ => by kernel_rfl) rfl rfl (RdS.isS (m := i1) (St.rdR (i := 0) hS12 rfl) (by omega) (by omega)) (by omega) (by omega) rfl) rfl rfl rfl ?_; intro a53 hE54; clear hE52
      refine q_step (v := .pointer (some (adr apA ((Int.toNat i1 * 2) + 0)))) hE54 (y_fieldE (o := 0) (fun _ _ => by kernel_rfl) rfl) rfl rfl rfl ?_; intro a55 hE56; clear hE54
      refine q_step (v := .int .i64 (gS 2 0 ap i1)) hE56 (y_load (fun _ => by kernel_rfl) rfl (RdS.eltS (j := 0) (St.rdR (i := 0) hS12 rfl) (by omega) (by omega) (by decide))) rfl rfl rfl ?_; intro a57 hE58; clear hE56
      refine l_step hE58 rfl (l_call (f := 135) (argv := [.int .i64 (gS 2 0 ap i1)]) hE58 (fun _ => cf_l02Parts _ _) rfl rfl (c_l02Parts (gS 2 0 ap i1) w10) ?_)
      rintro _ _ ⟨rfl, rfl⟩ a61 hE62; clear hE58
      have hf65 := l02Parts_bd (gS 2 0 ap i1)
      refine q_step (v := .int .i64 ((open5 - 1) + (F_l02Parts (gS 2 0 ap i1)))) hE62 (y_add rfl rfl ⟨(by omega), (by omega)⟩) rfl rfl rfl ?_; intro a66 hE67; clear hE62
      refine q_step (v := .int .i64 ((open5 - 1) + (F_l02Parts (gS 2 0 ap i1)))) hE67 (y_assign rfl) rfl rfl rfl ?_; intro a68 hE69; clear hE67
      refine c_nil ?_
      have hE70 := hE69.sub (L' := [(0, .slice apA ((ap).length / 2 : Nat) apC), (1, .int .i64 i1), (5, .int .i64 ((open5 - 1) + (F_l02Parts (gS 2 0 ap i1))))]) ⟨rfl, rfl, rfl, trivial⟩; clear hE69
      refine p_tn ?_
      refine c_reg ?_
      refine q_step (v := .int .i64 i1) hE70 (y_move rfl) rfl rfl rfl ?_; intro a71 hE72; clear hE70
      refine q_step (v := .int .i64 (i1 + 1)) hE72 (y_add rfl rfl ⟨(by omega), (by omega)⟩) rfl rfl rfl ?_; intro a73 hE74; clear hE72
      refine q_step (v := .int .i64 (i1 + 1)) hE74 (y_assign rfl) rfl rfl rfl ?_; intro a75 hE76; clear hE74
      refine c_nil ?_
      have hE77 := hE76.sub (L' := [(0, .slice apA ((ap).length / 2 : Nat) apC), (1, .int .i64 (i1 + 1)), (5, .int .i64 ((open5 - 1) + (F_l02Parts (gS 2 0 ap i1))))]) ⟨rfl, rfl, rfl, trivial⟩; clear hE76
      refine p_bn ?_
      refine p_tn ⟨r18, Nat.lt_succ_self _, i1 + 1, (open5 - 1) + (F_l02Parts (gS 2 0 ap i1)), (hT13.symm.trans (show F_l02Part_L1b ap (F_l02Part_L1 ap r18) i1 open5 = F_l02Part_L1 ap r18 (i1 + 1) ((open5 - 1) + (F_l02Parts (gS 2 0 ap i1))) by unfold F_l02Part_L1b; rw [ht36, ht24]; first | done | rfl)).symm, (by omega), (by first | omega | (simp only [sS_len, sL_len]; omega) | (simp only [List.length_replicate, sI_len]; omega) | (simp only [List.length_append, List.length_cons, List.length_nil, sI_len, cond_true, cond_false]; omega) | (simp only [List.length_append, List.length_cons, List.length_nil, sI_len, cond_eq_ite, apply_ite List.length]; split <;> simp only [List.length_append, List.length_cons, List.length_nil, sI_len] <;> omega) | grind), (by first | omega | (simp only [sS_len, sL_len]; omega) | (simp only [List.length_replicate, sI_len]; omega) | (simp only [List.length_append, List.length_cons, List.length_nil, sI_len, cond_true, cond_false]; omega) | (simp only [List.length_append, List.length_cons, List.length_nil, sI_len, cond_eq_ite, apply_ite List.length]; split <;> simp only [List.length_append, List.length_cons, List.length_nil, sI_len] <;> omega) | grind), (by first | omega | (simp only [sS_len, sL_len]; omega) | (simp only [List.length_replicate, sI_len]; omega) | (simp only [List.length_append, List.length_cons, List.length_nil, sI_len, cond_true, cond_false]; omega) | (simp only [List.length_append, List.length_cons, List.length_nil, sI_len, cond_eq_ite, apply_ite List.length]; split <;> simp only [List.length_append, List.length_cons, List.length_nil, sI_len] <;> omega) | grind), (hE77.sub (L' := [(0, .slice apA ((ap).length / 2 : Nat) apC), (1, .int .i64 (i1 + 1)), (5, .int .i64 ((open5 - 1) + (F_l02Parts (gS 2 0 ap i1))))]) ⟨rfl, rfl, rfl, trivial⟩), (St.pick (Γ' := [.rd 2 apA ((ap).length / 2 : Nat) apC ap]) hS12 [0] (by decide) rfl)⟩
    ·
     have hp78 := of_decide_eq_false ht24
     have hE79 := hE23; rw [ht24] at hE79; clear hE23
     refine wp_exit ?_
     refine p_te ?_
     have hX80 : F_l02Part_L1 ap (Int.toNat (((ap.length / 2 : Nat) : Int) - i) + 1) i 1 = .ok (i1, open5) := hT13.symm.trans (show F_l02Part_L1b ap (F_l02Part_L1 ap r18) i1 open5 = .ok (i1, open5) by unfold F_l02Part_L1b; rw [ht24]; first | done | rfl)
     refine p_te (p_be (p_tn ?_))
     exact ⟨(by rw [hX80]; rfl), (by rw [hX80]; exact (show i ≤ i1 from (by first | omega | (simp only [sS_len, sL_len]; omega) | (simp only [List.length_replicate, sI_len]; omega) | (simp only [List.length_append, List.length_cons, List.length_nil, sI_len, cond_true, cond_false]; omega) | (simp only [List.length_append, List.length_cons, List.length_nil, sI_len, cond_eq_ite, apply_ite List.length]; split <;> simp only [List.length_append, List.length_cons, List.length_nil, sI_len] <;> omega) | grind))), (by rw [hX80]; exact (show 0 ≤ open5 from (by first | omega | (simp only [sS_len, sL_len]; omega) | (simp only [List.length_replicate, sI_len]; omega) | (simp only [List.length_append, List.length_cons, List.length_nil, sI_len, cond_true, cond_false]; omega) | (simp only [List.length_append, List.length_cons, List.length_nil, sI_len, cond_eq_ite, apply_ite List.length]; split <;> simp only [List.length_append, List.length_cons, List.length_nil, sI_len] <;> omega) | grind))), (by rw [hX80]; exact (show open5 ≤ i1 - i + 1 from (by first | omega | (simp only [sS_len, sL_len]; omega) | (simp only [List.length_replicate, sI_len]; omega) | (simp only [List.length_append, List.length_cons, List.length_nil, sI_len, cond_true, cond_false]; omega) | (simp only [List.length_append, List.length_cons, List.length_nil, sI_len, cond_eq_ite, apply_ite List.length]; split <;> simp only [List.length_append, List.length_cons, List.length_nil, sI_len] <;> omega) | grind))), (by rw [hX80]; exact (hE79.sub (L' := [(0, .slice apA ((ap).length / 2 : Nat) apC), (1, .int .i64 i1), (5, .int .i64 open5)]) ⟨rfl, rfl, rfl, trivial⟩)), (St.pick (Γ' := [.rd 2 apA ((ap).length / 2 : Nat) apC ap]) hS12 [0] (by decide) rfl)⟩
  ·
   rintro a81 w82 ⟨hO85, hi86, hi87, hi88, hE83, hS84⟩; clear hE7 hS1
   refine c_seq ?_
   refine c_reg ?_
   refine q_step (v := .int .i64 ((okD (F_l02Part_L1 ap (Int.toNat (((ap.length / 2 : Nat) : Int) - i) + 1) i 1)).1)) hE83 (y_move rfl) rfl rfl rfl ?_; intro a89 hE90; clear hE83
   refine q_step (v := .int .i64 ((okD (F_l02Part_L1 ap (Int.toNat (((ap.length / 2 : Nat) : Int) - i) + 1) i 1)).1)) hE90 (y_assign rfl) rfl rfl rfl ?_; intro a91 hE92; clear hE90
   refine c_nil ?_
   have hE93 := hE92.sub (L' := [(4, .int .i64 ((okD (F_l02Part_L1 ap (Int.toNat (((ap.length / 2 : Nat) : Int) - i) + 1) i 1)).1))]) ⟨rfl, trivial⟩; clear hE92
   refine p_tn ?_
   refine wp_ret ?_
   have hF : F_l02Part ap i = (okD (F_l02Part_L1 ap (Int.toNat (((ap.length / 2 : Nat) : Int) - i) + 1) i 1)).1 := by unfold F_l02Part; rw [hO85]; first | done | rfl
   refine c_ret1 hE93 rfl rfl ?_
   exact ⟨(by rw [hF]; first | done | (dsimp only; done) | rfl), hS84.ext⟩
def F_partEnd_L1b (ap : List Int) (rec : Int → Int → Except (Int) (Int × Int)) (i1 : Int) (open5 : Int) : Except (Int) (Int × Int) :=
  bif (decide (0 < open5)) then (bif (decide ((((ap).length / 2 : Nat) : Int) ≤ i1)) then (.error (-1)) else (rec (i1 + 1) (open5 + ((F_partsOf (gS 2 0 ap i1)) - 1)))) else (.ok (i1, open5))
def F_partEnd_L1 (ap : List Int) : Nat → Int → Int → Except (Int) (Int × Int)
  | 0, i1, open5 => .ok (i1, open5)
  | r + 1, i1, open5 => F_partEnd_L1b ap (F_partEnd_L1 ap r) i1 open5
def F_partEnd (ap : List Int) (i : Int) : Int :=
  bif (isOk (F_partEnd_L1 ap (Int.toNat (((ap.length / 2 : Nat) : Int) - i) + 1) i 1)) then ((okD (F_partEnd_L1 ap (Int.toNat (((ap.length / 2 : Nat) : Int) - i) + 1) i 1)).1) else (errD (F_partEnd_L1 ap (Int.toNat (((ap.length / 2 : Nat) : Int) - i) + 1) i 1))
theorem cf_partEnd (args : Array Value) (w : World) : (callFunc 77 args).run Try.prog w = .ok (.enter 77 args) w := by kernel_rfl
set_option maxRecDepth 100000 in
theorem c_partEnd (apA : Option Addr) (apN apC : Nat) (ap : List Int) (i : Int) (w : World) (apR : RdS w 2 apA apN apC ap) (hl : ap.length ≤ 4194304) (h0 : 0 ≤ i) :
    Calls Try.prog 77 #[.slice apA apN apC, .int .i64 i] w (Ret fun v w' => v = .int .i64 (F_partEnd ap i) ∧ Ext w w') := by
  obtain rfl : apN = ap.length / 2 := (apR.lenD (by decide)).symm
  have apEv := apR.ev (by decide)
  have apLe := apR.le
  have hS := St.nil w
  have hS1 := St.rd0 hS rfl apR; clear hS
  refine enter (args := [.slice apA ((ap).length / 2 : Nat) apC, .int .i64 i]) Try.func77 rfl rfl ?_
  rw [Try.ntmps77]; intro a hE
  have hE := hE.sub (L' := [(0, .slice apA ((ap).length / 2 : Nat) apC), (1, .int .i64 i)]) ⟨rfl, rfl, trivial⟩
  refine c_seq ?_
  refine c_reg ?_
  refine q_step (v := .int .i64 0) hE (y_assign rfl) rfl rfl rfl ?_; intro a2 hE3; clear hE
  refine c_nil ?_
  have hE4 := hE3.sub (L' := [(0, .slice apA ((ap).length / 2 : Nat) apC), (1, .int .i64 i)]) ⟨rfl, rfl, trivial⟩; clear hE3
  refine p_tn ?_
  refine c_seq ?_
  refine c_seq ?_
  refine c_reg ?_
  refine q_step (v := .int .i64 1) hE4 (y_assign rfl) rfl rfl rfl ?_; intro a5 hE6; clear hE4
  refine c_nil ?_
  have hE7 := hE6.sub (L' := [(0, .slice apA ((ap).length / 2 : Nat) apC), (1, .int .i64 i), (5, .int .i64 1)]) ⟨rfl, rfl, rfl, trivial⟩; clear hE6
  refine p_tn ?_
  refine c_cut1 (fun a' w' => isOk (F_partEnd_L1 ap (Int.toNat (((ap.length / 2 : Nat) : Int) - i) + 1) i 1) = true ∧ (i ≤ ((okD (F_partEnd_L1 ap (Int.toNat (((ap.length / 2 : Nat) : Int) - i) + 1) i 1)).1)) ∧ (0 ≤ ((okD (F_partEnd_L1 ap (Int.toNat (((ap.length / 2 : Nat) : Int) - i) + 1) i 1)).2)) ∧ (((okD (F_partEnd_L1 ap (Int.toNat (((ap.length / 2 : Nat) : Int) - i) + 1) i 1)).2) ≤ ((okD (F_partEnd_L1 ap (Int.toNat (((ap.length / 2 : Nat) : Int) - i) + 1) i 1)).1) - i + 1) ∧ E a' 24 [(0, .slice apA ((ap).length / 2 : Nat) apC), (1, .int .i64 ((okD (F_partEnd_L1 ap (Int.toNat (((ap.length / 2 : Nat) : Int) - i) + 1) i 1)).1)), (5, .int .i64 ((okD (F_partEnd_L1 ap (Int.toNat (((ap.length / 2 : Nat) : Int) - i) + 1) i 1)).2))] ∧ St w w' [.rd 2 apA ((ap).length / 2 : Nat) apC ap]) ?_ ?_
  ·
   refine wp_block ?_
   refine c_loop (fun r a' w' => ∃ i1 : Int, ∃ open5 : Int, F_partEnd_L1 ap r i1 open5 = F_partEnd_L1 ap (Int.toNat (((ap.length / 2 : Nat) : Int) - i) + 1) i 1 ∧ Int.toNat (((ap.length / 2 : Nat) : Int) - i1) < r ∧ (i ≤ i1) ∧ (0 ≤ open5) ∧ (open5 ≤ i1 - i + 1) ∧ E a' 24 [(0, .slice apA ((ap).length / 2 : Nat) apC), (1, .int .i64 i1), (5, .int .i64 open5)] ∧ St w w' [.rd 2 apA ((ap).length / 2 : Nat) apC ap]) (r := (Int.toNat (((ap.length / 2 : Nat) : Int) - i) + 1)) ?_ ?_
   · exact ⟨i, 1, rfl, Nat.lt_succ_self _, (by first | omega | (simp only [sS_len, sL_len]; omega) | (simp only [List.length_replicate, sI_len]; omega) | (simp only [List.length_append, List.length_cons, List.length_nil, sI_len, cond_true, cond_false]; omega) | (simp only [List.length_append, List.length_cons, List.length_nil, sI_len, cond_eq_ite, apply_ite List.length]; split <;> simp only [List.length_append, List.length_cons, List.length_nil, sI_len] <;> omega) | grind), (by first | omega | (simp only [sS_len, sL_len]; omega) | (simp only [List.length_replicate, sI_len]; omega) | (simp only [List.length_append, List.length_cons, List.length_nil, sI_len, cond_true, cond_false]; omega) | (simp only [List.length_append, List.length_cons, List.length_nil, sI_len, cond_eq_ite, apply_ite List.length]; split <;> simp only [List.length_append, List.length_cons, List.length_nil, sI_len] <;> omega) | grind), (by first | omega | (simp only [sS_len, sL_len]; omega) | (simp only [List.length_replicate, sI_len]; omega) | (simp only [List.length_append, List.length_cons, List.length_nil, sI_len, cond_true, cond_false]; omega) | (simp only [List.length_append, List.length_cons, List.length_nil, sI_len, cond_eq_ite, apply_ite List.length]; split <;> simp only [List.length_append, List.length_cons, List.length_nil, sI_len] <;> omega) | grind), (hE7.sub (L' := [(0, .slice apA ((ap).length / 2 : Nat) apC), (1, .int .i64 i), (5, .int .i64 1)]) ⟨rfl, rfl, rfl, trivial⟩), (St.pick (Γ' := [.rd 2 apA ((ap).length / 2 : Nat) apC ap]) hS1 [0] (by decide) rfl)⟩
   ·
    clear hE7 hS1
    rintro r18 a9 w10 ⟨i1, open5, hT13, hr14, hi15, hi16, hi17, hE11, hS12⟩
    obtain ⟨r18, rfl⟩ : ∃ r', r18 = r' + 1 := ⟨r18 - 1, by omega⟩
    refine c_seq ?_
    refine c_seq ?_
    refine c_reg ?_
    refine q_step (v := .int .i64 open5) hE11 (y_move rfl) rfl rfl rfl ?_; intro a19 hE20; clear hE11
    refine q_step (v := .bool (decide (0 < open5))) hE20 (y_gtr rfl rfl) rfl rfl rfl ?_; intro a21 hE22; clear hE20
    refine c_nil ?_
    have hE23 := hE22.sub (L' := [(0, .slice apA ((ap).length / 2 : Nat) apC), (1, .int .i64 i1), (5, .int .i64 open5), (7, .bool (decide (0 < open5)))]) ⟨rfl, rfl, rfl, rfl, trivial⟩; clear hE22
    refine p_tn ?_
    refine c_cond hE23 rfl (fun ht24 => ?_) (fun ht24 => ?_)
    ·
     have hp25 := of_decide_eq_true ht24
     have hE26 := hE23; rw [ht24] at hE26; clear hE23
     refine wp_skip ?_
     refine p_tn ?_
     refine c_seq ?_
     refine wp_block ?_
     refine c_seq ?_
     refine c_seq ?_
     refine c_reg ?_
     refine q_step (v := .int .i64 i1) hE26 (y_move rfl) rfl rfl rfl ?_; intro a27 hE28; clear hE26
     refine q_step (v := .slice apA ((ap).length / 2 : Nat) apC) hE28 (y_move rfl) rfl rfl rfl ?_; intro a29 hE30; clear hE28
     refine q_step (v := .int .i64 (((ap).length / 2 : Nat) : Int)) hE30 (y_len (e := 94) (by kernel_rfl) rfl) rfl rfl rfl ?_; intro a31 hE32; clear hE30
     refine q_step (v := .bool (decide ((((ap).length / 2 : Nat) : Int) ≤ i1))) hE32 (y_geq rfl rfl) rfl rfl rfl ?_; intro a33 hE34; clear hE32
     refine c_nil ?_
     have hE35 := hE34.sub (L' := [(0, .slice apA ((ap).length / 2 : Nat) apC), (1, .int .i64 i1), (5, .int .i64 open5), (13, .bool (decide ((((ap).length / 2 : Nat) : Int) ≤ i1)))]) ⟨rfl, rfl, rfl, rfl, trivial⟩; clear hE34
     refine p_tn ?_
     refine c_cond hE35 rfl (fun ht36 => ?_) (fun ht36 => ?_)
     ·
      have hp37 := of_decide_eq_true ht36
      have hE38 := hE35; rw [ht36] at hE38; clear hE35
      refine c_seq ?_
      refine c_reg ?_
      refine q_step (v := .int .i64 (-1)) hE38 (y_assign rfl) rfl rfl rfl ?_; intro a39 hE40; clear hE38
      refine c_nil ?_
      have hE41 := hE40.sub (L' := [(4, .int .i64 (-1))]) ⟨rfl, trivial⟩; clear hE40
      refine p_tn ?_
      refine wp_ret ?_
      refine p_tr ?_
      refine p_br ?_
      refine p_tr ?_
      have hX42 : F_partEnd_L1 ap (Int.toNat (((ap.length / 2 : Nat) : Int) - i) + 1) i 1 = .error (-1) := hT13.symm.trans (show F_partEnd_L1b ap (F_partEnd_L1 ap r18) i1 open5 = .error (-1) by unfold F_partEnd_L1b; rw [ht36, ht24]; first | done | rfl)
      refine p_tr (p_br (p_tr ?_))
      refine p_tr ?_
      have hF : F_partEnd ap i = -1 := by unfold F_partEnd; rw [hX42]; first | done | rfl
      refine c_ret1 hE41 rfl rfl ?_
      exact ⟨(by rw [hF]; first | done | (dsimp only; done) | rfl), hS12.ext⟩
     ·
      have hp43 := of_decide_eq_false ht36
      have hE44 := hE35; rw [ht36] at hE44; clear hE35
      refine wp_skip ?_
      refine p_tn ?_
      refine c_reg ?_
      refine q_step (v := .int .i64 open5) hE44 (y_move rfl) rfl rfl rfl ?_; intro a45 hE46; clear hE44
      refine q_step (v := .slice apA ((ap).length / 2 : Nat) apC) hE46 (y_move rfl) rfl rfl rfl ?_; intro a47 hE48; clear hE46
      refine q_step (v := .int .i64 i1) hE48 (y_move rfl) rfl rfl rfl ?_; intro a49 hE50; clear hE48
      refine q_step (v := .pointer (some (adr apA (Int.toNat i1 * 2)))) hE50 (y_idx (by kernel_rfl) (fun _ => by kernel_rfl) rfl rfl (RdS.isS (m := i1) (St.rdR (i := 0) hS12 rfl) (by omega) (by omega)) (by omega) (by omega) rfl) rfl rfl rfl ?_; intro a51 hE52; clear hE50
      refine q_step (v := .pointer (some (adr apA ((Int.toNat i1 * 2) + 0)))) hE52 (y_fieldE (o := 0) (fun _ _ => by kernel_rfl) rfl) rfl rfl rfl ?_; intro a53 hE54; clear hE52
      refine q_step (v := .int .i64 (gS 2 0 ap i1)) hE54 (y_load (fun _ => by kernel_rfl) rfl (RdS.eltS (j := 0) (St.rdR (i := 0) hS12 rfl) (by omega) (by omega) (by decide))) rfl rfl rfl ?_; intro a55 hE56; clear hE54
      refine l_step hE56 rfl (l_call (f := 126) (argv := [.int .i64 (gS 2 0 ap i1)]) hE56 (fun _ => cf_partsOf _ _) rfl rfl (c_partsOf (gS 2 0 ap i1) w10) ?_)
      rintro _ _ ⟨rfl, rfl⟩ a59 hE60; clear hE56
      have hf63 := partsOf_bd (gS 2 0 ap i1)
      refine q_step (v := .int .i64 ((F_partsOf (gS 2 0 ap i1)) - 1)) hE60 (y_sub rfl rfl ⟨(by omega), (by omega)⟩) rfl rfl rfl ?_; intro a64 hE65; clear hE60
      refine q_step (v := .int .i64 (open5 + ((F_partsOf (gS 2 0 ap i1)) - 1))) hE65 (y_add rfl rfl ⟨(by omega), (by omega)⟩) rfl rfl rfl ?_; intro a66 hE67; clear hE65
      refine q_step (v := .int .i64 (open5 + ((F_partsOf (gS 2 0 ap i1)) - 1))) hE67 (y_assign rfl) rfl rfl rfl ?_; intro a68 hE69; clear hE67
      refine c_nil ?_
      have hE70 := hE69.sub (L' := [(0, .slice apA ((ap).length / 2 : Nat) apC), (1, .int .i64 i1), (5, .int .i64 (open5 + ((F_partsOf (gS 2 0 ap i1)) - 1)))]) ⟨rfl, rfl, rfl, trivial⟩; clear hE69
      refine p_bn ?_
      refine p_tn ?_
      refine c_reg ?_
      refine q_step (v := .int .i64 i1) hE70 (y_move rfl) rfl rfl rfl ?_; intro a71 hE72; clear hE70
      refine q_step (v := .int .i64 (i1 + 1)) hE72 (y_add rfl rfl ⟨(by omega), (by omega)⟩) rfl rfl rfl ?_; intro a73 hE74; clear hE72
      refine q_step (v := .int .i64 (i1 + 1)) hE74 (y_assign rfl) rfl rfl rfl ?_; intro a75 hE76; clear hE74
      refine c_nil ?_
      have hE77 := hE76.sub (L' := [(0, .slice apA ((ap).length / 2 : Nat) apC), (1, .int .i64 (i1 + 1)), (5, .int .i64 (open5 + ((F_partsOf (gS 2 0 ap i1)) - 1)))]) ⟨rfl, rfl, rfl, trivial⟩; clear hE76
      refine p_tn ⟨r18, Nat.lt_succ_self _, i1 + 1, open5 + ((F_partsOf (gS 2 0 ap i1)) - 1), (hT13.symm.trans (show F_partEnd_L1b ap (F_partEnd_L1 ap r18) i1 open5 = F_partEnd_L1 ap r18 (i1 + 1) (open5 + ((F_partsOf (gS 2 0 ap i1)) - 1)) by unfold F_partEnd_L1b; rw [ht36, ht24]; first | done | rfl)).symm, (by omega), (by first | omega | (simp only [sS_len, sL_len]; omega) | (simp only [List.length_replicate, sI_len]; omega) | (simp only [List.length_append, List.length_cons, List.length_nil, sI_len, cond_true, cond_false]; omega) | (simp only [List.length_append, List.length_cons, List.length_nil, sI_len, cond_eq_ite, apply_ite List.length]; split <;> simp only [List.length_append, List.length_cons, List.length_nil, sI_len] <;> omega) | grind), (by first | omega | (simp only [sS_len, sL_len]; omega) | (simp only [List.length_replicate, sI_len]; omega) | (simp only [List.length_append, List.length_cons, List.length_nil, sI_len, cond_true, cond_false]; omega) | (simp only [List.length_append, List.length_cons, List.length_nil, sI_len, cond_eq_ite, apply_ite List.length]; split <;> simp only [List.length_append, List.length_cons, List.length_nil, sI_len] <;> omega) | grind), (by first | omega | (simp only [sS_len, sL_len]; omega) | (simp only [List.length_replicate, sI_len]; omega) | (simp only [List.length_append, List.length_cons, List.length_nil, sI_len, cond_true, cond_false]; omega) | (simp only [List.length_append, List.length_cons, List.length_nil, sI_len, cond_eq_ite, apply_ite List.length]; split <;> simp only [List.length_append, List.length_cons, List.length_nil, sI_len] <;> omega) | grind), (hE77.sub (L' := [(0, .slice apA ((ap).length / 2 : Nat) apC), (1, .int .i64 (i1 + 1)), (5, .int .i64 (open5 + ((F_partsOf (gS 2 0 ap i1)) - 1)))]) ⟨rfl, rfl, rfl, trivial⟩), (St.pick (Γ' := [.rd 2 apA ((ap).length / 2 : Nat) apC ap]) hS12 [0] (by decide) rfl)⟩
    ·
     have hp78 := of_decide_eq_false ht24
     have hE79 := hE23; rw [ht24] at hE79; clear hE23
     refine wp_exit ?_
     refine p_te ?_
     have hX80 : F_partEnd_L1 ap (Int.toNat (((ap.length / 2 : Nat) : Int) - i) + 1) i 1 = .ok (i1, open5) := hT13.symm.trans (show F_partEnd_L1b ap (F_partEnd_L1 ap r18) i1 open5 = .ok (i1, open5) by unfold F_partEnd_L1b; rw [ht24]; first | done | rfl)
     refine p_te (p_be (p_tn ?_))
     exact ⟨(by rw [hX80]; rfl), (by rw [hX80]; exact (show i ≤ i1 from (by first | omega | (simp only [sS_len, sL_len]; omega) | (simp only [List.length_replicate, sI_len]; omega) | (simp only [List.length_append, List.length_cons, List.length_nil, sI_len, cond_true, cond_false]; omega) | (simp only [List.length_append, List.length_cons, List.length_nil, sI_len, cond_eq_ite, apply_ite List.length]; split <;> simp only [List.length_append, List.length_cons, List.length_nil, sI_len] <;> omega) | grind))), (by rw [hX80]; exact (show 0 ≤ open5 from (by first | omega | (simp only [sS_len, sL_len]; omega) | (simp only [List.length_replicate, sI_len]; omega) | (simp only [List.length_append, List.length_cons, List.length_nil, sI_len, cond_true, cond_false]; omega) | (simp only [List.length_append, List.length_cons, List.length_nil, sI_len, cond_eq_ite, apply_ite List.length]; split <;> simp only [List.length_append, List.length_cons, List.length_nil, sI_len] <;> omega) | grind))), (by rw [hX80]; exact (show open5 ≤ i1 - i + 1 from (by first | omega | (simp only [sS_len, sL_len]; omega) | (simp only [List.length_replicate, sI_len]; omega) | (simp only [List.length_append, List.length_cons, List.length_nil, sI_len, cond_true, cond_false]; omega) | (simp only [List.length_append, List.length_cons, List.length_nil, sI_len, cond_eq_ite, apply_ite List.length]; split <;> simp only [List.length_append, List.length_cons, List.length_nil, sI_len] <;> omega) | grind))), (by rw [hX80]; exact (hE79.sub (L' := [(0, .slice apA ((ap).length / 2 : Nat) apC), (1, .int .i64 i1), (5, .int .i64 open5)]) ⟨rfl, rfl, rfl, trivial⟩)), (St.pick (Γ' := [.rd 2 apA ((ap).length / 2 : Nat) apC ap]) hS12 [0] (by decide) rfl)⟩
  ·
   rintro a81 w82 ⟨hO85, hi86, hi87, hi88, hE83, hS84⟩; clear hE7 hS1
   refine p_tn ?_
   refine c_seq ?_
   refine c_reg ?_
   refine q_step (v := .int .i64 ((okD (F_partEnd_L1 ap (Int.toNat (((ap.length / 2 : Nat) : Int) - i) + 1) i 1)).1)) hE83 (y_move rfl) rfl rfl rfl ?_; intro a89 hE90; clear hE83
   refine q_step (v := .int .i64 ((okD (F_partEnd_L1 ap (Int.toNat (((ap.length / 2 : Nat) : Int) - i) + 1) i 1)).1)) hE90 (y_assign rfl) rfl rfl rfl ?_; intro a91 hE92; clear hE90
   refine c_nil ?_
   have hE93 := hE92.sub (L' := [(4, .int .i64 ((okD (F_partEnd_L1 ap (Int.toNat (((ap.length / 2 : Nat) : Int) - i) + 1) i 1)).1))]) ⟨rfl, trivial⟩; clear hE92
   refine p_tn ?_
   refine wp_ret ?_
   have hF : F_partEnd ap i = (okD (F_partEnd_L1 ap (Int.toNat (((ap.length / 2 : Nat) : Int) - i) + 1) i 1)).1 := by unfold F_partEnd; rw [hO85]; first | done | rfl
   refine c_ret1 hE93 rfl rfl ?_
   exact ⟨(by rw [hF]; first | done | (dsimp only; done) | rfl), hS84.ext⟩
def F_l02Tree_L1b (ap : List Int) (rec : Int → Except (Bool) (Int)) (i3 : Int) : Except (Bool) (Int) :=
  bif (decide (i3 < (((ap).length / 2 : Nat) : Int))) then (bif ((!(F_l01In (gS 2 0 ap i3) 0 6)) || ((!(F_l01In (gS 2 1 ap i3) 0 5)) || ((!decide ((gS 2 0 ap i3) = 0)) && (!decide ((gS 2 1 ap i3) = 0))))) then (.error false) else (rec (i3 + 1))) else (.ok i3)
def F_l02Tree_L1 (ap : List Int) : Nat → Int → Except (Bool) (Int)
  | 0, i3 => .ok i3
  | r + 1, i3 => F_l02Tree_L1b ap (F_l02Tree_L1 ap r) i3
def F_l02Tree (ap : List Int) : Bool :=
  bif (isOk (F_l02Tree_L1 ap (Int.toNat ((((ap).length / 2 : Nat) : Int) - 0) + 1) 0)) then ((decide (0 < (((ap).length / 2 : Nat) : Int))) && (decide ((F_l02Part ap 0) = (((ap).length / 2 : Nat) : Int)))) else (errD (F_l02Tree_L1 ap (Int.toNat ((((ap).length / 2 : Nat) : Int) - 0) + 1) 0))
theorem cf_l02Tree (args : Array Value) (w : World) : (callFunc 134 args).run Try.prog w = .ok (.enter 134 args) w := by kernel_rfl
set_option maxRecDepth 100000 in
theorem c_l02Tree (apA : Option Addr) (apN apC : Nat) (ap : List Int) (w : World) (apR : RdS w 2 apA apN apC ap) (hl : ap.length ≤ 4194304) :
    Calls Try.prog 134 #[.slice apA apN apC] w (Ret fun v w' => v = .bool (F_l02Tree ap) ∧ Ext w w') := by
  obtain rfl : apN = ap.length / 2 := (apR.lenD (by decide)).symm
  have apEv := apR.ev (by decide)
  have apLe := apR.le
  have hS := St.nil w
  have hS1 := St.rd0 hS rfl apR; clear hS
  refine enter (args := [.slice apA ((ap).length / 2 : Nat) apC]) Try.func134 rfl rfl ?_
  rw [Try.ntmps134]; intro a hE
  have hE := hE.sub (L' := [(0, .slice apA ((ap).length / 2 : Nat) apC)]) ⟨rfl, trivial⟩
  refine c_seq ?_
  refine c_reg ?_
  refine q_step (v := .bool false) hE (y_assign rfl) rfl rfl rfl ?_; intro a2 hE3; clear hE
  refine c_nil ?_
  have hE4 := hE3.sub (L' := [(0, .slice apA ((ap).length / 2 : Nat) apC)]) ⟨rfl, trivial⟩; clear hE3
  refine p_tn ?_
  refine c_seq ?_
  refine c_seq ?_
  refine c_reg ?_
  refine q_step (v := .int .i64 0) hE4 (y_assign rfl) rfl rfl rfl ?_; intro a5 hE6; clear hE4
  refine c_nil ?_
  have hE7 := hE6.sub (L' := [(0, .slice apA ((ap).length / 2 : Nat) apC), (3, .int .i64 0)]) ⟨rfl, rfl, trivial⟩; clear hE6
  refine p_tn ?_
  refine c_cut1 (fun a' w' => isOk (F_l02Tree_L1 ap (Int.toNat ((((ap).length / 2 : Nat) : Int) - 0) + 1) 0) = true ∧ (0 ≤ (okD (F_l02Tree_L1 ap (Int.toNat ((((ap).length / 2 : Nat) : Int) - 0) + 1) 0))) ∧ ((okD (F_l02Tree_L1 ap (Int.toNat ((((ap).length / 2 : Nat) : Int) - 0) + 1) 0)) ≤ (((ap).length / 2 : Nat) : Int)) ∧ E a' 52 [(0, .slice apA ((ap).length / 2 : Nat) apC), (3, .int .i64 (okD (F_l02Tree_L1 ap (Int.toNat ((((ap).length / 2 : Nat) : Int) - 0) + 1) 0)))] ∧ St w w' [.rd 2 apA ((ap).length / 2 : Nat) apC ap]) ?_ ?_
  ·
   refine wp_block ?_
   refine c_loop (fun r a' w' => ∃ i3 : Int, F_l02Tree_L1 ap r i3 = F_l02Tree_L1 ap (Int.toNat ((((ap).length / 2 : Nat) : Int) - 0) + 1) 0 ∧ Int.toNat ((((ap).length / 2 : Nat) : Int) - i3) < r ∧ (0 ≤ i3) ∧ (i3 ≤ (((ap).length / 2 : Nat) : Int)) ∧ E a' 52 [(0, .slice apA ((ap).length / 2 : Nat) apC), (3, .int .i64 i3)] ∧ St w w' [.rd 2 apA ((ap).length / 2 : Nat) apC ap]) (r := (Int.toNat ((((ap).length / 2 : Nat) : Int) - 0) + 1)) ?_ ?_
   · exact ⟨0, rfl, Nat.lt_succ_self _, (by first | omega | (simp only [sS_len, sL_len]; omega) | (simp only [List.length_replicate, sI_len]; omega) | (simp only [List.length_append, List.length_cons, List.length_nil, sI_len, cond_true, cond_false]; omega) | (simp only [List.length_append, List.length_cons, List.length_nil, sI_len, cond_eq_ite, apply_ite List.length]; split <;> simp only [List.length_append, List.length_cons, List.length_nil, sI_len] <;> omega) | grind), (by first | omega | (simp only [sS_len, sL_len]; omega) | (simp only [List.length_replicate, sI_len]; omega) | (simp only [List.length_append, List.length_cons, List.length_nil, sI_len, cond_true, cond_false]; omega) | (simp only [List.length_append, List.length_cons, List.length_nil, sI_len, cond_eq_ite, apply_ite List.length]; split <;> simp only [List.length_append, List.length_cons, List.length_nil, sI_len] <;> omega) | grind), (hE7.sub (L' := [(0, .slice apA ((ap).length / 2 : Nat) apC), (3, .int .i64 0)]) ⟨rfl, rfl, trivial⟩), (St.pick (Γ' := [.rd 2 apA ((ap).length / 2 : Nat) apC ap]) hS1 [0] (by decide) rfl)⟩
   ·
    clear hE7 hS1
    rintro r17 a9 w10 ⟨i3, hT13, hr14, hi15, hi16, hE11, hS12⟩
    obtain ⟨r17, rfl⟩ : ∃ r', r17 = r' + 1 := ⟨r17 - 1, by omega⟩
    refine c_seq ?_
    refine c_seq ?_
    refine c_reg ?_
    refine q_step (v := .int .i64 i3) hE11 (y_move rfl) rfl rfl rfl ?_; intro a18 hE19; clear hE11
    refine q_step (v := .slice apA ((ap).length / 2 : Nat) apC) hE19 (y_move rfl) rfl rfl rfl ?_; intro a20 hE21; clear hE19
    refine q_step (v := .int .i64 (((ap).length / 2 : Nat) : Int)) hE21 (y_len (e := 94) (by kernel_rfl) rfl) rfl rfl rfl ?_; intro a22 hE23; clear hE21
    refine q_step (v := .bool (decide (i3 < (((ap).length / 2 : Nat) : Int)))) hE23 (y_lss rfl rfl) rfl rfl rfl ?_; intro a24 hE25; clear hE23
    refine c_nil ?_
    have hE26 := hE25.sub (L' := [(0, .slice apA ((ap).length / 2 : Nat) apC), (3, .int .i64 i3), (7, .bool (decide (i3 < (((ap).length / 2 : Nat) : Int))))]) ⟨rfl, rfl, rfl, trivial⟩; clear hE25
    refine p_tn ?_
    refine c_cond hE26 rfl (fun ht27 => ?_) (fun ht27 => ?_)
    ·
     have hp28 := of_decide_eq_true ht27
     have hE29 := hE26; rw [ht27] at hE29; clear hE26
     refine wp_skip ?_
     refine p_tn ?_
     refine c_seq ?_
     refine wp_block ?_
     refine c_cut (fun a' w' => E a' 52 [(0, .slice apA ((ap).length / 2 : Nat) apC), (3, .int .i64 i3), (41, .bool ((!(F_l01In (gS 2 0 ap i3) 0 6)) || ((!(F_l01In (gS 2 1 ap i3) 0 5)) || ((!decide ((gS 2 0 ap i3) = 0)) && (!decide ((gS 2 1 ap i3) = 0))))))] ∧ St w w' [.rd 2 apA ((ap).length / 2 : Nat) apC ap]) ?_ ?_
     ·
      refine c_reg ?_
      refine q_step (v := .slice apA ((ap).length / 2 : Nat) apC) hE29 (y_move rfl) rfl rfl rfl ?_; intro a30 hE31; clear hE29
      refine q_step (v := .int .i64 i3) hE31 (y_move rfl) rfl rfl rfl ?_; intro a32 hE33; clear hE31
      refine q_step (v := .pointer (some (adr apA (Int.toNat i3 * 2)))) hE33 (y_idx (by kernel_rfl) (fun _ => by kernel_rfl) rfl rfl (RdS.isS (m := i3) (St.rdR (i := 0) hS12 rfl) (by omega) (by omega)) (by omega) (by omega) rfl) rfl rfl rfl ?_; intro a34 hE35; clear hE33
      refine q_step (v := .pointer (some (adr apA ((Int.toNat i3 * 2) + 0)))) hE35 (y_fieldE (o := 0) (fun _ _ => by kernel_rfl) rfl) rfl rfl rfl ?_; intro a36 hE37; clear hE35
      refine q_step (v := .int .i64 (gS 2 0 ap i3)) hE37 (y_load (fun _ => by kernel_rfl) rfl (RdS.eltS (j := 0) (St.rdR (i := 0) hS12 rfl) (by omega) (by omega) (by decide))) rfl rfl rfl ?_; intro a38 hE39; clear hE37
      refine l_step hE39 rfl (l_call (f := 71) (argv := [.int .i64 (gS 2 0 ap i3), .int .i64 0, .int .i64 6]) hE39 (fun _ => cf_l01In _ _) rfl rfl (c_l01In (gS 2 0 ap i3) 0 6 w10) ?_)
      rintro _ _ ⟨rfl, rfl⟩ a42 hE43; clear hE39
      refine q_step (v := .bool (!(F_l01In (gS 2 0 ap i3) 0 6))) hE43 (y_not rfl) rfl rfl rfl ?_; intro a46 hE47; clear hE43
      refine q_step (v := .bool (!(F_l01In (gS 2 0 ap i3) 0 6))) hE47 (y_move rfl) rfl rfl rfl ?_; intro a48 hE49; clear hE47
      rcases Bool.eq_false_or_eq_true (!(F_l01In (gS 2 0 ap i3) 0 6)) with hb50 | hb50
      ·
       have hE51 := hE49; (try rw [hb50] at hE51); clear hE49
       have ht52 := bn_t hb50
       refine q_skip hE51 rfl rfl rfl ?_; intro a53 hE54; clear hE51
       refine q_skip hE54 rfl rfl rfl ?_; intro a55 hE56; clear hE54
       refine q_skip hE56 rfl rfl rfl ?_; intro a57 hE58; clear hE56
       refine q_skip hE58 rfl rfl rfl ?_; intro a59 hE60; clear hE58
       refine q_skip hE60 rfl rfl rfl ?_; intro a61 hE62; clear hE60
       refine q_skip hE62 rfl rfl rfl ?_; intro a63 hE64; clear hE62
       refine q_skip hE64 rfl rfl rfl ?_; intro a65 hE66; clear hE64
       refine q_step (v := .bool true) hE66 (y_pick (b := true) rfl rfl) rfl rfl rfl ?_; intro a67 hE68; clear hE66
       refine q_step (v := .bool true) hE68 (y_move rfl) rfl rfl rfl ?_; intro a69 hE70; clear hE68
       refine q_skip hE70 rfl rfl rfl ?_; intro a71 hE72; clear hE70
       refine q_skip hE72 rfl rfl rfl ?_; intro a73 hE74; clear hE72
       refine q_skip hE74 rfl rfl rfl ?_; intro a75 hE76; clear hE74
       refine q_skip hE76 rfl rfl rfl ?_; intro a77 hE78; clear hE76
       refine q_skip hE78 rfl rfl rfl ?_; intro a79 hE80; clear hE78
       refine q_skip hE80 rfl rfl rfl ?_; intro a81 hE82; clear hE80
       refine q_skip hE82 rfl rfl rfl ?_; intro a83 hE84; clear hE82
       refine q_skip hE84 rfl rfl rfl ?_; intro a85 hE86; clear hE84
       refine q_skip hE86 rfl rfl rfl ?_; intro a87 hE88; clear hE86
       refine q_skip hE88 rfl rfl rfl ?_; intro a89 hE90; clear hE88
       refine q_skip hE90 rfl rfl rfl ?_; intro a91 hE92; clear hE90
       refine q_skip hE92 rfl rfl rfl ?_; intro a93 hE94; clear hE92
       refine q_skip hE94 rfl rfl rfl ?_; intro a95 hE96; clear hE94
       refine q_skip hE96 rfl rfl rfl ?_; intro a97 hE98; clear hE96
       refine q_step (v := .bool true) hE98 (y_pick (b := true) rfl rfl) rfl rfl rfl ?_; intro a99 hE100; clear hE98
       refine c_nil ?_
       have hE101 := hE100.sub (L' := [(0, .slice apA ((ap).length / 2 : Nat) apC), (3, .int .i64 i3), (41, .bool true)]) ⟨rfl, rfl, rfl, trivial⟩; clear hE100
       refine p_tn ?_
       have hE102 := hE101.sub (L' := [(0, .slice apA ((ap).length / 2 : Nat) apC), (3, .int .i64 i3), (41, .bool true)]) ⟨rfl, rfl, rfl, trivial⟩
       have hS103 := (St.pick (Γ' := [.rd 2 apA ((ap).length / 2 : Nat) apC ap]) hS12 [0] (by decide) rfl)
       exact ⟨(by rw [hb50]; exact hE102), hS103⟩
      ·
       have hE104 := hE49; (try rw [hb50] at hE104); clear hE49
       have ht105 := bn_f hb50
       refine q_step (v := .slice apA ((ap).length / 2 : Nat) apC) hE104 (y_move rfl) rfl rfl rfl ?_; intro a106 hE107; clear hE104
       refine q_step (v := .int .i64 i3) hE107 (y_move rfl) rfl rfl rfl ?_; intro a108 hE109; clear hE107
       refine q_step (v := .pointer (some (adr apA (Int.toNat i3 * 2)))) hE109 (y_idx (by kernel_rfl) (fun _ => by kernel_rfl) rfl rfl (RdS.isS (m := i3) (St.rdR (i := 0) hS12 rfl) (by omega) (by omega)) (by omega) (by omega) rfl) rfl rfl rfl ?_; intro a110 hE111; clear hE109
       refine q_step (v := .pointer (some (adr apA ((Int.toNat i3 * 2) + 1)))) hE111 (y_fieldE (o := 1) (fun _ _ => by kernel_rfl) rfl) rfl rfl rfl ?_; intro a112 hE113; clear hE111
       refine q_step (v := .int .i64 (gS 2 1 ap i3)) hE113 (y_load (fun _ => by kernel_rfl) rfl (RdS.eltS (j := 1) (St.rdR (i := 0) hS12 rfl) (by omega) (by omega) (by decide))) rfl rfl rfl ?_; intro a114 hE115; clear hE113
       refine l_step hE115 rfl (l_call (f := 71) (argv := [.int .i64 (gS 2 1 ap i3), .int .i64 0, .int .i64 5]) hE115 (fun _ => cf_l01In _ _) rfl rfl (c_l01In (gS 2 1 ap i3) 0 5 w10) ?_)
       rintro _ _ ⟨rfl, rfl⟩ a118 hE119; clear hE115
       refine q_step (v := .bool (!(F_l01In (gS 2 1 ap i3) 0 5))) hE119 (y_not rfl) rfl rfl rfl ?_; intro a122 hE123; clear hE119
       refine q_step (v := .bool (!(F_l01In (gS 2 1 ap i3) 0 5))) hE123 (y_pick (b := false) rfl rfl) rfl rfl rfl ?_; intro a124 hE125; clear hE123
       refine q_step (v := .bool (!(F_l01In (gS 2 1 ap i3) 0 5))) hE125 (y_move rfl) rfl rfl rfl ?_; intro a126 hE127; clear hE125
       rcases Bool.eq_false_or_eq_true (!(F_l01In (gS 2 1 ap i3) 0 5)) with hb128 | hb128
       ·
        have hE129 := hE127; (try rw [hb128] at hE129); clear hE127
        have ht130 := bn_t hb128
        refine q_skip hE129 rfl rfl rfl ?_; intro a131 hE132; clear hE129
        refine q_skip hE132 rfl rfl rfl ?_; intro a133 hE134; clear hE132
        refine q_skip hE134 rfl rfl rfl ?_; intro a135 hE136; clear hE134
        refine q_skip hE136 rfl rfl rfl ?_; intro a137 hE138; clear hE136
        refine q_skip hE138 rfl rfl rfl ?_; intro a139 hE140; clear hE138
        refine q_skip hE140 rfl rfl rfl ?_; intro a141 hE142; clear hE140
        refine q_skip hE142 rfl rfl rfl ?_; intro a143 hE144; clear hE142
        refine q_skip hE144 rfl rfl rfl ?_; intro a145 hE146; clear hE144
        refine q_skip hE146 rfl rfl rfl ?_; intro a147 hE148; clear hE146
        refine q_skip hE148 rfl rfl rfl ?_; intro a149 hE150; clear hE148
        refine q_skip hE150 rfl rfl rfl ?_; intro a151 hE152; clear hE150
        refine q_skip hE152 rfl rfl rfl ?_; intro a153 hE154; clear hE152
        refine q_skip hE154 rfl rfl rfl ?_; intro a155 hE156; clear hE154
        refine q_skip hE156 rfl rfl rfl ?_; intro a157 hE158; clear hE156
        refine q_step (v := .bool true) hE158 (y_pick (b := true) rfl rfl) rfl rfl rfl ?_; intro a159 hE160; clear hE158
        refine c_nil ?_
        have hE161 := hE160.sub (L' := [(0, .slice apA ((ap).length / 2 : Nat) apC), (3, .int .i64 i3), (41, .bool true)]) ⟨rfl, rfl, rfl, trivial⟩; clear hE160
        refine p_tn ?_
        have hE162 := hE161.sub (L' := [(0, .slice apA ((ap).length / 2 : Nat) apC), (3, .int .i64 i3), (41, .bool true)]) ⟨rfl, rfl, rfl, trivial⟩
        have hS163 := (St.pick (Γ' := [.rd 2 apA ((ap).length / 2 : Nat) apC ap]) hS12 [0] (by decide) rfl)
        exact ⟨(by rw [hb128, hb50]; exact hE162), hS163⟩
       ·
        have hE164 := hE127; (try rw [hb128] at hE164); clear hE127
        have ht165 := bn_f hb128
        refine q_step (v := .slice apA ((ap).length / 2 : Nat) apC) hE164 (y_move rfl) rfl rfl rfl ?_; intro a166 hE167; clear hE164
        refine q_step (v := .int .i64 i3) hE167 (y_move rfl) rfl rfl rfl ?_; intro a168 hE169; clear hE167
        refine q_step (v := .pointer (some (adr apA (Int.toNat i3 * 2)))) hE169 (y_idx (by kernel_rfl) (fun _ => by kernel_rfl) rfl rfl (RdS.isS (m := i3) (St.rdR (i := 0) hS12 rfl) (by omega) (by omega)) (by omega) (by omega) rfl) rfl rfl rfl ?_; intro a170 hE171; clear hE169
        refine q_step (v := .pointer (some (adr apA ((Int.toNat i3 * 2) + 0)))) hE171 (y_fieldE (o := 0) (fun _ _ => by kernel_rfl) rfl) rfl rfl rfl ?_; intro a172 hE173; clear hE171
        refine q_step (v := .int .i64 (gS 2 0 ap i3)) hE173 (y_load (fun _ => by kernel_rfl) rfl (RdS.eltS (j := 0) (St.rdR (i := 0) hS12 rfl) (by omega) (by omega) (by decide))) rfl rfl rfl ?_; intro a174 hE175; clear hE173
        refine q_step (v := .bool (!decide ((gS 2 0 ap i3) = 0))) hE175 (y_neq rfl rfl) rfl rfl rfl ?_; intro a176 hE177; clear hE175
        refine q_step (v := .bool (!decide ((gS 2 0 ap i3) = 0))) hE177 (y_move rfl) rfl rfl rfl ?_; intro a178 hE179; clear hE177
        rcases Bool.eq_false_or_eq_true (!decide ((gS 2 0 ap i3) = 0)) with hb180 | hb180
        ·
         have hE181 := hE179; (try rw [hb180] at hE181); clear hE179
         have ht182 := bn_t hb180
         have hp183 := of_decide_eq_false ht182
         refine q_step (v := .slice apA ((ap).length / 2 : Nat) apC) hE181 (y_move rfl) rfl rfl rfl ?_; intro a184 hE185; clear hE181
         refine q_step (v := .int .i64 i3) hE185 (y_move rfl) rfl rfl rfl ?_; intro a186 hE187; clear hE185
         refine q_step (v := .pointer (some (adr apA (Int.toNat i3 * 2)))) hE187 (y_idx (by kernel_rfl) (fun _ => by kernel_rfl) rfl rfl (RdS.isS (m := i3) (St.rdR (i := 0) hS12 rfl) (by omega) (by omega)) (by omega) (by omega) rfl) rfl rfl rfl ?_; intro a188 hE189; clear hE187
         refine q_step (v := .pointer (some (adr apA ((Int.toNat i3 * 2) + 1)))) hE189 (y_fieldE (o := 1) (fun _ _ => by kernel_rfl) rfl) rfl rfl rfl ?_; intro a190 hE191; clear hE189
         refine q_step (v := .int .i64 (gS 2 1 ap i3)) hE191 (y_load (fun _ => by kernel_rfl) rfl (RdS.eltS (j := 1) (St.rdR (i := 0) hS12 rfl) (by omega) (by omega) (by decide))) rfl rfl rfl ?_; intro a192 hE193; clear hE191
         refine q_step (v := .bool (!decide ((gS 2 1 ap i3) = 0))) hE193 (y_neq rfl rfl) rfl rfl rfl ?_; intro a194 hE195; clear hE193
         refine q_step (v := .bool (!decide ((gS 2 1 ap i3) = 0))) hE195 (y_pick (b := true) rfl rfl) rfl rfl rfl ?_; intro a196 hE197; clear hE195
         refine q_step (v := .bool (!decide ((gS 2 1 ap i3) = 0))) hE197 (y_pick (b := false) rfl rfl) rfl rfl rfl ?_; intro a198 hE199; clear hE197
         refine c_nil ?_
         have hE200 := hE199.sub (L' := [(0, .slice apA ((ap).length / 2 : Nat) apC), (3, .int .i64 i3), (41, .bool (!decide ((gS 2 1 ap i3) = 0)))]) ⟨rfl, rfl, rfl, trivial⟩; clear hE199
         refine p_tn ?_
         have hE201 := hE200.sub (L' := [(0, .slice apA ((ap).length / 2 : Nat) apC), (3, .int .i64 i3), (41, .bool (!decide ((gS 2 1 ap i3) = 0)))]) ⟨rfl, rfl, rfl, trivial⟩
         have hS202 := (St.pick (Γ' := [.rd 2 apA ((ap).length / 2 : Nat) apC ap]) hS12 [0] (by decide) rfl)
         exact ⟨(by rw [hb180, hb128, hb50]; exact hE201), hS202⟩
        ·
         have hE203 := hE179; (try rw [hb180] at hE203); clear hE179
         have ht204 := bn_f hb180
         have hp205 := of_decide_eq_true ht204
         refine q_skip hE203 rfl rfl rfl ?_; intro a206 hE207; clear hE203
         refine q_skip hE207 rfl rfl rfl ?_; intro a208 hE209; clear hE207
         refine q_skip hE209 rfl rfl rfl ?_; intro a210 hE211; clear hE209
         refine q_skip hE211 rfl rfl rfl ?_; intro a212 hE213; clear hE211
         refine q_skip hE213 rfl rfl rfl ?_; intro a214 hE215; clear hE213
         refine q_skip hE215 rfl rfl rfl ?_; intro a216 hE217; clear hE215
         refine q_step (v := .bool false) hE217 (y_pick (b := false) rfl rfl) rfl rfl rfl ?_; intro a218 hE219; clear hE217
         refine q_step (v := .bool false) hE219 (y_pick (b := false) rfl rfl) rfl rfl rfl ?_; intro a220 hE221; clear hE219
         refine c_nil ?_
         have hE222 := hE221.sub (L' := [(0, .slice apA ((ap).length / 2 : Nat) apC), (3, .int .i64 i3), (41, .bool false)]) ⟨rfl, rfl, rfl, trivial⟩; clear hE221
         refine p_tn ?_
         have hE223 := hE222.sub (L' := [(0, .slice apA ((ap).length / 2 : Nat) apC), (3, .int .i64 i3), (41, .bool false)]) ⟨rfl, rfl, rfl, trivial⟩
         have hS224 := (St.pick (Γ' := [.rd 2 apA ((ap).length / 2 : Nat) apC ap]) hS12 [0] (by decide) rfl)
         exact ⟨(by rw [hb180, hb128, hb50]; exact hE223), hS224⟩
     ·
      rintro a225 w226 ⟨hE227, hS228⟩; clear hE29 hS12
      refine c_cond hE227 rfl (fun ht230 => ?_) (fun ht230 => ?_)
      ·
       have hE231 := hE227; rw [ht230] at hE231; clear hE227
       refine c_seq ?_
       refine c_reg ?_
       refine q_step (v := .bool false) hE231 (y_assign rfl) rfl rfl rfl ?_; intro a232 hE233; clear hE231
       refine c_nil ?_
       have hE234 := hE233.sub (L' := [(2, .bool false)]) ⟨rfl, trivial⟩; clear hE233
       refine p_tn ?_
       refine wp_ret ?_
       refine p_br ?_
       refine p_tr ?_
       have hX235 : F_l02Tree_L1 ap (Int.toNat ((((ap).length / 2 : Nat) : Int) - 0) + 1) 0 = .error false := hT13.symm.trans (show F_l02Tree_L1b ap (F_l02Tree_L1 ap r17) i3 = .error false by unfold F_l02Tree_L1b; rw [ht230, ht27]; first | done | rfl)
       refine p_tr (p_br (p_tr ?_))
       refine p_tr ?_
       have hF : F_l02Tree ap = false := by unfold F_l02Tree; rw [hX235]; first | done | rfl
       refine c_ret1 hE234 rfl rfl ?_
       exact ⟨(by rw [hF]; first | done | (dsimp only; done) | rfl), hS228.ext⟩
      ·
       obtain ⟨ht236, ht237⟩ := bor_f ht230
       have ht238 := bn_f ht236
       obtain ⟨ht239, ht240⟩ := bor_f ht237
       have ht241 := bn_f ht239
       have hE242 := hE227; rw [ht230] at hE242; clear hE227
       refine wp_skip ?_
       refine p_bn ?_
       refine p_tn ?_
       refine c_reg ?_
       refine q_step (v := .int .i64 i3) hE242 (y_move rfl) rfl rfl rfl ?_; intro a243 hE244; clear hE242
       refine q_step (v := .int .i64 (i3 + 1)) hE244 (y_add rfl rfl ⟨(by omega), (by omega)⟩) rfl rfl rfl ?_; intro a245 hE246; clear hE244
       refine q_step (v := .int .i64 (i3 + 1)) hE246 (y_assign rfl) rfl rfl rfl ?_; intro a247 hE248; clear hE246
       refine c_nil ?_
       have hE249 := hE248.sub (L' := [(0, .slice apA ((ap).length / 2 : Nat) apC), (3, .int .i64 (i3 + 1))]) ⟨rfl, rfl, trivial⟩; clear hE248
       refine p_tn ⟨r17, Nat.lt_succ_self _, i3 + 1, (hT13.symm.trans (show F_l02Tree_L1b ap (F_l02Tree_L1 ap r17) i3 = F_l02Tree_L1 ap r17 (i3 + 1) by unfold F_l02Tree_L1b; rw [ht230, ht27]; first | done | rfl)).symm, (by omega), (by first | omega | (simp only [sS_len, sL_len]; omega) | (simp only [List.length_replicate, sI_len]; omega) | (simp only [List.length_append, List.length_cons, List.length_nil, sI_len, cond_true, cond_false]; omega) | (simp only [List.length_append, List.length_cons, List.length_nil, sI_len, cond_eq_ite, apply_ite List.length]; split <;> simp only [List.length_append, List.length_cons, List.length_nil, sI_len] <;> omega) | grind), (by first | omega | (simp only [sS_len, sL_len]; omega) | (simp only [List.length_replicate, sI_len]; omega) | (simp only [List.length_append, List.length_cons, List.length_nil, sI_len, cond_true, cond_false]; omega) | (simp only [List.length_append, List.length_cons, List.length_nil, sI_len, cond_eq_ite, apply_ite List.length]; split <;> simp only [List.length_append, List.length_cons, List.length_nil, sI_len] <;> omega) | grind), (hE249.sub (L' := [(0, .slice apA ((ap).length / 2 : Nat) apC), (3, .int .i64 (i3 + 1))]) ⟨rfl, rfl, trivial⟩), (St.pick (Γ' := [.rd 2 apA ((ap).length / 2 : Nat) apC ap]) hS228 [0] (by decide) rfl)⟩
    ·
     have hp250 := of_decide_eq_false ht27
     have hE251 := hE26; rw [ht27] at hE251; clear hE26
     refine wp_exit ?_
     refine p_te ?_
     have hX252 : F_l02Tree_L1 ap (Int.toNat ((((ap).length / 2 : Nat) : Int) - 0) + 1) 0 = .ok i3 := hT13.symm.trans (show F_l02Tree_L1b ap (F_l02Tree_L1 ap r17) i3 = .ok i3 by unfold F_l02Tree_L1b; rw [ht27]; first | done | rfl)
     refine p_te (p_be (p_tn ?_))
     exact ⟨(by rw [hX252]; rfl), (by rw [hX252]; exact (show 0 ≤ i3 from (by first | omega | (simp only [sS_len, sL_len]; omega) | (simp only [List.length_replicate, sI_len]; omega) | (simp only [List.length_append, List.length_cons, List.length_nil, sI_len, cond_true, cond_false]; omega) | (simp only [List.length_append, List.length_cons, List.length_nil, sI_len, cond_eq_ite, apply_ite List.length]; split <;> simp only [List.length_append, List.length_cons, List.length_nil, sI_len] <;> omega) | grind))), (by rw [hX252]; exact (show i3 ≤ (((ap).length / 2 : Nat) : Int) from (by first | omega | (simp only [sS_len, sL_len]; omega) | (simp only [List.length_replicate, sI_len]; omega) | (simp only [List.length_append, List.length_cons, List.length_nil, sI_len, cond_true, cond_false]; omega) | (simp only [List.length_append, List.length_cons, List.length_nil, sI_len, cond_eq_ite, apply_ite List.length]; split <;> simp only [List.length_append, List.length_cons, List.length_nil, sI_len] <;> omega) | grind))), (by rw [hX252]; exact (hE251.sub (L' := [(0, .slice apA ((ap).length / 2 : Nat) apC), (3, .int .i64 i3)]) ⟨rfl, rfl, trivial⟩)), (St.pick (Γ' := [.rd 2 apA ((ap).length / 2 : Nat) apC ap]) hS12 [0] (by decide) rfl)⟩
  ·
   rintro a253 w254 ⟨hO257, hi258, hi259, hE255, hS256⟩; clear hE7 hS1
   refine p_tn ?_
   refine c_cut (fun a' w' => E a' 52 [(2, .bool ((decide (0 < (((ap).length / 2 : Nat) : Int))) && (decide ((F_l02Part ap 0) = (((ap).length / 2 : Nat) : Int)))))] ∧ St w w' [.rd 2 apA ((ap).length / 2 : Nat) apC ap]) ?_ ?_
   ·
    refine c_reg ?_
    refine q_step (v := .slice apA ((ap).length / 2 : Nat) apC) hE255 (y_move rfl) rfl rfl rfl ?_; intro a260 hE261; clear hE255
    refine q_step (v := .int .i64 (((ap).length / 2 : Nat) : Int)) hE261 (y_len (e := 94) (by kernel_rfl) rfl) rfl rfl rfl ?_; intro a262 hE263; clear hE261
    refine q_step (v := .bool (decide (0 < (((ap).length / 2 : Nat) : Int)))) hE263 (y_gtr rfl rfl) rfl rfl rfl ?_; intro a264 hE265; clear hE263
    refine q_step (v := .bool (decide (0 < (((ap).length / 2 : Nat) : Int)))) hE265 (y_move rfl) rfl rfl rfl ?_; intro a266 hE267; clear hE265
    rcases Bool.eq_false_or_eq_true (decide (0 < (((ap).length / 2 : Nat) : Int))) with hb268 | hb268
    ·
     have hE269 := hE267; (try rw [hb268] at hE269); clear hE267
     have hp270 := of_decide_eq_true hb268
     refine q_step (v := .slice apA ((ap).length / 2 : Nat) apC) hE269 (y_move rfl) rfl rfl rfl ?_; intro a271 hE272; clear hE269
     refine l_step hE272 rfl (l_call (f := 72) (argv := [.slice apA ((ap).length / 2 : Nat) apC, .int .i64 0]) hE272 (fun _ => cf_l02Part _ _) rfl rfl (c_l02Part apA ((ap).length / 2 : Nat) apC ap 0 w254 (St.rdR (i := 0) hS256 rfl) (by omega) (by omega)) ?_)
     rintro _ w274 ⟨rfl, he278⟩ a275 hE276; clear hE272
     have hS277 := St.go hS256 he278; clear hS256
     refine q_step (v := .slice apA ((ap).length / 2 : Nat) apC) hE276 (y_move rfl) rfl rfl rfl ?_; intro a279 hE280; clear hE276
     refine q_step (v := .int .i64 (((ap).length / 2 : Nat) : Int)) hE280 (y_len (e := 94) (by kernel_rfl) rfl) rfl rfl rfl ?_; intro a281 hE282; clear hE280
     refine q_step (v := .bool (decide ((F_l02Part ap 0) = (((ap).length / 2 : Nat) : Int)))) hE282 (y_eql rfl rfl) rfl rfl rfl ?_; intro a283 hE284; clear hE282
     refine q_step (v := .bool (decide ((F_l02Part ap 0) = (((ap).length / 2 : Nat) : Int)))) hE284 (y_pick (b := true) rfl rfl) rfl rfl rfl ?_; intro a285 hE286; clear hE284
     refine q_step (v := .bool (decide ((F_l02Part ap 0) = (((ap).length / 2 : Nat) : Int)))) hE286 (y_assign rfl) rfl rfl rfl ?_; intro a287 hE288; clear hE286
     refine c_nil ?_
     have hE289 := hE288.sub (L' := [(2, .bool (decide ((F_l02Part ap 0) = (((ap).length / 2 : Nat) : Int))))]) ⟨rfl, trivial⟩; clear hE288
     refine p_tn ?_
     have hE290 := hE289.sub (L' := [(2, .bool (decide ((F_l02Part ap 0) = (((ap).length / 2 : Nat) : Int))))]) ⟨rfl, trivial⟩
     have hS291 := (St.pick (Γ' := [.rd 2 apA ((ap).length / 2 : Nat) apC ap]) hS277 [0] (by decide) rfl)
     exact ⟨(by rw [hb268]; exact hE290), hS291⟩
    ·
     have hE292 := hE267; (try rw [hb268] at hE292); clear hE267
     have hp293 := of_decide_eq_false hb268
     refine q_skip hE292 rfl rfl rfl ?_; intro a294 hE295; clear hE292
     refine q_skip hE295 rfl rfl rfl ?_; intro a296 hE297; clear hE295
     refine q_skip hE297 rfl rfl rfl ?_; intro a298 hE299; clear hE297
     refine q_skip hE299 rfl rfl rfl ?_; intro a300 hE301; clear hE299
     refine q_skip hE301 rfl rfl rfl ?_; intro a302 hE303; clear hE301
     refine q_step (v := .bool false) hE303 (y_pick (b := false) rfl rfl) rfl rfl rfl ?_; intro a304 hE305; clear hE303
     refine q_step (v := .bool false) hE305 (y_assign rfl) rfl rfl rfl ?_; intro a306 hE307; clear hE305
     refine c_nil ?_
     have hE308 := hE307.sub (L' := [(2, .bool false)]) ⟨rfl, trivial⟩; clear hE307
     refine p_tn ?_
     have hE309 := hE308.sub (L' := [(2, .bool false)]) ⟨rfl, trivial⟩
     have hS310 := (St.pick (Γ' := [.rd 2 apA ((ap).length / 2 : Nat) apC ap]) hS256 [0] (by decide) rfl)
     exact ⟨(by rw [hb268]; exact hE309), hS310⟩
   ·
    rintro a311 w312 ⟨hE313, hS314⟩; clear hE255 hS256
    refine wp_ret ?_
    have hF : F_l02Tree ap = ((decide (0 < (((ap).length / 2 : Nat) : Int))) && (decide ((F_l02Part ap 0) = (((ap).length / 2 : Nat) : Int)))) := by unfold F_l02Tree; rw [hO257]; first | done | rfl
    refine c_ret1 hE313 rfl rfl ?_
    exact ⟨(by rw [hF]; first | done | (dsimp only; done) | rfl), hS314.ext⟩
def F_l02Is (ap : List Int) : Bool :=
  ((decide ((((ap).length / 2 : Nat) : Int) ≤ 40)) && (F_l02Tree ap))
theorem cf_l02Is (args : Array Value) (w : World) : (callFunc 70 args).run Try.prog w = .ok (.enter 70 args) w := by kernel_rfl
set_option maxRecDepth 100000 in
theorem c_l02Is (apA : Option Addr) (apN apC : Nat) (ap : List Int) (w : World) (apR : RdS w 2 apA apN apC ap) (hl : ap.length ≤ 4194304) :
    Calls Try.prog 70 #[.slice apA apN apC] w (Ret fun v w' => v = .bool (F_l02Is ap) ∧ Ext w w') := by
  obtain rfl : apN = ap.length / 2 := (apR.lenD (by decide)).symm
  have apEv := apR.ev (by decide)
  have apLe := apR.le
  have hS := St.nil w
  have hS1 := St.rd0 hS rfl apR; clear hS
  refine enter (args := [.slice apA ((ap).length / 2 : Nat) apC]) Try.func70 rfl rfl ?_
  rw [Try.ntmps70]; intro a hE
  have hE := hE.sub (L' := [(0, .slice apA ((ap).length / 2 : Nat) apC)]) ⟨rfl, trivial⟩
  refine c_seq ?_
  refine c_reg ?_
  refine q_step (v := .bool false) hE (y_assign rfl) rfl rfl rfl ?_; intro a2 hE3; clear hE
  refine c_nil ?_
  have hE4 := hE3.sub (L' := [(0, .slice apA ((ap).length / 2 : Nat) apC)]) ⟨rfl, trivial⟩; clear hE3
  refine p_tn ?_
  refine c_cut (fun a' w' => E a' 10 [(2, .bool ((decide ((((ap).length / 2 : Nat) : Int) ≤ 40)) && (F_l02Tree ap)))] ∧ St w w' [.rd 2 apA ((ap).length / 2 : Nat) apC ap]) ?_ ?_
  ·
   refine c_reg ?_
   refine q_step (v := .slice apA ((ap).length / 2 : Nat) apC) hE4 (y_move rfl) rfl rfl rfl ?_; intro a5 hE6; clear hE4
   refine q_step (v := .int .i64 (((ap).length / 2 : Nat) : Int)) hE6 (y_len (e := 94) (by kernel_rfl) rfl) rfl rfl rfl ?_; intro a7 hE8; clear hE6
   refine q_step (v := .bool (decide ((((ap).length / 2 : Nat) : Int) ≤ 40))) hE8 (y_leq rfl rfl) rfl rfl rfl ?_; intro a9 hE10; clear hE8
   refine q_step (v := .bool (decide ((((ap).length / 2 : Nat) : Int) ≤ 40))) hE10 (y_move rfl) rfl rfl rfl ?_; intro a11 hE12; clear hE10
   rcases Bool.eq_false_or_eq_true (decide ((((ap).length / 2 : Nat) : Int) ≤ 40)) with hb13 | hb13
   ·
    have hE14 := hE12; (try rw [hb13] at hE14); clear hE12
    have hp15 := of_decide_eq_true hb13
    refine q_step (v := .slice apA ((ap).length / 2 : Nat) apC) hE14 (y_move rfl) rfl rfl rfl ?_; intro a16 hE17; clear hE14
    refine l_step hE17 rfl (l_call (f := 134) (argv := [.slice apA ((ap).length / 2 : Nat) apC]) hE17 (fun _ => cf_l02Tree _ _) rfl rfl (c_l02Tree apA ((ap).length / 2 : Nat) apC ap w (St.rdR (i := 0) hS1 rfl) (by omega)) ?_)
    rintro _ w19 ⟨rfl, he23⟩ a20 hE21; clear hE17
    have hS22 := St.go hS1 he23; clear hS1
    refine q_step (v := .bool (F_l02Tree ap)) hE21 (y_pick (b := true) rfl rfl) rfl rfl rfl ?_; intro a24 hE25; clear hE21
    refine q_step (v := .bool (F_l02Tree ap)) hE25 (y_assign rfl) rfl rfl rfl ?_; intro a26 hE27; clear hE25
    refine c_nil ?_
    have hE28 := hE27.sub (L' := [(2, .bool (F_l02Tree ap))]) ⟨rfl, trivial⟩; clear hE27
    refine p_tn ?_
    have hE29 := hE28.sub (L' := [(2, .bool (F_l02Tree ap))]) ⟨rfl, trivial⟩
    have hS30 := (St.pick (Γ' := [.rd 2 apA ((ap).length / 2 : Nat) apC ap]) hS22 [0] (by decide) rfl)
    exact ⟨(by rw [hb13]; exact hE29), hS30⟩
   ·
    have hE31 := hE12; (try rw [hb13] at hE31); clear hE12
    have hp32 := of_decide_eq_false hb13
    refine q_skip hE31 rfl rfl rfl ?_; intro a33 hE34; clear hE31
    refine q_skip hE34 rfl rfl rfl ?_; intro a35 hE36; clear hE34
    refine q_step (v := .bool false) hE36 (y_pick (b := false) rfl rfl) rfl rfl rfl ?_; intro a37 hE38; clear hE36
    refine q_step (v := .bool false) hE38 (y_assign rfl) rfl rfl rfl ?_; intro a39 hE40; clear hE38
    refine c_nil ?_
    have hE41 := hE40.sub (L' := [(2, .bool false)]) ⟨rfl, trivial⟩; clear hE40
    refine p_tn ?_
    have hE42 := hE41.sub (L' := [(2, .bool false)]) ⟨rfl, trivial⟩
    have hS43 := (St.pick (Γ' := [.rd 2 apA ((ap).length / 2 : Nat) apC ap]) hS1 [0] (by decide) rfl)
    exact ⟨(by rw [hb13]; exact hE42), hS43⟩
  ·
   rintro a44 w45 ⟨hE46, hS47⟩; clear hE4 hS1
   refine wp_ret ?_
   have hF : F_l02Is ap = ((decide ((((ap).length / 2 : Nat) : Int) ≤ 40)) && (F_l02Tree ap)) := by unfold F_l02Is; rfl
   refine c_ret1 hE46 rfl rfl ?_
   exact ⟨(by rw [hF]; first | done | (dsimp only; done) | rfl), hS47.ext⟩
def F_isVariable (vp : Int) : Bool :=
  F_inRange vp 0 5
theorem cf_isVariable (args : Array Value) (w : World) : (callFunc 196 args).run Try.prog w = .ok (.enter 196 args) w := by kernel_rfl
set_option maxRecDepth 100000 in
theorem c_isVariable (vp : Int) (w : World) :
    Calls Try.prog 196 #[.int .i64 vp] w (Ret fun v w' => v = .bool (F_isVariable vp) ∧ w = w') := by
  have hS := St.nil w
  refine enter (args := [.int .i64 vp]) Try.func196 rfl rfl ?_
  rw [Try.ntmps196]; intro a hE
  have hE := hE.sub (L' := [(0, .int .i64 vp)]) ⟨rfl, trivial⟩
  refine c_seq ?_
  refine c_reg ?_
  refine q_step (v := .bool false) hE (y_assign rfl) rfl rfl rfl ?_; intro a1 hE2; clear hE
  refine c_nil ?_
  have hE3 := hE2.sub (L' := [(0, .int .i64 vp)]) ⟨rfl, trivial⟩; clear hE2
  refine p_tn ?_
  refine c_seq ?_
  refine c_reg ?_
  refine q_step (v := .int .i64 vp) hE3 (y_move rfl) rfl rfl rfl ?_; intro a4 hE5; clear hE3
  refine l_step hE5 rfl (l_call (f := 75) (argv := [.int .i64 vp, .int .i64 0, .int .i64 5]) hE5 (fun _ => cf_inRange _ _) rfl rfl (c_inRange vp 0 5 w) ?_)
  rintro _ _ ⟨rfl, rfl⟩ a8 hE9; clear hE5
  refine q_step (v := .bool (F_inRange vp 0 5)) hE9 (y_assign rfl) rfl rfl rfl ?_; intro a12 hE13; clear hE9
  refine c_nil ?_
  have hE14 := hE13.sub (L' := [(2, .bool (F_inRange vp 0 5))]) ⟨rfl, trivial⟩; clear hE13
  refine p_tn ?_
  refine wp_ret ?_
  have hF : F_isVariable vp = F_inRange vp 0 5 := by unfold F_isVariable; rfl
  refine c_ret1 hE14 rfl rfl ?_
  exact ⟨(by rw [hF]; first | done | (dsimp only; done) | rfl), rfl⟩
def F_isNode (np0 : Int) (np1 : Int) : Bool :=
  bif (decide (np0 = 0)) then (F_isVariable np1) else ((F_inRange np0 1 6) && (decide (np1 = 0)))
theorem cf_isNode (args : Array Value) (w : World) : (callFunc 138 args).run Try.prog w = .ok (.enter 138 args) w := by kernel_rfl
set_option maxRecDepth 100000 in
theorem c_isNode (np0 : Int) (np1 : Int) (w : World) :
    Calls Try.prog 138 #[.agg #[.int .i64 np0, .int .i64 np1]] w (Ret fun v w' => v = .bool (F_isNode np0 np1) ∧ Ext w w') := by
  have hS := St.nil w
  refine enter (args := [.agg #[.int .i64 np0, .int .i64 np1]]) Try.func138 rfl rfl ?_
  rw [Try.ntmps138]; intro a hE
  have hE := hE.sub (L' := [(0, .agg #[.int .i64 np0, .int .i64 np1])]) ⟨rfl, trivial⟩
  refine c_seq ?_
  refine c_reg ?_
  refine l_step hE rfl (l_box (v := .agg #[.int .i64 np0, .int .i64 np1]) (cs := #[.int .i64 np0, .int .i64 np1]) hS hE rfl rfl rfl ?_)
  intro b1 w2 hS5 he6 a3 hE4; clear hS hE
  refine q_step (v := .bool false) hE4 (y_assign rfl) rfl rfl rfl ?_; intro a7 hE8; clear hE4
  refine c_nil ?_
  have hE9 := hE8.sub (L' := [(1, .pointer (some ⟨b1, 0, none⟩))]) ⟨rfl, trivial⟩; clear hE8
  refine p_tn ?_
  refine c_seq ?_
  refine c_seq ?_
  refine c_reg ?_
  refine q_step (v := .pointer (some ⟨b1, 0, none⟩)) hE9 (y_field rfl (fun _ => by kernel_rfl)) rfl rfl rfl ?_; intro a10 hE11; clear hE9
  refine q_step (v := .int .i64 np0) hE11 (y_load (fun _ => by kernel_rfl) rfl (St.cell (i := 0) hS5 rfl rfl)) rfl rfl rfl ?_; intro a12 hE13; clear hE11
  refine q_step (v := .bool (decide (np0 = 0))) hE13 (y_eql rfl rfl) rfl rfl rfl ?_; intro a14 hE15; clear hE13
  refine c_nil ?_
  have hE16 := hE15.sub (L' := [(1, .pointer (some ⟨b1, 0, none⟩)), (5, .bool (decide (np0 = 0)))]) ⟨rfl, rfl, trivial⟩; clear hE15
  refine p_tn ?_
  refine c_cond hE16 rfl (fun ht17 => ?_) (fun ht17 => ?_)
  ·
   have hp18 := of_decide_eq_true ht17
   have hE19 := hE16; rw [ht17] at hE19; clear hE16
   refine c_seq ?_
   refine c_reg ?_
   refine q_step (v := .pointer (some ⟨b1, 1, none⟩)) hE19 (y_field rfl (fun _ => by kernel_rfl)) rfl rfl rfl ?_; intro a20 hE21; clear hE19
   refine q_step (v := .int .i64 np1) hE21 (y_load (fun _ => by kernel_rfl) rfl (St.cell (i := 0) hS5 rfl rfl)) rfl rfl rfl ?_; intro a22 hE23; clear hE21
   refine l_step hE23 rfl (l_call (f := 196) (argv := [.int .i64 np1]) hE23 (fun _ => cf_isVariable _ _) rfl rfl (c_isVariable np1 w2) ?_)
   rintro _ _ ⟨rfl, rfl⟩ a26 hE27; clear hE23
   refine q_step (v := .bool (F_isVariable np1)) hE27 (y_assign rfl) rfl rfl rfl ?_; intro a30 hE31; clear hE27
   refine c_nil ?_
   have hE32 := hE31.sub (L' := [(2, .bool (F_isVariable np1))]) ⟨rfl, trivial⟩; clear hE31
   refine p_tn ?_
   refine wp_ret ?_
   refine p_tr ?_
   have hF : F_isNode np0 np1 = F_isVariable np1 := by unfold F_isNode; rw [ht17]; first | done | rfl
   refine c_ret1 hE32 rfl rfl ?_
   exact ⟨(by rw [hF]; first | done | (dsimp only; done) | rfl), hS5.ext⟩
  ·
   have hp33 := of_decide_eq_false ht17
   have hE34 := hE16; rw [ht17] at hE34; clear hE16
   refine wp_skip ?_
   refine p_tn ?_
   refine c_cut (fun a' w' => E a' 17 [(2, .bool ((F_inRange np0 1 6) && (decide (np1 = 0))))] ∧ St w w' [.blk b1 #[.int .i64 np0, .int .i64 np1] 94]) ?_ ?_
   ·
    refine c_reg ?_
    refine q_step (v := .pointer (some ⟨b1, 0, none⟩)) hE34 (y_field rfl (fun _ => by kernel_rfl)) rfl rfl rfl ?_; intro a35 hE36; clear hE34
    refine q_step (v := .int .i64 np0) hE36 (y_load (fun _ => by kernel_rfl) rfl (St.cell (i := 0) hS5 rfl rfl)) rfl rfl rfl ?_; intro a37 hE38; clear hE36
    refine l_step hE38 rfl (l_call (f := 75) (argv := [.int .i64 np0, .int .i64 1, .int .i64 6]) hE38 (fun _ => cf_inRange _ _) rfl rfl (c_inRange np0 1 6 w2) ?_)
    rintro _ _ ⟨rfl, rfl⟩ a41 hE42; clear hE38
    refine q_step (v := .bool (F_inRange np0 1 6)) hE42 (y_move rfl) rfl rfl rfl ?_; intro a45 hE46; clear hE42
    rcases Bool.eq_false_or_eq_true (F_inRange np0 1 6) with hb47 | hb47
    ·
     have hE48 := hE46; (try rw [hb47] at hE48); clear hE46
     refine q_step (v := .pointer (some ⟨b1, 1, none⟩)) hE48 (y_field rfl (fun _ => by kernel_rfl)) rfl rfl rfl ?_; intro a49 hE50; clear hE48
     refine q_step (v := .int .i64 np1) hE50 (y_load (fun _ => by kernel_rfl) rfl (St.cell (i := 0) hS5 rfl rfl)) rfl rfl rfl ?_; intro a51 hE52; clear hE50
     refine q_step (v := .bool (decide (np1 = 0))) hE52 (y_eql rfl rfl) rfl rfl rfl ?_; intro a53 hE54; clear hE52
     refine q_step (v := .bool (decide (np1 = 0))) hE54 (y_pick (b := true) rfl rfl) rfl rfl rfl ?_; intro a55 hE56; clear hE54
     refine q_step (v := .bool (decide (np1 = 0))) hE56 (y_assign rfl) rfl rfl rfl ?_; intro a57 hE58; clear hE56
     refine c_nil ?_
     have hE59 := hE58.sub (L' := [(2, .bool (decide (np1 = 0)))]) ⟨rfl, trivial⟩; clear hE58
     refine p_tn ?_
     have hE60 := hE59.sub (L' := [(2, .bool (decide (np1 = 0)))]) ⟨rfl, trivial⟩
     have hS61 := (St.pick (Γ' := [.blk b1 #[.int .i64 np0, .int .i64 np1] 94]) hS5 [0] (by decide) rfl)
     exact ⟨(by rw [hb47]; exact hE60), hS61⟩
    ·
     have hE62 := hE46; (try rw [hb47] at hE62); clear hE46
     refine q_skip hE62 rfl rfl rfl ?_; intro a63 hE64; clear hE62
     refine q_skip hE64 rfl rfl rfl ?_; intro a65 hE66; clear hE64
     refine q_skip hE66 rfl rfl rfl ?_; intro a67 hE68; clear hE66
     refine q_step (v := .bool false) hE68 (y_pick (b := false) rfl rfl) rfl rfl rfl ?_; intro a69 hE70; clear hE68
     refine q_step (v := .bool false) hE70 (y_assign rfl) rfl rfl rfl ?_; intro a71 hE72; clear hE70
     refine c_nil ?_
     have hE73 := hE72.sub (L' := [(2, .bool false)]) ⟨rfl, trivial⟩; clear hE72
     refine p_tn ?_
     have hE74 := hE73.sub (L' := [(2, .bool false)]) ⟨rfl, trivial⟩
     have hS75 := (St.pick (Γ' := [.blk b1 #[.int .i64 np0, .int .i64 np1] 94]) hS5 [0] (by decide) rfl)
     exact ⟨(by rw [hb47]; exact hE74), hS75⟩
   ·
    rintro a76 w77 ⟨hE78, hS79⟩; clear hE34 hS5
    refine wp_ret ?_
    have hF : F_isNode np0 np1 = ((F_inRange np0 1 6) && (decide (np1 = 0))) := by unfold F_isNode; rw [ht17]; first | done | rfl
    refine c_ret1 hE78 rfl rfl ?_
    exact ⟨(by rw [hF]; first | done | (dsimp only; done) | rfl), hS79.ext⟩
def F_isFormula_k1 (np0 : Int) (np1 : Int) : Bool :=
  (!(F_isNode np0 np1))
theorem cf_isFormula_k1 (args : Array Value) (w : World) : (callFunc 137 args).run Try.prog w = .ok (.enter 137 args) w := by kernel_rfl
set_option maxRecDepth 100000 in
theorem c_isFormula_k1 (np0 : Int) (np1 : Int) (w : World) :
    Calls Try.prog 137 #[.agg #[.int .i64 np0, .int .i64 np1]] w (Ret fun v w' => v = .bool (F_isFormula_k1 np0 np1) ∧ Ext w w') := by
  have hS := St.nil w
  refine enter (args := [.agg #[.int .i64 np0, .int .i64 np1]]) Try.func137 rfl rfl ?_
  rw [Try.ntmps137]; intro a hE
  have hE := hE.sub (L' := [(0, .agg #[.int .i64 np0, .int .i64 np1])]) ⟨rfl, trivial⟩
  refine c_seq ?_
  refine c_reg ?_
  refine l_step hE rfl (l_box (v := .agg #[.int .i64 np0, .int .i64 np1]) (cs := #[.int .i64 np0, .int .i64 np1]) hS hE rfl rfl rfl ?_)
  intro b1 w2 hS5 he6 a3 hE4; clear hS hE
  refine q_step (v := .bool false) hE4 (y_assign rfl) rfl rfl rfl ?_; intro a7 hE8; clear hE4
  refine c_nil ?_
  have hE9 := hE8.sub (L' := [(1, .pointer (some ⟨b1, 0, none⟩))]) ⟨rfl, trivial⟩; clear hE8
  refine p_tn ?_
  refine c_seq ?_
  refine c_reg ?_
  refine q_step (v := .agg #[.int .i64 np0, .int .i64 np1]) hE9 (y_loadS Try.underlying94 rfl (by kernel_rfl) rfl (St.row (i := 0) hS5 rfl)) rfl rfl rfl ?_; intro a10 hE11; clear hE9
  refine l_step hE11 rfl (l_call (f := 138) (argv := [.agg #[.int .i64 np0, .int .i64 np1]]) hE11 (fun _ => cf_isNode _ _) rfl rfl (c_isNode np0 np1 w2) ?_)
  rintro _ w13 ⟨rfl, he17⟩ a14 hE15; clear hE11
  have hS16 := St.go hS5 he17; clear hS5
  refine q_step (v := .bool (!(F_isNode np0 np1))) hE15 (y_not rfl) rfl rfl rfl ?_; intro a18 hE19; clear hE15
  refine q_step (v := .bool (!(F_isNode np0 np1))) hE19 (y_assign rfl) rfl rfl rfl ?_; intro a20 hE21; clear hE19
  refine c_nil ?_
  have hE22 := hE21.sub (L' := [(2, .bool (!(F_isNode np0 np1)))]) ⟨rfl, trivial⟩; clear hE21
  refine p_tn ?_
  refine wp_ret ?_
  have hF : F_isFormula_k1 np0 np1 = (!(F_isNode np0 np1)) := by unfold F_isFormula_k1; rfl
  refine c_ret1 hE22 rfl rfl ?_
  exact ⟨(by rw [hF]; first | done | (dsimp only; done) | rfl), hS16.ext⟩
def F_z_IndexFuncNode_L1b (sp : List Int) (fp : Int → Int → Bool) (rec : Int → Except (Int) (Int)) (t8 : Int) : Except (Int) (Int) :=
  bif (decide (t8 < (((sp).length / 2 : Nat) : Int))) then (bif (fp (gS 2 0 sp t8) (gS 2 1 sp t8)) then (.error t8) else (rec (t8 + 1))) else (.ok t8)
def F_z_IndexFuncNode_L1 (sp : List Int) (fp : Int → Int → Bool) : Nat → Int → Except (Int) (Int)
  | 0, t8 => .ok t8
  | r + 1, t8 => F_z_IndexFuncNode_L1b sp fp (F_z_IndexFuncNode_L1 sp fp r) t8
def F_z_IndexFuncNode (sp : List Int) (fp : Int → Int → Bool) : Int :=
  bif (isOk (F_z_IndexFuncNode_L1 sp fp (Int.toNat ((((sp).length / 2 : Nat) : Int) - 0) + 1) 0)) then (-1) else (errD (F_z_IndexFuncNode_L1 sp fp (Int.toNat ((((sp).length / 2 : Nat) : Int) - 0) + 1) 0))
theorem cf_z_IndexFuncNode (args : Array Value) (w : World) : (callFunc 195 args).run Try.prog w = .ok (.enter 195 args) w := by kernel_rfl
set_option maxRecDepth 100000 in
theorem c_z_IndexFuncNode (spA : Option Addr) (spN spC : Nat) (sp : List Int) (fpF : FuncId) (fpC : List Value) (fp : Int → Int → Bool) (fpD : Int → Int → Prop) (w : World) (spR : RdS w 2 spA spN spC sp) (fpE : ∀ args w, (callFunc fpF args).run Try.prog w = .ok (.enter fpF args) w) (fpH : ∀ (x0 : Int) (x1 : Int) (w' : World), fpD x0 x1 → Ext w w' → Calls Try.prog fpF (([.agg #[.int .i64 x0, .int .i64 x1]] ++ fpC : List Value).toArray) w' (Ret fun v w'' => v = .bool (fp x0 x1) ∧ Ext w' w'')) (fpDom : ∀ m : Int, 0 ≤ m → m < ((sp.length / 2 : Nat) : Int) → fpD (gS 2 0 sp m) (gS 2 1 sp m)) :
    Calls Try.prog 195 #[.slice spA spN spC, .func (.func fpF) #[] fpC.toArray] w (Ret fun v w' => v = .int .i64 (F_z_IndexFuncNode sp fp) ∧ Ext w w') := by
  obtain rfl : spN = sp.length / 2 := (spR.lenD (by decide)).symm
  have spEv := spR.ev (by decide)
  have spLe := spR.le
  have hS := St.nil w
  have hS1 := St.rd0 hS rfl spR; clear hS
  refine enter (args := [.slice spA ((sp).length / 2 : Nat) spC, .func (.func fpF) #[] fpC.toArray]) Try.func195 rfl rfl ?_
  rw [Try.ntmps195]; intro a hE
  have hE := hE.sub (L' := [(0, .slice spA ((sp).length / 2 : Nat) spC), (1, .func (.func fpF) #[] fpC.toArray)]) ⟨rfl, rfl, trivial⟩
  refine c_seq ?_
  refine c_reg ?_
  refine q_step (v := .int .i64 0) hE (y_assign rfl) rfl rfl rfl ?_; intro a2 hE3; clear hE
  refine c_nil ?_
  have hE4 := hE3.sub (L' := [(0, .slice spA ((sp).length / 2 : Nat) spC), (1, .func (.func fpF) #[] fpC.toArray)]) ⟨rfl, rfl, trivial⟩; clear hE3
  refine p_tn ?_
  refine c_seq ?_
  refine c_seq ?_
  refine c_reg ?_
  refine q_step (v := .slice spA ((sp).length / 2 : Nat) spC) hE4 (y_move rfl) rfl rfl rfl ?_; intro a5 hE6; clear hE4
  refine q_step (v := .int .i64 (((sp).length / 2 : Nat) : Int)) hE6 (y_len (e := 94) (by kernel_rfl) rfl) rfl rfl rfl ?_; intro a7 hE8; clear hE6
  refine q_step (v := .int .i64 0) hE8 (y_move rfl) rfl rfl rfl ?_; intro a9 hE10; clear hE8
  refine c_nil ?_
  have hE11 := hE10.sub (L' := [(0, .slice spA ((sp).length / 2 : Nat) spC), (1, .func (.func fpF) #[] fpC.toArray), (7, .int .i64 (((sp).length / 2 : Nat) : Int)), (8, .int .i64 0)]) ⟨rfl, rfl, rfl, rfl, trivial⟩; clear hE10
  refine p_tn ?_
  refine c_cut1 (fun a' w' => isOk (F_z_IndexFuncNode_L1 sp fp (Int.toNat ((((sp).length / 2 : Nat) : Int) - 0) + 1) 0) = true ∧ (0 ≤ (okD (F_z_IndexFuncNode_L1 sp fp (Int.toNat ((((sp).length / 2 : Nat) : Int) - 0) + 1) 0))) ∧ ((okD (F_z_IndexFuncNode_L1 sp fp (Int.toNat ((((sp).length / 2 : Nat) : Int) - 0) + 1) 0)) ≤ (((sp).length / 2 : Nat) : Int)) ∧ E a' 19 [(0, .slice spA ((sp).length / 2 : Nat) spC), (1, .func (.func fpF) #[] fpC.toArray), (7, .int .i64 (((sp).length / 2 : Nat) : Int)), (8, .int .i64 (okD (F_z_IndexFuncNode_L1 sp fp (Int.toNat ((((sp).length / 2 : Nat) : Int) - 0) + 1) 0)))] ∧ St w w' [.rd 2 spA ((sp).length / 2 : Nat) spC sp]) ?_ ?_
  ·
   refine wp_block ?_
   refine c_loop (fun r a' w' => ∃ t8 : Int, F_z_IndexFuncNode_L1 sp fp r t8 = F_z_IndexFuncNode_L1 sp fp (Int.toNat ((((sp).length / 2 : Nat) : Int) - 0) + 1) 0 ∧ Int.toNat ((((sp).length / 2 : Nat) : Int) - t8) < r ∧ (0 ≤ t8) ∧ (t8 ≤ (((sp).length / 2 : Nat) : Int)) ∧ E a' 19 [(0, .slice spA ((sp).length / 2 : Nat) spC), (1, .func (.func fpF) #[] fpC.toArray), (7, .int .i64 (((sp).length / 2 : Nat) : Int)), (8, .int .i64 t8)] ∧ St w w' [.rd 2 spA ((sp).length / 2 : Nat) spC sp]) (r := (Int.toNat ((((sp).length / 2 : Nat) : Int) - 0) + 1)) ?_ ?_
   · exact ⟨0, rfl, Nat.lt_succ_self _, (by first | omega | (simp only [sS_len, sL_len]; omega) | (simp only [List.length_replicate, sI_len]; omega) | (simp only [List.length_append, List.length_cons, List.length_nil, sI_len, cond_true, cond_false]; omega) | (simp only [List.length_append, List.length_cons, List.length_nil, sI_len, cond_eq_ite, apply_ite List.length]; split <;> simp only [List.length_append, List.length_cons, List.length_nil, sI_len] <;> omega) | grind), (by first | omega | (simp only [sS_len, sL_len]; omega) | (simp only [List.length_replicate, sI_len]; omega) | (simp only [List.length_append, List.length_cons, List.length_nil, sI_len, cond_true, cond_false]; omega) | (simp only [List.length_append, List.length_cons, List.length_nil, sI_len, cond_eq_ite, apply_ite List.length]; split <;> simp only [List.length_append, List.length_cons, List.length_nil, sI_len] <;> omega) | grind), (hE11.sub (L' := [(0, .slice spA ((sp).length / 2 : Nat) spC), (1, .func (.func fpF) #[] fpC.toArray), (7, .int .i64 (((sp).length / 2 : Nat) : Int)), (8, .int .i64 0)]) ⟨rfl, rfl, rfl, rfl, trivial⟩), (St.pick (Γ' := [.rd 2 spA ((sp).length / 2 : Nat) spC sp]) hS1 [0] (by decide) rfl)⟩
   ·
    clear hE11 hS1
    rintro r21 a13 w14 ⟨t8, hT17, hr18, hi19, hi20, hE15, hS16⟩
    obtain ⟨r21, rfl⟩ : ∃ r', r21 = r' + 1 := ⟨r21 - 1, by omega⟩
    refine c_seq ?_
    refine c_reg ?_
    refine q_step (v := .bool (decide (t8 < (((sp).length / 2 : Nat) : Int)))) hE15 (y_lss rfl rfl) rfl rfl rfl ?_; intro a22 hE23; clear hE15
    refine c_nil ?_
    have hE24 := hE23.sub (L' := [(0, .slice spA ((sp).length / 2 : Nat) spC), (1, .func (.func fpF) #[] fpC.toArray), (7, .int .i64 (((sp).length / 2 : Nat) : Int)), (8, .int .i64 t8), (9, .bool (decide (t8 < (((sp).length / 2 : Nat) : Int))))]) ⟨rfl, rfl, rfl, rfl, rfl, trivial⟩; clear hE23
    refine p_tn ?_
    refine c_seq ?_
    refine c_cond hE24 rfl (fun ht25 => ?_) (fun ht25 => ?_)
    ·
     have hp26 := of_decide_eq_true ht25
     have hE27 := hE24; rw [ht25] at hE27; clear hE24
     refine wp_skip ?_
     refine p_tn ?_
     refine c_seq ?_
     refine wp_block ?_
     refine c_seq ?_
     refine c_reg ?_
     refine q_step (v := .int .i64 t8) hE27 (y_move rfl) rfl rfl rfl ?_; intro a28 hE29; clear hE27
     refine q_step (v := .int .i64 t8) hE29 (y_assign rfl) rfl rfl rfl ?_; intro a30 hE31; clear hE29
     refine c_nil ?_
     have hE32 := hE31.sub (L' := [(0, .slice spA ((sp).length / 2 : Nat) spC), (1, .func (.func fpF) #[] fpC.toArray), (5, .int .i64 t8), (7, .int .i64 (((sp).length / 2 : Nat) : Int)), (8, .int .i64 t8)]) ⟨rfl, rfl, rfl, rfl, rfl, trivial⟩; clear hE31
     refine p_tn ?_
     refine c_seq ?_
     refine c_reg ?_
     refine q_step (v := .func (.func fpF) #[] fpC.toArray) hE32 (y_move rfl) rfl rfl rfl ?_; intro a33 hE34; clear hE32
     refine q_step (v := .slice spA ((sp).length / 2 : Nat) spC) hE34 (y_move rfl) rfl rfl rfl ?_; intro a35 hE36; clear hE34
     refine q_step (v := .int .i64 t8) hE36 (y_move rfl) rfl rfl rfl ?_; intro a37 hE38; clear hE36
     refine q_step (v := .pointer (some (adr spA (Int.toNat t8 * 2)))) hE38 (y_idx (by kernel_rfl) (fun _ => by kernel_rfl) rfl rfl (RdS.isS (m := t8) (St.rdR (i := 0) hS16 rfl) (by omega) (by omega)) (by omega) (by omega) rfl) rfl rfl rfl ?_; intro a39 hE40; clear hE38
     refine q_step (v := .agg #[.int .i64 (gS 2 0 sp t8), .int .i64 (gS 2 1 sp t8)]) hE40 (y_loadE Try.underlying94 rfl (by kernel_rfl) rfl (RdS.rng2 (St.rdR (i := 0) hS16 rfl) (by omega) (by omega))) rfl rfl rfl ?_; intro a41 hE42; clear hE40
     refine l_step hE42 rfl (l_callv (f := fpF) (caps := fpC) (argv := [.agg #[.int .i64 (gS 2 0 sp t8), .int .i64 (gS 2 1 sp t8)]]) hE42 rfl (fun _ => fpE _ _) rfl rfl (fpH (gS 2 0 sp t8) (gS 2 1 sp t8) w14 (fpDom t8 (by omega) (by omega)) hS16.ext) ?_)
     rintro _ w44 ⟨rfl, he48⟩ a45 hE46; clear hE42
     have hS47 := St.go hS16 he48; clear hS16
     refine c_nil ?_
     have hE49 := hE46.sub (L' := [(0, .slice spA ((sp).length / 2 : Nat) spC), (1, .func (.func fpF) #[] fpC.toArray), (5, .int .i64 t8), (7, .int .i64 (((sp).length / 2 : Nat) : Int)), (8, .int .i64 t8), (16, .bool (fp (gS 2 0 sp t8) (gS 2 1 sp t8)))]) ⟨rfl, rfl, rfl, rfl, rfl, rfl, trivial⟩; clear hE46
     refine p_tn ?_
     refine c_cond hE49 rfl (fun ht50 => ?_) (fun ht50 => ?_)
     ·
      have hE51 := hE49; rw [ht50] at hE51; clear hE49
      refine c_seq ?_
      refine c_reg ?_
      refine q_step (v := .int .i64 t8) hE51 (y_move rfl) rfl rfl rfl ?_; intro a52 hE53; clear hE51
      refine q_step (v := .int .i64 t8) hE53 (y_assign rfl) rfl rfl rfl ?_; intro a54 hE55; clear hE53
      refine c_nil ?_
      have hE56 := hE55.sub (L' := [(4, .int .i64 t8)]) ⟨rfl, trivial⟩; clear hE55
      refine p_tn ?_
      refine wp_ret ?_
      refine p_br ?_
      refine p_tr ?_
      have hX57 : F_z_IndexFuncNode_L1 sp fp (Int.toNat ((((sp).length / 2 : Nat) : Int) - 0) + 1) 0 = .error t8 := hT17.symm.trans (show F_z_IndexFuncNode_L1b sp fp (F_z_IndexFuncNode_L1 sp fp r21) t8 = .error t8 by unfold F_z_IndexFuncNode_L1b; rw [ht50, ht25]; first | done | rfl)
      refine p_tr (p_br (p_tr ?_))
      refine p_tr ?_
      have hF : F_z_IndexFuncNode sp fp = t8 := by unfold F_z_IndexFuncNode; rw [hX57]; first | done | rfl
      refine c_ret1 hE56 rfl rfl ?_
      exact ⟨(by rw [hF]; first | done | (dsimp only; done) | rfl), hS47.ext⟩
     ·
      have hE58 := hE49; rw [ht50] at hE58; clear hE49
      refine wp_skip ?_
      refine p_bn ?_
      refine p_tn ?_
      refine c_reg ?_
      refine q_step (v := .int .i64 (t8 + 1)) hE58 (y_add rfl rfl ⟨(by omega), (by omega)⟩) rfl rfl rfl ?_; intro a59 hE60; clear hE58
      refine q_step (v := .int .i64 (t8 + 1)) hE60 (y_move rfl) rfl rfl rfl ?_; intro a61 hE62; clear hE60
      refine c_nil ?_
      have hE63 := hE62.sub (L' := [(0, .slice spA ((sp).length / 2 : Nat) spC), (1, .func (.func fpF) #[] fpC.toArray), (7, .int .i64 (((sp).length / 2 : Nat) : Int)), (8, .int .i64 (t8 + 1))]) ⟨rfl, rfl, rfl, rfl, trivial⟩; clear hE62
      refine p_tn ⟨r21, Nat.lt_succ_self _, t8 + 1, (hT17.symm.trans (show F_z_IndexFuncNode_L1b sp fp (F_z_IndexFuncNode_L1 sp fp r21) t8 = F_z_IndexFuncNode_L1 sp fp r21 (t8 + 1) by unfold F_z_IndexFuncNode_L1b; rw [ht50, ht25]; first | done | rfl)).symm, (by omega), (by first | omega | (simp only [sS_len, sL_len]; omega) | (simp only [List.length_replicate, sI_len]; omega) | (simp only [List.length_append, List.length_cons, List.length_nil, sI_len, cond_true, cond_false]; omega) | (simp only [List.length_append, List.length_cons, List.length_nil, sI_len, cond_eq_ite, apply_ite List.length]; split <;> simp only [List.length_append, List.length_cons, List.length_nil, sI_len] <;> omega) | grind), (by first | omega | (simp only [sS_len, sL_len]; omega) | (simp only [List.length_replicate, sI_len]; omega) | (simp only [List.length_append, List.length_cons, List.length_nil, sI_len, cond_true, cond_false]; omega) | (simp only [List.length_append, List.length_cons, List.length_nil, sI_len, cond_eq_ite, apply_ite List.length]; split <;> simp only [List.length_append, List.length_cons, List.length_nil, sI_len] <;> omega) | grind), (hE63.sub (L' := [(0, .slice spA ((sp).length / 2 : Nat) spC), (1, .func (.func fpF) #[] fpC.toArray), (7, .int .i64 (((sp).length / 2 : Nat) : Int)), (8, .int .i64 (t8 + 1))]) ⟨rfl, rfl, rfl, rfl, trivial⟩), (St.pick (Γ' := [.rd 2 spA ((sp).length / 2 : Nat) spC sp]) hS47 [0] (by decide) rfl)⟩
    ·
     have hp64 := of_decide_eq_false ht25
     have hE65 := hE24; rw [ht25] at hE65; clear hE24
     refine wp_exit ?_
     refine p_te ?_
     have hX66 : F_z_IndexFuncNode_L1 sp fp (Int.toNat ((((sp).length / 2 : Nat) : Int) - 0) + 1) 0 = .ok t8 := hT17.symm.trans (show F_z_IndexFuncNode_L1b sp fp (F_z_IndexFuncNode_L1 sp fp r21) t8 = .ok t8 by unfold F_z_IndexFuncNode_L1b; rw [ht25]; first | done | rfl)
     refine p_te (p_be (p_tn ?_))
     exact ⟨(by rw [hX66]; rfl), (by rw [hX66]; exact (show 0 ≤ t8 from (by first | omega | (simp only [sS_len, sL_len]; omega) | (simp only [List.length_replicate, sI_len]; omega) | (simp only [List.length_append, List.length_cons, List.length_nil, sI_len, cond_true, cond_false]; omega) | (simp only [List.length_append, List.length_cons, List.length_nil, sI_len, cond_eq_ite, apply_ite List.length]; split <;> simp only [List.length_append, List.length_cons, List.length_nil, sI_len] <;> omega) | grind))), (by rw [hX66]; exact (show t8 ≤ (((sp).length / 2 : Nat) : Int) from (by first | omega | (simp only [sS_len, sL_len]; omega) | (simp only [List.length_replicate, sI_len]; omega) | (simp only [List.length_append, List.length_cons, List.length_nil, sI_len, cond_true, cond_false]; omega) | (simp only [List.length_append, List.length_cons, List.length_nil, sI_len, cond_eq_ite, apply_ite List.length]; split <;> simp only [List.length_append, List.length_cons, List.length_nil, sI_len] <;> omega) | grind))), (by rw [hX66]; exact (hE65.sub (L' := [(0, .slice spA ((sp).length / 2 : Nat) spC), (1, .func (.func fpF) #[] fpC.toArray), (7, .int .i64 (((sp).length / 2 : Nat) : Int)), (8, .int .i64 t8)]) ⟨rfl, rfl, rfl, rfl, trivial⟩)), (St.pick (Γ' := [.rd 2 spA ((sp).length / 2 : Nat) spC sp]) hS16 [0] (by decide) rfl)⟩
  ·
   rintro a67 w68 ⟨hO71, hi72, hi73, hE69, hS70⟩; clear hE11 hS1
   refine p_tn ?_
   refine c_seq ?_
   refine c_reg ?_
   refine q_step (v := .int .i64 (-1)) hE69 (y_assign rfl) rfl rfl rfl ?_; intro a74 hE75; clear hE69
   refine c_nil ?_
   have hE76 := hE75.sub (L' := [(4, .int .i64 (-1))]) ⟨rfl, trivial⟩; clear hE75
   refine p_tn ?_
   refine wp_ret ?_
   have hF : F_z_IndexFuncNode sp fp = -1 := by unfold F_z_IndexFuncNode; rw [hO71]; first | done | rfl
   refine c_ret1 hE76 rfl rfl ?_
   exact ⟨(by rw [hF]; first | done | (dsimp only; done) | rfl), hS70.ext⟩
def F_z_ContainsFuncNode (sp : List Int) (fp : Int → Int → Bool) : Bool :=
  decide (0 ≤ (F_z_IndexFuncNode sp fp))
theorem cf_z_ContainsFuncNode (args : Array Value) (w : World) : (callFunc 136 args).run Try.prog w = .ok (.enter 136 args) w := by kernel_rfl
set_option maxRecDepth 100000 in
theorem c_z_ContainsFuncNode (spA : Option Addr) (spN spC : Nat) (sp : List Int) (fpF : FuncId) (fpC : List Value) (fp : Int → Int → Bool) (fpD : Int → Int → Prop) (w : World) (spR : RdS w 2 spA spN spC sp) (fpE : ∀ args w, (callFunc fpF args).run Try.prog w = .ok (.enter fpF args) w) (fpH : ∀ (x0 : Int) (x1 : Int) (w' : World), fpD x0 x1 → Ext w w' → Calls Try.prog fpF (([.agg #[.int .i64 x0, .int .i64 x1]] ++ fpC : List Value).toArray) w' (Ret fun v w'' => v = .bool (fp x0 x1) ∧ Ext w' w'')) (fpDom : ∀ m : Int, 0 ≤ m → m < ((sp.length / 2 : Nat) : Int) → fpD (gS 2 0 sp m) (gS 2 1 sp m)) :
    Calls Try.prog 136 #[.slice spA spN spC, .func (.func fpF) #[] fpC.toArray] w (Ret fun v w' => v = .bool (F_z_ContainsFuncNode sp fp) ∧ Ext w w') := by
  obtain rfl : spN = sp.length / 2 := (spR.lenD (by decide)).symm
  have spEv := spR.ev (by decide)
  have spLe := spR.le
  have hS := St.nil w
  have hS1 := St.rd0 hS rfl spR; clear hS
  refine enter (args := [.slice spA ((sp).length / 2 : Nat) spC, .func (.func fpF) #[] fpC.toArray]) Try.func136 rfl rfl ?_
  rw [Try.ntmps136]; intro a hE
  have hE := hE.sub (L' := [(0, .slice spA ((sp).length / 2 : Nat) spC), (1, .func (.func fpF) #[] fpC.toArray)]) ⟨rfl, rfl, trivial⟩
  refine c_seq ?_
  refine c_reg ?_
  refine q_step (v := .bool false) hE (y_assign rfl) rfl rfl rfl ?_; intro a2 hE3; clear hE
  refine c_nil ?_
  have hE4 := hE3.sub (L' := [(0, .slice spA ((sp).length / 2 : Nat) spC), (1, .func (.func fpF) #[] fpC.toArray)]) ⟨rfl, rfl, trivial⟩; clear hE3
  refine p_tn ?_
  refine c_seq ?_
  refine c_reg ?_
  refine q_step (v := .slice spA ((sp).length / 2 : Nat) spC) hE4 (y_move rfl) rfl rfl rfl ?_; intro a5 hE6; clear hE4
  refine q_step (v := .func (.func fpF) #[] fpC.toArray) hE6 (y_move rfl) rfl rfl rfl ?_; intro a7 hE8; clear hE6
  refine l_step hE8 rfl (l_call (f := 195) (argv := [.slice spA ((sp).length / 2 : Nat) spC, .func (.func fpF) #[] fpC.toArray]) hE8 (fun _ => cf_z_IndexFuncNode _ _) rfl rfl (c_z_IndexFuncNode spA ((sp).length / 2 : Nat) spC sp fpF fpC fp fpD w (St.rdR (i := 0) hS1 rfl) fpE (fun x0 x1 w' hx he => fpH x0 x1 w' hx (hS1.ext.trans he)) fpDom) ?_)
  rintro _ w10 ⟨rfl, he14⟩ a11 hE12; clear hE8
  have hS13 := St.go hS1 he14; clear hS1
  refine q_step (v := .bool (decide (0 ≤ (F_z_IndexFuncNode sp fp)))) hE12 (y_geq rfl rfl) rfl rfl rfl ?_; intro a15 hE16; clear hE12
  refine q_step (v := .bool (decide (0 ≤ (F_z_IndexFuncNode sp fp)))) hE16 (y_assign rfl) rfl rfl rfl ?_; intro a17 hE18; clear hE16
  refine c_nil ?_
  have hE19 := hE18.sub (L' := [(4, .bool (decide (0 ≤ (F_z_IndexFuncNode sp fp))))]) ⟨rfl, trivial⟩; clear hE18
  refine p_tn ?_
  refine wp_ret ?_
  have hF : F_z_ContainsFuncNode sp fp = decide (0 ≤ (F_z_IndexFuncNode sp fp)) := by unfold F_z_ContainsFuncNode; rfl
  refine c_ret1 hE19 rfl rfl ?_
  exact ⟨(by rw [hF]; first | done | (dsimp only; done) | rfl), hS13.ext⟩
def F_isFormula (ap : List Int) : Bool :=
  ((decide (1 ≤ (((ap).length / 2 : Nat) : Int))) && ((decide ((((ap).length / 2 : Nat) : Int) ≤ 40)) && ((!(F_z_ContainsFuncNode ap (fun x0 x1 => F_isFormula_k1 x0 x1))) && (decide ((F_partEnd ap 0) = (((ap).length / 2 : Nat) : Int))))))
theorem cf_isFormula (args : Array Value) (w : World) : (callFunc 74 args).run Try.prog w = .ok (.enter 74 args) w := by kernel_rfl
set_option maxRecDepth 100000 in
theorem c_isFormula (apA : Option Addr) (apN apC : Nat) (ap : List Int) (w : World) (apR : RdS w 2 apA apN apC ap) (hl : ap.length ≤ 4194304) :
    Calls Try.prog 74 #[.slice apA apN apC] w (Ret fun v w' => v = .bool (F_isFormula ap) ∧ Ext w w') := by
  obtain rfl : apN = ap.length / 2 := (apR.lenD (by decide)).symm
  have apEv := apR.ev (by decide)
  have apLe := apR.le
  have hS := St.nil w
  have hS1 := St.rd0 hS rfl apR; clear hS
  refine enter (args := [.slice apA ((ap).length / 2 : Nat) apC]) Try.func74 rfl rfl ?_
  rw [Try.ntmps74]; intro a hE
  have hE := hE.sub (L' := [(0, .slice apA ((ap).length / 2 : Nat) apC)]) ⟨rfl, trivial⟩
  refine c_seq ?_
  refine c_reg ?_
  refine q_step (v := .bool false) hE (y_assign rfl) rfl rfl rfl ?_; intro a2 hE3; clear hE
  refine c_nil ?_
  have hE4 := hE3.sub (L' := [(0, .slice apA ((ap).length / 2 : Nat) apC)]) ⟨rfl, trivial⟩; clear hE3
  refine p_tn ?_
  refine c_cut (fun a' w' => E a' 23 [(2, .bool ((decide (1 ≤ (((ap).length / 2 : Nat) : Int))) && ((decide ((((ap).length / 2 : Nat) : Int) ≤ 40)) && ((!(F_z_ContainsFuncNode ap (fun x0 x1 => F_isFormula_k1 x0 x1))) && (decide ((F_partEnd ap 0) = (((ap).length / 2 : Nat) : Int)))))))] ∧ St w w' [.rd 2 apA ((ap).length / 2 : Nat) apC ap]) ?_ ?_
  ·
   refine c_reg ?_
   refine q_step (v := .slice apA ((ap).length / 2 : Nat) apC) hE4 (y_move rfl) rfl rfl rfl ?_; intro a5 hE6; clear hE4
   refine q_step (v := .int .i64 (((ap).length / 2 : Nat) : Int)) hE6 (y_len (e := 94) (by kernel_rfl) rfl) rfl rfl rfl ?_; intro a7 hE8; clear hE6
   refine q_step (v := .bool (decide (1 ≤ (((ap).length / 2 : Nat) : Int)))) hE8 (y_geq rfl rfl) rfl rfl rfl ?_; intro a9 hE10; clear hE8
   refine q_step (v := .bool (decide (1 ≤ (((ap).length / 2 : Nat) : Int)))) hE10 (y_move rfl) rfl rfl rfl ?_; intro a11 hE12; clear hE10
   rcases Bool.eq_false_or_eq_true (decide (1 ≤ (((ap).length / 2 : Nat) : Int))) with hb13 | hb13
   ·
    have hE14 := hE12; (try rw [hb13] at hE14); clear hE12
    have hp15 := of_decide_eq_true hb13
    refine q_step (v := .slice apA ((ap).length / 2 : Nat) apC) hE14 (y_move rfl) rfl rfl rfl ?_; intro a16 hE17; clear hE14
    refine q_step (v := .int .i64 (((ap).length / 2 : Nat) : Int)) hE17 (y_len (e := 94) (by kernel_rfl) rfl) rfl rfl rfl ?_; intro a18 hE19; clear hE17
    refine q_step (v := .bool (decide ((((ap).length / 2 : Nat) : Int) ≤ 40))) hE19 (y_leq rfl rfl) rfl rfl rfl ?_; intro a20 hE21; clear hE19
    refine q_step (v := .bool (decide ((((ap).length / 2 : Nat) : Int) ≤ 40))) hE21 (y_pick (b := true) rfl rfl) rfl rfl rfl ?_; intro a22 hE23; clear hE21
    refine q_step (v := .bool (decide ((((ap).length / 2 : Nat) : Int) ≤ 40))) hE23 (y_move rfl) rfl rfl rfl ?_; intro a24 hE25; clear hE23
    rcases Bool.eq_false_or_eq_true (decide ((((ap).length / 2 : Nat) : Int) ≤ 40)) with hb26 | hb26
    ·
     have hE27 := hE25; (try rw [hb26] at hE27); clear hE25
     have hp28 := of_decide_eq_true hb26
     refine q_step (v := .slice apA ((ap).length / 2 : Nat) apC) hE27 (y_move rfl) rfl rfl rfl ?_; intro a29 hE30; clear hE27
     refine l_step hE30 rfl (l_call (f := 136) (argv := [.slice apA ((ap).length / 2 : Nat) apC, .func (.func 137) #[] #[]]) hE30 (fun _ => cf_z_ContainsFuncNode _ _) rfl rfl (c_z_ContainsFuncNode apA ((ap).length / 2 : Nat) apC ap 137 [] (fun x0 x1 => F_isFormula_k1 x0 x1) (fun _ _ => True) w (St.rdR (i := 0) hS1 rfl) (fun _ _ => cf_isFormula_k1 _ _) (fun x0 x1 w' hx he => c_isFormula_k1 x0 x1 w') (fun _ _ _ => trivial)) ?_)
     rintro _ w32 ⟨rfl, he36⟩ a33 hE34; clear hE30
     have hS35 := St.go hS1 he36; clear hS1
     refine q_step (v := .bool (!(F_z_ContainsFuncNode ap (fun x0 x1 => F_isFormula_k1 x0 x1)))) hE34 (y_not rfl) rfl rfl rfl ?_; intro a37 hE38; clear hE34
     refine q_step (v := .bool (!(F_z_ContainsFuncNode ap (fun x0 x1 => F_isFormula_k1 x0 x1)))) hE38 (y_pick (b := true) rfl rfl) rfl rfl rfl ?_; intro a39 hE40; clear hE38
     refine q_step (v := .bool (!(F_z_ContainsFuncNode ap (fun x0 x1 => F_isFormula_k1 x0 x1)))) hE40 (y_move rfl) rfl rfl rfl ?_; intro a41 hE42; clear hE40
     rcases Bool.eq_false_or_eq_true (!(F_z_ContainsFuncNode ap (fun x0 x1 => F_isFormula_k1 x0 x1))) with hb43 | hb43
     ·
      have hE44 := hE42; (try rw [hb43] at hE44); clear hE42
      have ht45 := bn_t hb43
      refine q_step (v := .slice apA ((ap).length / 2 : Nat) apC) hE44 (y_move rfl) rfl rfl rfl ?_; intro a46 hE47; clear hE44
      refine l_step hE47 rfl (l_call (f := 77) (argv := [.slice apA ((ap).length / 2 : Nat) apC, .int .i64 0]) hE47 (fun _ => cf_partEnd _ _) rfl rfl (c_partEnd apA ((ap).length / 2 : Nat) apC ap 0 w32 (St.rdR (i := 0) hS35 rfl) (by omega) (by omega)) ?_)
      rintro _ w49 ⟨rfl, he53⟩ a50 hE51; clear hE47
      have hS52 := St.go hS35 he53; clear hS35
      refine q_step (v := .slice apA ((ap).length / 2 : Nat) apC) hE51 (y_move rfl) rfl rfl rfl ?_; intro a54 hE55; clear hE51
      refine q_step (v := .int .i64 (((ap).length / 2 : Nat) : Int)) hE55 (y_len (e := 94) (by kernel_rfl) rfl) rfl rfl rfl ?_; intro a56 hE57; clear hE55
      refine q_step (v := .bool (decide ((F_partEnd ap 0) = (((ap).length / 2 : Nat) : Int)))) hE57 (y_eql rfl rfl) rfl rfl rfl ?_; intro a58 hE59; clear hE57
      refine q_step (v := .bool (decide ((F_partEnd ap 0) = (((ap).length / 2 : Nat) : Int)))) hE59 (y_pick (b := true) rfl rfl) rfl rfl rfl ?_; intro a60 hE61; clear hE59
      refine q_step (v := .bool (decide ((F_partEnd ap 0) = (((ap).length / 2 : Nat) : Int)))) hE61 (y_assign rfl) rfl rfl rfl ?_; intro a62 hE63; clear hE61
      refine c_nil ?_
      have hE64 := hE63.sub (L' := [(2, .bool (decide ((F_partEnd ap 0) = (((ap).length / 2 : Nat) : Int))))]) ⟨rfl, trivial⟩; clear hE63
      refine p_tn ?_
      have hE65 := hE64.sub (L' := [(2, .bool (decide ((F_partEnd ap 0) = (((ap).length / 2 : Nat) : Int))))]) ⟨rfl, trivial⟩
      have hS66 := (St.pick (Γ' := [.rd 2 apA ((ap).length / 2 : Nat) apC ap]) hS52 [0] (by decide) rfl)
      exact ⟨(by rw [hb43, hb26, hb13]; exact hE65), hS66⟩
     ·
      have hE67 := hE42; (try rw [hb43] at hE67); clear hE42
      have ht68 := bn_f hb43
      refine q_skip hE67 rfl rfl rfl ?_; intro a69 hE70; clear hE67
      refine q_skip hE70 rfl rfl rfl ?_; intro a71 hE72; clear hE70
      refine q_skip hE72 rfl rfl rfl ?_; intro a73 hE74; clear hE72
      refine q_skip hE74 rfl rfl rfl ?_; intro a75 hE76; clear hE74
      refine q_skip hE76 rfl rfl rfl ?_; intro a77 hE78; clear hE76
      refine q_step (v := .bool false) hE78 (y_pick (b := false) rfl rfl) rfl rfl rfl ?_; intro a79 hE80; clear hE78
      refine q_step (v := .bool false) hE80 (y_assign rfl) rfl rfl rfl ?_; intro a81 hE82; clear hE80
      refine c_nil ?_
      have hE83 := hE82.sub (L' := [(2, .bool false)]) ⟨rfl, trivial⟩; clear hE82
      refine p_tn ?_
      have hE84 := hE83.sub (L' := [(2, .bool false)]) ⟨rfl, trivial⟩
      have hS85 := (St.pick (Γ' := [.rd 2 apA ((ap).length / 2 : Nat) apC ap]) hS35 [0] (by decide) rfl)
      exact ⟨(by rw [hb43, hb26, hb13]; exact hE84), hS85⟩
    ·
     have hE86 := hE25; (try rw [hb26] at hE86); clear hE25
     have hp87 := of_decide_eq_false hb26
     refine q_skip hE86 rfl rfl rfl ?_; intro a88 hE89; clear hE86
     refine q_skip hE89 rfl rfl rfl ?_; intro a90 hE91; clear hE89
     refine q_skip hE91 rfl rfl rfl ?_; intro a92 hE93; clear hE91
     refine q_step (v := .bool false) hE93 (y_pick (b := false) rfl rfl) rfl rfl rfl ?_; intro a94 hE95; clear hE93
     refine q_step (v := .bool false) hE95 (y_move rfl) rfl rfl rfl ?_; intro a96 hE97; clear hE95
     refine q_skip hE97 rfl rfl rfl ?_; intro a98 hE99; clear hE97
     refine q_skip hE99 rfl rfl rfl ?_; intro a100 hE101; clear hE99
     refine q_skip hE101 rfl rfl rfl ?_; intro a102 hE103; clear hE101
     refine q_skip hE103 rfl rfl rfl ?_; intro a104 hE105; clear hE103
     refine q_skip hE105 rfl rfl rfl ?_; intro a106 hE107; clear hE105
     refine q_step (v := .bool false) hE107 (y_pick (b := false) rfl rfl) rfl rfl rfl ?_; intro a108 hE109; clear hE107
     refine q_step (v := .bool false) hE109 (y_assign rfl) rfl rfl rfl ?_; intro a110 hE111; clear hE109
     refine c_nil ?_
     have hE112 := hE111.sub (L' := [(2, .bool false)]) ⟨rfl, trivial⟩; clear hE111
     refine p_tn ?_
     have hE113 := hE112.sub (L' := [(2, .bool false)]) ⟨rfl, trivial⟩
     have hS114 := (St.pick (Γ' := [.rd 2 apA ((ap).length / 2 : Nat) apC ap]) hS1 [0] (by decide) rfl)
     exact ⟨(by rw [hb26, hb13]; exact hE113), hS114⟩
   ·
    have hE115 := hE12; (try rw [hb13] at hE115); clear hE12
    have hp116 := of_decide_eq_false hb13
    refine q_skip hE115 rfl rfl rfl ?_; intro a117 hE118; clear hE115
    refine q_skip hE118 rfl rfl rfl ?_; intro a119 hE120; clear hE118
    refine q_skip hE120 rfl rfl rfl ?_; intro a121 hE122; clear hE120
    refine q_step (v := .bool false) hE122 (y_pick (b := false) rfl rfl) rfl rfl rfl ?_; intro a123 hE124; clear hE122
    refine q_step (v := .bool false) hE124 (y_move rfl) rfl rfl rfl ?_; intro a125 hE126; clear hE124
    refine q_skip hE126 rfl rfl rfl ?_; intro a127 hE128; clear hE126
    refine q_skip hE128 rfl rfl rfl ?_; intro a129 hE130; clear hE128
    refine q_skip hE130 rfl rfl rfl ?_; intro a131 hE132; clear hE130
    refine q_step (v := .bool false) hE132 (y_pick (b := false) rfl rfl) rfl rfl rfl ?_; intro a133 hE134; clear hE132
    refine q_step (v := .bool false) hE134 (y_move rfl) rfl rfl rfl ?_; intro a135 hE136; clear hE134
    refine q_skip hE136 rfl rfl rfl ?_; intro a137 hE138; clear hE136
    refine q_skip hE138 rfl rfl rfl ?_; intro a139 hE140; clear hE138
    refine q_skip hE140 rfl rfl rfl ?_; intro a141 hE142; clear hE140
    refine q_skip hE142 rfl rfl rfl ?_; intro a143 hE144; clear hE142
    refine q_skip hE144 rfl rfl rfl ?_; intro a145 hE146; clear hE144
    refine q_step (v := .bool false) hE146 (y_pick (b := false) rfl rfl) rfl rfl rfl ?_; intro a147 hE148; clear hE146
    refine q_step (v := .bool false) hE148 (y_assign rfl) rfl rfl rfl ?_; intro a149 hE150; clear hE148
    refine c_nil ?_
    have hE151 := hE150.sub (L' := [(2, .bool false)]) ⟨rfl, trivial⟩; clear hE150
    refine p_tn ?_
    have hE152 := hE151.sub (L' := [(2, .bool false)]) ⟨rfl, trivial⟩
    have hS153 := (St.pick (Γ' := [.rd 2 apA ((ap).length / 2 : Nat) apC ap]) hS1 [0] (by decide) rfl)
    exact ⟨(by rw [hb13]; exact hE152), hS153⟩
  ·
   rintro a154 w155 ⟨hE156, hS157⟩; clear hE4 hS1
   refine wp_ret ?_
   have hF : F_isFormula ap = ((decide (1 ≤ (((ap).length / 2 : Nat) : Int))) && ((decide ((((ap).length / 2 : Nat) : Int) ≤ 40)) && ((!(F_z_ContainsFuncNode ap (fun x0 x1 => F_isFormula_k1 x0 x1))) && (decide ((F_partEnd ap 0) = (((ap).length / 2 : Nat) : Int)))))) := by unfold F_isFormula; rfl
   refine c_ret1 hE156 rfl rfl ?_
   exact ⟨(by rw [hF]; first | done | (dsimp only; done) | rfl), hS157.ext⟩
theorem partEnd_loop (ap : List Int) : ∀ (r : Nat) (i o : Int), F_partEnd_L1 ap r i o = F_l02Part_L1 ap r i o := by
  intro r
  induction r with
  | zero => intro i o; rfl
  | succ r ih =>
    intro i o
    show F_partEnd_L1b ap _ i o = F_l02Part_L1b ap _ i o
    unfold F_partEnd_L1b F_l02Part_L1b
    rw [show o + (F_partsOf (gS 2 0 ap i) - 1) = o - 1 + F_l02Parts (gS 2 0 ap i) from (by show o + (F_l02Parts (gS 2 0 ap i) - 1) = _; omega), ih]
theorem partEnd_eq (ap : List Int) (i : Int) : F_partEnd ap i = F_l02Part ap i := by
  unfold F_partEnd F_l02Part
  rw [partEnd_loop]
theorem indexNode_key (sp : List Int) (fp : Int → Int → Bool) : ∀ (k : Nat) (i : Int), 0 ≤ i → ((sp.length / 2 : Nat) : Int) - i = (k : Int) →
    decide (0 ≤ (bif isOk (F_z_IndexFuncNode_L1 sp fp (k + 1) i) then (-1 : Int) else errD (F_z_IndexFuncNode_L1 sp fp (k + 1) i))) = !((List.range k).all fun j => !fp (gS 2 0 sp (i + (j : Int))) (gS 2 1 sp (i + (j : Int)))) := by
  intro k
  induction k with
  | zero =>
    intro i h0 h
    have e : F_z_IndexFuncNode_L1 sp fp (0 + 1) i = .ok i := by
      show F_z_IndexFuncNode_L1b sp fp _ i = _
      unfold F_z_IndexFuncNode_L1b; rw [decide_eq_false (by omega)]; rfl
    rw [e]; rfl
  | succ k ih =>
    intro i h0 h
    have e : F_z_IndexFuncNode_L1 sp fp (k + 1 + 1) i = bif fp (gS 2 0 sp i) (gS 2 1 sp i) then .error i else F_z_IndexFuncNode_L1 sp fp (k + 1) (i + 1) := by
      show F_z_IndexFuncNode_L1b sp fp _ i = _
      unfold F_z_IndexFuncNode_L1b; rw [decide_eq_true (by omega)]; rfl
    rw [e, List.range_succ_eq_map, List.all_cons, List.all_map]
    simp only [Int.natCast_zero, Int.add_zero, Function.comp_def]
    cases hp : fp (gS 2 0 sp i) (gS 2 1 sp i)
    · simp only [cond_false]
      rw [ih (i + 1) (by omega) (by omega)]
      simp only [Bool.not_false, Bool.true_and]
      congr 2; funext j
      rw [show i + 1 + (j : Int) = i + ((j + 1 : Nat) : Int) by omega]
    · simp [isOk, errD, h0]
theorem tree_key (ap : List Int) : ∀ (k : Nat) (i : Int), 0 ≤ i → ((ap.length / 2 : Nat) : Int) - i = (k : Int) →
    isOk (F_l02Tree_L1 ap (k + 1) i) = ((List.range k).all fun j => F_isNode (gS 2 0 ap (i + (j : Int))) (gS 2 1 ap (i + (j : Int)))) ∧ (isOk (F_l02Tree_L1 ap (k + 1) i) = false → errD (F_l02Tree_L1 ap (k + 1) i) = false) := by
  intro k
  induction k with
  | zero =>
    intro i h0 h
    have e : F_l02Tree_L1 ap (0 + 1) i = .ok i := by
      show F_l02Tree_L1b ap _ i = _
      unfold F_l02Tree_L1b; rw [decide_eq_false (by omega)]; rfl
    rw [e]; exact ⟨rfl, fun h => by cases h⟩
  | succ k ih =>
    intro i h0 h
    have en : ((!(F_l01In (gS 2 0 ap i) 0 6)) || ((!(F_l01In (gS 2 1 ap i) 0 5)) || ((!decide ((gS 2 0 ap i) = 0)) && (!decide ((gS 2 1 ap i) = 0))))) = !F_isNode (gS 2 0 ap i) (gS 2 1 ap i) := by
      unfold F_isNode F_isVariable F_inRange F_l01In
      generalize gS 2 0 ap i = x
      generalize gS 2 1 ap i = y
      by_cases hx : x = 0
      · subst hx; simp
      · simp only [hx, decide_false, cond_false, Bool.not_false, Bool.true_and]
        have e1 : decide (0 ≤ x) = decide (1 ≤ x) := decide_eq_decide.2 (by omega)
        by_cases hy : y = 0
        · subst hy; simp [e1]
        · simp [hy]
    have e : F_l02Tree_L1 ap (k + 1 + 1) i = bif !F_isNode (gS 2 0 ap i) (gS 2 1 ap i) then .error false else F_l02Tree_L1 ap (k + 1) (i + 1) := by
      show F_l02Tree_L1b ap _ i = _
      unfold F_l02Tree_L1b; rw [decide_eq_true (by omega), en]; rfl
    rw [e, List.range_succ_eq_map, List.all_cons, List.all_map]
    simp only [Int.natCast_zero, Int.add_zero, Function.comp_def]
    cases hp : F_isNode (gS 2 0 ap i) (gS 2 1 ap i)
    · exact ⟨rfl, fun _ => rfl⟩
    · simp only [Bool.not_true, cond_false, Bool.true_and]
      have := ih (i + 1) (by omega) (by omega)
      refine ⟨this.1.trans ?_, this.2⟩
      congr 1; funext j
      rw [show i + 1 + (j : Int) = i + ((j + 1 : Nat) : Int) by omega]
theorem isFormula_eq (ap : List Int) : F_isFormula ap = F_l02Is ap := by
  unfold F_isFormula F_l02Is F_l02Tree F_z_ContainsFuncNode F_z_IndexFuncNode
  rw [partEnd_eq]
  have e : Int.toNat (((ap.length / 2 : Nat) : Int) - 0) = ap.length / 2 := by omega
  rw [e]
  have h1 := indexNode_key ap (fun x0 x1 => F_isFormula_k1 x0 x1) (ap.length / 2) 0 (by omega) (by omega)
  obtain ⟨h2, h3⟩ := tree_key ap (ap.length / 2) 0 (by omega) (by omega)
  rw [h1]
  simp only [F_isFormula_k1, Bool.not_not] at *
  have key : (bif isOk (F_l02Tree_L1 ap (ap.length / 2 + 1) 0) then (decide (0 < ((ap.length / 2 : Nat) : Int)) && decide (F_l02Part ap 0 = ((ap.length / 2 : Nat) : Int))) else errD (F_l02Tree_L1 ap (ap.length / 2 + 1) 0)) = (isOk (F_l02Tree_L1 ap (ap.length / 2 + 1) 0) && (decide (0 < ((ap.length / 2 : Nat) : Int)) && decide (F_l02Part ap 0 = ((ap.length / 2 : Nat) : Int)))) := by
    cases hk : isOk (F_l02Tree_L1 ap (ap.length / 2 + 1) 0)
    · simp [h3 hk]
    · simp
  rw [key, h2]
  rw [show decide (1 ≤ ((ap.length / 2 : Nat) : Int)) = decide (0 < ((ap.length / 2 : Nat) : Int)) from rfl]
  generalize decide (0 < ((ap.length / 2 : Nat) : Int)) = A
  generalize decide (((ap.length / 2 : Nat) : Int) ≤ 40) = B
  generalize (List.range (ap.length / 2)).all _ = C
  cases A <;> cases B <;> cases C <;> simp
theorem l02Is_t {ap : List Int} (h : F_l02Is ap = true) : ((ap.length / 2 : Nat) : Int) ≤ 40 ∧ 1 ≤ ((ap.length / 2 : Nat) : Int) := by
  rw [← isFormula_eq] at h
  unfold F_isFormula at h
  simp only [Bool.and_eq_true, decide_eq_true_eq] at h
  exact ⟨h.2.1, h.1⟩
theorem isFormula_t {ap : List Int} (h : F_isFormula ap = true) : ((ap.length / 2 : Nat) : Int) ≤ 40 ∧ 1 ≤ ((ap.length / 2 : Nat) : Int) := l02Is_t (by rw [← isFormula_eq]; exact h)
end Go.Proofs.Ytkilkfhjfobcdaa
