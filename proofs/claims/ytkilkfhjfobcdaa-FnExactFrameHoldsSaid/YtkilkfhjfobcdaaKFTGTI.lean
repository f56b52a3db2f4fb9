/- GTI: models and contracts, printed by wip/gen/gen.py -/
import Derived.Test.YtkilkfhjfobcdaaKFTGTC
set_option linter.unusedVariables false
set_option linter.unusedSimpArgs false
namespace Go.Proofs.Ytkilkfhjfobcdaa
open Go.RowKit
def F_one (bp : Bool) : Int :=
  bif bp then 1 else 0
theorem cf_one (args : Array Value) (w : World) : (callFunc 206 args).run Try.prog w = .ok (.enter 206 args) w := by kernel_rfl
set_option maxRecDepth 100000 in
theorem c_one (bp : Bool) (w : World) :
    Calls Try.prog 206 #[.bool bp] w (Ret fun v w' => v = .int .i64 (F_one bp) ∧ w = w') := by
  have hS := St.nil w
  refine enter (args := [.bool bp]) Try.func206 rfl rfl ?_
  rw [Try.ntmps206]; intro a hE
  have hE := hE.sub (L' := [(0, .bool bp)]) ⟨rfl, trivial⟩
  refine c_seq ?_
  refine c_reg ?_
  refine q_step (v := .int .i64 0) hE (y_assign rfl) rfl rfl rfl ?_; intro a1 hE2; clear hE
  refine c_nil ?_
  have hE3 := hE2.sub (L' := [(0, .bool bp)]) ⟨rfl, trivial⟩; clear hE2
  refine p_tn ?_
  refine c_seq ?_
  refine c_seq ?_
  refine c_reg ?_
  refine q_step (v := .bool bp) hE3 (y_move rfl) rfl rfl rfl ?_; intro a4 hE5; clear hE3
  refine c_nil ?_
  have hE6 := hE5.sub (L' := [(3, .bool bp)]) ⟨rfl, trivial⟩; clear hE5
  refine p_tn ?_
  refine c_cond hE6 rfl (fun ht7 => ?_) (fun ht7 => ?_)
  ·
   have hE8 := hE6; rw [ht7] at hE8; clear hE6
   refine c_seq ?_
   refine c_reg ?_
   refine q_step (v := .int .i64 1) hE8 (y_assign rfl) rfl rfl rfl ?_; intro a9 hE10; clear hE8
   refine c_nil ?_
   have hE11 := hE10.sub (L' := [(2, .int .i64 1)]) ⟨rfl, trivial⟩; clear hE10
   refine p_tn ?_
   refine wp_ret ?_
   refine p_tr ?_
   have hF : F_one bp = 1 := by unfold F_one; rw [ht7]; first | done | rfl
   refine c_ret1 hE11 rfl rfl ?_
   exact ⟨(by rw [hF]; first | done | (dsimp only; done) | rfl), rfl⟩
  ·
   have hE12 := hE6; rw [ht7] at hE12; clear hE6
   refine wp_skip ?_
   refine p_tn ?_
   refine c_seq ?_
   refine c_reg ?_
   refine q_step (v := .int .i64 0) hE12 (y_assign rfl) rfl rfl rfl ?_; intro a13 hE14; clear hE12
   refine c_nil ?_
   have hE15 := hE14.sub (L' := [(2, .int .i64 0)]) ⟨rfl, trivial⟩; clear hE14
   refine p_tn ?_
   refine wp_ret ?_
   have hF : F_one bp = 0 := by unfold F_one; rw [ht7]; first | done | rfl
   refine c_ret1 hE15 rfl rfl ?_
   exact ⟨(by rw [hF]; first | done | (dsimp only; done) | rfl), rfl⟩
theorem one_bd (b : Bool) : 0 ≤ F_one b ∧ F_one b ≤ 1 := by cases b <;> decide
def F_nesting_L1b (ap : List Int) (self : List Int → Int) (rec : Int → Int → Int × Int) (most3 : Int) (t9 : Int) : Int × Int :=
  bif (decide (t9 < ((F_below ap).length : Int))) then (rec (max most3 (self (gL (F_below ap) t9))) (t9 + 1)) else (most3, t9)
def F_nesting_L1 (ap : List Int) (self : List Int → Int) : Nat → Int → Int → Int × Int
  | 0, most3, t9 => (most3, t9)
  | r + 1, most3, t9 => F_nesting_L1b ap self (F_nesting_L1 ap self r) most3 t9
def F_nesting_b (self : List Int → Int) (ap : List Int) : Int :=
  ((F_nesting_L1 ap self (Int.toNat (((F_below ap).length : Int) - 0) + 1) 0 0).1) + (F_one (decide ((F_pointParts (gS 3 0 ap 0)) = 1)))
def F_nesting_r : Nat → List Int → Int
  | 0 => fun _ => default
  | r + 1 => F_nesting_b (F_nesting_r r)
def F_nesting (ap : List Int) : Int := F_nesting_r (ap.length + 1) ap
theorem nest_treeI (bd : Int) : ∀ (t : Pm) (r : Nat), t.Ok bd → t.code.length < r → F_nesting_r r t.code = t.nest := by
  intro t
  induction t with
  | leaf k u v =>
    intro r h hr
    obtain ⟨r, rfl⟩ : ∃ r', r = r' + 1 := ⟨r - 1, by omega⟩
    show F_nesting_b (F_nesting_r r) (Pm.leaf k u v).code = 0
    unfold F_nesting_b
    rw [show gS 3 0 (Pm.leaf k u v).code 0 = k from rfl, h.1]
    have e : (F_nesting_L1 (Pm.leaf k u v).code (F_nesting_r r) (Int.toNat (((F_below (Pm.leaf k u v).code).length : Int) - 0) + 1) 0 0).1 = 0 := by
      rw [below_leaf h]
      show (F_nesting_L1b (Pm.leaf k u v).code (F_nesting_r r) _ 0 0).1 = 0
      unfold F_nesting_L1b
      rw [below_leaf h]; rfl
    rw [e]; rfl
  | un k u v a ih =>
    intro r h hr
    obtain ⟨r, rfl⟩ : ∃ r', r = r' + 1 := ⟨r - 1, by omega⟩
    have e : (Pm.un k u v a).code = k :: u :: v :: a.code := rfl
    have hl : a.code.length < r := by rw [e] at hr; simp only [List.length_cons] at hr; omega
    have hb := below_un h
    have hn := a.nest_bd
    show F_nesting_b (F_nesting_r r) (Pm.un k u v a).code = 1 + a.nest
    unfold F_nesting_b
    have e2 : (F_nesting_L1 (Pm.un k u v a).code (F_nesting_r r) (Int.toNat (((F_below (Pm.un k u v a).code).length : Int) - 0) + 1) 0 0).1 = max 0 (F_nesting_r r a.code) := by
      rw [hb]
      show (F_nesting_L1b (Pm.un k u v a).code (F_nesting_r r) (F_nesting_L1b (Pm.un k u v a).code (F_nesting_r r) (F_nesting_L1 (Pm.un k u v a).code (F_nesting_r r) 0)) 0 0).1 = _
      unfold F_nesting_L1b
      rw [hb]; rfl
    rw [show gS 3 0 (Pm.un k u v a).code 0 = k from rfl, h.1.1, e2, ih r h.2 hl]
    show max 0 a.nest + 1 = 1 + a.nest
    omega
  | bin k u v a b iha ihb =>
    intro r h hr
    obtain ⟨r, rfl⟩ : ∃ r', r = r' + 1 := ⟨r - 1, by omega⟩
    have e : (Pm.bin k u v a b).code = k :: u :: v :: (a.code ++ b.code) := rfl
    have hla : a.code.length < r := by rw [e] at hr; simp only [List.length_cons, List.length_append] at hr; omega
    have hlb : b.code.length < r := by rw [e] at hr; simp only [List.length_cons, List.length_append] at hr; omega
    have hb := below_bin h
    have hn := a.nest_bd
    have hn2 := b.nest_bd
    show F_nesting_b (F_nesting_r r) (Pm.bin k u v a b).code = max a.nest b.nest
    unfold F_nesting_b
    have e2 : (F_nesting_L1 (Pm.bin k u v a b).code (F_nesting_r r) (Int.toNat (((F_below (Pm.bin k u v a b).code).length : Int) - 0) + 1) 0 0).1 = max (max 0 (F_nesting_r r a.code)) (F_nesting_r r b.code) := by
      rw [hb]
      show (F_nesting_L1b (Pm.bin k u v a b).code (F_nesting_r r) (F_nesting_L1b (Pm.bin k u v a b).code (F_nesting_r r) (F_nesting_L1b (Pm.bin k u v a b).code (F_nesting_r r) (F_nesting_L1 (Pm.bin k u v a b).code (F_nesting_r r) 0))) 0 0).1 = _
      unfold F_nesting_L1b
      rw [hb]; rfl
    rw [show gS 3 0 (Pm.bin k u v a b).code 0 = k from rfl, h.1.1, e2, iha r h.2.1 hla, ihb r h.2.2 hlb]
    show max (max 0 a.nest) b.nest + 0 = max a.nest b.nest
    omega
theorem nestPostI : ∀ (r : Nat) (ap : List Int) (hl : ap.length ≤ 4194304) (hf : IsPm 6 ap) (hm : ap.length < r), 0 ≤ F_nesting_r r ap ∧ F_nesting_r r ap ≤ (ap.length : Int) := by
  intro r ap _ hf hm
  obtain ⟨t, ht, rfl⟩ := hf
  have := t.nest_bd
  have := t.code_len
  rw [nest_treeI 6 t r ht hm]; omega
theorem cf_nesting (args : Array Value) (w : World) : (callFunc 175 args).run Try.prog w = .ok (.enter 175 args) w := by kernel_rfl
set_option maxRecDepth 100000 in
theorem cb_nesting (self : List Int → Int) (mu : Nat) (hpost : ∀ (ap : List Int) (hl : ap.length ≤ 4194304) (hf : IsPm 6 ap) (hm : ap.length < mu), 0 ≤ (self ap) ∧ (self ap) ≤ (ap.length : Int)) (apA : Option Addr) (apN apC : Nat) (ap : List Int) (w : World) (apR : RdS w 3 apA apN apC ap) (hl : ap.length ≤ 4194304) (hf : IsPm 6 ap) (hmu : mu = ap.length) (ih : ∀ (apA : Option Addr) (apN apC : Nat) (ap : List Int) (w : World) (apR : RdS w 3 apA apN apC ap) (hl : ap.length ≤ 4194304) (hf : IsPm 6 ap) (hdec : ap.length < mu), Calls Try.prog 175 #[.slice apA apN apC] w (Ret fun v w' => v = .int .i64 (self ap) ∧ Ext w w')) :
    Calls Try.prog 175 #[.slice apA apN apC] w (Ret fun v w' => v = .int .i64 (F_nesting_b self ap) ∧ Ext w w') := by
  obtain rfl : apN = ap.length / 3 := (apR.lenD (by decide)).symm
  have apEv := apR.ev (by decide)
  have apLe := apR.le
  have hl1 := hf.len
  have hpk := pm_kind hf
  have hpt := below_rows hf
  have hone := one_bd (decide (F_pointParts (gS 3 0 ap 0) = 1))
  have hS := St.nil w
  have hS1 := St.rd0 hS rfl apR; clear hS
  refine enter (args := [.slice apA ((ap).length / 3 : Nat) apC]) Try.func175 rfl rfl ?_
  rw [Try.ntmps175]; intro a hE
  have hE := hE.sub (L' := [(0, .slice apA ((ap).length / 3 : Nat) apC)]) ⟨rfl, trivial⟩
  refine c_seq ?_
  refine c_reg ?_
  refine q_step (v := .int .i64 0) hE (y_assign rfl) rfl rfl rfl ?_; intro a2 hE3; clear hE
  refine c_nil ?_
  have hE4 := hE3.sub (L' := [(0, .slice apA ((ap).length / 3 : Nat) apC)]) ⟨rfl, trivial⟩; clear hE3
  refine p_tn ?_
  refine c_seq ?_
  refine c_reg ?_
  refine q_step (v := .int .i64 0) hE4 (y_assign rfl) rfl rfl rfl ?_; intro a5 hE6; clear hE4
  refine c_nil ?_
  have hE7 := hE6.sub (L' := [(0, .slice apA ((ap).length / 3 : Nat) apC), (3, .int .i64 0)]) ⟨rfl, rfl, trivial⟩; clear hE6
  refine p_tn ?_
  refine c_seq ?_
  refine c_seq ?_
  refine c_reg ?_
  refine q_step (v := .slice apA ((ap).length / 3 : Nat) apC) hE7 (y_move rfl) rfl rfl rfl ?_; intro a8 hE9; clear hE7
  have hc16 := c_below apA ((ap).length / 3 : Nat) apC ap w (St.rdR (i := 0) hS1 rfl) (by omega) (by omega)
  refine l_step hE9 rfl (l_call (f := 172) (argv := [.slice apA ((ap).length / 3 : Nat) apC]) hE9 (fun _ => cf_below _ _) rfl rfl (by exact hc16) ?_)
  rintro _ w11 ⟨b17, c18, rfl, ho19, he15⟩ a12 hE13; clear hE9
  have hS14 := St.ownRows (rows := belowRows apA apC ap) hS1 he15 ho19 rfl (belowRows_xs _ _ _) (belowRows_ok (St.rdR (i := 0) hS1 rfl) (St.robR (i := 0) hS1 rfl) hf); clear hS1
  refine q_step (v := .int .i64 ((F_below ap).length : Int)) hE13 (y_len (e := 59) (by kernel_rfl) rfl) rfl rfl rfl ?_; intro a20 hE21; clear hE13
  refine q_step (v := .int .i64 0) hE21 (y_move rfl) rfl rfl rfl ?_; intro a22 hE23; clear hE21
  refine c_nil ?_
  have hE24 := hE23.sub (L' := [(0, .slice apA ((ap).length / 3 : Nat) apC), (3, .int .i64 0), (7, .slice b17 ((F_below ap).length) c18), (8, .int .i64 ((F_below ap).length : Int)), (9, .int .i64 0)]) ⟨rfl, rfl, rfl, rfl, rfl, trivial⟩; clear hE23
  refine p_tn ?_
  refine c_cut1 (fun a' w' => (0 ≤ ((F_nesting_L1 ap self (Int.toNat (((F_below ap).length : Int) - 0) + 1) 0 0).2)) ∧ (0 ≤ ((F_nesting_L1 ap self (Int.toNat (((F_below ap).length : Int) - 0) + 1) 0 0).1)) ∧ (((F_nesting_L1 ap self (Int.toNat (((F_below ap).length : Int) - 0) + 1) 0 0).1) + 3 ≤ (ap.length : Int)) ∧ (((F_nesting_L1 ap self (Int.toNat (((F_below ap).length : Int) - 0) + 1) 0 0).2) ≤ ((F_below ap).length : Int)) ∧ E a' 27 [(0, .slice apA ((ap).length / 3 : Nat) apC), (3, .int .i64 ((F_nesting_L1 ap self (Int.toNat (((F_below ap).length : Int) - 0) + 1) 0 0).1)), (7, .slice b17 ((F_below ap).length) c18), (8, .int .i64 ((F_below ap).length : Int)), (9, .int .i64 ((F_nesting_L1 ap self (Int.toNat (((F_below ap).length : Int) - 0) + 1) 0 0).2))] ∧ St w w' [.nest 59 3 none b17 c18 ((belowRows apA apC ap).map (·.1)) (F_below ap), .rd 3 apA ((ap).length / 3 : Nat) apC ap]) ?_ ?_
  ·
   refine wp_block ?_
   refine c_loop (fun r a' w' => ∃ most3 : Int, ∃ t9 : Int, F_nesting_L1 ap self r most3 t9 = F_nesting_L1 ap self (Int.toNat (((F_below ap).length : Int) - 0) + 1) 0 0 ∧ Int.toNat (((F_below ap).length : Int) - t9) < r ∧ (0 ≤ t9) ∧ (0 ≤ most3) ∧ (most3 + 3 ≤ (ap.length : Int)) ∧ (t9 ≤ ((F_below ap).length : Int)) ∧ E a' 27 [(0, .slice apA ((ap).length / 3 : Nat) apC), (3, .int .i64 most3), (7, .slice b17 ((F_below ap).length) c18), (8, .int .i64 ((F_below ap).length : Int)), (9, .int .i64 t9)] ∧ St w w' [.nest 59 3 none b17 c18 ((belowRows apA apC ap).map (·.1)) (F_below ap), .rd 3 apA ((ap).length / 3 : Nat) apC ap]) (r := (Int.toNat (((F_below ap).length : Int) - 0) + 1)) ?_ ?_
   · exact ⟨0, 0, rfl, Nat.lt_succ_self _, (by first | omega | (simp only [sS_len, sL_len]; omega) | (simp only [List.length_replicate, sI_len]; omega) | (simp only [List.length_append, List.length_cons, List.length_nil, sI_len, cond_true, cond_false]; omega) | (simp only [List.length_append, List.length_cons, List.length_nil, sI_len, cond_eq_ite, apply_ite List.length]; split <;> simp only [List.length_append, List.length_cons, List.length_nil, sI_len] <;> omega) | grind), (by first | omega | (simp only [sS_len, sL_len]; omega) | (simp only [List.length_replicate, sI_len]; omega) | (simp only [List.length_append, List.length_cons, List.length_nil, sI_len, cond_true, cond_false]; omega) | (simp only [List.length_append, List.length_cons, List.length_nil, sI_len, cond_eq_ite, apply_ite List.length]; split <;> simp only [List.length_append, List.length_cons, List.length_nil, sI_len] <;> omega) | grind), (by first | omega | (simp only [sS_len, sL_len]; omega) | (simp only [List.length_replicate, sI_len]; omega) | (simp only [List.length_append, List.length_cons, List.length_nil, sI_len, cond_true, cond_false]; omega) | (simp only [List.length_append, List.length_cons, List.length_nil, sI_len, cond_eq_ite, apply_ite List.length]; split <;> simp only [List.length_append, List.length_cons, List.length_nil, sI_len] <;> omega) | grind), (by first | omega | (simp only [sS_len, sL_len]; omega) | (simp only [List.length_replicate, sI_len]; omega) | (simp only [List.length_append, List.length_cons, List.length_nil, sI_len, cond_true, cond_false]; omega) | (simp only [List.length_append, List.length_cons, List.length_nil, sI_len, cond_eq_ite, apply_ite List.length]; split <;> simp only [List.length_append, List.length_cons, List.length_nil, sI_len] <;> omega) | grind), (hE24.sub (L' := [(0, .slice apA ((ap).length / 3 : Nat) apC), (3, .int .i64 0), (7, .slice b17 ((F_below ap).length) c18), (8, .int .i64 ((F_below ap).length : Int)), (9, .int .i64 0)]) ⟨rfl, rfl, rfl, rfl, rfl, trivial⟩), (St.pick (Γ' := [.nest 59 3 none b17 c18 ((belowRows apA apC ap).map (·.1)) (F_below ap), .rd 3 apA ((ap).length / 3 : Nat) apC ap]) hS14 [0, 1] (by decide) rfl)⟩
   ·
    clear hE24 hS14
    rintro r36 a26 w27 ⟨most3, t9, hT30, hr31, hi32, hi33, hi34, hi35, hE28, hS29⟩
    obtain ⟨r36, rfl⟩ : ∃ r', r36 = r' + 1 := ⟨r36 - 1, by omega⟩
    refine c_seq ?_
    refine c_reg ?_
    refine q_step (v := .bool (decide (t9 < ((F_below ap).length : Int)))) hE28 (y_lss rfl rfl) rfl rfl rfl ?_; intro a37 hE38; clear hE28
    refine c_nil ?_
    have hE39 := hE38.sub (L' := [(0, .slice apA ((ap).length / 3 : Nat) apC), (3, .int .i64 most3), (7, .slice b17 ((F_below ap).length) c18), (8, .int .i64 ((F_below ap).length : Int)), (9, .int .i64 t9), (10, .bool (decide (t9 < ((F_below ap).length : Int))))]) ⟨rfl, rfl, rfl, rfl, rfl, rfl, trivial⟩; clear hE38
    refine p_tn ?_
    refine c_seq ?_
    refine c_cond hE39 rfl (fun ht40 => ?_) (fun ht40 => ?_)
    ·
     have hp41 := of_decide_eq_true ht40
     have hE42 := hE39; rw [ht40] at hE42; clear hE39
     have hrow := hpt.2 t9 (by omega) (by omega)
     refine wp_skip ?_
     refine p_tn ?_
     refine c_seq ?_
     refine wp_block ?_
     refine c_seq ?_
     refine c_reg ?_
     refine q_step (v := .pointer (some (adr b17 (Int.toNat t9)))) hE42 (y_idx (by kernel_rfl) (fun _ => by kernel_rfl) rfl rfl (RdN.isS (m := t9) (St.rdNo (i := 0) hS29 rfl) (by omega) (by omega)) (by omega) (by omega) (Nat.mul_one _).symm) rfl rfl rfl ?_; intro a43 hE44; clear hE42
     have hv45 : (0 : Int) ≤ t9 ∧ t9 < ((F_below ap).length : Int) := ⟨(by omega), (by omega)⟩
     refine q_step (v := .slice (hdA ((belowRows apA apC ap).map (·.1)) t9) ((gL (F_below ap) t9).length / 3 : Nat) (hdC ((belowRows apA apC ap).map (·.1)) t9)) hE44 (y_load (fun _ => by kernel_rfl) rfl (RdN.eltD (St.rdNo (i := 0) hS29 rfl) (by decide) (by omega) (by omega))) rfl rfl rfl ?_; intro a47 hE48; clear hE44
     refine q_step (v := .slice (hdA ((belowRows apA apC ap).map (·.1)) t9) ((gL (F_below ap) t9).length / 3 : Nat) (hdC ((belowRows apA apC ap).map (·.1)) t9)) hE48 (y_assign rfl) rfl rfl rfl ?_; intro a49 hE50; clear hE48
     refine c_nil ?_
     have hE51 := hE50.sub (L' := [(0, .slice apA ((ap).length / 3 : Nat) apC), (3, .int .i64 most3), (5, .slice (hdA ((belowRows apA apC ap).map (·.1)) t9) ((gL (F_below ap) t9).length / 3 : Nat) (hdC ((belowRows apA apC ap).map (·.1)) t9)), (7, .slice b17 ((F_below ap).length) c18), (8, .int .i64 ((F_below ap).length : Int)), (9, .int .i64 t9)]) ⟨rfl, rfl, rfl, rfl, rfl, rfl, trivial⟩; clear hE50
     refine p_tn ?_
     refine c_reg ?_
     refine q_step (v := .int .i64 most3) hE51 (y_move rfl) rfl rfl rfl ?_; intro a52 hE53; clear hE51
     refine q_step (v := .slice (hdA ((belowRows apA apC ap).map (·.1)) t9) ((gL (F_below ap) t9).length / 3 : Nat) (hdC ((belowRows apA apC ap).map (·.1)) t9)) hE53 (y_move rfl) rfl rfl rfl ?_; intro a54 hE55; clear hE53
     have hr62 := (RdN.rowD (St.rdNo (i := 0) hS29 rfl) (by decide) hv45.1 hv45.2)
     have hc63 := ih (hdA ((belowRows apA apC ap).map (·.1)) t9) ((gL (F_below ap) t9).length / 3 : Nat) (hdC ((belowRows apA apC ap).map (·.1)) t9) (gL (F_below ap) t9) w27 hr62 (by have h := hrow.2; omega) hrow.1 (by have h := hrow.2; omega)
     refine l_step hE55 rfl (l_call (f := 175) (argv := [.slice (hdA ((belowRows apA apC ap).map (·.1)) t9) ((gL (F_below ap) t9).length / 3 : Nat) (hdC ((belowRows apA apC ap).map (·.1)) t9)]) hE55 (fun _ => cf_nesting _ _) rfl rfl (by exact hc63) ?_)
     rintro _ w57 ⟨rfl, he61⟩ a58 hE59; clear hE55
     have hf64 := hpost (gL (F_below ap) t9) (by have h := hrow.2; omega) hrow.1 (by have h := hrow.2; omega)
     have hS60 := St.go hS29 he61; clear hS29
     refine q_step (v := .int .i64 (max most3 (self (gL (F_below ap) t9)))) hE59 (y_max rfl rfl) rfl rfl rfl ?_; intro a65 hE66; clear hE59
     refine q_step (v := .int .i64 (max most3 (self (gL (F_below ap) t9)))) hE66 (y_assign rfl) rfl rfl rfl ?_; intro a67 hE68; clear hE66
     refine c_nil ?_
     have hE69 := hE68.sub (L' := [(0, .slice apA ((ap).length / 3 : Nat) apC), (3, .int .i64 (max most3 (self (gL (F_below ap) t9)))), (7, .slice b17 ((F_below ap).length) c18), (8, .int .i64 ((F_below ap).length : Int)), (9, .int .i64 t9)]) ⟨rfl, rfl, rfl, rfl, rfl, trivial⟩; clear hE68
     refine p_bn ?_
     refine p_tn ?_
     refine c_reg ?_
     refine q_step (v := .int .i64 (t9 + 1)) hE69 (y_add rfl rfl ⟨(by omega), (by omega)⟩) rfl rfl rfl ?_; intro a70 hE71; clear hE69
     refine q_step (v := .int .i64 (t9 + 1)) hE71 (y_move rfl) rfl rfl rfl ?_; intro a72 hE73; clear hE71
     refine c_nil ?_
     have hE74 := hE73.sub (L' := [(0, .slice apA ((ap).length / 3 : Nat) apC), (3, .int .i64 (max most3 (self (gL (F_below ap) t9)))), (7, .slice b17 ((F_below ap).length) c18), (8, .int .i64 ((F_below ap).length : Int)), (9, .int .i64 (t9 + 1))]) ⟨rfl, rfl, rfl, rfl, rfl, trivial⟩; clear hE73
     refine p_tn ⟨r36, Nat.lt_succ_self _, max most3 (self (gL (F_below ap) t9)), t9 + 1, (hT30.symm.trans (show F_nesting_L1b ap self (F_nesting_L1 ap self r36) most3 t9 = F_nesting_L1 ap self r36 (max most3 (self (gL (F_below ap) t9))) (t9 + 1) by unfold F_nesting_L1b; rw [ht40]; first | done | rfl)).symm, (by omega), (by first | omega | (simp only [sS_len, sL_len]; omega) | (simp only [List.length_replicate, sI_len]; omega) | (simp only [List.length_append, List.length_cons, List.length_nil, sI_len, cond_true, cond_false]; omega) | (simp only [List.length_append, List.length_cons, List.length_nil, sI_len, cond_eq_ite, apply_ite List.length]; split <;> simp only [List.length_append, List.length_cons, List.length_nil, sI_len] <;> omega) | grind), (by first | omega | (simp only [sS_len, sL_len]; omega) | (simp only [List.length_replicate, sI_len]; omega) | (simp only [List.length_append, List.length_cons, List.length_nil, sI_len, cond_true, cond_false]; omega) | (simp only [List.length_append, List.length_cons, List.length_nil, sI_len, cond_eq_ite, apply_ite List.length]; split <;> simp only [List.length_append, List.length_cons, List.length_nil, sI_len] <;> omega) | grind), (by first | omega | (simp only [sS_len, sL_len]; omega) | (simp only [List.length_replicate, sI_len]; omega) | (simp only [List.length_append, List.length_cons, List.length_nil, sI_len, cond_true, cond_false]; omega) | (simp only [List.length_append, List.length_cons, List.length_nil, sI_len, cond_eq_ite, apply_ite List.length]; split <;> simp only [List.length_append, List.length_cons, List.length_nil, sI_len] <;> omega) | grind), (by first | omega | (simp only [sS_len, sL_len]; omega) | (simp only [List.length_replicate, sI_len]; omega) | (simp only [List.length_append, List.length_cons, List.length_nil, sI_len, cond_true, cond_false]; omega) | (simp only [List.length_append, List.length_cons, List.length_nil, sI_len, cond_eq_ite, apply_ite List.length]; split <;> simp only [List.length_append, List.length_cons, List.length_nil, sI_len] <;> omega) | grind), (hE74.sub (L' := [(0, .slice apA ((ap).length / 3 : Nat) apC), (3, .int .i64 (max most3 (self (gL (F_below ap) t9)))), (7, .slice b17 ((F_below ap).length) c18), (8, .int .i64 ((F_below ap).length : Int)), (9, .int .i64 (t9 + 1))]) ⟨rfl, rfl, rfl, rfl, rfl, trivial⟩), (St.pick (Γ' := [.nest 59 3 none b17 c18 ((belowRows apA apC ap).map (·.1)) (F_below ap), .rd 3 apA ((ap).length / 3 : Nat) apC ap]) hS60 [0, 1] (by decide) rfl)⟩
    ·
     have hp75 := of_decide_eq_false ht40
     have hE76 := hE39; rw [ht40] at hE76; clear hE39
     refine wp_exit ?_
     refine p_te ?_
     have hX77 : F_nesting_L1 ap self (Int.toNat (((F_below ap).length : Int) - 0) + 1) 0 0 = (most3, t9) := hT30.symm.trans (show F_nesting_L1b ap self (F_nesting_L1 ap self r36) most3 t9 = (most3, t9) by unfold F_nesting_L1b; rw [ht40]; first | done | rfl)
     refine p_te (p_be (p_tn ?_))
     exact ⟨(by rw [hX77]; exact (show 0 ≤ t9 from (by first | omega | (simp only [sS_len, sL_len]; omega) | (simp only [List.length_replicate, sI_len]; omega) | (simp only [List.length_append, List.length_cons, List.length_nil, sI_len, cond_true, cond_false]; omega) | (simp only [List.length_append, List.length_cons, List.length_nil, sI_len, cond_eq_ite, apply_ite List.length]; split <;> simp only [List.length_append, List.length_cons, List.length_nil, sI_len] <;> omega) | grind))), (by rw [hX77]; exact (show 0 ≤ most3 from (by first | omega | (simp only [sS_len, sL_len]; omega) | (simp only [List.length_replicate, sI_len]; omega) | (simp only [List.length_append, List.length_cons, List.length_nil, sI_len, cond_true, cond_false]; omega) | (simp only [List.length_append, List.length_cons, List.length_nil, sI_len, cond_eq_ite, apply_ite List.length]; split <;> simp only [List.length_append, List.length_cons, List.length_nil, sI_len] <;> omega) | grind))), (by rw [hX77]; exact (show most3 + 3 ≤ (ap.length : Int) from (by first | omega | (simp only [sS_len, sL_len]; omega) | (simp only [List.length_replicate, sI_len]; omega) | (simp only [List.length_append, List.length_cons, List.length_nil, sI_len, cond_true, cond_false]; omega) | (simp only [List.length_append, List.length_cons, List.length_nil, sI_len, cond_eq_ite, apply_ite List.length]; split <;> simp only [List.length_append, List.length_cons, List.length_nil, sI_len] <;> omega) | grind))), (by rw [hX77]; exact (show t9 ≤ ((F_below ap).length : Int) from (by first | omega | (simp only [sS_len, sL_len]; omega) | (simp only [List.length_replicate, sI_len]; omega) | (simp only [List.length_append, List.length_cons, List.length_nil, sI_len, cond_true, cond_false]; omega) | (simp only [List.length_append, List.length_cons, List.length_nil, sI_len, cond_eq_ite, apply_ite List.length]; split <;> simp only [List.length_append, List.length_cons, List.length_nil, sI_len] <;> omega) | grind))), (by rw [hX77]; exact (hE76.sub (L' := [(0, .slice apA ((ap).length / 3 : Nat) apC), (3, .int .i64 most3), (7, .slice b17 ((F_below ap).length) c18), (8, .int .i64 ((F_below ap).length : Int)), (9, .int .i64 t9)]) ⟨rfl, rfl, rfl, rfl, rfl, trivial⟩)), (St.pick (Γ' := [.nest 59 3 none b17 c18 ((belowRows apA apC ap).map (·.1)) (F_below ap), .rd 3 apA ((ap).length / 3 : Nat) apC ap]) hS29 [0, 1] (by decide) rfl)⟩
  ·
   rintro a78 w79 ⟨hi83, hi84, hi85, hi86, hE80, hS81⟩; clear hE24 hS14
   refine p_tn ?_
   refine c_seq ?_
   refine c_reg ?_
   refine q_step (v := .int .i64 ((F_nesting_L1 ap self (Int.toNat (((F_below ap).length : Int) - 0) + 1) 0 0).1)) hE80 (y_move rfl) rfl rfl rfl ?_; intro a87 hE88; clear hE80
   refine q_step (v := .slice apA ((ap).length / 3 : Nat) apC) hE88 (y_move rfl) rfl rfl rfl ?_; intro a89 hE90; clear hE88
   refine q_step (v := .pointer (some (adr apA (Int.toNat 0 * 3)))) hE90 (y_idx (by kernel_rfl) (fun _ => by kernel_rfl) rfl rfl (RdS.isS (m := 0) (St.rdR (i := 1) hS81 rfl) (by omega) (by omega)) (by omega) (by omega) rfl) rfl rfl rfl ?_; intro a91 hE92; clear hE90
   refine q_step (v := .pointer (some (adr apA ((Int.toNat 0 * 3) + 0)))) hE92 (y_fieldE (o := 0) (fun _ _ => by kernel_rfl) rfl) rfl rfl rfl ?_; intro a93 hE94; clear hE92
   refine q_step (v := .int .i64 (gS 3 0 ap 0)) hE94 (y_load (fun _ => by kernel_rfl) rfl (RdS.eltS (j := 0) (St.rdR (i := 1) hS81 rfl) (by omega) (by omega) (by decide))) rfl rfl rfl ?_; intro a95 hE96; clear hE94
   have hc103 := c_pointParts (gS 3 0 ap 0) w79
   refine l_step hE96 rfl (l_call (f := 173) (argv := [.int .i64 (gS 3 0 ap 0)]) hE96 (fun _ => cf_pointParts _ _) rfl rfl (by exact hc103) ?_)
   rintro _ _ ⟨rfl, rfl⟩ a99 hE100; clear hE96
   have hf104 := pointParts_bd (gS 3 0 ap 0)
   refine q_step (v := .bool (decide ((F_pointParts (gS 3 0 ap 0)) = 1))) hE100 (y_eql rfl rfl) rfl rfl rfl ?_; intro a105 hE106; clear hE100
   have hc113 := c_one (decide ((F_pointParts (gS 3 0 ap 0)) = 1)) w79
   refine l_step hE106 rfl (l_call (f := 206) (argv := [.bool (decide ((F_pointParts (gS 3 0 ap 0)) = 1))]) hE106 (fun _ => cf_one _ _) rfl rfl (by exact hc113) ?_)
   rintro _ _ ⟨rfl, rfl⟩ a109 hE110; clear hE106
   refine q_step (v := .int .i64 (((F_nesting_L1 ap self (Int.toNat (((F_below ap).length : Int) - 0) + 1) 0 0).1) + (F_one (decide ((F_pointParts (gS 3 0 ap 0)) = 1))))) hE110 (y_add rfl rfl ⟨(by omega), (by omega)⟩) rfl rfl rfl ?_; intro a114 hE115; clear hE110
   refine q_step (v := .int .i64 (((F_nesting_L1 ap self (Int.toNat (((F_below ap).length : Int) - 0) + 1) 0 0).1) + (F_one (decide ((F_pointParts (gS 3 0 ap 0)) = 1))))) hE115 (y_assign rfl) rfl rfl rfl ?_; intro a116 hE117; clear hE115
   refine c_nil ?_
   have hE118 := hE117.sub (L' := [(2, .int .i64 (((F_nesting_L1 ap self (Int.toNat (((F_below ap).length : Int) - 0) + 1) 0 0).1) + (F_one (decide ((F_pointParts (gS 3 0 ap 0)) = 1)))))]) ⟨rfl, trivial⟩; clear hE117
   refine p_tn ?_
   refine wp_ret ?_
   have hF : F_nesting_b self ap = ((F_nesting_L1 ap self (Int.toNat (((F_below ap).length : Int) - 0) + 1) 0 0).1) + (F_one (decide ((F_pointParts (gS 3 0 ap 0)) = 1))) := by unfold F_nesting_b; rfl
   refine c_ret1 hE118 rfl rfl ?_
   exact ⟨(by rw [hF]; first | done | (dsimp only; done) | rfl), hS81.ext⟩
theorem c_nesting_r : ∀ (r : Nat) (apA : Option Addr) (apN apC : Nat) (ap : List Int) (w : World) (apR : RdS w 3 apA apN apC ap) (hl : ap.length ≤ 4194304) (hf : IsPm 6 ap) (hlt : ap.length < r), Calls Try.prog 175 #[.slice apA apN apC] w (Ret fun v w' => v = .int .i64 ((F_nesting_r r) ap) ∧ Ext w w') := by
  intro r
  induction r with
  | zero => intros; omega
  | succ r ih =>
    intro apA apN apC ap w apR hl hf hlt
    exact cb_nesting (F_nesting_r r) ap.length (fun ap hl hf hm => nestPostI r ap hl hf (by omega)) apA apN apC ap w apR hl hf rfl (fun apA apN apC ap w apR hl hf hdec => ih apA apN apC ap w apR hl hf (by omega))
theorem c_nesting (apA : Option Addr) (apN apC : Nat) (ap : List Int) (w : World) (apR : RdS w 3 apA apN apC ap) (hl : ap.length ≤ 4194304) (hf : IsPm 6 ap) :
    Calls Try.prog 175 #[.slice apA apN apC] w (Ret fun v w' => v = .int .i64 (F_nesting ap) ∧ Ext w w') := c_nesting_r (ap.length + 1) apA apN apC ap w apR hl hf (Nat.lt_succ_self _)
theorem nesting_tree {bd : Int} {t : Pm} (h : t.Ok bd) : F_nesting t.code = t.nest := nest_treeI bd t _ h (Nat.lt_succ_self _)
theorem nesting_bd (ap : List Int) {bd : Int} (hf : IsPm bd ap) : 0 ≤ F_nesting ap ∧ F_nesting ap ≤ (ap.length : Int) := by
  obtain ⟨t, ht, rfl⟩ := hf
  have := t.nest_bd
  have := t.code_len
  rw [nesting_tree ht]; omega
theorem nesting_eq {bd : Int} {ap : List Int} (hf : IsPm bd ap) : F_nesting ap = F_l10Nested ap := by
  obtain ⟨t, ht, rfl⟩ := hf
  rw [nesting_tree ht, nested_tree ht]
def F_freePoints_L1b (ap : List Int) (self : List Int → Int) (rec : Int → Int → Int × Int) (mask4 : Int) (t30 : Int) : Int × Int :=
  bif (decide (t30 < ((F_below ap).length : Int))) then (rec (orI mask4 (self (gL (F_below ap) t30))) (t30 + 1)) else (mask4, t30)
def F_freePoints_L1 (ap : List Int) (self : List Int → Int) : Nat → Int → Int → Int × Int
  | 0, mask4, t30 => (mask4, t30)
  | r + 1, mask4, t30 => F_freePoints_L1b ap self (F_freePoints_L1 ap self r) mask4 t30
def F_freePoints_b (self : List Int → Int) (ap : List Int) : Int :=
  bif (decide ((gS 3 0 ap 0) = 0)) then (orI (shlI 1 (gS 3 1 ap 0)) (shlI 1 (gS 3 2 ap 0))) else (bif (decide ((gS 3 0 ap 0) = 1)) then (orI (shlI 1 (gS 3 1 ap 0)) (shlI 1 (gS 3 2 ap 0))) else (bif (decide ((gS 3 0 ap 0) = 2)) then (shlI 1 (gS 3 2 ap 0)) else (bif (decide ((F_pointParts (gS 3 0 ap 0)) = 1)) then (anI ((F_freePoints_L1 ap self (Int.toNat (((F_below ap).length : Int) - 0) + 1) 0 0).1) (shlI 1 (gS 3 1 ap 0))) else ((F_freePoints_L1 ap self (Int.toNat (((F_below ap).length : Int) - 0) + 1) 0 0).1))))
def F_freePoints_r : Nat → List Int → Int
  | 0 => fun _ => default
  | r + 1 => F_freePoints_b (F_freePoints_r r)
def F_freePoints (ap : List Int) : Int := F_freePoints_r (ap.length + 1) ap
theorem or_zero {n : Nat} (hn : n ≤ 62) {x : Int} (h : Mk n x) : orI 0 x = x := by
  obtain ⟨o1, o2⟩ := Mk.or hn (Mk.zero n) h
  exact tb_ext o1.1 h.1 fun j => by rw [o2 j, tb_zero, Bool.false_or]
theorem free_treeI (bd : Int) : ∀ (t : Pm) (r : Nat), t.Ok bd → t.code.length < r → F_freePoints_r r t.code = t.free := by
  intro t
  induction t with
  | leaf k u v =>
    intro r h hr
    obtain ⟨r, rfl⟩ : ∃ r', r = r' + 1 := ⟨r - 1, by omega⟩
    obtain ⟨k1, k2, k3, k4⟩ := node_kind h.2.1
    have e : (F_freePoints_L1 (Pm.leaf k u v).code (F_freePoints_r r) (Int.toNat (((F_below (Pm.leaf k u v).code).length : Int) - 0) + 1) 0 0).1 = 0 := by
      rw [below_leaf h]
      show (F_freePoints_L1b (Pm.leaf k u v).code (F_freePoints_r r) _ 0 0).1 = 0
      unfold F_freePoints_L1b
      rw [below_leaf h]; rfl
    show F_freePoints_b (F_freePoints_r r) (Pm.leaf k u v).code = (Pm.leaf k u v).free
    unfold F_freePoints_b Pm.free
    rw [e, show gS 3 0 (Pm.leaf k u v).code 0 = k from rfl, show gS 3 1 (Pm.leaf k u v).code 0 = u from rfl, show gS 3 2 (Pm.leaf k u v).code 0 = v from rfl]
    rcases leaf_kind h with rfl | rfl | rfl | rfl
    · have := k2 (by omega)
      rw [pow_shl (by omega) (by omega), pow_shl (by omega) (by omega), decide_eq_true (rfl : (0 : Int) = 0), cond_true, cond_true]
    · have := k2 (by omega)
      rw [pow_shl (by omega) (by omega), pow_shl (by omega) (by omega), decide_eq_false (show ¬ (1 : Int) = 0 by decide), cond_false, cond_false, decide_eq_true (rfl : (1 : Int) = 1), cond_true, cond_true]
    · have := k3 rfl
      rw [pow_shl (i := v) (by omega) (by omega), decide_eq_false (show ¬ (2 : Int) = 0 by decide), cond_false, cond_false, decide_eq_false (show ¬ (2 : Int) = 1 by decide), cond_false, cond_false, decide_eq_true (rfl : (2 : Int) = 2), cond_true, cond_true]
    · rw [h.1]
      simp only [show decide ((3 : Int) = 0) = false from rfl, show decide ((3 : Int) = 1) = false from rfl, show decide ((3 : Int) = 2) = false from rfl, show decide ((0 : Int) = 1) = false from rfl, cond_false]
  | un k u v a ih =>
    intro r h hr
    obtain ⟨r, rfl⟩ : ∃ r', r = r' + 1 := ⟨r - 1, by omega⟩
    have e : (Pm.un k u v a).code = k :: u :: v :: a.code := rfl
    have hl : a.code.length < r := by rw [e] at hr; simp only [List.length_cons] at hr; omega
    have hb := below_un h
    have hm := a.free_mk h.2
    obtain ⟨k1, k2, k3, k4⟩ := node_kind h.1.2.1
    have hu : 0 ≤ u ∧ u ≤ 9 := k4 (by have := un_kind h.1; omega)
    have e2 : (F_freePoints_L1 (Pm.un k u v a).code (F_freePoints_r r) (Int.toNat (((F_below (Pm.un k u v a).code).length : Int) - 0) + 1) 0 0).1 = orI 0 (F_freePoints_r r a.code) := by
      rw [hb]
      show (F_freePoints_L1b (Pm.un k u v a).code (F_freePoints_r r) (F_freePoints_L1b (Pm.un k u v a).code (F_freePoints_r r) (F_freePoints_L1 (Pm.un k u v a).code (F_freePoints_r r) 0)) 0 0).1 = _
      unfold F_freePoints_L1b
      rw [hb]; rfl
    show F_freePoints_b (F_freePoints_r r) (Pm.un k u v a).code = anI a.free (powI u)
    unfold F_freePoints_b
    rw [show gS 3 0 (Pm.un k u v a).code 0 = k from rfl, show gS 3 1 (Pm.un k u v a).code 0 = u from rfl, e2, ih r h.2 hl, or_zero (n := 10) (by omega) hm, h.1.1, pow_shl (i := u) (by omega) (by omega)]
    have hk := un_kind h.1
    rw [decide_eq_false (show ¬ k = 0 by omega), cond_false, decide_eq_false (show ¬ k = 1 by omega), cond_false, decide_eq_false (show ¬ k = 2 by omega), cond_false, decide_eq_true (rfl : (1 : Int) = 1), cond_true]
  | bin k u v a b iha ihb =>
    intro r h hr
    obtain ⟨r, rfl⟩ : ∃ r', r = r' + 1 := ⟨r - 1, by omega⟩
    have e : (Pm.bin k u v a b).code = k :: u :: v :: (a.code ++ b.code) := rfl
    have hla : a.code.length < r := by rw [e] at hr; simp only [List.length_cons, List.length_append] at hr; omega
    have hlb : b.code.length < r := by rw [e] at hr; simp only [List.length_cons, List.length_append] at hr; omega
    have hb := below_bin h
    have hm := a.free_mk h.2.1
    have e2 : (F_freePoints_L1 (Pm.bin k u v a b).code (F_freePoints_r r) (Int.toNat (((F_below (Pm.bin k u v a b).code).length : Int) - 0) + 1) 0 0).1 = orI (orI 0 (F_freePoints_r r a.code)) (F_freePoints_r r b.code) := by
      rw [hb]
      show (F_freePoints_L1b (Pm.bin k u v a b).code (F_freePoints_r r) (F_freePoints_L1b (Pm.bin k u v a b).code (F_freePoints_r r) (F_freePoints_L1b (Pm.bin k u v a b).code (F_freePoints_r r) (F_freePoints_L1 (Pm.bin k u v a b).code (F_freePoints_r r) 0))) 0 0).1 = _
      unfold F_freePoints_L1b
      rw [hb]; rfl
    show F_freePoints_b (F_freePoints_r r) (Pm.bin k u v a b).code = orI a.free b.free
    unfold F_freePoints_b
    rw [show gS 3 0 (Pm.bin k u v a b).code 0 = k from rfl, e2, iha r h.2.1 hla, ihb r h.2.2 hlb, or_zero (n := 10) (by omega) hm, h.1.1]
    have hk := bin_kind h.1
    rw [decide_eq_false (show ¬ k = 0 by omega), cond_false, decide_eq_false (show ¬ k = 1 by omega), cond_false, decide_eq_false (show ¬ k = 2 by omega), cond_false, decide_eq_false (show ¬ (2 : Int) = 1 by decide), cond_false]
theorem freePostI : ∀ (r : Nat) (ap : List Int) (hl : ap.length ≤ 4194304) (hf : IsPm 6 ap) (hm : ap.length < r), 0 ≤ F_freePoints_r r ap ∧ F_freePoints_r r ap ≤ 1023 := by
  intro r ap _ hf hm
  obtain ⟨t, ht, rfl⟩ := hf
  rw [free_treeI 6 t r ht hm]
  exact t.free_mk ht
theorem or1023 {a b : Int} (ha : 0 ≤ a ∧ a ≤ 1023) (hb : 0 ≤ b ∧ b ≤ 1023) : 0 ≤ orI a b ∧ orI a b ≤ 1023 := (Mk.or (n := 10) (by omega) ha hb).1
theorem cf_freePoints (args : Array Value) (w : World) : (callFunc 106 args).run Try.prog w = .ok (.enter 106 args) w := by kernel_rfl
set_option maxRecDepth 100000 in
theorem cb_freePoints (self : List Int → Int) (mu : Nat) (hpost : ∀ (ap : List Int) (hl : ap.length ≤ 4194304) (hf : IsPm 6 ap) (hm : ap.length < mu), 0 ≤ (self ap) ∧ (self ap) ≤ 1023) (apA : Option Addr) (apN apC : Nat) (ap : List Int) (w : World) (apR : RdS w 3 apA apN apC ap) (hl : ap.length ≤ 4194304) (hf : IsPm 6 ap) (hmu : mu = ap.length) (ih : ∀ (apA : Option Addr) (apN apC : Nat) (ap : List Int) (w : World) (apR : RdS w 3 apA apN apC ap) (hl : ap.length ≤ 4194304) (hf : IsPm 6 ap) (hdec : ap.length < mu), Calls Try.prog 106 #[.slice apA apN apC] w (Ret fun v w' => v = .int .i64 (self ap) ∧ Ext w w')) :
    Calls Try.prog 106 #[.slice apA apN apC] w (Ret fun v w' => v = .int .i64 (F_freePoints_b self ap) ∧ Ext w w') := by
  obtain rfl : apN = ap.length / 3 := (apR.lenD (by decide)).symm
  have apEv := apR.ev (by decide)
  have apLe := apR.le
  have hl1 := hf.len
  have hpk := pm_kind hf
  have hpt := below_rows hf
  have hS := St.nil w
  have hS1 := St.rd0 hS rfl apR; clear hS
  refine enter (args := [.slice apA ((ap).length / 3 : Nat) apC]) Try.func106 rfl rfl ?_
  rw [Try.ntmps106]; intro a hE
  have hE := hE.sub (L' := [(0, .slice apA ((ap).length / 3 : Nat) apC)]) ⟨rfl, trivial⟩
  refine c_seq ?_
  refine c_reg ?_
  refine q_step (v := .int .i64 0) hE (y_assign rfl) rfl rfl rfl ?_; intro a2 hE3; clear hE
  refine c_nil ?_
  have hE4 := hE3.sub (L' := [(0, .slice apA ((ap).length / 3 : Nat) apC)]) ⟨rfl, trivial⟩; clear hE3
  refine p_tn ?_
  refine c_seq ?_
  refine c_reg ?_
  refine q_step (v := .slice apA ((ap).length / 3 : Nat) apC) hE4 (y_move rfl) rfl rfl rfl ?_; intro a5 hE6; clear hE4
  refine q_step (v := .pointer (some (adr apA (Int.toNat 0 * 3)))) hE6 (y_idx (by kernel_rfl) (fun _ => by kernel_rfl) rfl rfl (RdS.isS (m := 0) (St.rdR (i := 0) hS1 rfl) (by omega) (by omega)) (by omega) (by omega) rfl) rfl rfl rfl ?_; intro a7 hE8; clear hE6
  refine q_step (v := .agg #[.int .i64 (gS 3 0 ap 0), .int .i64 (gS 3 1 ap 0), .int .i64 (gS 3 2 ap 0)]) hE8 (y_loadE Try.underlying115 rfl (by kernel_rfl) rfl (RdS.rng3 (St.rdR (i := 0) hS1 rfl) (by omega) (by omega))) rfl rfl rfl ?_; intro a9 hE10; clear hE8
  refine l_step hE10 rfl (l_alloc (z := .agg #[.int .i64 0, .int .i64 0, .int .i64 0]) (cs := #[.int .i64 0, .int .i64 0, .int .i64 0]) hS1 hE10 (fun _ => by kernel_rfl) rfl rfl ?_)
  intro b11 w12 hS15 he16 a13 hE14; clear hS1 hE10
  refine l_step hE14 rfl (l_storeS (k := 0) (cs' := #[.int .i64 (gS 3 0 ap 0), .int .i64 (gS 3 1 ap 0), .int .i64 (gS 3 2 ap 0)]) hS15 hE14 (by kernel_rfl) rfl rfl (by kernel_rfl) rfl rfl ?_)
  intro w18 hS21 a19 hE20; clear hS15 hE14
  refine c_nil ?_
  have hE23 := hE20.sub (L' := [(0, .slice apA ((ap).length / 3 : Nat) apC), (3, .pointer (some ⟨b11, 0, none⟩))]) ⟨rfl, rfl, trivial⟩; clear hE20
  refine p_tn ?_
  refine c_seq ?_
  refine c_seq ?_
  refine c_reg ?_
  refine q_step (v := .pointer (some ⟨b11, 0, none⟩)) hE23 (y_field rfl (fun _ => by kernel_rfl)) rfl rfl rfl ?_; intro a24 hE25; clear hE23
  refine q_step (v := .int .i64 (gS 3 0 ap 0)) hE25 (y_load (fun _ => by kernel_rfl) rfl (St.cell (i := 0) hS21 rfl rfl)) rfl rfl rfl ?_; intro a26 hE27; clear hE25
  refine c_nil ?_
  have hE28 := hE27.sub (L' := [(0, .slice apA ((ap).length / 3 : Nat) apC), (3, .pointer (some ⟨b11, 0, none⟩)), (11, .int .i64 (gS 3 0 ap 0))]) ⟨rfl, rfl, rfl, trivial⟩; clear hE27
  refine p_tn ?_
  refine wp_block ?_
  refine c_seq ?_
  refine c_seq ?_
  refine c_reg ?_
  refine q_step (v := .bool (decide ((gS 3 0 ap 0) = 0))) hE28 (y_eql rfl rfl) rfl rfl rfl ?_; intro a29 hE30; clear hE28
  refine q_step (v := .bool (decide ((gS 3 0 ap 0) = 0))) hE30 (y_assign rfl) rfl rfl rfl ?_; intro a31 hE32; clear hE30
  refine c_nil ?_
  have hE33 := hE32.sub (L' := [(0, .slice apA ((ap).length / 3 : Nat) apC), (3, .pointer (some ⟨b11, 0, none⟩)), (11, .int .i64 (gS 3 0 ap 0)), (12, .bool (decide ((gS 3 0 ap 0) = 0)))]) ⟨rfl, rfl, rfl, rfl, trivial⟩; clear hE32
  refine p_tn ?_
  refine c_cond hE33 rfl (fun ht34 => ?_) (fun ht34 => ?_)
  ·
   have hp35 := of_decide_eq_true ht34
   have hE36 := hE33; rw [ht34] at hE36; clear hE33
   refine wp_skip ?_
   refine p_tn ?_
   refine c_true hE36 rfl ?_
   refine c_seq ?_
   refine d_start (fun w w' => (fun w' => w'.cell? ⟨b11, 1, none⟩ = some (.int .i64 (gS 3 1 ap 0)) ∧ w'.cell? ⟨b11, 2, none⟩ = some (.int .i64 (gS 3 2 ap 0)) ∧ True) w → (fun w' => w'.cell? ⟨b11, 1, none⟩ = some (.int .i64 (gS 3 1 ap 0)) ∧ w'.cell? ⟨b11, 2, none⟩ = some (.int .i64 (gS 3 2 ap 0)) ∧ True) w') [1, 4] 8 (by kernel_rfl) rfl ?_
   intro w37 he38; have hS39 := St.go hS21 he38; clear hS21
   refine d_pure (fun _ h => h) (v := .pointer (some ⟨b11, 1, none⟩)) 0 rfl hE36 (y_field rfl (fun _ => by kernel_rfl)) rfl (by kernel_rfl) (by kernel_rfl) (by kernel_rfl) rfl rfl (fun _ _ _ h => h) ?_; intro a40 hE41; clear hE36
   refine d_take (fun _ h => h) (fun _ _ h k => h k) (v := .int .i64 (gS 3 1 ap 0)) 1 rfl hE41 (S := fun w' => w'.cell? ⟨b11, 1, none⟩ = some (.int .i64 (gS 3 1 ap 0)) ∧ w'.cell? ⟨b11, 2, none⟩ = some (.int .i64 (gS 3 2 ap 0)) ∧ True) ⟨(St.cell (i := 0) hS39 rfl rfl _ (Ext.refl _)), (St.cell (i := 0) hS39 rfl rfl _ (Ext.refl _)), trivial⟩ (y_load (fun _ => by kernel_rfl) rfl (fun _ h => h.1)) rfl rfl (by kernel_rfl) (by kernel_rfl) (by kernel_rfl) (by kernel_rfl) rfl rfl (fun _ _ _ h => h) ?_; intro a42 hE43; clear hE41
   refine d_pure (fun _ h => h) (v := .int .i64 (shlI 1 (gS 3 1 ap 0))) 2 rfl hE43 (y_shl rfl rfl (by omega)) rfl (by kernel_rfl) (by kernel_rfl) (by kernel_rfl) rfl rfl (fun _ _ _ h => h) ?_; intro a44 hE45; clear hE43
   refine d_pure (fun _ h => h) (v := .pointer (some ⟨b11, 2, none⟩)) 3 rfl hE45 (y_field rfl (fun _ => by kernel_rfl)) rfl (by kernel_rfl) (by kernel_rfl) (by kernel_rfl) rfl rfl (fun _ _ _ h => h) ?_; intro a46 hE47; clear hE45
   refine d_take (fun _ h => h) (fun _ _ h k => h k) (v := .int .i64 (gS 3 2 ap 0)) 4 rfl hE47 (S := fun w' => w'.cell? ⟨b11, 1, none⟩ = some (.int .i64 (gS 3 1 ap 0)) ∧ w'.cell? ⟨b11, 2, none⟩ = some (.int .i64 (gS 3 2 ap 0)) ∧ True) ⟨(St.cell (i := 0) hS39 rfl rfl _ (Ext.refl _)), (St.cell (i := 0) hS39 rfl rfl _ (Ext.refl _)), trivial⟩ (y_load (fun _ => by kernel_rfl) rfl (fun _ h => h.2.1)) rfl rfl (by kernel_rfl) (by kernel_rfl) (by kernel_rfl) (by kernel_rfl) rfl rfl (fun _ _ _ h => h) ?_; intro a48 hE49; clear hE47
   refine d_pure (fun _ h => h) (v := .int .i64 (shlI 1 (gS 3 2 ap 0))) 5 rfl hE49 (y_shl rfl rfl (by omega)) rfl (by kernel_rfl) (by kernel_rfl) (by kernel_rfl) rfl rfl (fun _ _ _ h => h) ?_; intro a50 hE51; clear hE49
   refine d_pure (fun _ h => h) (v := .int .i64 (orI (shlI 1 (gS 3 1 ap 0)) (shlI 1 (gS 3 2 ap 0)))) 6 rfl hE51 (y_or rfl rfl) rfl (by kernel_rfl) (by kernel_rfl) (by kernel_rfl) rfl rfl (fun _ _ _ h => h) ?_; intro a52 hE53; clear hE51
   refine d_pure (fun _ h => h) (v := .int .i64 (orI (shlI 1 (gS 3 1 ap 0)) (shlI 1 (gS 3 2 ap 0)))) 7 rfl hE53 (y_assign rfl) rfl (by kernel_rfl) (by kernel_rfl) (by kernel_rfl) rfl rfl (fun _ _ _ h => h) ?_; intro a54 hE55; clear hE53
   refine d_done (by kernel_rfl) ?_
   have hE56 := hE55.sub (L' := [(2, .int .i64 (orI (shlI 1 (gS 3 1 ap 0)) (shlI 1 (gS 3 2 ap 0))))]) ⟨rfl, trivial⟩; clear hE55
   refine p_tn ?_
   refine wp_ret ?_
   refine p_br ?_
   refine p_tr ?_
   have hF : F_freePoints_b self ap = orI (shlI 1 (gS 3 1 ap 0)) (shlI 1 (gS 3 2 ap 0)) := by unfold F_freePoints_b; rw [ht34]; first | done | rfl
   refine c_ret1 hE56 rfl rfl ?_
   exact ⟨(by rw [hF]; first | done | (dsimp only; done) | rfl), hS39.ext⟩
  ·
   have hp57 := of_decide_eq_false ht34
   have hE58 := hE33; rw [ht34] at hE58; clear hE33
   refine c_reg ?_
   refine q_step (v := .bool (decide ((gS 3 0 ap 0) = 1))) hE58 (y_eql rfl rfl) rfl rfl rfl ?_; intro a59 hE60; clear hE58
   refine q_step (v := .bool (decide ((gS 3 0 ap 0) = 1))) hE60 (y_assign rfl) rfl rfl rfl ?_; intro a61 hE62; clear hE60
   refine c_nil ?_
   have hE63 := hE62.sub (L' := [(0, .slice apA ((ap).length / 3 : Nat) apC), (3, .pointer (some ⟨b11, 0, none⟩)), (11, .int .i64 (gS 3 0 ap 0)), (12, .bool (decide ((gS 3 0 ap 0) = 1)))]) ⟨rfl, rfl, rfl, rfl, trivial⟩; clear hE62
   refine p_tn ?_
   refine c_cond hE63 rfl (fun ht64 => ?_) (fun ht64 => ?_)
   ·
    have hp65 := of_decide_eq_true ht64
    have hE66 := hE63; rw [ht64] at hE66; clear hE63
    refine c_seq ?_
    refine d_start (fun w w' => (fun w' => w'.cell? ⟨b11, 1, none⟩ = some (.int .i64 (gS 3 1 ap 0)) ∧ w'.cell? ⟨b11, 2, none⟩ = some (.int .i64 (gS 3 2 ap 0)) ∧ True) w → (fun w' => w'.cell? ⟨b11, 1, none⟩ = some (.int .i64 (gS 3 1 ap 0)) ∧ w'.cell? ⟨b11, 2, none⟩ = some (.int .i64 (gS 3 2 ap 0)) ∧ True) w') [1, 4] 8 (by kernel_rfl) rfl ?_
    intro w67 he68; have hS69 := St.go hS21 he68; clear hS21
    refine d_pure (fun _ h => h) (v := .pointer (some ⟨b11, 1, none⟩)) 0 rfl hE66 (y_field rfl (fun _ => by kernel_rfl)) rfl (by kernel_rfl) (by kernel_rfl) (by kernel_rfl) rfl rfl (fun _ _ _ h => h) ?_; intro a70 hE71; clear hE66
    refine d_take (fun _ h => h) (fun _ _ h k => h k) (v := .int .i64 (gS 3 1 ap 0)) 1 rfl hE71 (S := fun w' => w'.cell? ⟨b11, 1, none⟩ = some (.int .i64 (gS 3 1 ap 0)) ∧ w'.cell? ⟨b11, 2, none⟩ = some (.int .i64 (gS 3 2 ap 0)) ∧ True) ⟨(St.cell (i := 0) hS69 rfl rfl _ (Ext.refl _)), (St.cell (i := 0) hS69 rfl rfl _ (Ext.refl _)), trivial⟩ (y_load (fun _ => by kernel_rfl) rfl (fun _ h => h.1)) rfl rfl (by kernel_rfl) (by kernel_rfl) (by kernel_rfl) (by kernel_rfl) rfl rfl (fun _ _ _ h => h) ?_; intro a72 hE73; clear hE71
    refine d_pure (fun _ h => h) (v := .int .i64 (shlI 1 (gS 3 1 ap 0))) 2 rfl hE73 (y_shl rfl rfl (by omega)) rfl (by kernel_rfl) (by kernel_rfl) (by kernel_rfl) rfl rfl (fun _ _ _ h => h) ?_; intro a74 hE75; clear hE73
    refine d_pure (fun _ h => h) (v := .pointer (some ⟨b11, 2, none⟩)) 3 rfl hE75 (y_field rfl (fun _ => by kernel_rfl)) rfl (by kernel_rfl) (by kernel_rfl) (by kernel_rfl) rfl rfl (fun _ _ _ h => h) ?_; intro a76 hE77; clear hE75
    refine d_take (fun _ h => h) (fun _ _ h k => h k) (v := .int .i64 (gS 3 2 ap 0)) 4 rfl hE77 (S := fun w' => w'.cell? ⟨b11, 1, none⟩ = some (.int .i64 (gS 3 1 ap 0)) ∧ w'.cell? ⟨b11, 2, none⟩ = some (.int .i64 (gS 3 2 ap 0)) ∧ True) ⟨(St.cell (i := 0) hS69 rfl rfl _ (Ext.refl _)), (St.cell (i := 0) hS69 rfl rfl _ (Ext.refl _)), trivial⟩ (y_load (fun _ => by kernel_rfl) rfl (fun _ h => h.2.1)) rfl rfl (by kernel_rfl) (by kernel_rfl) (by kernel_rfl) (by kernel_rfl) rfl rfl (fun _ _ _ h => h) ?_; intro a78 hE79; clear hE77
    refine d_pure (fun _ h => h) (v := .int .i64 (shlI 1 (gS 3 2 ap 0))) 5 rfl hE79 (y_shl rfl rfl (by omega)) rfl (by kernel_rfl) (by kernel_rfl) (by kernel_rfl) rfl rfl (fun _ _ _ h => h) ?_; intro a80 hE81; clear hE79
    refine d_pure (fun _ h => h) (v := .int .i64 (orI (shlI 1 (gS 3 1 ap 0)) (shlI 1 (gS 3 2 ap 0)))) 6 rfl hE81 (y_or rfl rfl) rfl (by kernel_rfl) (by kernel_rfl) (by kernel_rfl) rfl rfl (fun _ _ _ h => h) ?_; intro a82 hE83; clear hE81
    refine d_pure (fun _ h => h) (v := .int .i64 (orI (shlI 1 (gS 3 1 ap 0)) (shlI 1 (gS 3 2 ap 0)))) 7 rfl hE83 (y_assign rfl) rfl (by kernel_rfl) (by kernel_rfl) (by kernel_rfl) rfl rfl (fun _ _ _ h => h) ?_; intro a84 hE85; clear hE83
    refine d_done (by kernel_rfl) ?_
    have hE86 := hE85.sub (L' := [(2, .int .i64 (orI (shlI 1 (gS 3 1 ap 0)) (shlI 1 (gS 3 2 ap 0))))]) ⟨rfl, trivial⟩; clear hE85
    refine p_tn ?_
    refine wp_ret ?_
    refine p_br ?_
    refine p_tr ?_
    have hF : F_freePoints_b self ap = orI (shlI 1 (gS 3 1 ap 0)) (shlI 1 (gS 3 2 ap 0)) := by unfold F_freePoints_b; rw [ht64, ht34]; first | done | rfl
    refine c_ret1 hE86 rfl rfl ?_
    exact ⟨(by rw [hF]; first | done | (dsimp only; done) | rfl), hS69.ext⟩
   ·
    have hp87 := of_decide_eq_false ht64
    have hE88 := hE63; rw [ht64] at hE88; clear hE63
    refine c_seq ?_
    refine c_reg ?_
    refine q_step (v := .bool (decide ((gS 3 0 ap 0) = 2))) hE88 (y_eql rfl rfl) rfl rfl rfl ?_; intro a89 hE90; clear hE88
    refine q_step (v := .bool (decide ((gS 3 0 ap 0) = 2))) hE90 (y_assign rfl) rfl rfl rfl ?_; intro a91 hE92; clear hE90
    refine c_nil ?_
    have hE93 := hE92.sub (L' := [(0, .slice apA ((ap).length / 3 : Nat) apC), (3, .pointer (some ⟨b11, 0, none⟩)), (22, .bool (decide ((gS 3 0 ap 0) = 2)))]) ⟨rfl, rfl, rfl, trivial⟩; clear hE92
    refine p_tn ?_
    refine c_cond hE93 rfl (fun ht94 => ?_) (fun ht94 => ?_)
    ·
     have hp95 := of_decide_eq_true ht94
     have hE96 := hE93; rw [ht94] at hE96; clear hE93
     refine c_seq ?_
     refine c_reg ?_
     refine q_step (v := .pointer (some ⟨b11, 2, none⟩)) hE96 (y_field rfl (fun _ => by kernel_rfl)) rfl rfl rfl ?_; intro a97 hE98; clear hE96
     refine q_step (v := .int .i64 (gS 3 2 ap 0)) hE98 (y_load (fun _ => by kernel_rfl) rfl (St.cell (i := 0) hS21 rfl rfl)) rfl rfl rfl ?_; intro a99 hE100; clear hE98
     refine q_step (v := .int .i64 (shlI 1 (gS 3 2 ap 0))) hE100 (y_shl rfl rfl (by omega)) rfl rfl rfl ?_; intro a101 hE102; clear hE100
     refine q_step (v := .int .i64 (shlI 1 (gS 3 2 ap 0))) hE102 (y_assign rfl) rfl rfl rfl ?_; intro a103 hE104; clear hE102
     refine c_nil ?_
     have hE105 := hE104.sub (L' := [(2, .int .i64 (shlI 1 (gS 3 2 ap 0)))]) ⟨rfl, trivial⟩; clear hE104
     refine p_tn ?_
     refine wp_ret ?_
     refine p_br ?_
     refine p_tr ?_
     have hF : F_freePoints_b self ap = shlI 1 (gS 3 2 ap 0) := by unfold F_freePoints_b; rw [ht94, ht64, ht34]; first | done | rfl
     refine c_ret1 hE105 rfl rfl ?_
     exact ⟨(by rw [hF]; first | done | (dsimp only; done) | rfl), hS21.ext⟩
    ·
     have hp106 := of_decide_eq_false ht94
     have hE107 := hE93; rw [ht94] at hE107; clear hE93
     refine wp_skip ?_
     refine p_bn ?_
     refine p_tn ?_
     refine c_seq ?_
     refine c_reg ?_
     refine q_step (v := .int .i64 0) hE107 (y_assign rfl) rfl rfl rfl ?_; intro a108 hE109; clear hE107
     refine c_nil ?_
     have hE110 := hE109.sub (L' := [(0, .slice apA ((ap).length / 3 : Nat) apC), (3, .pointer (some ⟨b11, 0, none⟩)), (4, .int .i64 0)]) ⟨rfl, rfl, rfl, trivial⟩; clear hE109
     refine p_tn ?_
     refine c_seq ?_
     refine c_seq ?_
     refine c_reg ?_
     refine q_step (v := .slice apA ((ap).length / 3 : Nat) apC) hE110 (y_move rfl) rfl rfl rfl ?_; intro a111 hE112; clear hE110
     have hc119 := c_below apA ((ap).length / 3 : Nat) apC ap w18 (St.rdR (i := 1) hS21 rfl) (by omega) (by omega)
     refine l_step hE112 rfl (l_call (f := 172) (argv := [.slice apA ((ap).length / 3 : Nat) apC]) hE112 (fun _ => cf_below _ _) rfl rfl (by exact hc119) ?_)
     rintro _ w114 ⟨b120, c121, rfl, ho122, he118⟩ a115 hE116; clear hE112
     have hS117 := St.ownRows (rows := belowRows apA apC ap) hS21 he118 ho122 rfl (belowRows_xs _ _ _) (belowRows_ok (St.rdR (i := 1) hS21 rfl) (St.robR (i := 1) hS21 rfl) hf); clear hS21
     refine q_step (v := .int .i64 ((F_below ap).length : Int)) hE116 (y_len (e := 59) (by kernel_rfl) rfl) rfl rfl rfl ?_; intro a123 hE124; clear hE116
     refine q_step (v := .int .i64 0) hE124 (y_move rfl) rfl rfl rfl ?_; intro a125 hE126; clear hE124
     refine c_nil ?_
     have hE127 := hE126.sub (L' := [(3, .pointer (some ⟨b11, 0, none⟩)), (4, .int .i64 0), (28, .slice b120 ((F_below ap).length) c121), (29, .int .i64 ((F_below ap).length : Int)), (30, .int .i64 0)]) ⟨rfl, rfl, rfl, rfl, rfl, trivial⟩; clear hE126
     refine p_tn ?_
     refine c_cut1 (fun a' w' => (0 ≤ ((F_freePoints_L1 ap self (Int.toNat (((F_below ap).length : Int) - 0) + 1) 0 0).2)) ∧ (0 ≤ ((F_freePoints_L1 ap self (Int.toNat (((F_below ap).length : Int) - 0) + 1) 0 0).1)) ∧ (((F_freePoints_L1 ap self (Int.toNat (((F_below ap).length : Int) - 0) + 1) 0 0).1) ≤ 1023) ∧ (((F_freePoints_L1 ap self (Int.toNat (((F_below ap).length : Int) - 0) + 1) 0 0).2) ≤ ((F_below ap).length : Int)) ∧ E a' 49 [(3, .pointer (some ⟨b11, 0, none⟩)), (4, .int .i64 ((F_freePoints_L1 ap self (Int.toNat (((F_below ap).length : Int) - 0) + 1) 0 0).1)), (28, .slice b120 ((F_below ap).length) c121), (29, .int .i64 ((F_below ap).length : Int)), (30, .int .i64 ((F_freePoints_L1 ap self (Int.toNat (((F_below ap).length : Int) - 0) + 1) 0 0).2))] ∧ St w w' [.nest 59 3 none b120 c121 ((belowRows apA apC ap).map (·.1)) (F_below ap), .blk b11 #[.int .i64 (gS 3 0 ap 0), .int .i64 (gS 3 1 ap 0), .int .i64 (gS 3 2 ap 0)] 115, .rd 3 apA ((ap).length / 3 : Nat) apC ap]) ?_ ?_
     ·
      refine wp_block ?_
      refine c_loop (fun r a' w' => ∃ mask4 : Int, ∃ t30 : Int, F_freePoints_L1 ap self r mask4 t30 = F_freePoints_L1 ap self (Int.toNat (((F_below ap).length : Int) - 0) + 1) 0 0 ∧ Int.toNat (((F_below ap).length : Int) - t30) < r ∧ (0 ≤ t30) ∧ (0 ≤ mask4) ∧ (mask4 ≤ 1023) ∧ (t30 ≤ ((F_below ap).length : Int)) ∧ E a' 49 [(3, .pointer (some ⟨b11, 0, none⟩)), (4, .int .i64 mask4), (28, .slice b120 ((F_below ap).length) c121), (29, .int .i64 ((F_below ap).length : Int)), (30, .int .i64 t30)] ∧ St w w' [.nest 59 3 none b120 c121 ((belowRows apA apC ap).map (·.1)) (F_below ap), .blk b11 #[.int .i64 (gS 3 0 ap 0), .int .i64 (gS 3 1 ap 0), .int .i64 (gS 3 2 ap 0)] 115, .rd 3 apA ((ap).length / 3 : Nat) apC ap]) (r := (Int.toNat (((F_below ap).length : Int) - 0) + 1)) ?_ ?_
      · exact ⟨0, 0, rfl, Nat.lt_succ_self _, (by first | omega | (simp only [sS_len, sL_len]; omega) | (simp only [List.length_replicate, sI_len]; omega) | (simp only [List.length_append, List.length_cons, List.length_nil, sI_len, cond_true, cond_false]; omega) | (simp only [List.length_append, List.length_cons, List.length_nil, sI_len, cond_eq_ite, apply_ite List.length]; split <;> simp only [List.length_append, List.length_cons, List.length_nil, sI_len] <;> omega) | grind), (by first | omega | (simp only [sS_len, sL_len]; omega) | (simp only [List.length_replicate, sI_len]; omega) | (simp only [List.length_append, List.length_cons, List.length_nil, sI_len, cond_true, cond_false]; omega) | (simp only [List.length_append, List.length_cons, List.length_nil, sI_len, cond_eq_ite, apply_ite List.length]; split <;> simp only [List.length_append, List.length_cons, List.length_nil, sI_len] <;> omega) | grind), (by first | omega | (simp only [sS_len, sL_len]; omega) | (simp only [List.length_replicate, sI_len]; omega) | (simp only [List.length_append, List.length_cons, List.length_nil, sI_len, cond_true, cond_false]; omega) | (simp only [List.length_append, List.length_cons, List.length_nil, sI_len, cond_eq_ite, apply_ite List.length]; split <;> simp only [List.length_append, List.length_cons, List.length_nil, sI_len] <;> omega) | grind), (by first | omega | (simp only [sS_len, sL_len]; omega) | (simp only [List.length_replicate, sI_len]; omega) | (simp only [List.length_append, List.length_cons, List.length_nil, sI_len, cond_true, cond_false]; omega) | (simp only [List.length_append, List.length_cons, List.length_nil, sI_len, cond_eq_ite, apply_ite List.length]; split <;> simp only [List.length_append, List.length_cons, List.length_nil, sI_len] <;> omega) | grind), (hE127.sub (L' := [(3, .pointer (some ⟨b11, 0, none⟩)), (4, .int .i64 0), (28, .slice b120 ((F_below ap).length) c121), (29, .int .i64 ((F_below ap).length : Int)), (30, .int .i64 0)]) ⟨rfl, rfl, rfl, rfl, rfl, trivial⟩), (St.pick (Γ' := [.nest 59 3 none b120 c121 ((belowRows apA apC ap).map (·.1)) (F_below ap), .blk b11 #[.int .i64 (gS 3 0 ap 0), .int .i64 (gS 3 1 ap 0), .int .i64 (gS 3 2 ap 0)] 115, .rd 3 apA ((ap).length / 3 : Nat) apC ap]) hS117 [0, 1, 2] (by decide) rfl)⟩
      ·
       clear hE127 hS117
       rintro r139 a129 w130 ⟨mask4, t30, hT133, hr134, hi135, hi136, hi137, hi138, hE131, hS132⟩
       obtain ⟨r139, rfl⟩ : ∃ r', r139 = r' + 1 := ⟨r139 - 1, by omega⟩
       refine c_seq ?_
       refine c_reg ?_
       refine q_step (v := .bool (decide (t30 < ((F_below ap).length : Int)))) hE131 (y_lss rfl rfl) rfl rfl rfl ?_; intro a140 hE141; clear hE131
       refine c_nil ?_
       have hE142 := hE141.sub (L' := [(3, .pointer (some ⟨b11, 0, none⟩)), (4, .int .i64 mask4), (28, .slice b120 ((F_below ap).length) c121), (29, .int .i64 ((F_below ap).length : Int)), (30, .int .i64 t30), (31, .bool (decide (t30 < ((F_below ap).length : Int))))]) ⟨rfl, rfl, rfl, rfl, rfl, rfl, trivial⟩; clear hE141
       refine p_tn ?_
       refine c_seq ?_
       refine c_cond hE142 rfl (fun ht143 => ?_) (fun ht143 => ?_)
       ·
        have hp144 := of_decide_eq_true ht143
        have hE145 := hE142; rw [ht143] at hE145; clear hE142
        have hrow := hpt.2 t30 (by omega) (by omega)
        refine wp_skip ?_
        refine p_tn ?_
        refine c_seq ?_
        refine wp_block ?_
        refine c_seq ?_
        refine c_reg ?_
        refine q_step (v := .pointer (some (adr b120 (Int.toNat t30)))) hE145 (y_idx (by kernel_rfl) (fun _ => by kernel_rfl) rfl rfl (RdN.isS (m := t30) (St.rdNo (i := 0) hS132 rfl) (by omega) (by omega)) (by omega) (by omega) (Nat.mul_one _).symm) rfl rfl rfl ?_; intro a146 hE147; clear hE145
        have hv148 : (0 : Int) ≤ t30 ∧ t30 < ((F_below ap).length : Int) := ⟨(by omega), (by omega)⟩
        refine q_step (v := .slice (hdA ((belowRows apA apC ap).map (·.1)) t30) ((gL (F_below ap) t30).length / 3 : Nat) (hdC ((belowRows apA apC ap).map (·.1)) t30)) hE147 (y_load (fun _ => by kernel_rfl) rfl (RdN.eltD (St.rdNo (i := 0) hS132 rfl) (by decide) (by omega) (by omega))) rfl rfl rfl ?_; intro a150 hE151; clear hE147
        refine q_step (v := .slice (hdA ((belowRows apA apC ap).map (·.1)) t30) ((gL (F_below ap) t30).length / 3 : Nat) (hdC ((belowRows apA apC ap).map (·.1)) t30)) hE151 (y_assign rfl) rfl rfl rfl ?_; intro a152 hE153; clear hE151
        refine c_nil ?_
        have hE154 := hE153.sub (L' := [(3, .pointer (some ⟨b11, 0, none⟩)), (4, .int .i64 mask4), (6, .slice (hdA ((belowRows apA apC ap).map (·.1)) t30) ((gL (F_below ap) t30).length / 3 : Nat) (hdC ((belowRows apA apC ap).map (·.1)) t30)), (28, .slice b120 ((F_below ap).length) c121), (29, .int .i64 ((F_below ap).length : Int)), (30, .int .i64 t30)]) ⟨rfl, rfl, rfl, rfl, rfl, rfl, trivial⟩; clear hE153
        refine p_tn ?_
        refine c_reg ?_
        refine q_step (v := .int .i64 mask4) hE154 (y_move rfl) rfl rfl rfl ?_; intro a155 hE156; clear hE154
        refine q_step (v := .slice (hdA ((belowRows apA apC ap).map (·.1)) t30) ((gL (F_below ap) t30).length / 3 : Nat) (hdC ((belowRows apA apC ap).map (·.1)) t30)) hE156 (y_move rfl) rfl rfl rfl ?_; intro a157 hE158; clear hE156
        have hr165 := (RdN.rowD (St.rdNo (i := 0) hS132 rfl) (by decide) hv148.1 hv148.2)
        have hc166 := ih (hdA ((belowRows apA apC ap).map (·.1)) t30) ((gL (F_below ap) t30).length / 3 : Nat) (hdC ((belowRows apA apC ap).map (·.1)) t30) (gL (F_below ap) t30) w130 hr165 (by have h := hrow.2; omega) hrow.1 (by have h := hrow.2; omega)
        refine l_step hE158 rfl (l_call (f := 106) (argv := [.slice (hdA ((belowRows apA apC ap).map (·.1)) t30) ((gL (F_below ap) t30).length / 3 : Nat) (hdC ((belowRows apA apC ap).map (·.1)) t30)]) hE158 (fun _ => cf_freePoints _ _) rfl rfl (by exact hc166) ?_)
        rintro _ w160 ⟨rfl, he164⟩ a161 hE162; clear hE158
        have hf167 := hpost (gL (F_below ap) t30) (by have h := hrow.2; omega) hrow.1 (by have h := hrow.2; omega)
        have hS163 := St.go hS132 he164; clear hS132
        refine q_step (v := .int .i64 (orI mask4 (self (gL (F_below ap) t30)))) hE162 (y_or rfl rfl) rfl rfl rfl ?_; intro a168 hE169; clear hE162
        refine q_step (v := .int .i64 (orI mask4 (self (gL (F_below ap) t30)))) hE169 (y_assign rfl) rfl rfl rfl ?_; intro a170 hE171; clear hE169
        refine c_nil ?_
        have hE172 := hE171.sub (L' := [(3, .pointer (some ⟨b11, 0, none⟩)), (4, .int .i64 (orI mask4 (self (gL (F_below ap) t30)))), (28, .slice b120 ((F_below ap).length) c121), (29, .int .i64 ((F_below ap).length : Int)), (30, .int .i64 t30)]) ⟨rfl, rfl, rfl, rfl, rfl, trivial⟩; clear hE171
        refine p_bn ?_
        refine p_tn ?_
        refine c_reg ?_
        refine q_step (v := .int .i64 (t30 + 1)) hE172 (y_add rfl rfl ⟨(by omega), (by omega)⟩) rfl rfl rfl ?_; intro a173 hE174; clear hE172
        refine q_step (v := .int .i64 (t30 + 1)) hE174 (y_move rfl) rfl rfl rfl ?_; intro a175 hE176; clear hE174
        refine c_nil ?_
        have hE177 := hE176.sub (L' := [(3, .pointer (some ⟨b11, 0, none⟩)), (4, .int .i64 (orI mask4 (self (gL (F_below ap) t30)))), (28, .slice b120 ((F_below ap).length) c121), (29, .int .i64 ((F_below ap).length : Int)), (30, .int .i64 (t30 + 1))]) ⟨rfl, rfl, rfl, rfl, rfl, trivial⟩; clear hE176
        refine p_tn ⟨r139, Nat.lt_succ_self _, orI mask4 (self (gL (F_below ap) t30)), t30 + 1, (hT133.symm.trans (show F_freePoints_L1b ap self (F_freePoints_L1 ap self r139) mask4 t30 = F_freePoints_L1 ap self r139 (orI mask4 (self (gL (F_below ap) t30))) (t30 + 1) by unfold F_freePoints_L1b; rw [ht143]; first | done | rfl)).symm, (by omega), (by first | omega | (simp only [sS_len, sL_len]; omega) | (simp only [List.length_replicate, sI_len]; omega) | (simp only [List.length_append, List.length_cons, List.length_nil, sI_len, cond_true, cond_false]; omega) | (simp only [List.length_append, List.length_cons, List.length_nil, sI_len, cond_eq_ite, apply_ite List.length]; split <;> simp only [List.length_append, List.length_cons, List.length_nil, sI_len] <;> omega) | grind), (or1023 ⟨by omega, by omega⟩ ⟨by omega, by omega⟩).1, (or1023 ⟨by omega, by omega⟩ ⟨by omega, by omega⟩).2, (by first | omega | (simp only [sS_len, sL_len]; omega) | (simp only [List.length_replicate, sI_len]; omega) | (simp only [List.length_append, List.length_cons, List.length_nil, sI_len, cond_true, cond_false]; omega) | (simp only [List.length_append, List.length_cons, List.length_nil, sI_len, cond_eq_ite, apply_ite List.length]; split <;> simp only [List.length_append, List.length_cons, List.length_nil, sI_len] <;> omega) | grind), (hE177.sub (L' := [(3, .pointer (some ⟨b11, 0, none⟩)), (4, .int .i64 (orI mask4 (self (gL (F_below ap) t30)))), (28, .slice b120 ((F_below ap).length) c121), (29, .int .i64 ((F_below ap).length : Int)), (30, .int .i64 (t30 + 1))]) ⟨rfl, rfl, rfl, rfl, rfl, trivial⟩), (St.pick (Γ' := [.nest 59 3 none b120 c121 ((belowRows apA apC ap).map (·.1)) (F_below ap), .blk b11 #[.int .i64 (gS 3 0 ap 0), .int .i64 (gS 3 1 ap 0), .int .i64 (gS 3 2 ap 0)] 115, .rd 3 apA ((ap).length / 3 : Nat) apC ap]) hS163 [0, 1, 2] (by decide) rfl)⟩
       ·
        have hp178 := of_decide_eq_false ht143
        have hE179 := hE142; rw [ht143] at hE179; clear hE142
        refine wp_exit ?_
        refine p_te ?_
        have hX180 : F_freePoints_L1 ap self (Int.toNat (((F_below ap).length : Int) - 0) + 1) 0 0 = (mask4, t30) := hT133.symm.trans (show F_freePoints_L1b ap self (F_freePoints_L1 ap self r139) mask4 t30 = (mask4, t30) by unfold F_freePoints_L1b; rw [ht143]; first | done | rfl)
        refine p_te (p_be (p_tn ?_))
        exact ⟨(by rw [hX180]; exact (show 0 ≤ t30 from (by first | omega | (simp only [sS_len, sL_len]; omega) | (simp only [List.length_replicate, sI_len]; omega) | (simp only [List.length_append, List.length_cons, List.length_nil, sI_len, cond_true, cond_false]; omega) | (simp only [List.length_append, List.length_cons, List.length_nil, sI_len, cond_eq_ite, apply_ite List.length]; split <;> simp only [List.length_append, List.length_cons, List.length_nil, sI_len] <;> omega) | grind))), (by rw [hX180]; exact (show 0 ≤ mask4 from (by first | omega | (simp only [sS_len, sL_len]; omega) | (simp only [List.length_replicate, sI_len]; omega) | (simp only [List.length_append, List.length_cons, List.length_nil, sI_len, cond_true, cond_false]; omega) | (simp only [List.length_append, List.length_cons, List.length_nil, sI_len, cond_eq_ite, apply_ite List.length]; split <;> simp only [List.length_append, List.length_cons, List.length_nil, sI_len] <;> omega) | grind))), (by rw [hX180]; exact (show mask4 ≤ 1023 from (by first | omega | (simp only [sS_len, sL_len]; omega) | (simp only [List.length_replicate, sI_len]; omega) | (simp only [List.length_append, List.length_cons, List.length_nil, sI_len, cond_true, cond_false]; omega) | (simp only [List.length_append, List.length_cons, List.length_nil, sI_len, cond_eq_ite, apply_ite List.length]; split <;> simp only [List.length_append, List.length_cons, List.length_nil, sI_len] <;> omega) | grind))), (by rw [hX180]; exact (show t30 ≤ ((F_below ap).length : Int) from (by first | omega | (simp only [sS_len, sL_len]; omega) | (simp only [List.length_replicate, sI_len]; omega) | (simp only [List.length_append, List.length_cons, List.length_nil, sI_len, cond_true, cond_false]; omega) | (simp only [List.length_append, List.length_cons, List.length_nil, sI_len, cond_eq_ite, apply_ite List.length]; split <;> simp only [List.length_append, List.length_cons, List.length_nil, sI_len] <;> omega) | grind))), (by rw [hX180]; exact (hE179.sub (L' := [(3, .pointer (some ⟨b11, 0, none⟩)), (4, .int .i64 mask4), (28, .slice b120 ((F_below ap).length) c121), (29, .int .i64 ((F_below ap).length : Int)), (30, .int .i64 t30)]) ⟨rfl, rfl, rfl, rfl, rfl, trivial⟩)), (St.pick (Γ' := [.nest 59 3 none b120 c121 ((belowRows apA apC ap).map (·.1)) (F_below ap), .blk b11 #[.int .i64 (gS 3 0 ap 0), .int .i64 (gS 3 1 ap 0), .int .i64 (gS 3 2 ap 0)] 115, .rd 3 apA ((ap).length / 3 : Nat) apC ap]) hS132 [0, 1, 2] (by decide) rfl)⟩
     ·
      rintro a181 w182 ⟨hi186, hi187, hi188, hi189, hE183, hS184⟩; clear hE127 hS117
      refine p_tn ?_
      refine c_seq ?_
      refine c_seq ?_
      refine c_reg ?_
      refine q_step (v := .pointer (some ⟨b11, 0, none⟩)) hE183 (y_field rfl (fun _ => by kernel_rfl)) rfl rfl rfl ?_; intro a190 hE191; clear hE183
      refine q_step (v := .int .i64 (gS 3 0 ap 0)) hE191 (y_load (fun _ => by kernel_rfl) rfl (St.cell (i := 1) hS184 rfl rfl)) rfl rfl rfl ?_; intro a192 hE193; clear hE191
      have hc200 := c_pointParts (gS 3 0 ap 0) w182
      refine l_step hE193 rfl (l_call (f := 173) (argv := [.int .i64 (gS 3 0 ap 0)]) hE193 (fun _ => cf_pointParts _ _) rfl rfl (by exact hc200) ?_)
      rintro _ _ ⟨rfl, rfl⟩ a196 hE197; clear hE193
      have hf201 := pointParts_bd (gS 3 0 ap 0)
      refine q_step (v := .bool (decide ((F_pointParts (gS 3 0 ap 0)) = 1))) hE197 (y_eql rfl rfl) rfl rfl rfl ?_; intro a202 hE203; clear hE197
      refine c_nil ?_
      have hE204 := hE203.sub (L' := [(3, .pointer (some ⟨b11, 0, none⟩)), (4, .int .i64 ((F_freePoints_L1 ap self (Int.toNat (((F_below ap).length : Int) - 0) + 1) 0 0).1)), (42, .bool (decide ((F_pointParts (gS 3 0 ap 0)) = 1)))]) ⟨rfl, rfl, rfl, trivial⟩; clear hE203
      refine p_tn ?_
      refine c_cond hE204 rfl (fun ht205 => ?_) (fun ht205 => ?_)
      ·
       have hp206 := of_decide_eq_true ht205
       have hE207 := hE204; rw [ht205] at hE207; clear hE204
       refine c_reg ?_
       refine q_step (v := .int .i64 ((F_freePoints_L1 ap self (Int.toNat (((F_below ap).length : Int) - 0) + 1) 0 0).1)) hE207 (y_move rfl) rfl rfl rfl ?_; intro a208 hE209; clear hE207
       refine q_step (v := .pointer (some ⟨b11, 1, none⟩)) hE209 (y_field rfl (fun _ => by kernel_rfl)) rfl rfl rfl ?_; intro a210 hE211; clear hE209
       refine q_step (v := .int .i64 (gS 3 1 ap 0)) hE211 (y_load (fun _ => by kernel_rfl) rfl (St.cell (i := 1) hS184 rfl rfl)) rfl rfl rfl ?_; intro a212 hE213; clear hE211
       refine q_step (v := .int .i64 (shlI 1 (gS 3 1 ap 0))) hE213 (y_shl rfl rfl (by omega)) rfl rfl rfl ?_; intro a214 hE215; clear hE213
       refine q_step (v := .int .i64 (anI ((F_freePoints_L1 ap self (Int.toNat (((F_below ap).length : Int) - 0) + 1) 0 0).1) (shlI 1 (gS 3 1 ap 0)))) hE215 (y_andNot rfl rfl) rfl rfl rfl ?_; intro a216 hE217; clear hE215
       refine q_step (v := .int .i64 (anI ((F_freePoints_L1 ap self (Int.toNat (((F_below ap).length : Int) - 0) + 1) 0 0).1) (shlI 1 (gS 3 1 ap 0)))) hE217 (y_assign rfl) rfl rfl rfl ?_; intro a218 hE219; clear hE217
       refine c_nil ?_
       have hE220 := hE219.sub (L' := [(4, .int .i64 (anI ((F_freePoints_L1 ap self (Int.toNat (((F_below ap).length : Int) - 0) + 1) 0 0).1) (shlI 1 (gS 3 1 ap 0))))]) ⟨rfl, trivial⟩; clear hE219
       refine p_tn ?_
       refine c_seq ?_
       refine c_reg ?_
       refine q_step (v := .int .i64 (anI ((F_freePoints_L1 ap self (Int.toNat (((F_below ap).length : Int) - 0) + 1) 0 0).1) (shlI 1 (gS 3 1 ap 0)))) hE220 (y_move rfl) rfl rfl rfl ?_; intro a221 hE222; clear hE220
       refine q_step (v := .int .i64 (anI ((F_freePoints_L1 ap self (Int.toNat (((F_below ap).length : Int) - 0) + 1) 0 0).1) (shlI 1 (gS 3 1 ap 0)))) hE222 (y_assign rfl) rfl rfl rfl ?_; intro a223 hE224; clear hE222
       refine c_nil ?_
       have hE225 := hE224.sub (L' := [(2, .int .i64 (anI ((F_freePoints_L1 ap self (Int.toNat (((F_below ap).length : Int) - 0) + 1) 0 0).1) (shlI 1 (gS 3 1 ap 0))))]) ⟨rfl, trivial⟩; clear hE224
       refine p_tn ?_
       refine wp_ret ?_
       have hF : F_freePoints_b self ap = anI ((F_freePoints_L1 ap self (Int.toNat (((F_below ap).length : Int) - 0) + 1) 0 0).1) (shlI 1 (gS 3 1 ap 0)) := by unfold F_freePoints_b; rw [ht205, ht94, ht64, ht34]; first | done | rfl
       refine c_ret1 hE225 rfl rfl ?_
       exact ⟨(by rw [hF]; first | done | (dsimp only; done) | rfl), hS184.ext⟩
      ·
       have hp226 := of_decide_eq_false ht205
       have hE227 := hE204; rw [ht205] at hE227; clear hE204
       refine wp_skip ?_
       refine p_tn ?_
       refine c_seq ?_
       refine c_reg ?_
       refine q_step (v := .int .i64 ((F_freePoints_L1 ap self (Int.toNat (((F_below ap).length : Int) - 0) + 1) 0 0).1)) hE227 (y_move rfl) rfl rfl rfl ?_; intro a228 hE229; clear hE227
       refine q_step (v := .int .i64 ((F_freePoints_L1 ap self (Int.toNat (((F_below ap).length : Int) - 0) + 1) 0 0).1)) hE229 (y_assign rfl) rfl rfl rfl ?_; intro a230 hE231; clear hE229
       refine c_nil ?_
       have hE232 := hE231.sub (L' := [(2, .int .i64 ((F_freePoints_L1 ap self (Int.toNat (((F_below ap).length : Int) - 0) + 1) 0 0).1))]) ⟨rfl, trivial⟩; clear hE231
       refine p_tn ?_
       refine wp_ret ?_
       have hF : F_freePoints_b self ap = (F_freePoints_L1 ap self (Int.toNat (((F_below ap).length : Int) - 0) + 1) 0 0).1 := by unfold F_freePoints_b; rw [ht205, ht94, ht64, ht34]; first | done | rfl
       refine c_ret1 hE232 rfl rfl ?_
       exact ⟨(by rw [hF]; first | done | (dsimp only; done) | rfl), hS184.ext⟩
theorem c_freePoints_r : ∀ (r : Nat) (apA : Option Addr) (apN apC : Nat) (ap : List Int) (w : World) (apR : RdS w 3 apA apN apC ap) (hl : ap.length ≤ 4194304) (hf : IsPm 6 ap) (hlt : ap.length < r), Calls Try.prog 106 #[.slice apA apN apC] w (Ret fun v w' => v = .int .i64 ((F_freePoints_r r) ap) ∧ Ext w w') := by
  intro r
  induction r with
  | zero => intros; omega
  | succ r ih =>
    intro apA apN apC ap w apR hl hf hlt
    exact cb_freePoints (F_freePoints_r r) ap.length (fun ap hl hf hm => freePostI r ap hl hf (by omega)) apA apN apC ap w apR hl hf rfl (fun apA apN apC ap w apR hl hf hdec => ih apA apN apC ap w apR hl hf (by omega))
theorem c_freePoints (apA : Option Addr) (apN apC : Nat) (ap : List Int) (w : World) (apR : RdS w 3 apA apN apC ap) (hl : ap.length ≤ 4194304) (hf : IsPm 6 ap) :
    Calls Try.prog 106 #[.slice apA apN apC] w (Ret fun v w' => v = .int .i64 (F_freePoints ap) ∧ Ext w w') := c_freePoints_r (ap.length + 1) apA apN apC ap w apR hl hf (Nat.lt_succ_self _)
theorem freePoints_eq {bd : Int} {ap : List Int} (hf : IsPm bd ap) : F_freePoints ap = F_l10Free ap := by
  obtain ⟨t, ht, rfl⟩ := hf
  rw [show F_freePoints t.code = t.free from free_treeI bd t _ ht (Nat.lt_succ_self _), l10Free_tree ht]
def F_l10Fits_L1b (ap : List Int) (worlds : Int) (rec : Int → Int → Int × Int) (bodies6 : Int) (k7 : Int) : Int × Int :=
  bif ((decide (k7 < (F_l10Nested ap))) && (decide (bodies6 ≤ 32768))) then (rec (wI (bodies6 * worlds)) (k7 + 1)) else (bodies6, k7)
def F_l10Fits_L1 (ap : List Int) (worlds : Int) : Nat → Int → Int → Int × Int
  | 0, bodies6, k7 => (bodies6, k7)
  | r + 1, bodies6, k7 => F_l10Fits_L1b ap worlds (F_l10Fits_L1 ap worlds r) bodies6 k7
def F_l10Fits (ap : List Int) (worlds : Int) : Bool :=
  ((decide ((F_l10Nested ap) ≤ 6)) && (decide (((F_l10Fits_L1 ap worlds (Int.toNat (F_l10Nested ap - 0) + 1) 1 0).1) ≤ 32768)))
theorem cf_l10Fits (args : Array Value) (w : World) : (callFunc 101 args).run Try.prog w = .ok (.enter 101 args) w := by kernel_rfl
set_option maxRecDepth 100000 in
theorem c_l10Fits (apA : Option Addr) (apN apC : Nat) (ap : List Int) (worlds : Int) (w : World) (apR : RdS w 3 apA apN apC ap) (hl : ap.length ≤ 4194304) (hf : IsPm 6 ap) :
    Calls Try.prog 101 #[.slice apA apN apC, .int .i64 worlds] w (Ret fun v w' => v = .bool (F_l10Fits ap worlds) ∧ Ext w w') := by
  obtain rfl : apN = ap.length / 3 := (apR.lenD (by decide)).symm
  have apEv := apR.ev (by decide)
  have apLe := apR.le
  have hS := St.nil w
  have hS1 := St.rd0 hS rfl apR; clear hS
  refine enter (args := [.slice apA ((ap).length / 3 : Nat) apC, .int .i64 worlds]) Try.func101 rfl rfl ?_
  rw [Try.ntmps101]; intro a hE
  have hE := hE.sub (L' := [(0, .slice apA ((ap).length / 3 : Nat) apC), (1, .int .i64 worlds)]) ⟨rfl, rfl, trivial⟩
  refine c_seq ?_
  refine c_reg ?_
  refine q_step (v := .bool false) hE (y_assign rfl) rfl rfl rfl ?_; intro a2 hE3; clear hE
  refine c_nil ?_
  have hE4 := hE3.sub (L' := [(0, .slice apA ((ap).length / 3 : Nat) apC), (1, .int .i64 worlds)]) ⟨rfl, rfl, trivial⟩; clear hE3
  refine p_tn ?_
  refine c_seq ?_
  refine c_reg ?_
  refine q_step (v := .slice apA ((ap).length / 3 : Nat) apC) hE4 (y_move rfl) rfl rfl rfl ?_; intro a5 hE6; clear hE4
  refine l_step hE6 rfl (l_call (f := 167) (argv := [.slice apA ((ap).length / 3 : Nat) apC]) hE6 (fun _ => cf_l10Nested _ _) rfl rfl (c_l10Nested apA ((ap).length / 3 : Nat) apC ap w (St.rdR (i := 0) hS1 rfl) (by omega) (by omega)) ?_)
  rintro _ w8 ⟨rfl, he12⟩ a9 hE10; clear hE6
  have hf13 := nested_bd ap hf
  have hS11 := St.go hS1 he12; clear hS1
  refine q_step (v := .int .i64 (F_l10Nested ap)) hE10 (y_assign rfl) rfl rfl rfl ?_; intro a14 hE15; clear hE10
  refine q_step (v := .int .i64 1) hE15 (y_assign rfl) rfl rfl rfl ?_; intro a16 hE17; clear hE15
  refine c_nil ?_
  have hE18 := hE17.sub (L' := [(1, .int .i64 worlds), (5, .int .i64 (F_l10Nested ap)), (6, .int .i64 1)]) ⟨rfl, rfl, rfl, trivial⟩; clear hE17
  refine p_tn ?_
  refine c_seq ?_
  refine c_seq ?_
  refine c_reg ?_
  refine q_step (v := .int .i64 0) hE18 (y_assign rfl) rfl rfl rfl ?_; intro a19 hE20; clear hE18
  refine c_nil ?_
  have hE21 := hE20.sub (L' := [(1, .int .i64 worlds), (5, .int .i64 (F_l10Nested ap)), (6, .int .i64 1), (7, .int .i64 0)]) ⟨rfl, rfl, rfl, rfl, trivial⟩; clear hE20
  refine p_tn ?_
  refine c_cut1 (fun a' w' => (0 ≤ ((F_l10Fits_L1 ap worlds (Int.toNat (F_l10Nested ap - 0) + 1) 1 0).2)) ∧ E a' 28 [(1, .int .i64 worlds), (5, .int .i64 (F_l10Nested ap)), (6, .int .i64 ((F_l10Fits_L1 ap worlds (Int.toNat (F_l10Nested ap - 0) + 1) 1 0).1)), (7, .int .i64 ((F_l10Fits_L1 ap worlds (Int.toNat (F_l10Nested ap - 0) + 1) 1 0).2))] ∧ St w w' [.rd 3 apA ((ap).length / 3 : Nat) apC ap]) ?_ ?_
  ·
   refine wp_block ?_
   refine c_loop (fun r a' w' => ∃ bodies6 : Int, ∃ k7 : Int, F_l10Fits_L1 ap worlds r bodies6 k7 = F_l10Fits_L1 ap worlds (Int.toNat (F_l10Nested ap - 0) + 1) 1 0 ∧ Int.toNat (F_l10Nested ap - k7) < r ∧ (0 ≤ k7) ∧ E a' 28 [(1, .int .i64 worlds), (5, .int .i64 (F_l10Nested ap)), (6, .int .i64 bodies6), (7, .int .i64 k7)] ∧ St w w' [.rd 3 apA ((ap).length / 3 : Nat) apC ap]) (r := (Int.toNat (F_l10Nested ap - 0) + 1)) ?_ ?_
   · exact ⟨1, 0, rfl, Nat.lt_succ_self _, (by first | omega | (simp only [sS_len, sL_len]; omega) | (simp only [List.length_replicate, sI_len]; omega) | (simp only [List.length_append, List.length_cons, List.length_nil, sI_len, cond_true, cond_false]; omega) | (simp only [List.length_append, List.length_cons, List.length_nil, sI_len, cond_eq_ite, apply_ite List.length]; split <;> simp only [List.length_append, List.length_cons, List.length_nil, sI_len] <;> omega) | grind), (hE21.sub (L' := [(1, .int .i64 worlds), (5, .int .i64 (F_l10Nested ap)), (6, .int .i64 1), (7, .int .i64 0)]) ⟨rfl, rfl, rfl, rfl, trivial⟩), (St.pick (Γ' := [.rd 3 apA ((ap).length / 3 : Nat) apC ap]) hS11 [0] (by decide) rfl)⟩
   ·
    clear hE21 hS11
    rintro r30 a23 w24 ⟨bodies6, k7, hT27, hr28, hi29, hE25, hS26⟩
    obtain ⟨r30, rfl⟩ : ∃ r', r30 = r' + 1 := ⟨r30 - 1, by omega⟩
    refine c_seq ?_
    refine c_cut (fun a' w' => E a' 28 [(1, .int .i64 worlds), (5, .int .i64 (F_l10Nested ap)), (6, .int .i64 bodies6), (7, .int .i64 k7), (16, .bool ((decide (k7 < (F_l10Nested ap))) && (decide (bodies6 ≤ 32768))))] ∧ St w w' [.rd 3 apA ((ap).length / 3 : Nat) apC ap]) ?_ ?_
    ·
     refine c_reg ?_
     refine q_step (v := .int .i64 k7) hE25 (y_move rfl) rfl rfl rfl ?_; intro a31 hE32; clear hE25
     refine q_step (v := .int .i64 (F_l10Nested ap)) hE32 (y_move rfl) rfl rfl rfl ?_; intro a33 hE34; clear hE32
     refine q_step (v := .bool (decide (k7 < (F_l10Nested ap)))) hE34 (y_lss rfl rfl) rfl rfl rfl ?_; intro a35 hE36; clear hE34
     refine q_step (v := .bool (decide (k7 < (F_l10Nested ap)))) hE36 (y_move rfl) rfl rfl rfl ?_; intro a37 hE38; clear hE36
     rcases Bool.eq_false_or_eq_true (decide (k7 < (F_l10Nested ap))) with hb39 | hb39
     ·
      have hE40 := hE38; (try rw [hb39] at hE40); clear hE38
      have hp41 := of_decide_eq_true hb39
      refine q_step (v := .int .i64 bodies6) hE40 (y_move rfl) rfl rfl rfl ?_; intro a42 hE43; clear hE40
      refine q_step (v := .bool (decide (bodies6 ≤ 32768))) hE43 (y_leq rfl rfl) rfl rfl rfl ?_; intro a44 hE45; clear hE43
      refine q_step (v := .bool (decide (bodies6 ≤ 32768))) hE45 (y_pick (b := true) rfl rfl) rfl rfl rfl ?_; intro a46 hE47; clear hE45
      refine c_nil ?_
      have hE48 := hE47.sub (L' := [(1, .int .i64 worlds), (5, .int .i64 (F_l10Nested ap)), (6, .int .i64 bodies6), (7, .int .i64 k7), (16, .bool (decide (bodies6 ≤ 32768)))]) ⟨rfl, rfl, rfl, rfl, rfl, trivial⟩; clear hE47
      refine p_tn ?_
      have hE49 := hE48.sub (L' := [(1, .int .i64 worlds), (5, .int .i64 (F_l10Nested ap)), (6, .int .i64 bodies6), (7, .int .i64 k7), (16, .bool (decide (bodies6 ≤ 32768)))]) ⟨rfl, rfl, rfl, rfl, rfl, trivial⟩
      have hS50 := (St.pick (Γ' := [.rd 3 apA ((ap).length / 3 : Nat) apC ap]) hS26 [0] (by decide) rfl)
      exact ⟨(by rw [hb39]; exact hE49), hS50⟩
     ·
      have hE51 := hE38; (try rw [hb39] at hE51); clear hE38
      have hp52 := of_decide_eq_false hb39
      refine q_skip hE51 rfl rfl rfl ?_; intro a53 hE54; clear hE51
      refine q_skip hE54 rfl rfl rfl ?_; intro a55 hE56; clear hE54
      refine q_step (v := .bool false) hE56 (y_pick (b := false) rfl rfl) rfl rfl rfl ?_; intro a57 hE58; clear hE56
      refine c_nil ?_
      have hE59 := hE58.sub (L' := [(1, .int .i64 worlds), (5, .int .i64 (F_l10Nested ap)), (6, .int .i64 bodies6), (7, .int .i64 k7), (16, .bool false)]) ⟨rfl, rfl, rfl, rfl, rfl, trivial⟩; clear hE58
      refine p_tn ?_
      have hE60 := hE59.sub (L' := [(1, .int .i64 worlds), (5, .int .i64 (F_l10Nested ap)), (6, .int .i64 bodies6), (7, .int .i64 k7), (16, .bool false)]) ⟨rfl, rfl, rfl, rfl, rfl, trivial⟩
      have hS61 := (St.pick (Γ' := [.rd 3 apA ((ap).length / 3 : Nat) apC ap]) hS26 [0] (by decide) rfl)
      exact ⟨(by rw [hb39]; exact hE60), hS61⟩
    ·
     rintro a62 w63 ⟨hE64, hS65⟩; clear hE25 hS26
     refine c_cond hE64 rfl (fun ht67 => ?_) (fun ht67 => ?_)
     ·
      obtain ⟨ht68, ht69⟩ := band_t ht67
      have hp70 := of_decide_eq_true ht68
      have hp71 := of_decide_eq_true ht69
      have hE72 := hE64; rw [ht67] at hE72; clear hE64
      refine wp_skip ?_
      refine p_tn ?_
      refine c_seq ?_
      refine wp_block ?_
      refine c_reg ?_
      refine q_step (v := .int .i64 bodies6) hE72 (y_move rfl) rfl rfl rfl ?_; intro a73 hE74; clear hE72
      refine q_step (v := .int .i64 worlds) hE74 (y_move rfl) rfl rfl rfl ?_; intro a75 hE76; clear hE74
      refine q_step (v := .int .i64 (wI (bodies6 * worlds))) hE76 (y_mulw rfl rfl) rfl rfl rfl ?_; intro a77 hE78; clear hE76
      refine q_step (v := .int .i64 (wI (bodies6 * worlds))) hE78 (y_assign rfl) rfl rfl rfl ?_; intro a79 hE80; clear hE78
      refine c_nil ?_
      have hE81 := hE80.sub (L' := [(1, .int .i64 worlds), (5, .int .i64 (F_l10Nested ap)), (6, .int .i64 (wI (bodies6 * worlds))), (7, .int .i64 k7)]) ⟨rfl, rfl, rfl, rfl, trivial⟩; clear hE80
      refine p_bn ?_
      refine p_tn ?_
      refine c_reg ?_
      refine q_step (v := .int .i64 k7) hE81 (y_move rfl) rfl rfl rfl ?_; intro a82 hE83; clear hE81
      refine q_step (v := .int .i64 (k7 + 1)) hE83 (y_add rfl rfl ⟨(by omega), (by omega)⟩) rfl rfl rfl ?_; intro a84 hE85; clear hE83
      refine q_step (v := .int .i64 (k7 + 1)) hE85 (y_assign rfl) rfl rfl rfl ?_; intro a86 hE87; clear hE85
      refine c_nil ?_
      have hE88 := hE87.sub (L' := [(1, .int .i64 worlds), (5, .int .i64 (F_l10Nested ap)), (6, .int .i64 (wI (bodies6 * worlds))), (7, .int .i64 (k7 + 1))]) ⟨rfl, rfl, rfl, rfl, trivial⟩; clear hE87
      refine p_tn ⟨r30, Nat.lt_succ_self _, wI (bodies6 * worlds), k7 + 1, (hT27.symm.trans (show F_l10Fits_L1b ap worlds (F_l10Fits_L1 ap worlds r30) bodies6 k7 = F_l10Fits_L1 ap worlds r30 (wI (bodies6 * worlds)) (k7 + 1) by unfold F_l10Fits_L1b; rw [ht67]; first | done | rfl)).symm, (by omega), (by first | omega | (simp only [sS_len, sL_len]; omega) | (simp only [List.length_replicate, sI_len]; omega) | (simp only [List.length_append, List.length_cons, List.length_nil, sI_len, cond_true, cond_false]; omega) | (simp only [List.length_append, List.length_cons, List.length_nil, sI_len, cond_eq_ite, apply_ite List.length]; split <;> simp only [List.length_append, List.length_cons, List.length_nil, sI_len] <;> omega) | grind), (hE88.sub (L' := [(1, .int .i64 worlds), (5, .int .i64 (F_l10Nested ap)), (6, .int .i64 (wI (bodies6 * worlds))), (7, .int .i64 (k7 + 1))]) ⟨rfl, rfl, rfl, rfl, trivial⟩), (St.pick (Γ' := [.rd 3 apA ((ap).length / 3 : Nat) apC ap]) hS65 [0] (by decide) rfl)⟩
     ·
      have hE89 := hE64; rw [ht67] at hE89; clear hE64
      refine wp_exit ?_
      refine p_te ?_
      have hX90 : F_l10Fits_L1 ap worlds (Int.toNat (F_l10Nested ap - 0) + 1) 1 0 = (bodies6, k7) := hT27.symm.trans (show F_l10Fits_L1b ap worlds (F_l10Fits_L1 ap worlds r30) bodies6 k7 = (bodies6, k7) by unfold F_l10Fits_L1b; rw [ht67]; first | done | rfl)
      refine p_te (p_be (p_tn ?_))
      exact ⟨(by rw [hX90]; exact (show 0 ≤ k7 from (by first | omega | (simp only [sS_len, sL_len]; omega) | (simp only [List.length_replicate, sI_len]; omega) | (simp only [List.length_append, List.length_cons, List.length_nil, sI_len, cond_true, cond_false]; omega) | (simp only [List.length_append, List.length_cons, List.length_nil, sI_len, cond_eq_ite, apply_ite List.length]; split <;> simp only [List.length_append, List.length_cons, List.length_nil, sI_len] <;> omega) | grind))), (by rw [hX90]; exact (hE89.sub (L' := [(1, .int .i64 worlds), (5, .int .i64 (F_l10Nested ap)), (6, .int .i64 bodies6), (7, .int .i64 k7)]) ⟨rfl, rfl, rfl, rfl, trivial⟩)), (St.pick (Γ' := [.rd 3 apA ((ap).length / 3 : Nat) apC ap]) hS65 [0] (by decide) rfl)⟩
  ·
   rintro a91 w92 ⟨hi96, hE93, hS94⟩; clear hE21 hS11
   refine p_tn ?_
   refine c_cut (fun a' w' => E a' 28 [(4, .bool ((decide ((F_l10Nested ap) ≤ 6)) && (decide (((F_l10Fits_L1 ap worlds (Int.toNat (F_l10Nested ap - 0) + 1) 1 0).1) ≤ 32768))))] ∧ St w w' [.rd 3 apA ((ap).length / 3 : Nat) apC ap]) ?_ ?_
   ·
    refine c_reg ?_
    refine q_step (v := .int .i64 (F_l10Nested ap)) hE93 (y_move rfl) rfl rfl rfl ?_; intro a97 hE98; clear hE93
    refine q_step (v := .bool (decide ((F_l10Nested ap) ≤ 6))) hE98 (y_leq rfl rfl) rfl rfl rfl ?_; intro a99 hE100; clear hE98
    refine q_step (v := .bool (decide ((F_l10Nested ap) ≤ 6))) hE100 (y_move rfl) rfl rfl rfl ?_; intro a101 hE102; clear hE100
    rcases Bool.eq_false_or_eq_true (decide ((F_l10Nested ap) ≤ 6)) with hb103 | hb103
    ·
     have hE104 := hE102; (try rw [hb103] at hE104); clear hE102
     have hp105 := of_decide_eq_true hb103
     refine q_step (v := .int .i64 ((F_l10Fits_L1 ap worlds (Int.toNat (F_l10Nested ap - 0) + 1) 1 0).1)) hE104 (y_move rfl) rfl rfl rfl ?_; intro a106 hE107; clear hE104
     refine q_step (v := .bool (decide (((F_l10Fits_L1 ap worlds (Int.toNat (F_l10Nested ap - 0) + 1) 1 0).1) ≤ 32768))) hE107 (y_leq rfl rfl) rfl rfl rfl ?_; intro a108 hE109; clear hE107
     refine q_step (v := .bool (decide (((F_l10Fits_L1 ap worlds (Int.toNat (F_l10Nested ap - 0) + 1) 1 0).1) ≤ 32768))) hE109 (y_pick (b := true) rfl rfl) rfl rfl rfl ?_; intro a110 hE111; clear hE109
     refine q_step (v := .bool (decide (((F_l10Fits_L1 ap worlds (Int.toNat (F_l10Nested ap - 0) + 1) 1 0).1) ≤ 32768))) hE111 (y_assign rfl) rfl rfl rfl ?_; intro a112 hE113; clear hE111
     refine c_nil ?_
     have hE114 := hE113.sub (L' := [(4, .bool (decide (((F_l10Fits_L1 ap worlds (Int.toNat (F_l10Nested ap - 0) + 1) 1 0).1) ≤ 32768)))]) ⟨rfl, trivial⟩; clear hE113
     refine p_tn ?_
     have hE115 := hE114.sub (L' := [(4, .bool (decide (((F_l10Fits_L1 ap worlds (Int.toNat (F_l10Nested ap - 0) + 1) 1 0).1) ≤ 32768)))]) ⟨rfl, trivial⟩
     have hS116 := (St.pick (Γ' := [.rd 3 apA ((ap).length / 3 : Nat) apC ap]) hS94 [0] (by decide) rfl)
     exact ⟨(by rw [hb103]; exact hE115), hS116⟩
    ·
     have hE117 := hE102; (try rw [hb103] at hE117); clear hE102
     have hp118 := of_decide_eq_false hb103
     refine q_skip hE117 rfl rfl rfl ?_; intro a119 hE120; clear hE117
     refine q_skip hE120 rfl rfl rfl ?_; intro a121 hE122; clear hE120
     refine q_step (v := .bool false) hE122 (y_pick (b := false) rfl rfl) rfl rfl rfl ?_; intro a123 hE124; clear hE122
     refine q_step (v := .bool false) hE124 (y_assign rfl) rfl rfl rfl ?_; intro a125 hE126; clear hE124
     refine c_nil ?_
     have hE127 := hE126.sub (L' := [(4, .bool false)]) ⟨rfl, trivial⟩; clear hE126
     refine p_tn ?_
     have hE128 := hE127.sub (L' := [(4, .bool false)]) ⟨rfl, trivial⟩
     have hS129 := (St.pick (Γ' := [.rd 3 apA ((ap).length / 3 : Nat) apC ap]) hS94 [0] (by decide) rfl)
     exact ⟨(by rw [hb103]; exact hE128), hS129⟩
   ·
    rintro a130 w131 ⟨hE132, hS133⟩; clear hE93 hS94
    refine wp_ret ?_
    have hF : F_l10Fits ap worlds = ((decide ((F_l10Nested ap) ≤ 6)) && (decide (((F_l10Fits_L1 ap worlds (Int.toNat (F_l10Nested ap - 0) + 1) 1 0).1) ≤ 32768))) := by unfold F_l10Fits; rfl
    refine c_ret1 hE132 rfl rfl ?_
    exact ⟨(by rw [hF]; first | done | (dsimp only; done) | rfl), hS133.ext⟩
def F_hasValues_L1b (ap : List Int) (np : Int) (rec : Int → Int → Int × Int) (power6 : Int) (t12 : Int) : Int × Int :=
  bif (decide (t12 < (F_nesting ap))) then (rec (wI (power6 * np)) (t12 + 1)) else (power6, t12)
def F_hasValues_L1 (ap : List Int) (np : Int) : Nat → Int → Int → Int × Int
  | 0, power6, t12 => (power6, t12)
  | r + 1, power6, t12 => F_hasValues_L1b ap np (F_hasValues_L1 ap np r) power6 t12
def F_hasValues (ap : List Int) (np : Int) : Bool :=
  bif (decide (6 < (F_nesting ap))) then false else (decide (((F_hasValues_L1 ap np (Int.toNat ((F_nesting ap) - 0) + 1) 1 0).1) ≤ 32768))
theorem cf_hasValues (args : Array Value) (w : World) : (callFunc 109 args).run Try.prog w = .ok (.enter 109 args) w := by kernel_rfl
set_option maxRecDepth 100000 in
theorem c_hasValues (apA : Option Addr) (apN apC : Nat) (ap : List Int) (np : Int) (w : World) (apR : RdS w 3 apA apN apC ap) (hl : ap.length ≤ 4194304) (hf : IsPm 6 ap) :
    Calls Try.prog 109 #[.slice apA apN apC, .int .i64 np] w (Ret fun v w' => v = .bool (F_hasValues ap np) ∧ Ext w w') := by
  obtain rfl : apN = ap.length / 3 := (apR.lenD (by decide)).symm
  have apEv := apR.ev (by decide)
  have apLe := apR.le
  have hS := St.nil w
  have hS1 := St.rd0 hS rfl apR; clear hS
  refine enter (args := [.slice apA ((ap).length / 3 : Nat) apC, .int .i64 np]) Try.func109 rfl rfl ?_
  rw [Try.ntmps109]; intro a hE
  have hE := hE.sub (L' := [(0, .slice apA ((ap).length / 3 : Nat) apC), (1, .int .i64 np)]) ⟨rfl, rfl, trivial⟩
  refine c_seq ?_
  refine c_reg ?_
  refine q_step (v := .bool false) hE (y_assign rfl) rfl rfl rfl ?_; intro a2 hE3; clear hE
  refine c_nil ?_
  have hE4 := hE3.sub (L' := [(0, .slice apA ((ap).length / 3 : Nat) apC), (1, .int .i64 np)]) ⟨rfl, rfl, trivial⟩; clear hE3
  refine p_tn ?_
  refine c_seq ?_
  refine c_reg ?_
  refine q_step (v := .slice apA ((ap).length / 3 : Nat) apC) hE4 (y_move rfl) rfl rfl rfl ?_; intro a5 hE6; clear hE4
  refine l_step hE6 rfl (l_call (f := 175) (argv := [.slice apA ((ap).length / 3 : Nat) apC]) hE6 (fun _ => cf_nesting _ _) rfl rfl (c_nesting apA ((ap).length / 3 : Nat) apC ap w (St.rdR (i := 0) hS1 rfl) (by omega) (by omega)) ?_)
  rintro _ w8 ⟨rfl, he12⟩ a9 hE10; clear hE6
  have hf13 := nesting_bd ap hf
  have hS11 := St.go hS1 he12; clear hS1
  refine q_step (v := .int .i64 (F_nesting ap)) hE10 (y_assign rfl) rfl rfl rfl ?_; intro a14 hE15; clear hE10
  refine c_nil ?_
  have hE16 := hE15.sub (L' := [(1, .int .i64 np), (5, .int .i64 (F_nesting ap))]) ⟨rfl, rfl, trivial⟩; clear hE15
  refine p_tn ?_
  refine c_seq ?_
  refine c_seq ?_
  refine c_reg ?_
  refine q_step (v := .int .i64 (F_nesting ap)) hE16 (y_move rfl) rfl rfl rfl ?_; intro a17 hE18; clear hE16
  refine q_step (v := .bool (decide (6 < (F_nesting ap)))) hE18 (y_gtr rfl rfl) rfl rfl rfl ?_; intro a19 hE20; clear hE18
  refine c_nil ?_
  have hE21 := hE20.sub (L' := [(1, .int .i64 np), (5, .int .i64 (F_nesting ap)), (10, .bool (decide (6 < (F_nesting ap))))]) ⟨rfl, rfl, rfl, trivial⟩; clear hE20
  refine p_tn ?_
  refine c_cond hE21 rfl (fun ht22 => ?_) (fun ht22 => ?_)
  ·
   have hp23 := of_decide_eq_true ht22
   have hE24 := hE21; rw [ht22] at hE24; clear hE21
   refine c_seq ?_
   refine c_reg ?_
   refine q_step (v := .bool false) hE24 (y_assign rfl) rfl rfl rfl ?_; intro a25 hE26; clear hE24
   refine c_nil ?_
   have hE27 := hE26.sub (L' := [(4, .bool false)]) ⟨rfl, trivial⟩; clear hE26
   refine p_tn ?_
   refine wp_ret ?_
   refine p_tr ?_
   have hF : F_hasValues ap np = false := by unfold F_hasValues; rw [ht22]; first | done | rfl
   refine c_ret1 hE27 rfl rfl ?_
   exact ⟨(by rw [hF]; first | done | (dsimp only; done) | rfl), hS11.ext⟩
  ·
   have hp28 := of_decide_eq_false ht22
   have hE29 := hE21; rw [ht22] at hE29; clear hE21
   refine wp_skip ?_
   refine p_tn ?_
   refine c_seq ?_
   refine c_reg ?_
   refine q_step (v := .int .i64 1) hE29 (y_assign rfl) rfl rfl rfl ?_; intro a30 hE31; clear hE29
   refine c_nil ?_
   have hE32 := hE31.sub (L' := [(1, .int .i64 np), (5, .int .i64 (F_nesting ap)), (6, .int .i64 1)]) ⟨rfl, rfl, rfl, trivial⟩; clear hE31
   refine p_tn ?_
   refine c_seq ?_
   refine c_seq ?_
   refine c_reg ?_
   refine q_step (v := .int .i64 (F_nesting ap)) hE32 (y_move rfl) rfl rfl rfl ?_; intro a33 hE34; clear hE32
   refine q_step (v := .int .i64 0) hE34 (y_move rfl) rfl rfl rfl ?_; intro a35 hE36; clear hE34
   refine c_nil ?_
   have hE37 := hE36.sub (L' := [(1, .int .i64 np), (6, .int .i64 1), (11, .int .i64 (F_nesting ap)), (12, .int .i64 0)]) ⟨rfl, rfl, rfl, rfl, trivial⟩; clear hE36
   refine p_tn ?_
   refine c_cut1 (fun a' w' => (0 ≤ ((F_hasValues_L1 ap np (Int.toNat ((F_nesting ap) - 0) + 1) 1 0).2)) ∧ E a' 20 [(1, .int .i64 np), (6, .int .i64 ((F_hasValues_L1 ap np (Int.toNat ((F_nesting ap) - 0) + 1) 1 0).1)), (11, .int .i64 (F_nesting ap)), (12, .int .i64 ((F_hasValues_L1 ap np (Int.toNat ((F_nesting ap) - 0) + 1) 1 0).2))] ∧ St w w' [.rd 3 apA ((ap).length / 3 : Nat) apC ap]) ?_ ?_
   ·
    refine wp_block ?_
    refine c_loop (fun r a' w' => ∃ power6 : Int, ∃ t12 : Int, F_hasValues_L1 ap np r power6 t12 = F_hasValues_L1 ap np (Int.toNat ((F_nesting ap) - 0) + 1) 1 0 ∧ Int.toNat ((F_nesting ap) - t12) < r ∧ (0 ≤ t12) ∧ E a' 20 [(1, .int .i64 np), (6, .int .i64 power6), (11, .int .i64 (F_nesting ap)), (12, .int .i64 t12)] ∧ St w w' [.rd 3 apA ((ap).length / 3 : Nat) apC ap]) (r := (Int.toNat ((F_nesting ap) - 0) + 1)) ?_ ?_
    · exact ⟨1, 0, rfl, Nat.lt_succ_self _, (by first | omega | (simp only [sS_len, sL_len]; omega) | (simp only [List.length_replicate, sI_len]; omega) | (simp only [List.length_append, List.length_cons, List.length_nil, sI_len, cond_true, cond_false]; omega) | (simp only [List.length_append, List.length_cons, List.length_nil, sI_len, cond_eq_ite, apply_ite List.length]; split <;> simp only [List.length_append, List.length_cons, List.length_nil, sI_len] <;> omega) | grind), (hE37.sub (L' := [(1, .int .i64 np), (6, .int .i64 1), (11, .int .i64 (F_nesting ap)), (12, .int .i64 0)]) ⟨rfl, rfl, rfl, rfl, trivial⟩), (St.pick (Γ' := [.rd 3 apA ((ap).length / 3 : Nat) apC ap]) hS11 [0] (by decide) rfl)⟩
    ·
     clear hE37 hS11
     rintro r46 a39 w40 ⟨power6, t12, hT43, hr44, hi45, hE41, hS42⟩
     obtain ⟨r46, rfl⟩ : ∃ r', r46 = r' + 1 := ⟨r46 - 1, by omega⟩
     refine c_seq ?_
     refine c_reg ?_
     refine q_step (v := .bool (decide (t12 < (F_nesting ap)))) hE41 (y_lss rfl rfl) rfl rfl rfl ?_; intro a47 hE48; clear hE41
     refine c_nil ?_
     have hE49 := hE48.sub (L' := [(1, .int .i64 np), (6, .int .i64 power6), (11, .int .i64 (F_nesting ap)), (12, .int .i64 t12), (13, .bool (decide (t12 < (F_nesting ap))))]) ⟨rfl, rfl, rfl, rfl, rfl, trivial⟩; clear hE48
     refine p_tn ?_
     refine c_seq ?_
     refine c_cond hE49 rfl (fun ht50 => ?_) (fun ht50 => ?_)
     ·
      have hp51 := of_decide_eq_true ht50
      have hE52 := hE49; rw [ht50] at hE52; clear hE49
      refine wp_skip ?_
      refine p_tn ?_
      refine c_seq ?_
      refine wp_block ?_
      refine c_reg ?_
      refine q_step (v := .int .i64 power6) hE52 (y_move rfl) rfl rfl rfl ?_; intro a53 hE54; clear hE52
      refine q_step (v := .int .i64 np) hE54 (y_move rfl) rfl rfl rfl ?_; intro a55 hE56; clear hE54
      refine q_step (v := .int .i64 (wI (power6 * np))) hE56 (y_mulw rfl rfl) rfl rfl rfl ?_; intro a57 hE58; clear hE56
      refine q_step (v := .int .i64 (wI (power6 * np))) hE58 (y_assign rfl) rfl rfl rfl ?_; intro a59 hE60; clear hE58
      refine c_nil ?_
      have hE61 := hE60.sub (L' := [(1, .int .i64 np), (6, .int .i64 (wI (power6 * np))), (11, .int .i64 (F_nesting ap)), (12, .int .i64 t12)]) ⟨rfl, rfl, rfl, rfl, trivial⟩; clear hE60
      refine p_bn ?_
      refine p_tn ?_
      refine c_reg ?_
      refine q_step (v := .int .i64 (t12 + 1)) hE61 (y_add rfl rfl ⟨(by omega), (by omega)⟩) rfl rfl rfl ?_; intro a62 hE63; clear hE61
      refine q_step (v := .int .i64 (t12 + 1)) hE63 (y_move rfl) rfl rfl rfl ?_; intro a64 hE65; clear hE63
      refine c_nil ?_
      have hE66 := hE65.sub (L' := [(1, .int .i64 np), (6, .int .i64 (wI (power6 * np))), (11, .int .i64 (F_nesting ap)), (12, .int .i64 (t12 + 1))]) ⟨rfl, rfl, rfl, rfl, trivial⟩; clear hE65
      refine p_tn ⟨r46, Nat.lt_succ_self _, wI (power6 * np), t12 + 1, (hT43.symm.trans (show F_hasValues_L1b ap np (F_hasValues_L1 ap np r46) power6 t12 = F_hasValues_L1 ap np r46 (wI (power6 * np)) (t12 + 1) by unfold F_hasValues_L1b; rw [ht50]; first | done | rfl)).symm, (by omega), (by first | omega | (simp only [sS_len, sL_len]; omega) | (simp only [List.length_replicate, sI_len]; omega) | (simp only [List.length_append, List.length_cons, List.length_nil, sI_len, cond_true, cond_false]; omega) | (simp only [List.length_append, List.length_cons, List.length_nil, sI_len, cond_eq_ite, apply_ite List.length]; split <;> simp only [List.length_append, List.length_cons, List.length_nil, sI_len] <;> omega) | grind), (hE66.sub (L' := [(1, .int .i64 np), (6, .int .i64 (wI (power6 * np))), (11, .int .i64 (F_nesting ap)), (12, .int .i64 (t12 + 1))]) ⟨rfl, rfl, rfl, rfl, trivial⟩), (St.pick (Γ' := [.rd 3 apA ((ap).length / 3 : Nat) apC ap]) hS42 [0] (by decide) rfl)⟩
     ·
      have hp67 := of_decide_eq_false ht50
      have hE68 := hE49; rw [ht50] at hE68; clear hE49
      refine wp_exit ?_
      refine p_te ?_
      have hX69 : F_hasValues_L1 ap np (Int.toNat ((F_nesting ap) - 0) + 1) 1 0 = (power6, t12) := hT43.symm.trans (show F_hasValues_L1b ap np (F_hasValues_L1 ap np r46) power6 t12 = (power6, t12) by unfold F_hasValues_L1b; rw [ht50]; first | done | rfl)
      refine p_te (p_be (p_tn ?_))
      exact ⟨(by rw [hX69]; exact (show 0 ≤ t12 from (by first | omega | (simp only [sS_len, sL_len]; omega) | (simp only [List.length_replicate, sI_len]; omega) | (simp only [List.length_append, List.length_cons, List.length_nil, sI_len, cond_true, cond_false]; omega) | (simp only [List.length_append, List.length_cons, List.length_nil, sI_len, cond_eq_ite, apply_ite List.length]; split <;> simp only [List.length_append, List.length_cons, List.length_nil, sI_len] <;> omega) | grind))), (by rw [hX69]; exact (hE68.sub (L' := [(1, .int .i64 np), (6, .int .i64 power6), (11, .int .i64 (F_nesting ap)), (12, .int .i64 t12)]) ⟨rfl, rfl, rfl, rfl, trivial⟩)), (St.pick (Γ' := [.rd 3 apA ((ap).length / 3 : Nat) apC ap]) hS42 [0] (by decide) rfl)⟩
   ·
    rintro a70 w71 ⟨hi75, hE72, hS73⟩; clear hE37 hS11
    refine p_tn ?_
    refine c_seq ?_
    refine c_reg ?_
    refine q_step (v := .int .i64 ((F_hasValues_L1 ap np (Int.toNat ((F_nesting ap) - 0) + 1) 1 0).1)) hE72 (y_move rfl) rfl rfl rfl ?_; intro a76 hE77; clear hE72
    refine q_step (v := .bool (decide (((F_hasValues_L1 ap np (Int.toNat ((F_nesting ap) - 0) + 1) 1 0).1) ≤ 32768))) hE77 (y_leq rfl rfl) rfl rfl rfl ?_; intro a78 hE79; clear hE77
    refine q_step (v := .bool (decide (((F_hasValues_L1 ap np (Int.toNat ((F_nesting ap) - 0) + 1) 1 0).1) ≤ 32768))) hE79 (y_assign rfl) rfl rfl rfl ?_; intro a80 hE81; clear hE79
    refine c_nil ?_
    have hE82 := hE81.sub (L' := [(4, .bool (decide (((F_hasValues_L1 ap np (Int.toNat ((F_nesting ap) - 0) + 1) 1 0).1) ≤ 32768)))]) ⟨rfl, trivial⟩; clear hE81
    refine p_tn ?_
    refine wp_ret ?_
    have hF : F_hasValues ap np = decide (((F_hasValues_L1 ap np (Int.toNat ((F_nesting ap) - 0) + 1) 1 0).1) ≤ 32768) := by unfold F_hasValues; rw [ht22]; first | done | rfl
    refine c_ret1 hE82 rfl rfl ?_
    exact ⟨(by rw [hF]; first | done | (dsimp only; done) | rfl), hS73.ext⟩
def glF (K w : Int) : Nat → Int → Int → Int × Int
  | 0, o, t => (o, t)
  | r + 1, o, t => bif (decide (t < K) && decide (o ≤ 32768)) then glF K w r (wI (o * w)) (t + 1) else (o, t)
def hlF (K w : Int) : Nat → Int → Int → Int × Int
  | 0, o, t => (o, t)
  | r + 1, o, t => bif decide (t < K) then hlF K w r (wI (o * w)) (t + 1) else (o, t)
theorem glF_eq (ap : List Int) (w : Int) : ∀ (r : Nat) (o t : Int), F_l10Fits_L1 ap w r o t = glF (F_l10Nested ap) w r o t := by
  intro r
  induction r with
  | zero => intro o t; rfl
  | succ r ih =>
    intro o t
    show F_l10Fits_L1b ap w _ o t = bif (decide (t < F_l10Nested ap) && decide (o ≤ 32768)) then glF (F_l10Nested ap) w r (wI (o * w)) (t + 1) else (o, t)
    unfold F_l10Fits_L1b
    rw [ih]
theorem hlF_eq (ap : List Int) (w : Int) : ∀ (r : Nat) (o t : Int), F_hasValues_L1 ap w r o t = hlF (F_nesting ap) w r o t := by
  intro r
  induction r with
  | zero => intro o t; rfl
  | succ r ih =>
    intro o t
    show F_hasValues_L1b ap w _ o t = bif decide (t < F_nesting ap) then hlF (F_nesting ap) w r (wI (o * w)) (t + 1) else (o, t)
    unfold F_hasValues_L1b
    rw [ih]
theorem fits_cases {K w : Int} (h0 : 0 ≤ K) (h6 : K ≤ 6) (w0 : 0 ≤ w) (w8 : w ≤ 8) : decide ((glF K w (Int.toNat (K - 0) + 1) 1 0).1 ≤ 32768) = decide ((hlF K w (Int.toNat (K - 0) + 1) 1 0).1 ≤ 32768) := by
  have hk : K = 0 ∨ K = 1 ∨ K = 2 ∨ K = 3 ∨ K = 4 ∨ K = 5 ∨ K = 6 := by omega
  have hw : w = 0 ∨ w = 1 ∨ w = 2 ∨ w = 3 ∨ w = 4 ∨ w = 5 ∨ w = 6 ∨ w = 7 ∨ w = 8 := by omega
  rcases hk with rfl | rfl | rfl | rfl | rfl | rfl | rfl <;> rcases hw with rfl | rfl | rfl | rfl | rfl | rfl | rfl | rfl | rfl <;> decide +kernel
theorem hasValues_eq {bd : Int} {ap : List Int} (hf : IsPm bd ap) {w : Int} (w0 : 0 ≤ w) (w8 : w ≤ 8) : F_hasValues ap w = F_l10Fits ap w := by
  have hb := nested_bd ap hf
  unfold F_hasValues F_l10Fits
  rw [hlF_eq, glF_eq, nesting_eq hf]
  by_cases h6 : F_l10Nested ap ≤ 6
  · rw [decide_eq_false (show ¬ 6 < F_l10Nested ap by omega), cond_false, decide_eq_true h6, Bool.true_and]
    exact (fits_cases hb.1 h6 w0 w8).symm
  · rw [decide_eq_true (show 6 < F_l10Nested ap by omega), cond_true, decide_eq_false h6, Bool.false_and]
end Go.Proofs.Ytkilkfhjfobcdaa
