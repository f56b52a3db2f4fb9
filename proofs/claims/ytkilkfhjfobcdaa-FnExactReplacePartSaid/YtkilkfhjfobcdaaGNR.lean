/- GNR: models and contracts, printed by wip/gen/gen.py -/
import Derived.Test.YtkilkfhjfobcdaaGNC
set_option linter.unusedVariables false
set_option linter.unusedSimpArgs false
namespace Go.Proofs.Ytkilkfhjfobcdaa
open Go.RowKit

theorem part_run (ap : List Int) : ∀ (r : Nat) (i o : Int), 0 ≤ o → 0 ≤ i → i ≤ ((ap.length / 2 : Nat) : Int) → ((ap.length / 2 : Nat) : Int) - i < (r : Int) →
    F_l02Part_L1 ap r i o = .error (-1) ∨ ∃ e, F_l02Part_L1 ap r i o = .ok (e, 0) ∧ i ≤ e ∧ e ≤ ((ap.length / 2 : Nat) : Int) ∧ (0 < o → i < e) := by
  intro r
  induction r with
  | zero => intro i o h0 h1 h2 h3; omega
  | succ r ih =>
    intro i o h0 h1 h2 h3
    have hb := l02Parts_bd (gS 2 0 ap i)
    show F_l02Part_L1b ap (F_l02Part_L1 ap r) i o = _ ∨ ∃ e, F_l02Part_L1b ap (F_l02Part_L1 ap r) i o = _ ∧ _
    unfold F_l02Part_L1b
    by_cases ho : 0 < o
    · rw [decide_eq_true ho, cond_true]
      by_cases hi : ((ap.length / 2 : Nat) : Int) ≤ i
      · rw [decide_eq_true hi]; exact .inl rfl
      · rw [decide_eq_false hi, cond_false]
        rcases ih (i + 1) (o - 1 + F_l02Parts (gS 2 0 ap i)) (by omega) (by omega) (by omega) (by omega) with h | ⟨e, h, e1, e2, _⟩
        · exact .inl h
        · exact .inr ⟨e, h, by omega, e2, fun _ => by omega⟩
    · rw [decide_eq_false ho, cond_false]
      have : o = 0 := by omega
      subst this
      exact .inr ⟨i, rfl, Int.le_refl _, h2, fun h => absurd h (by decide)⟩
theorem part_step (ap : List Int) (r : Nat) {i o : Int} (ho : 0 < o) (hi : i < ((ap.length / 2 : Nat) : Int)) : F_l02Part_L1 ap (r + 1) i o = F_l02Part_L1 ap r (i + 1) (o - 1 + F_l02Parts (gS 2 0 ap i)) := by
  show F_l02Part_L1b ap (F_l02Part_L1 ap r) i o = _
  unfold F_l02Part_L1b
  rw [decide_eq_true ho, decide_eq_false (by omega)]; rfl
theorem part_zero (ap : List Int) (r : Nat) (i : Int) : F_l02Part_L1 ap r i 0 = .ok (i, 0) := by
  cases r with
  | zero => rfl
  | succ r => rfl
theorem part_mono (ap : List Int) : ∀ (r r' : Nat) (i o o' e : Int), 1 ≤ o' → o' ≤ o → 0 ≤ i → ((ap.length / 2 : Nat) : Int) - i < (r : Int) → ((ap.length / 2 : Nat) : Int) - i < (r' : Int) → F_l02Part_L1 ap r i o = .ok (e, 0) →
    ∃ e', F_l02Part_L1 ap r' i o' = .ok (e', 0) ∧ i < e' ∧ e' ≤ e := by
  intro r
  induction r with
  | zero =>
    intro r' i o o' e h1 h2 h0 h3 h4 h
    exfalso
    have h5 : Except.ok (i, o) = (Except.ok (e, 0) : Except Int (Int × Int)) := h
    simp at h5; omega
  | succ r ih =>
    intro r' i o o' e h1 h2 h0 h3 h4 h
    by_cases hi : i < ((ap.length / 2 : Nat) : Int)
    · rw [part_step ap r (by omega) hi] at h
      have hb := l02Parts_bd (gS 2 0 ap i)
      obtain ⟨s, rfl⟩ : ∃ s, r' = s + 1 := ⟨r' - 1, by omega⟩
      rw [part_step ap s (by omega) hi]
      by_cases hz : o' - 1 + F_l02Parts (gS 2 0 ap i) = 0
      · rw [hz, part_zero]
        refine ⟨i + 1, rfl, by omega, ?_⟩
        rcases part_run ap r (i + 1) (o - 1 + F_l02Parts (gS 2 0 ap i)) (by omega) (by omega) (by omega) (by omega) with g | ⟨e2, g, g1, g2, _⟩
        · rw [g] at h; cases h
        · rw [g] at h; cases h; exact g1
      · obtain ⟨e', g, g1, g2⟩ := ih s (i + 1) (o - 1 + F_l02Parts (gS 2 0 ap i)) (o' - 1 + F_l02Parts (gS 2 0 ap i)) e (by omega) (by omega) (by omega) (by omega) (by omega) h
        exact ⟨e', g, by omega, g2⟩
    · exfalso
      have h5 : F_l02Part_L1b ap (F_l02Part_L1 ap r) i o = .ok (e, 0) := h
      unfold F_l02Part_L1b at h5
      rw [decide_eq_true (show 0 < o by omega), decide_eq_true (show ((ap.length / 2 : Nat) : Int) ≤ i by omega)] at h5
      cases h5
/-- On the way to the end of a part one passes each place in it. -/
theorem part_pass (ap : List Int) : ∀ (k : Nat) (r : Nat) (i o e : Int), 1 ≤ o → 0 ≤ i → ((ap.length / 2 : Nat) : Int) - i < (r : Int) → F_l02Part_L1 ap r i o = .ok (e, 0) → i + (k : Int) < e →
    ∃ (r' : Nat) (o' : Int), 1 ≤ o' ∧ ((ap.length / 2 : Nat) : Int) - (i + (k : Int)) < (r' : Int) ∧ F_l02Part_L1 ap r' (i + (k : Int)) o' = .ok (e, 0) := by
  intro k
  induction k with
  | zero => intro r i o e h1 h0 h3 h hk; exact ⟨r, o, h1, by simpa using h3, by simpa using h⟩
  | succ k ih =>
    intro r i o e h1 h0 h3 h hk
    rcases part_run ap r i o (by omega) h0 (by
      apply Decidable.byContradiction; intro hc
      obtain ⟨s, rfl⟩ | rfl : (∃ s, r = s + 1) ∨ r = 0 := by cases r with | zero => exact .inr rfl | succ s => exact .inl ⟨s, rfl⟩
      · have h5 : F_l02Part_L1b ap (F_l02Part_L1 ap s) i o = .ok (e, 0) := h
        unfold F_l02Part_L1b at h5
        rw [decide_eq_true (show 0 < o by omega), decide_eq_true (show ((ap.length / 2 : Nat) : Int) ≤ i by omega)] at h5
        cases h5
      · have h5 : Except.ok (i, o) = (Except.ok (e, 0) : Except Int (Int × Int)) := h
        simp at h5; omega) h3 with g | ⟨e2, g, g1, g2, _⟩
    · rw [g] at h; cases h
    · rw [g] at h; cases h
      have hi : i < ((ap.length / 2 : Nat) : Int) := by omega
      obtain ⟨s, rfl⟩ : ∃ s, r = s + 1 := ⟨r - 1, by omega⟩
      rw [part_step ap s (by omega) hi] at g
      have hb := l02Parts_bd (gS 2 0 ap i)
      have ho : 1 ≤ o - 1 + F_l02Parts (gS 2 0 ap i) := by
        apply Decidable.byContradiction; intro hc
        have : o - 1 + F_l02Parts (gS 2 0 ap i) = 0 := by omega
        rw [this, part_zero] at g
        simp at g; omega
      obtain ⟨r', o', a1, a2, a3⟩ := ih s (i + 1) _ _ ho (by omega) (by omega) g (by omega)
      rw [show i + 1 + (k : Int) = i + ((k + 1 : Nat) : Int) by omega] at a2 a3
      exact ⟨r', o', a1, a2, a3⟩
theorem l02Part_of {ap : List Int} {i e : Int} (h : F_l02Part_L1 ap (Int.toNat (((ap.length / 2 : Nat) : Int) - i) + 1) i 1 = .ok (e, 0)) : F_l02Part ap i = e := by
  unfold F_l02Part
  rw [h]; rfl
theorem l02Is_run {ap : List Int} (h : F_l02Is ap = true) : F_l02Part_L1 ap (Int.toNat (((ap.length / 2 : Nat) : Int) - 0) + 1) 0 1 = .ok (((ap.length / 2 : Nat) : Int), 0) := by
  rw [← isFormula_eq] at h
  unfold F_isFormula at h
  simp only [Bool.and_eq_true, decide_eq_true_eq] at h
  have h2 := h.2.2.2
  rw [partEnd_eq] at h2
  rcases part_run ap (Int.toNat (((ap.length / 2 : Nat) : Int) - 0) + 1) 0 1 (by omega) (by omega) (by omega) (by omega) with g | ⟨e, g, g1, g2, _⟩
  · unfold F_l02Part at h2; rw [g] at h2
    have : (-1 : Int) = ((ap.length / 2 : Nat) : Int) := h2
    omega
  · rw [l02Part_of g] at h2; rw [g, h2]
/-- Each place of a formula is the beginning of a part that ends in it. -/
theorem l02Part_lt {ap : List Int} {i : Int} (h : F_l02Is ap = true) (h0 : 0 ≤ i) (h1 : i < ((ap.length / 2 : Nat) : Int)) : i < F_l02Part ap i ∧ F_l02Part ap i ≤ ((ap.length / 2 : Nat) : Int) := by
  obtain ⟨r', o', a1, a2, a3⟩ := part_pass ap i.toNat _ 0 1 _ (by omega) (by omega) (by omega) (l02Is_run h) (by omega)
  rw [show (0 : Int) + (i.toNat : Int) = i by omega] at a2 a3
  obtain ⟨e', g, g1, g2⟩ := part_mono ap r' (Int.toNat (((ap.length / 2 : Nat) : Int) - i) + 1) i o' 1 _ (by omega) a1 h0 a2 (by omega) a3
  rw [l02Part_of g]; exact ⟨g1, g2⟩
theorem l02Part_in {ap : List Int} {i : Int} (h : F_l02Is ap = true) (h0 : 0 ≤ i) (h1 : i < ((ap.length / 2 : Nat) : Int)) : i ≤ F_l02Part ap i ∧ F_l02Part ap i ≤ ((ap.length / 2 : Nat) : Int) := by
  have := l02Part_lt h h0 h1; omega
theorem partEnd_in {ap : List Int} {i : Int} (h : F_l02Is ap = true) (h0 : 0 ≤ i) (h1 : i < ((ap.length / 2 : Nat) : Int)) : i < F_partEnd ap i ∧ F_partEnd ap i ≤ ((ap.length / 2 : Nat) : Int) := by
  rw [partEnd_eq]; exact l02Part_lt h h0 h1


def F_areFormulas_k1 (ap : List Int) : Bool :=
  (!(F_isFormula ap))
theorem cf_areFormulas_k1 (args : Array Value) (w : World) : (callFunc 147 args).run Try.prog w = .ok (.enter 147 args) w := by kernel_rfl
set_option maxRecDepth 100000 in
theorem c_areFormulas_k1 (apA : Option Addr) (apN apC : Nat) (ap : List Int) (w : World) (apR : RdS w 2 apA apN apC ap) (hl : ap.length ≤ 4194304) :
    Calls Try.prog 147 #[.slice apA apN apC] w (Ret fun v w' => v = .bool (F_areFormulas_k1 ap) ∧ Ext w w') := by
  obtain rfl : apN = ap.length / 2 := (apR.lenD (by decide)).symm
  have apEv := apR.ev (by decide)
  have apLe := apR.le
  have hS := St.nil w
  have hS1 := St.rd0 hS rfl apR; clear hS
  refine enter (args := [.slice apA ((ap).length / 2 : Nat) apC]) Try.func147 rfl rfl ?_
  rw [Try.ntmps147]; intro a hE
  have hE := hE.sub (L' := [(0, .slice apA ((ap).length / 2 : Nat) apC)]) ⟨rfl, trivial⟩
  refine c_seq ?_
  refine c_reg ?_
  refine q_step (v := .bool false) hE (y_assign rfl) rfl rfl rfl ?_; intro a2 hE3; clear hE
  refine c_nil ?_
  have hE4 := hE3.sub (L' := [(0, .slice apA ((ap).length / 2 : Nat) apC)]) ⟨rfl, trivial⟩; clear hE3
  refine p_tn ?_
  refine c_seq ?_
  refine c_reg ?_
  refine q_step (v := .slice apA ((ap).length / 2 : Nat) apC) hE4 (y_move rfl) rfl rfl rfl ?_; intro a5 hE6; clear hE4
  refine l_step hE6 rfl (l_call (f := 74) (argv := [.slice apA ((ap).length / 2 : Nat) apC]) hE6 (fun _ => cf_isFormula _ _) rfl rfl (c_isFormula apA ((ap).length / 2 : Nat) apC ap w (St.rdR (i := 0) hS1 rfl) (by omega)) ?_)
  rintro _ w8 ⟨rfl, he12⟩ a9 hE10; clear hE6
  have hS11 := St.go hS1 he12; clear hS1
  refine q_step (v := .bool (!(F_isFormula ap))) hE10 (y_not rfl) rfl rfl rfl ?_; intro a13 hE14; clear hE10
  refine q_step (v := .bool (!(F_isFormula ap))) hE14 (y_assign rfl) rfl rfl rfl ?_; intro a15 hE16; clear hE14
  refine c_nil ?_
  have hE17 := hE16.sub (L' := [(2, .bool (!(F_isFormula ap)))]) ⟨rfl, trivial⟩; clear hE16
  refine p_tn ?_
  refine wp_ret ?_
  have hF : F_areFormulas_k1 ap = (!(F_isFormula ap)) := by unfold F_areFormulas_k1; rfl
  refine c_ret1 hE17 rfl rfl ?_
  exact ⟨(by rw [hF]; first | done | rfl), hS11.ext⟩

def F_z_IndexFuncNodeS_L1b (sp : List (List Int)) (fp : List Int → Bool) (rec : Int → Except (Int) (Int)) (t8 : Int) : Except (Int) (Int) :=
  bif (decide (t8 < ((sp).length : Int))) then (bif (fp (gL sp t8)) then (.error t8) else (rec (t8 + 1))) else (.ok t8)
def F_z_IndexFuncNodeS_L1 (sp : List (List Int)) (fp : List Int → Bool) : Nat → Int → Except (Int) (Int)
  | 0, t8 => .ok t8
  | r + 1, t8 => F_z_IndexFuncNodeS_L1b sp fp (F_z_IndexFuncNodeS_L1 sp fp r) t8
def F_z_IndexFuncNodeS (sp : List (List Int)) (fp : List Int → Bool) : Int :=
  bif (isOk (F_z_IndexFuncNodeS_L1 sp fp (Int.toNat (((sp).length : Int) - 0) + 1) 0)) then (-1) else (errD (F_z_IndexFuncNodeS_L1 sp fp (Int.toNat (((sp).length : Int) - 0) + 1) 0))
theorem cf_z_IndexFuncNodeS (args : Array Value) (w : World) : (callFunc 199 args).run Try.prog w = .ok (.enter 199 args) w := by kernel_rfl
set_option maxRecDepth 100000 in
theorem c_z_IndexFuncNodeS (spA : Option Addr) (spN spC : Nat) (spH : List Hd) (sp : List (List Int)) (fpF : FuncId) (fpC : List Value) (fp : List Int → Bool) (fpD : List Int → Prop) (w : World) (spR : RdN w 2 spA spN spC spH sp) (fpE : ∀ args w, (callFunc fpF args).run Try.prog w = .ok (.enter fpF args) w) (fpH : ∀ (x0A : Option Addr) (x0N x0C : Nat) (x0 : List Int) (w' : World), fpD x0 → Ext w w' → RdS w' 2 x0A x0N x0C x0 → Calls Try.prog fpF (([.slice x0A x0N x0C] ++ fpC : List Value).toArray) w' (Ret fun v w'' => v = .bool (fp x0) ∧ Ext w' w'')) (fpDom : ∀ m : Int, 0 ≤ m → m < (sp.length : Int) → fpD (gL sp m)) :
    Calls Try.prog 199 #[.slice spA spN spC, .func (.func fpF) #[] fpC.toArray] w (Ret fun v w' => v = .int .i64 (F_z_IndexFuncNodeS sp fp) ∧ Ext w w') := by
  obtain rfl : spN = sp.length := spR.len
  have spLe := spR.le
  have hS := St.nil w
  have hS1 := St.rdn0 hS rfl spR; clear hS
  refine enter (args := [.slice spA ((sp).length) spC, .func (.func fpF) #[] fpC.toArray]) Try.func199 rfl rfl ?_
  rw [Try.ntmps199]; intro a hE
  have hE := hE.sub (L' := [(0, .slice spA ((sp).length) spC), (1, .func (.func fpF) #[] fpC.toArray)]) ⟨rfl, rfl, trivial⟩
  refine c_seq ?_
  refine c_reg ?_
  refine q_step (v := .int .i64 0) hE (y_assign rfl) rfl rfl rfl ?_; intro a2 hE3; clear hE
  refine c_nil ?_
  have hE4 := hE3.sub (L' := [(0, .slice spA ((sp).length) spC), (1, .func (.func fpF) #[] fpC.toArray)]) ⟨rfl, rfl, trivial⟩; clear hE3
  refine p_tn ?_
  refine c_seq ?_
  refine c_seq ?_
  refine c_reg ?_
  refine q_step (v := .slice spA ((sp).length) spC) hE4 (y_move rfl) rfl rfl rfl ?_; intro a5 hE6; clear hE4
  refine q_step (v := .int .i64 ((sp).length : Int)) hE6 (y_len (e := 32) (by kernel_rfl) rfl) rfl rfl rfl ?_; intro a7 hE8; clear hE6
  refine q_step (v := .int .i64 0) hE8 (y_move rfl) rfl rfl rfl ?_; intro a9 hE10; clear hE8
  refine c_nil ?_
  have hE11 := hE10.sub (L' := [(0, .slice spA ((sp).length) spC), (1, .func (.func fpF) #[] fpC.toArray), (7, .int .i64 ((sp).length : Int)), (8, .int .i64 0)]) ⟨rfl, rfl, rfl, rfl, trivial⟩; clear hE10
  refine p_tn ?_
  refine c_cut1 (fun a' w' => isOk (F_z_IndexFuncNodeS_L1 sp fp (Int.toNat (((sp).length : Int) - 0) + 1) 0) = true ∧ (0 ≤ (okD (F_z_IndexFuncNodeS_L1 sp fp (Int.toNat (((sp).length : Int) - 0) + 1) 0))) ∧ ((okD (F_z_IndexFuncNodeS_L1 sp fp (Int.toNat (((sp).length : Int) - 0) + 1) 0)) ≤ ((sp).length : Int)) ∧ E a' 19 [(0, .slice spA ((sp).length) spC), (1, .func (.func fpF) #[] fpC.toArray), (7, .int .i64 ((sp).length : Int)), (8, .int .i64 (okD (F_z_IndexFuncNodeS_L1 sp fp (Int.toNat (((sp).length : Int) - 0) + 1) 0)))] ∧ St w w' [.rdn 2 spA ((sp).length) spC spH sp]) ?_ ?_
  ·
    refine wp_block ?_
    refine c_loop (fun r a' w' => ∃ t8 : Int, F_z_IndexFuncNodeS_L1 sp fp r t8 = F_z_IndexFuncNodeS_L1 sp fp (Int.toNat (((sp).length : Int) - 0) + 1) 0 ∧ Int.toNat (((sp).length : Int) - t8) < r ∧ (0 ≤ t8) ∧ (t8 ≤ ((sp).length : Int)) ∧ E a' 19 [(0, .slice spA ((sp).length) spC), (1, .func (.func fpF) #[] fpC.toArray), (7, .int .i64 ((sp).length : Int)), (8, .int .i64 t8)] ∧ St w w' [.rdn 2 spA ((sp).length) spC spH sp]) (r := (Int.toNat (((sp).length : Int) - 0) + 1)) ?_ ?_
    · exact ⟨0, rfl, Nat.lt_succ_self _, (by first | omega | (simp only [sS_len, sL_len]; omega) | (simp only [List.length_replicate, sI_len]; omega) | (simp only [List.length_append, List.length_cons, List.length_nil, sI_len, cond_true, cond_false]; omega) | (simp only [List.length_append, List.length_cons, List.length_nil, sI_len, cond_eq_ite, apply_ite List.length]; split <;> simp only [List.length_append, List.length_cons, List.length_nil, sI_len] <;> omega) | grind), (by first | omega | (simp only [sS_len, sL_len]; omega) | (simp only [List.length_replicate, sI_len]; omega) | (simp only [List.length_append, List.length_cons, List.length_nil, sI_len, cond_true, cond_false]; omega) | (simp only [List.length_append, List.length_cons, List.length_nil, sI_len, cond_eq_ite, apply_ite List.length]; split <;> simp only [List.length_append, List.length_cons, List.length_nil, sI_len] <;> omega) | grind), (hE11.sub (L' := [(0, .slice spA ((sp).length) spC), (1, .func (.func fpF) #[] fpC.toArray), (7, .int .i64 ((sp).length : Int)), (8, .int .i64 0)]) ⟨rfl, rfl, rfl, rfl, trivial⟩), (St.pick (Γ' := [.rdn 2 spA ((sp).length) spC spH sp]) hS1 [0] (by decide) rfl)⟩
    ·
      clear hE11 hS1
      rintro r21 a13 w14 ⟨t8, hT17, hr18, hi19, hi20, hE15, hS16⟩
      obtain ⟨r21, rfl⟩ : ∃ r', r21 = r' + 1 := ⟨r21 - 1, by omega⟩
      refine c_seq ?_
      refine c_reg ?_
      refine q_step (v := .bool (decide (t8 < ((sp).length : Int)))) hE15 (y_lss rfl rfl) rfl rfl rfl ?_; intro a22 hE23; clear hE15
      refine c_nil ?_
      have hE24 := hE23.sub (L' := [(0, .slice spA ((sp).length) spC), (1, .func (.func fpF) #[] fpC.toArray), (7, .int .i64 ((sp).length : Int)), (8, .int .i64 t8), (9, .bool (decide (t8 < ((sp).length : Int))))]) ⟨rfl, rfl, rfl, rfl, rfl, trivial⟩; clear hE23
      refine p_tn ?_
      refine c_seq ?_
      refine c_cond hE24 rfl (fun ht25 => ?_) (fun ht25 => ?_)
      ·
        have hp26 := of_decide_eq_true ht25
        have hE27 := hE24; rw [ht25] at hE27; clear hE24
        refine wp_skip ?_
        refine p_tn ?_
        refine c_seq ?_
        refine wp_block ?_
        refine c_seq ?_
        refine c_reg ?_
        refine q_step (v := .int .i64 t8) hE27 (y_move rfl) rfl rfl rfl ?_; intro a28 hE29; clear hE27
        refine q_step (v := .int .i64 t8) hE29 (y_assign rfl) rfl rfl rfl ?_; intro a30 hE31; clear hE29
        refine c_nil ?_
        have hE32 := hE31.sub (L' := [(0, .slice spA ((sp).length) spC), (1, .func (.func fpF) #[] fpC.toArray), (5, .int .i64 t8), (7, .int .i64 ((sp).length : Int)), (8, .int .i64 t8)]) ⟨rfl, rfl, rfl, rfl, rfl, trivial⟩; clear hE31
        refine p_tn ?_
        refine c_seq ?_
        refine c_reg ?_
        refine q_step (v := .func (.func fpF) #[] fpC.toArray) hE32 (y_move rfl) rfl rfl rfl ?_; intro a33 hE34; clear hE32
        refine q_step (v := .slice spA ((sp).length) spC) hE34 (y_move rfl) rfl rfl rfl ?_; intro a35 hE36; clear hE34
        refine q_step (v := .int .i64 t8) hE36 (y_move rfl) rfl rfl rfl ?_; intro a37 hE38; clear hE36
        refine q_step (v := .pointer (some (adr spA (Int.toNat t8)))) hE38 (y_idx (by kernel_rfl) (fun _ => by kernel_rfl) rfl rfl (RdN.isS (m := t8) (St.rdNr (i := 0) hS16 rfl) (by omega) (by omega)) (by omega) (by omega) (Nat.mul_one _).symm) rfl rfl rfl ?_; intro a39 hE40; clear hE38
        have hv41 : 0 ≤ t8 ∧ t8 < (((sp).length) : Int) := ⟨(by omega), (by omega)⟩
        refine q_step (v := .slice (hdA spH t8) ((gL sp t8).length / 2 : Nat) (hdC spH t8)) hE40 (y_load (fun _ => by kernel_rfl) rfl (RdN.eltD (St.rdNr (i := 0) hS16 rfl) (by decide) (by omega) (by omega))) rfl rfl rfl ?_; intro a43 hE44; clear hE40
        refine l_step hE44 rfl (l_callv (f := fpF) (caps := fpC) (argv := [.slice (hdA spH t8) ((gL sp t8).length / 2 : Nat) (hdC spH t8)]) hE44 rfl (fun _ => fpE _ _) rfl rfl (fpH (hdA spH t8) ((gL sp t8).length / 2 : Nat) (hdC spH t8) (gL sp t8) w14 (fpDom t8 (by omega) (by omega)) hS16.ext (RdN.rowD (St.rdNr (i := 0) hS16 rfl) (by decide) hv41.1 hv41.2)) ?_)
        rintro _ w46 ⟨rfl, he50⟩ a47 hE48; clear hE44
        have hS49 := St.go hS16 he50; clear hS16
        refine c_nil ?_
        have hE51 := hE48.sub (L' := [(0, .slice spA ((sp).length) spC), (1, .func (.func fpF) #[] fpC.toArray), (5, .int .i64 t8), (7, .int .i64 ((sp).length : Int)), (8, .int .i64 t8), (16, .bool (fp (gL sp t8)))]) ⟨rfl, rfl, rfl, rfl, rfl, rfl, trivial⟩; clear hE48
        refine p_tn ?_
        refine c_cond hE51 rfl (fun ht52 => ?_) (fun ht52 => ?_)
        ·
          have hE53 := hE51; rw [ht52] at hE53; clear hE51
          refine c_seq ?_
          refine c_reg ?_
          refine q_step (v := .int .i64 t8) hE53 (y_move rfl) rfl rfl rfl ?_; intro a54 hE55; clear hE53
          refine q_step (v := .int .i64 t8) hE55 (y_assign rfl) rfl rfl rfl ?_; intro a56 hE57; clear hE55
          refine c_nil ?_
          have hE58 := hE57.sub (L' := [(4, .int .i64 t8)]) ⟨rfl, trivial⟩; clear hE57
          refine p_tn ?_
          refine wp_ret ?_
          refine p_br ?_
          refine p_tr ?_
          have hX59 : F_z_IndexFuncNodeS_L1 sp fp (Int.toNat (((sp).length : Int) - 0) + 1) 0 = .error t8 := hT17.symm.trans (show F_z_IndexFuncNodeS_L1b sp fp (F_z_IndexFuncNodeS_L1 sp fp r21) t8 = .error t8 by unfold F_z_IndexFuncNodeS_L1b; rw [ht52, ht25]; first | done | rfl)
          refine p_tr (p_br (p_tr ?_))
          refine p_tr ?_
          have hF : F_z_IndexFuncNodeS sp fp = t8 := by unfold F_z_IndexFuncNodeS; rw [hX59]; first | done | rfl
          refine c_ret1 hE58 rfl rfl ?_
          exact ⟨(by rw [hF]; first | done | rfl), hS49.ext⟩
        ·
          have hE60 := hE51; rw [ht52] at hE60; clear hE51
          refine wp_skip ?_
          refine p_bn ?_
          refine p_tn ?_
          refine c_reg ?_
          refine q_step (v := .int .i64 (t8 + 1)) hE60 (y_add rfl rfl ⟨(by omega), (by omega)⟩) rfl rfl rfl ?_; intro a61 hE62; clear hE60
          refine q_step (v := .int .i64 (t8 + 1)) hE62 (y_move rfl) rfl rfl rfl ?_; intro a63 hE64; clear hE62
          refine c_nil ?_
          have hE65 := hE64.sub (L' := [(0, .slice spA ((sp).length) spC), (1, .func (.func fpF) #[] fpC.toArray), (7, .int .i64 ((sp).length : Int)), (8, .int .i64 (t8 + 1))]) ⟨rfl, rfl, rfl, rfl, trivial⟩; clear hE64
          refine p_tn ⟨r21, Nat.lt_succ_self _, t8 + 1, (hT17.symm.trans (show F_z_IndexFuncNodeS_L1b sp fp (F_z_IndexFuncNodeS_L1 sp fp r21) t8 = F_z_IndexFuncNodeS_L1 sp fp r21 (t8 + 1) by unfold F_z_IndexFuncNodeS_L1b; rw [ht52, ht25]; first | done | rfl)).symm, (by omega), (by first | omega | (simp only [sS_len, sL_len]; omega) | (simp only [List.length_replicate, sI_len]; omega) | (simp only [List.length_append, List.length_cons, List.length_nil, sI_len, cond_true, cond_false]; omega) | (simp only [List.length_append, List.length_cons, List.length_nil, sI_len, cond_eq_ite, apply_ite List.length]; split <;> simp only [List.length_append, List.length_cons, List.length_nil, sI_len] <;> omega) | grind), (by first | omega | (simp only [sS_len, sL_len]; omega) | (simp only [List.length_replicate, sI_len]; omega) | (simp only [List.length_append, List.length_cons, List.length_nil, sI_len, cond_true, cond_false]; omega) | (simp only [List.length_append, List.length_cons, List.length_nil, sI_len, cond_eq_ite, apply_ite List.length]; split <;> simp only [List.length_append, List.length_cons, List.length_nil, sI_len] <;> omega) | grind), (hE65.sub (L' := [(0, .slice spA ((sp).length) spC), (1, .func (.func fpF) #[] fpC.toArray), (7, .int .i64 ((sp).length : Int)), (8, .int .i64 (t8 + 1))]) ⟨rfl, rfl, rfl, rfl, trivial⟩), (St.pick (Γ' := [.rdn 2 spA ((sp).length) spC spH sp]) hS49 [0] (by decide) rfl)⟩
      ·
        have hp66 := of_decide_eq_false ht25
        have hE67 := hE24; rw [ht25] at hE67; clear hE24
        refine wp_exit ?_
        refine p_te ?_
        have hX68 : F_z_IndexFuncNodeS_L1 sp fp (Int.toNat (((sp).length : Int) - 0) + 1) 0 = .ok t8 := hT17.symm.trans (show F_z_IndexFuncNodeS_L1b sp fp (F_z_IndexFuncNodeS_L1 sp fp r21) t8 = .ok t8 by unfold F_z_IndexFuncNodeS_L1b; rw [ht25]; first | done | rfl)
        refine p_te (p_be (p_tn ?_))
        exact ⟨(by rw [hX68]; rfl), (by rw [hX68]; exact (show 0 ≤ t8 from (by first | omega | (simp only [sS_len, sL_len]; omega) | (simp only [List.length_replicate, sI_len]; omega) | (simp only [List.length_append, List.length_cons, List.length_nil, sI_len, cond_true, cond_false]; omega) | (simp only [List.length_append, List.length_cons, List.length_nil, sI_len, cond_eq_ite, apply_ite List.length]; split <;> simp only [List.length_append, List.length_cons, List.length_nil, sI_len] <;> omega) | grind))), (by rw [hX68]; exact (show t8 ≤ ((sp).length : Int) from (by first | omega | (simp only [sS_len, sL_len]; omega) | (simp only [List.length_replicate, sI_len]; omega) | (simp only [List.length_append, List.length_cons, List.length_nil, sI_len, cond_true, cond_false]; omega) | (simp only [List.length_append, List.length_cons, List.length_nil, sI_len, cond_eq_ite, apply_ite List.length]; split <;> simp only [List.length_append, List.length_cons, List.length_nil, sI_len] <;> omega) | grind))), (by rw [hX68]; exact (hE67.sub (L' := [(0, .slice spA ((sp).length) spC), (1, .func (.func fpF) #[] fpC.toArray), (7, .int .i64 ((sp).length : Int)), (8, .int .i64 t8)]) ⟨rfl, rfl, rfl, rfl, trivial⟩)), (St.pick (Γ' := [.rdn 2 spA ((sp).length) spC spH sp]) hS16 [0] (by decide) rfl)⟩
  ·
    rintro a69 w70 ⟨hO73, hi74, hi75, hE71, hS72⟩; clear hE11 hS1
    refine p_tn ?_
    refine c_seq ?_
    refine c_reg ?_
    refine q_step (v := .int .i64 (-1)) hE71 (y_assign rfl) rfl rfl rfl ?_; intro a76 hE77; clear hE71
    refine c_nil ?_
    have hE78 := hE77.sub (L' := [(4, .int .i64 (-1))]) ⟨rfl, trivial⟩; clear hE77
    refine p_tn ?_
    refine wp_ret ?_
    have hF : F_z_IndexFuncNodeS sp fp = -1 := by unfold F_z_IndexFuncNodeS; rw [hO73]; first | done | rfl
    refine c_ret1 hE78 rfl rfl ?_
    exact ⟨(by rw [hF]; first | done | rfl), hS72.ext⟩

def F_z_ContainsFuncNodeS (sp : List (List Int)) (fp : List Int → Bool) : Bool :=
  decide (0 ≤ (F_z_IndexFuncNodeS sp fp))
theorem cf_z_ContainsFuncNodeS (args : Array Value) (w : World) : (callFunc 146 args).run Try.prog w = .ok (.enter 146 args) w := by kernel_rfl
set_option maxRecDepth 100000 in
theorem c_z_ContainsFuncNodeS (spA : Option Addr) (spN spC : Nat) (spH : List Hd) (sp : List (List Int)) (fpF : FuncId) (fpC : List Value) (fp : List Int → Bool) (fpD : List Int → Prop) (w : World) (spR : RdN w 2 spA spN spC spH sp) (fpE : ∀ args w, (callFunc fpF args).run Try.prog w = .ok (.enter fpF args) w) (fpH : ∀ (x0A : Option Addr) (x0N x0C : Nat) (x0 : List Int) (w' : World), fpD x0 → Ext w w' → RdS w' 2 x0A x0N x0C x0 → Calls Try.prog fpF (([.slice x0A x0N x0C] ++ fpC : List Value).toArray) w' (Ret fun v w'' => v = .bool (fp x0) ∧ Ext w' w'')) (fpDom : ∀ m : Int, 0 ≤ m → m < (sp.length : Int) → fpD (gL sp m)) :
    Calls Try.prog 146 #[.slice spA spN spC, .func (.func fpF) #[] fpC.toArray] w (Ret fun v w' => v = .bool (F_z_ContainsFuncNodeS sp fp) ∧ Ext w w') := by
  obtain rfl : spN = sp.length := spR.len
  have spLe := spR.le
  have hS := St.nil w
  have hS1 := St.rdn0 hS rfl spR; clear hS
  refine enter (args := [.slice spA ((sp).length) spC, .func (.func fpF) #[] fpC.toArray]) Try.func146 rfl rfl ?_
  rw [Try.ntmps146]; intro a hE
  have hE := hE.sub (L' := [(0, .slice spA ((sp).length) spC), (1, .func (.func fpF) #[] fpC.toArray)]) ⟨rfl, rfl, trivial⟩
  refine c_seq ?_
  refine c_reg ?_
  refine q_step (v := .bool false) hE (y_assign rfl) rfl rfl rfl ?_; intro a2 hE3; clear hE
  refine c_nil ?_
  have hE4 := hE3.sub (L' := [(0, .slice spA ((sp).length) spC), (1, .func (.func fpF) #[] fpC.toArray)]) ⟨rfl, rfl, trivial⟩; clear hE3
  refine p_tn ?_
  refine c_seq ?_
  refine c_reg ?_
  refine q_step (v := .slice spA ((sp).length) spC) hE4 (y_move rfl) rfl rfl rfl ?_; intro a5 hE6; clear hE4
  refine q_step (v := .func (.func fpF) #[] fpC.toArray) hE6 (y_move rfl) rfl rfl rfl ?_; intro a7 hE8; clear hE6
  refine l_step hE8 rfl (l_call (f := 199) (argv := [.slice spA ((sp).length) spC, .func (.func fpF) #[] fpC.toArray]) hE8 (fun _ => cf_z_IndexFuncNodeS _ _) rfl rfl (c_z_IndexFuncNodeS spA ((sp).length) spC spH sp fpF fpC fp fpD w (St.rdNr (i := 0) hS1 rfl) fpE (fun x0A x0N x0C x0 w' hx he r0 => fpH x0A x0N x0C x0 w' hx (hS1.ext.trans he) r0) fpDom) ?_)
  rintro _ w10 ⟨rfl, he14⟩ a11 hE12; clear hE8
  have hS13 := St.go hS1 he14; clear hS1
  refine q_step (v := .bool (decide (0 ≤ (F_z_IndexFuncNodeS sp fp)))) hE12 (y_geq rfl rfl) rfl rfl rfl ?_; intro a15 hE16; clear hE12
  refine q_step (v := .bool (decide (0 ≤ (F_z_IndexFuncNodeS sp fp)))) hE16 (y_assign rfl) rfl rfl rfl ?_; intro a17 hE18; clear hE16
  refine c_nil ?_
  have hE19 := hE18.sub (L' := [(4, .bool (decide (0 ≤ (F_z_IndexFuncNodeS sp fp))))]) ⟨rfl, trivial⟩; clear hE18
  refine p_tn ?_
  refine wp_ret ?_
  have hF : F_z_ContainsFuncNodeS sp fp = decide (0 ≤ (F_z_IndexFuncNodeS sp fp)) := by unfold F_z_ContainsFuncNodeS; rfl
  refine c_ret1 hE19 rfl rfl ?_
  exact ⟨(by rw [hF]; first | done | rfl), hS13.ext⟩

def F_areFormulas (list : List (List Int)) : Bool :=
  (!(F_z_ContainsFuncNodeS list (fun x0 => F_areFormulas_k1 x0)))
theorem cf_areFormulas (args : Array Value) (w : World) : (callFunc 86 args).run Try.prog w = .ok (.enter 86 args) w := by kernel_rfl
set_option maxRecDepth 100000 in
theorem c_areFormulas (listA : Option Addr) (listN listC : Nat) (listH : List Hd) (list : List (List Int)) (w : World) (listR : RdN w 2 listA listN listC listH list) (hl : list.length ≤ 1000) (hx : ∀ m : Int, 0 ≤ m → m < (list.length : Int) → (gL list m).length ≤ 4194304) :
    Calls Try.prog 86 #[.slice listA listN listC] w (Ret fun v w' => v = .bool (F_areFormulas list) ∧ Ext w w') := by
  obtain rfl : listN = list.length := listR.len
  have listLe := listR.le
  have hS := St.nil w
  have hS1 := St.rdn0 hS rfl listR; clear hS
  refine enter (args := [.slice listA ((list).length) listC]) Try.func86 rfl rfl ?_
  rw [Try.ntmps86]; intro a hE
  have hE := hE.sub (L' := [(0, .slice listA ((list).length) listC)]) ⟨rfl, trivial⟩
  refine c_seq ?_
  refine c_reg ?_
  refine q_step (v := .bool false) hE (y_assign rfl) rfl rfl rfl ?_; intro a2 hE3; clear hE
  refine c_nil ?_
  have hE4 := hE3.sub (L' := [(0, .slice listA ((list).length) listC)]) ⟨rfl, trivial⟩; clear hE3
  refine p_tn ?_
  refine c_seq ?_
  refine c_reg ?_
  refine q_step (v := .slice listA ((list).length) listC) hE4 (y_move rfl) rfl rfl rfl ?_; intro a5 hE6; clear hE4
  refine l_step hE6 rfl (l_call (f := 146) (argv := [.slice listA ((list).length) listC, .func (.func 147) #[] #[]]) hE6 (fun _ => cf_z_ContainsFuncNodeS _ _) rfl rfl (c_z_ContainsFuncNodeS listA ((list).length) listC listH list 147 [] (fun x0 => F_areFormulas_k1 x0) (fun x => x.length ≤ 4194304) w (St.rdNr (i := 0) hS1 rfl) (fun _ _ => cf_areFormulas_k1 _ _) (fun x0A x0N x0C x0 w' hx he r0 => c_areFormulas_k1 x0A x0N x0C x0 w' r0 hx) hx) ?_)
  rintro _ w8 ⟨rfl, he12⟩ a9 hE10; clear hE6
  have hS11 := St.go hS1 he12; clear hS1
  refine q_step (v := .bool (!(F_z_ContainsFuncNodeS list (fun x0 => F_areFormulas_k1 x0)))) hE10 (y_not rfl) rfl rfl rfl ?_; intro a13 hE14; clear hE10
  refine q_step (v := .bool (!(F_z_ContainsFuncNodeS list (fun x0 => F_areFormulas_k1 x0)))) hE14 (y_assign rfl) rfl rfl rfl ?_; intro a15 hE16; clear hE14
  refine c_nil ?_
  have hE17 := hE16.sub (L' := [(2, .bool (!(F_z_ContainsFuncNodeS list (fun x0 => F_areFormulas_k1 x0))))]) ⟨rfl, trivial⟩; clear hE16
  refine p_tn ?_
  refine wp_ret ?_
  have hF : F_areFormulas list = (!(F_z_ContainsFuncNodeS list (fun x0 => F_areFormulas_k1 x0))) := by unfold F_areFormulas; rfl
  refine c_ret1 hE17 rfl rfl ?_
  exact ⟨(by rw [hF]; first | done | rfl), hS11.ext⟩

theorem containsS_key (sp : List (List Int)) (fp : List Int → Bool) : ∀ (k : Nat) (i : Int), 0 ≤ i → (sp.length : Int) - i = (k : Int) →
    decide (0 ≤ (bif isOk (F_z_IndexFuncNodeS_L1 sp fp (k + 1) i) then (-1 : Int) else errD (F_z_IndexFuncNodeS_L1 sp fp (k + 1) i))) = (List.range k).any fun j => fp (gL sp (i + (j : Int))) := by
  intro k
  induction k with
  | zero =>
    intro i h0 h
    have e : F_z_IndexFuncNodeS_L1 sp fp (0 + 1) i = .ok i := by
      show F_z_IndexFuncNodeS_L1b sp fp _ i = _
      unfold F_z_IndexFuncNodeS_L1b; rw [decide_eq_false (by omega)]; rfl
    rw [e]; rfl
  | succ k ih =>
    intro i h0 h
    have e : F_z_IndexFuncNodeS_L1 sp fp (k + 1 + 1) i = bif fp (gL sp i) then .error i else F_z_IndexFuncNodeS_L1 sp fp (k + 1) (i + 1) := by
      show F_z_IndexFuncNodeS_L1b sp fp _ i = _
      unfold F_z_IndexFuncNodeS_L1b; rw [decide_eq_true (by omega)]; rfl
    rw [e, List.range_succ_eq_map, List.any_cons, List.any_map]
    cases hp : fp (gL sp i)
    · simp only [cond_false]
      rw [ih (i + 1) (by omega) (by omega)]
      simp only [Int.natCast_zero, Int.add_zero, hp, Bool.false_or, Function.comp_def]
      congr 1; funext j; congr 2; rw [Int.natCast_succ]; omega
    · simp [isOk, errD, hp, h0]
theorem areFormulas2 (a b : List Int) : F_areFormulas [a, b] = (F_l02Is a && F_l02Is b) := by
  unfold F_areFormulas F_z_ContainsFuncNodeS F_z_IndexFuncNodeS
  rw [show Int.toNat ((([a, b] : List (List Int)).length : Int) - 0) = 2 from rfl, containsS_key [a, b] _ 2 0 (by omega) rfl]
  have e : ((List.range 2).any fun j => F_areFormulas_k1 (gL [a, b] (0 + (j : Int)))) = (F_areFormulas_k1 a || (F_areFormulas_k1 b || false)) := rfl
  rw [e]
  unfold F_areFormulas_k1
  rw [isFormula_eq, isFormula_eq]
  cases F_l02Is a <;> cases F_l02Is b <;> rfl
theorem areFormulas2_t {a b : List Int} (h : F_areFormulas [a, b] = true) : ((a.length / 2 : Nat) : Int) ≤ 40 ∧ ((b.length / 2 : Nat) : Int) ≤ 40 ∧ F_l02Is a = true ∧ F_l02Is b = true := by
  rw [areFormulas2, Bool.and_eq_true] at h
  exact ⟨(l02Is_t h.1).1, (l02Is_t h.2).1, h.1, h.2⟩


def F_sizeNode (list : List Int) : Int :=
  (((list).length / 2 : Nat) : Int)
theorem cf_sizeNode (args : Array Value) (w : World) : (callFunc 76 args).run Try.prog w = .ok (.enter 76 args) w := by kernel_rfl
set_option maxRecDepth 100000 in
theorem c_sizeNode (listA : Option Addr) (listN listC : Nat) (list : List Int) (w : World) (listR : RdS w 2 listA listN listC list) :
    Calls Try.prog 76 #[.slice listA listN listC] w (Ret fun v w' => v = .int .i64 (F_sizeNode list) ∧ w = w') := by
  obtain rfl : listN = list.length / 2 := (listR.lenD (by decide)).symm
  have listEv := listR.ev (by decide)
  have listLe := listR.le
  have hS := St.nil w
  have hS1 := St.rd0 hS rfl listR; clear hS
  refine enter (args := [.slice listA ((list).length / 2 : Nat) listC]) Try.func76 rfl rfl ?_
  rw [Try.ntmps76]; intro a hE
  have hE := hE.sub (L' := [(0, .slice listA ((list).length / 2 : Nat) listC)]) ⟨rfl, trivial⟩
  refine c_seq ?_
  refine c_reg ?_
  refine q_step (v := .int .i64 0) hE (y_assign rfl) rfl rfl rfl ?_; intro a2 hE3; clear hE
  refine c_nil ?_
  have hE4 := hE3.sub (L' := [(0, .slice listA ((list).length / 2 : Nat) listC)]) ⟨rfl, trivial⟩; clear hE3
  refine p_tn ?_
  refine c_seq ?_
  refine c_reg ?_
  refine q_step (v := .slice listA ((list).length / 2 : Nat) listC) hE4 (y_move rfl) rfl rfl rfl ?_; intro a5 hE6; clear hE4
  refine q_step (v := .int .i64 (((list).length / 2 : Nat) : Int)) hE6 (y_len (e := 94) (by kernel_rfl) rfl) rfl rfl rfl ?_; intro a7 hE8; clear hE6
  refine q_step (v := .int .i64 (((list).length / 2 : Nat) : Int)) hE8 (y_assign rfl) rfl rfl rfl ?_; intro a9 hE10; clear hE8
  refine c_nil ?_
  have hE11 := hE10.sub (L' := [(2, .int .i64 (((list).length / 2 : Nat) : Int))]) ⟨rfl, trivial⟩; clear hE10
  refine p_tn ?_
  refine wp_ret ?_
  have hF : F_sizeNode list = (((list).length / 2 : Nat) : Int) := by unfold F_sizeNode; rfl
  refine c_ret1 hE11 rfl rfl ?_
  exact ⟨(by rw [hF]; first | done | rfl), rfl⟩

theorem d_sizeNode (listA : Option Addr) (listN listC : Nat) (list : List Int) (w : World) (listR : RdS w 2 listA listN listC list) :
    Calls Try.prog 76 #[.slice listA listN listC] w (Ret fun v w' => v = .int .i64 ((list.length / 2 : Nat) : Int) ∧ w = w') := c_sizeNode listA listN listC list w listR


def F_l02Own (ap : List Int) : List Int :=
  ([]) ++ ap
theorem cf_l02Own (args : Array Value) (w : World) : (callFunc 145 args).run Try.prog w = .ok (.enter 145 args) w := by kernel_rfl
set_option maxRecDepth 100000 in
theorem c_l02Own (apA : Option Addr) (apN apC : Nat) (ap : List Int) (w : World) (apR : RdS w 2 apA apN apC ap) (hap : ap.length ≤ 1048576) :
    Calls Try.prog 145 #[.slice apA apN apC] w (Ret fun v w' => ∃ b1 : Option Addr, ∃ c1 : Nat, v = .slice b1 ((F_l02Own ap).length / 2 : Nat) c1 ∧ OwnS w' w.heap.size 94 2 b1 ((F_l02Own ap).length / 2 : Nat) c1 (F_l02Own ap) ∧ Ext w w') := by
  obtain rfl : apN = ap.length / 2 := (apR.lenD (by decide)).symm
  have apEv := apR.ev (by decide)
  have apLe := apR.le
  have hS := St.nil w
  have hS1 := St.rd0 hS rfl apR; clear hS
  refine enter (args := [.slice apA ((ap).length / 2 : Nat) apC]) Try.func145 rfl rfl ?_
  rw [Try.ntmps145]; intro a hE
  have hE := hE.sub (L' := [(0, .slice apA ((ap).length / 2 : Nat) apC)]) ⟨rfl, trivial⟩
  refine c_seq ?_
  refine c_reg ?_
  refine q_step (v := .slice none 0 0) hE (y_assign rfl) rfl rfl rfl ?_; intro a2 hE3; clear hE
  refine c_nil ?_
  have hE4 := hE3.sub (L' := [(0, .slice apA ((ap).length / 2 : Nat) apC)]) ⟨rfl, trivial⟩; clear hE3
  refine p_tn ?_
  refine c_seq ?_
  refine c_reg ?_
  refine l_step hE4 rfl (l_lit (e := 94) (s := 2) (xs := []) (vs := []) hS1 hE4 rfl (fun _ => by kernel_rfl) rfl rfl rfl ?_)
  intro b5 w6 hS9 he10 a7 hE8; clear hS1 hE4
  refine q_step (v := .slice apA ((ap).length / 2 : Nat) apC) hE8 (y_move rfl) rfl rfl rfl ?_; intro a11 hE12; clear hE8
  obtain ⟨_, hi1, hi2, hi3, hi4⟩ := info_parts (show (Try.prog.info? 94).map (fun i => (i.zero, i.size, i.bytes)) = some (some (.agg #[.int .i64 0, .int .i64 0]), 2, 16) by kernel_rfl)
  refine l_step hE12 rfl (l_append (k := 0) (n' := ((([]) ++ ap).length / 2 : Nat)) hS9 hE12 (by kernel_rfl) hi1 hi2 hi3 rfl (by decide) (by rw [hi4]; decide) rfl rfl rfl (St.rdR (i := 1) hS9 rfl) (by first | omega | (simp only [List.length_append, List.length_cons, List.length_nil]; omega)) (by have h1 := (St.rdO (i := 0) hS9 rfl).1; have h2 := (St.rdR (i := 1) hS9 rfl).1; simp only [List.length_append, List.length_nil, List.length_cons] at h1 h2 ⊢; omega) rfl ?_)
  intro b13 c19 w14 hS17 a15 hE16; clear hS9 hE12 hi1 hi2 hi3 hi4
  refine q_step (v := .slice b13 ((([]) ++ ap).length / 2 : Nat) c19) hE16 (y_assign rfl) rfl rfl rfl ?_; intro a20 hE21; clear hE16
  refine c_nil ?_
  have hE22 := hE21.sub (L' := [(2, .slice b13 ((([]) ++ ap).length / 2 : Nat) c19)]) ⟨rfl, trivial⟩; clear hE21
  refine p_tn ?_
  refine wp_ret ?_
  have hF : F_l02Own ap = ([]) ++ ap := by unfold F_l02Own; rfl
  refine c_ret1 hE22 rfl rfl ?_
  exact ⟨b13, c19, (by rw [hF]; first | done | rfl), (by rw [hF]; exact hS17.ok 0 _ rfl), hS17.ext⟩

theorem l02Own_len (ap : List Int) : (F_l02Own ap).length = ap.length := rfl

def F_l03Put (ap : List Int) (i : Int) (bp : List Int) : List Int :=
  ((F_l02Own (slI 2 ap (0 : Int) i)) ++ bp) ++ (slI 2 ap (F_l02Part ap i) (((ap).length / 2 : Nat) : Int))
theorem cf_l03Put (args : Array Value) (w : World) : (callFunc 85 args).run Try.prog w = .ok (.enter 85 args) w := by kernel_rfl
set_option maxRecDepth 100000 in
theorem c_l03Put (apA : Option Addr) (apN apC : Nat) (ap : List Int) (i : Int) (bpA : Option Addr) (bpN bpC : Nat) (bp : List Int) (w : World) (apR : RdS w 2 apA apN apC ap) (bpR : RdS w 2 bpA bpN bpC bp) (hap : ap.length ≤ 100) (hbp : bp.length ≤ 100) (h0 : 0 ≤ i) (h1 : i ≤ ((ap.length / 2 : Nat) : Int)) (he : i ≤ F_l02Part ap i ∧ F_l02Part ap i ≤ ((ap.length / 2 : Nat) : Int)) :
    Calls Try.prog 85 #[.slice apA apN apC, .int .i64 i, .slice bpA bpN bpC] w (Ret fun v w' => ∃ b1 : Option Addr, ∃ c1 : Nat, v = .slice b1 ((F_l03Put ap i bp).length / 2 : Nat) c1 ∧ OwnS w' w.heap.size 94 2 b1 ((F_l03Put ap i bp).length / 2 : Nat) c1 (F_l03Put ap i bp) ∧ Ext w w') := by
  obtain rfl : apN = ap.length / 2 := (apR.lenD (by decide)).symm
  have apEv := apR.ev (by decide)
  have apLe := apR.le
  obtain rfl : bpN = bp.length / 2 := (bpR.lenD (by decide)).symm
  have bpEv := bpR.ev (by decide)
  have bpLe := bpR.le
  have hl1 := slI_le 2 ap 0 i
  have hl2 := slI_le 2 ap (F_l02Part ap i) ((ap.length / 2 : Nat) : Int)
  have hS := St.nil w
  have hS1 := St.rd0 hS rfl apR; clear hS
  have hS2 := St.rd0 hS1 rfl bpR; clear hS1
  refine enter (args := [.slice apA ((ap).length / 2 : Nat) apC, .int .i64 i, .slice bpA ((bp).length / 2 : Nat) bpC]) Try.func85 rfl rfl ?_
  rw [Try.ntmps85]; intro a hE
  have hE := hE.sub (L' := [(0, .slice apA ((ap).length / 2 : Nat) apC), (1, .int .i64 i), (2, .slice bpA ((bp).length / 2 : Nat) bpC)]) ⟨rfl, rfl, rfl, trivial⟩
  refine c_seq ?_
  refine c_reg ?_
  refine q_step (v := .slice none 0 0) hE (y_assign rfl) rfl rfl rfl ?_; intro a3 hE4; clear hE
  refine c_nil ?_
  have hE5 := hE4.sub (L' := [(0, .slice apA ((ap).length / 2 : Nat) apC), (1, .int .i64 i), (2, .slice bpA ((bp).length / 2 : Nat) bpC)]) ⟨rfl, rfl, rfl, trivial⟩; clear hE4
  refine p_tn ?_
  refine c_seq ?_
  refine c_reg ?_
  refine q_step (v := .slice apA ((ap).length / 2 : Nat) apC) hE5 (y_move rfl) rfl rfl rfl ?_; intro a6 hE7; clear hE5
  refine q_step (v := .int .i64 i) hE7 (y_move rfl) rfl rfl rfl ?_; intro a8 hE9; clear hE7
  have hv11 := (St.rdR (i := 1) hS2 rfl).2.1
  have hv10 : 0 ≤ (0 : Int) ∧ (0 : Int) ≤ i ∧ i ≤ (((ap).length / 2 : Nat) : Int) := ⟨(by omega), (by omega), (by omega)⟩
  have hv12 : Int.toNat i - Int.toNat (0 : Int) = ((slI 2 ap (0 : Int) i).length / 2 : Nat) := ((slI_lenD (by decide) (St.rdR (i := 1) hS2 rfl).1 hv10.2.2)).symm
  have hv13 : Int.toNat i ≤ apC ∧ apC ≤ apC := ⟨by omega, Nat.le_refl _⟩
  refine q_step (v := .slice (subA apA (Int.toNat (0 : Int)) apC 2) ((slI 2 ap (0 : Int) i).length / 2 : Nat) (apC - Int.toNat (0 : Int))) hE9 (y_sliceH (by kernel_rfl) (fun _ => by kernel_rfl) rfl rfl hv10.2.1 (by omega) (by have h := hv12; omega)) rfl rfl rfl ?_; intro a14 hE15; clear hE9
  refine l_step hE15 rfl (l_call (f := 145) (argv := [.slice (subA apA (Int.toNat (0 : Int)) apC 2) ((slI 2 ap (0 : Int) i).length / 2 : Nat) (apC - Int.toNat (0 : Int))]) hE15 (fun _ => cf_l02Own _ _) rfl rfl (c_l02Own (subA apA (Int.toNat (0 : Int)) apC 2) ((slI 2 ap (0 : Int) i).length / 2 : Nat) (apC - Int.toNat (0 : Int)) (slI 2 ap (0 : Int) i) w (RdS.sub (St.rdR (i := 1) hS2 rfl) apC hv10.1 hv10.2.1 hv10.2.2 hv13.1 hv13.2 hv12 rfl) (by omega)) ?_)
  rintro _ w17 ⟨b22, c23, rfl, ho24, he21⟩ a18 hE19; clear hE15
  have hf25 := l02Own_len (slI 2 ap (0 : Int) i)
  have hS20 := St.own hS2 he21 ho24; clear hS2
  refine q_step (v := .slice bpA ((bp).length / 2 : Nat) bpC) hE19 (y_move rfl) rfl rfl rfl ?_; intro a26 hE27; clear hE19
  obtain ⟨_, hi1, hi2, hi3, hi4⟩ := info_parts (show (Try.prog.info? 94).map (fun i => (i.zero, i.size, i.bytes)) = some (some (.agg #[.int .i64 0, .int .i64 0]), 2, 16) by kernel_rfl)
  refine l_step hE27 rfl (l_append (k := 0) (n' := (((F_l02Own (slI 2 ap (0 : Int) i)) ++ bp).length / 2 : Nat)) hS20 hE27 (by kernel_rfl) hi1 hi2 hi3 rfl (by decide) (by rw [hi4]; decide) rfl rfl rfl (St.rdR (i := 1) hS20 rfl) (by first | omega | (simp only [List.length_append, List.length_cons, List.length_nil]; omega)) (by have h1 := (St.rdO (i := 0) hS20 rfl).1; have h2 := (St.rdR (i := 1) hS20 rfl).1; simp only [List.length_append, List.length_nil, List.length_cons] at h1 h2 ⊢; omega) rfl ?_)
  intro b28 c34 w29 hS32 a30 hE31; clear hS20 hE27 hi1 hi2 hi3 hi4
  refine q_step (v := .slice apA ((ap).length / 2 : Nat) apC) hE31 (y_move rfl) rfl rfl rfl ?_; intro a35 hE36; clear hE31
  refine q_step (v := .slice apA ((ap).length / 2 : Nat) apC) hE36 (y_move rfl) rfl rfl rfl ?_; intro a37 hE38; clear hE36
  refine q_step (v := .int .i64 i) hE38 (y_move rfl) rfl rfl rfl ?_; intro a39 hE40; clear hE38
  refine l_step hE40 rfl (l_call (f := 72) (argv := [.slice apA ((ap).length / 2 : Nat) apC, .int .i64 i]) hE40 (fun _ => cf_l02Part _ _) rfl rfl (c_l02Part apA ((ap).length / 2 : Nat) apC ap i w29 (St.rdR (i := 2) hS32 rfl) (by omega) (by omega)) ?_)
  rintro _ w42 ⟨rfl, he46⟩ a43 hE44; clear hE40
  have hS45 := St.go hS32 he46; clear hS32
  have hv48 := (St.rdR (i := 2) hS45 rfl).2.1
  have hv47 : 0 ≤ (F_l02Part ap i) ∧ (F_l02Part ap i) ≤ (((ap).length / 2 : Nat) : Int) ∧ (((ap).length / 2 : Nat) : Int) ≤ (((ap).length / 2 : Nat) : Int) := ⟨(by omega), (by omega), (by omega)⟩
  have hv49 : Int.toNat (((ap).length / 2 : Nat) : Int) - Int.toNat (F_l02Part ap i) = ((slI 2 ap (F_l02Part ap i) (((ap).length / 2 : Nat) : Int)).length / 2 : Nat) := ((slI_lenD (by decide) (St.rdR (i := 2) hS45 rfl).1 hv47.2.2)).symm
  have hv50 : Int.toNat (((ap).length / 2 : Nat) : Int) ≤ apC ∧ apC ≤ apC := ⟨by omega, Nat.le_refl _⟩
  refine q_step (v := .slice (subA apA (Int.toNat (F_l02Part ap i)) apC 2) ((slI 2 ap (F_l02Part ap i) (((ap).length / 2 : Nat) : Int)).length / 2 : Nat) (apC - Int.toNat (F_l02Part ap i))) hE44 (y_sliceL (by kernel_rfl) (fun _ => by kernel_rfl) rfl rfl hv47.1 hv47.2.1 (by have h := hv49; omega) rfl) rfl rfl rfl ?_; intro a51 hE52; clear hE44
  obtain ⟨_, hi1, hi2, hi3, hi4⟩ := info_parts (show (Try.prog.info? 94).map (fun i => (i.zero, i.size, i.bytes)) = some (some (.agg #[.int .i64 0, .int .i64 0]), 2, 16) by kernel_rfl)
  refine l_step hE52 rfl (l_append (k := 0) (n' := ((((F_l02Own (slI 2 ap (0 : Int) i)) ++ bp) ++ (slI 2 ap (F_l02Part ap i) (((ap).length / 2 : Nat) : Int))).length / 2 : Nat)) hS45 hE52 (by kernel_rfl) hi1 hi2 hi3 rfl (by decide) (by rw [hi4]; decide) rfl rfl rfl (RdS.sub (St.rdR (i := 2) hS45 rfl) apC hv47.1 hv47.2.1 hv47.2.2 hv50.1 hv50.2 hv49 rfl) (by first | omega | (simp only [List.length_append, List.length_cons, List.length_nil]; omega)) (by have h1 := (St.rdO (i := 0) hS45 rfl).1; have h2 := (RdS.sub (St.rdR (i := 2) hS45 rfl) apC hv47.1 hv47.2.1 hv47.2.2 hv50.1 hv50.2 hv49 rfl).1; simp only [List.length_append, List.length_nil, List.length_cons] at h1 h2 ⊢; omega) rfl ?_)
  intro b53 c59 w54 hS57 a55 hE56; clear hS45 hE52 hi1 hi2 hi3 hi4
  refine q_step (v := .slice b53 ((((F_l02Own (slI 2 ap (0 : Int) i)) ++ bp) ++ (slI 2 ap (F_l02Part ap i) (((ap).length / 2 : Nat) : Int))).length / 2 : Nat) c59) hE56 (y_assign rfl) rfl rfl rfl ?_; intro a60 hE61; clear hE56
  refine c_nil ?_
  have hE62 := hE61.sub (L' := [(6, .slice b53 ((((F_l02Own (slI 2 ap (0 : Int) i)) ++ bp) ++ (slI 2 ap (F_l02Part ap i) (((ap).length / 2 : Nat) : Int))).length / 2 : Nat) c59)]) ⟨rfl, trivial⟩; clear hE61
  refine p_tn ?_
  refine wp_ret ?_
  have hF : F_l03Put ap i bp = ((F_l02Own (slI 2 ap (0 : Int) i)) ++ bp) ++ (slI 2 ap (F_l02Part ap i) (((ap).length / 2 : Nat) : Int)) := by unfold F_l03Put; rfl
  refine c_ret1 hE62 rfl rfl ?_
  exact ⟨b53, c59, (by rw [hF]; first | done | rfl), (by rw [hF]; exact hS57.ok 0 _ rfl), hS57.ext⟩

theorem l03Put_len (ap : List Int) (i : Int) (bp : List Int) : (F_l03Put ap i bp).length ≤ 2 * ap.length + bp.length := by
  have h1 := slI_le 2 ap 0 i
  have h2 := slI_le 2 ap (F_l02Part ap i) ((ap.length / 2 : Nat) : Int)
  unfold F_l03Put F_l02Own
  simp only [List.length_append, List.length_nil]; omega

def F_s_ReplacePart (ap : List Int) (i : Int) (bp : List Int) : (List Int) × (Int) :=
  bif (!(F_l02Is ap)) then ([], 1) else (bif (!(F_l02Is bp)) then ([], 1) else (bif (!(F_l01In i 0 ((((ap).length / 2 : Nat) : Int) - 1))) then ([], 2) else (bif (decide (40 < (((F_l03Put ap i bp).length / 2 : Nat) : Int))) then ([], 3) else (F_l03Put ap i bp, 0))))
theorem cf_s_ReplacePart (args : Array Value) (w : World) : (callFunc 31 args).run Try.prog w = .ok (.enter 31 args) w := by kernel_rfl
set_option maxRecDepth 100000 in
theorem c_s_ReplacePart (apA : Option Addr) (apN apC : Nat) (ap : List Int) (i : Int) (bpA : Option Addr) (bpN bpC : Nat) (bp : List Int) (w : World) (apR : RdS w 2 apA apN apC ap) (bpR : RdS w 2 bpA bpN bpC bp) (hl : ap.length ≤ 4194304) (hl : bp.length ≤ 4194304) :
    Calls Try.prog 31 #[.slice apA apN apC, .int .i64 i, .slice bpA bpN bpC] w (Ret fun v w' => ∃ b1 : Option Addr, ∃ c1 : Nat, v = .tuple #[.slice b1 (((F_s_ReplacePart ap i bp).1).length / 2 : Nat) c1, .int .i64 ((F_s_ReplacePart ap i bp).2)] ∧ OwnS w' w.heap.size 94 2 b1 (((F_s_ReplacePart ap i bp).1).length / 2 : Nat) c1 ((F_s_ReplacePart ap i bp).1) ∧ Ext w w') := by
  obtain rfl : apN = ap.length / 2 := (apR.lenD (by decide)).symm
  have apEv := apR.ev (by decide)
  have apLe := apR.le
  obtain rfl : bpN = bp.length / 2 := (bpR.lenD (by decide)).symm
  have bpEv := bpR.ev (by decide)
  have bpLe := bpR.le
  have hS := St.nil w
  have hS1 := St.rd0 hS rfl apR; clear hS
  have hS2 := St.rd0 hS1 rfl bpR; clear hS1
  refine enter (args := [.slice apA ((ap).length / 2 : Nat) apC, .int .i64 i, .slice bpA ((bp).length / 2 : Nat) bpC]) Try.func31 rfl rfl ?_
  rw [Try.ntmps31]; intro a hE
  have hE := hE.sub (L' := [(0, .slice apA ((ap).length / 2 : Nat) apC), (1, .int .i64 i), (2, .slice bpA ((bp).length / 2 : Nat) bpC)]) ⟨rfl, rfl, rfl, trivial⟩
  refine c_seq ?_
  refine c_reg ?_
  refine q_step (v := .slice none 0 0) hE (y_assign rfl) rfl rfl rfl ?_; intro a3 hE4; clear hE
  refine q_step (v := .int .i64 0) hE4 (y_assign rfl) rfl rfl rfl ?_; intro a5 hE6; clear hE4
  refine c_nil ?_
  have hE7 := hE6.sub (L' := [(0, .slice apA ((ap).length / 2 : Nat) apC), (1, .int .i64 i), (2, .slice bpA ((bp).length / 2 : Nat) bpC)]) ⟨rfl, rfl, rfl, trivial⟩; clear hE6
  refine p_tn ?_
  refine c_seq ?_
  refine c_seq ?_
  refine c_reg ?_
  refine q_step (v := .slice apA ((ap).length / 2 : Nat) apC) hE7 (y_move rfl) rfl rfl rfl ?_; intro a8 hE9; clear hE7
  refine l_step hE9 rfl (l_call (f := 70) (argv := [.slice apA ((ap).length / 2 : Nat) apC]) hE9 (fun _ => cf_l02Is _ _) rfl rfl (c_l02Is apA ((ap).length / 2 : Nat) apC ap w (St.rdR (i := 1) hS2 rfl) (by omega)) ?_)
  rintro _ w11 ⟨rfl, he15⟩ a12 hE13; clear hE9
  have hS14 := St.go hS2 he15; clear hS2
  refine q_step (v := .bool (!(F_l02Is ap))) hE13 (y_not rfl) rfl rfl rfl ?_; intro a16 hE17; clear hE13
  refine q_step (v := .bool (!(F_l02Is ap))) hE17 (y_move rfl) rfl rfl rfl ?_; intro a18 hE19; clear hE17
  rcases Bool.eq_false_or_eq_true (!(F_l02Is ap)) with hb20 | hb20
  ·
    have hE21 := hE19; (try rw [hb20] at hE21); clear hE19
    have ht22 := bn_t hb20
    refine q_skip hE21 rfl rfl rfl ?_; intro a23 hE24; clear hE21
    refine q_skip hE24 rfl rfl rfl ?_; intro a25 hE26; clear hE24
    refine q_skip hE26 rfl rfl rfl ?_; intro a27 hE28; clear hE26
    refine q_step (v := .bool true) hE28 (y_pick (b := true) rfl rfl) rfl rfl rfl ?_; intro a29 hE30; clear hE28
    refine c_nil ?_
    have hE31 := hE30.sub (L' := [(0, .slice apA ((ap).length / 2 : Nat) apC), (1, .int .i64 i), (2, .slice bpA ((bp).length / 2 : Nat) bpC), (17, .bool true)]) ⟨rfl, rfl, rfl, rfl, trivial⟩; clear hE30
    refine p_tn ?_
    refine c_true hE31 rfl ?_
    refine c_seq ?_
    refine c_reg ?_
    refine q_step (v := .slice none 0 0) hE31 (y_assign rfl) rfl rfl rfl ?_; intro a32 hE33; clear hE31
    refine q_step (v := .int .i64 1) hE33 (y_assign rfl) rfl rfl rfl ?_; intro a34 hE35; clear hE33
    refine c_nil ?_
    have hE36 := hE35.sub (L' := [(6, .slice none 0 0), (7, .int .i64 1)]) ⟨rfl, rfl, trivial⟩; clear hE35
    refine p_tn ?_
    refine wp_ret ?_
    refine p_tr ?_
    have hF : F_s_ReplacePart ap i bp = ([], 1) := by unfold F_s_ReplacePart; rw [hb20]; first | done | rfl
    refine c_ret2 hE36 rfl rfl rfl ?_
    exact ⟨none, 0, (by rw [hF]; first | done | rfl), (by rw [hF]; exact OwnS.nilS _ _ _ _), hS14.ext⟩
  ·
    have hE37 := hE19; (try rw [hb20] at hE37); clear hE19
    have ht38 := bn_f hb20
    have hp39 := l02Is_t ht38
    refine q_step (v := .slice bpA ((bp).length / 2 : Nat) bpC) hE37 (y_move rfl) rfl rfl rfl ?_; intro a40 hE41; clear hE37
    refine l_step hE41 rfl (l_call (f := 70) (argv := [.slice bpA ((bp).length / 2 : Nat) bpC]) hE41 (fun _ => cf_l02Is _ _) rfl rfl (c_l02Is bpA ((bp).length / 2 : Nat) bpC bp w11 (St.rdR (i := 0) hS14 rfl) (by omega)) ?_)
    rintro _ w43 ⟨rfl, he47⟩ a44 hE45; clear hE41
    have hS46 := St.go hS14 he47; clear hS14
    refine q_step (v := .bool (!(F_l02Is bp))) hE45 (y_not rfl) rfl rfl rfl ?_; intro a48 hE49; clear hE45
    refine q_step (v := .bool (!(F_l02Is bp))) hE49 (y_pick (b := false) rfl rfl) rfl rfl rfl ?_; intro a50 hE51; clear hE49
    refine c_nil ?_
    have hE52 := hE51.sub (L' := [(0, .slice apA ((ap).length / 2 : Nat) apC), (1, .int .i64 i), (2, .slice bpA ((bp).length / 2 : Nat) bpC), (17, .bool (!(F_l02Is bp)))]) ⟨rfl, rfl, rfl, rfl, trivial⟩; clear hE51
    refine p_tn ?_
    refine c_cond hE52 rfl (fun ht53 => ?_) (fun ht53 => ?_)
    ·
      have ht54 := bn_t ht53
      have hE55 := hE52; rw [ht53] at hE55; clear hE52
      refine c_seq ?_
      refine c_reg ?_
      refine q_step (v := .slice none 0 0) hE55 (y_assign rfl) rfl rfl rfl ?_; intro a56 hE57; clear hE55
      refine q_step (v := .int .i64 1) hE57 (y_assign rfl) rfl rfl rfl ?_; intro a58 hE59; clear hE57
      refine c_nil ?_
      have hE60 := hE59.sub (L' := [(6, .slice none 0 0), (7, .int .i64 1)]) ⟨rfl, rfl, trivial⟩; clear hE59
      refine p_tn ?_
      refine wp_ret ?_
      refine p_tr ?_
      have hF : F_s_ReplacePart ap i bp = ([], 1) := by unfold F_s_ReplacePart; rw [ht53, hb20]; first | done | rfl
      refine c_ret2 hE60 rfl rfl rfl ?_
      exact ⟨none, 0, (by rw [hF]; first | done | rfl), (by rw [hF]; exact OwnS.nilS _ _ _ _), hS46.ext⟩
    ·
      have ht61 := bn_f ht53
      have hp62 := l02Is_t ht61
      have hE63 := hE52; rw [ht53] at hE63; clear hE52
      refine wp_skip ?_
      refine p_tn ?_
      refine c_seq ?_
      refine c_seq ?_
      refine c_reg ?_
      refine q_step (v := .int .i64 i) hE63 (y_move rfl) rfl rfl rfl ?_; intro a64 hE65; clear hE63
      refine q_step (v := .slice apA ((ap).length / 2 : Nat) apC) hE65 (y_move rfl) rfl rfl rfl ?_; intro a66 hE67; clear hE65
      refine q_step (v := .int .i64 (((ap).length / 2 : Nat) : Int)) hE67 (y_len (e := 94) (by kernel_rfl) rfl) rfl rfl rfl ?_; intro a68 hE69; clear hE67
      refine q_step (v := .int .i64 ((((ap).length / 2 : Nat) : Int) - 1)) hE69 (y_sub rfl rfl ⟨(by omega), (by omega)⟩) rfl rfl rfl ?_; intro a70 hE71; clear hE69
      refine l_step hE71 rfl (l_call (f := 71) (argv := [.int .i64 i, .int .i64 0, .int .i64 ((((ap).length / 2 : Nat) : Int) - 1)]) hE71 (fun _ => cf_l01In _ _) rfl rfl (c_l01In i 0 ((((ap).length / 2 : Nat) : Int) - 1) w43) ?_)
      rintro _ _ ⟨rfl, rfl⟩ a74 hE75; clear hE71
      refine q_step (v := .bool (!(F_l01In i 0 ((((ap).length / 2 : Nat) : Int) - 1)))) hE75 (y_not rfl) rfl rfl rfl ?_; intro a78 hE79; clear hE75
      refine c_nil ?_
      have hE80 := hE79.sub (L' := [(0, .slice apA ((ap).length / 2 : Nat) apC), (1, .int .i64 i), (2, .slice bpA ((bp).length / 2 : Nat) bpC), (23, .bool (!(F_l01In i 0 ((((ap).length / 2 : Nat) : Int) - 1))))]) ⟨rfl, rfl, rfl, rfl, trivial⟩; clear hE79
      refine p_tn ?_
      refine c_cond hE80 rfl (fun ht81 => ?_) (fun ht81 => ?_)
      ·
        have ht82 := bn_t ht81
        have hE83 := hE80; rw [ht81] at hE83; clear hE80
        refine c_seq ?_
        refine c_reg ?_
        refine q_step (v := .slice none 0 0) hE83 (y_assign rfl) rfl rfl rfl ?_; intro a84 hE85; clear hE83
        refine q_step (v := .int .i64 2) hE85 (y_assign rfl) rfl rfl rfl ?_; intro a86 hE87; clear hE85
        refine c_nil ?_
        have hE88 := hE87.sub (L' := [(6, .slice none 0 0), (7, .int .i64 2)]) ⟨rfl, rfl, trivial⟩; clear hE87
        refine p_tn ?_
        refine wp_ret ?_
        refine p_tr ?_
        have hF : F_s_ReplacePart ap i bp = ([], 2) := by unfold F_s_ReplacePart; rw [ht81, ht53, hb20]; first | done | rfl
        refine c_ret2 hE88 rfl rfl rfl ?_
        exact ⟨none, 0, (by rw [hF]; first | done | rfl), (by rw [hF]; exact OwnS.nilS _ _ _ _), hS46.ext⟩
      ·
        have ht89 := bn_f ht81
        have hp90 := F_l01In_t ht89
        have hE91 := hE80; rw [ht81] at hE91; clear hE80
        refine wp_skip ?_
        refine p_tn ?_
        refine c_seq ?_
        refine c_reg ?_
        refine q_step (v := .slice apA ((ap).length / 2 : Nat) apC) hE91 (y_move rfl) rfl rfl rfl ?_; intro a92 hE93; clear hE91
        refine q_step (v := .int .i64 i) hE93 (y_move rfl) rfl rfl rfl ?_; intro a94 hE95; clear hE93
        refine q_step (v := .slice bpA ((bp).length / 2 : Nat) bpC) hE95 (y_move rfl) rfl rfl rfl ?_; intro a96 hE97; clear hE95
        refine l_step hE97 rfl (l_call (f := 85) (argv := [.slice apA ((ap).length / 2 : Nat) apC, .int .i64 i, .slice bpA ((bp).length / 2 : Nat) bpC]) hE97 (fun _ => cf_l03Put _ _) rfl rfl (c_l03Put apA ((ap).length / 2 : Nat) apC ap i bpA ((bp).length / 2 : Nat) bpC bp w43 (St.rdR (i := 1) hS46 rfl) (St.rdR (i := 0) hS46 rfl) (by omega) (by omega) (by omega) (by omega) (l02Part_in (by assumption) (by omega) (by omega))) ?_)
        rintro _ w99 ⟨b104, c105, rfl, ho106, he103⟩ a100 hE101; clear hE97
        have hf107 := l03Put_len ap i bp
        have hS102 := St.own hS46 he103 ho106; clear hS46
        rcases Bool.eq_false_or_eq_true (decide (40 < (((F_l03Put ap i bp).length / 2 : Nat) : Int))) with hb108 | hb108
        ·
          have hE109 := hE101; (try rw [hb108] at hE109); clear hE101
          have hp110 := of_decide_eq_true hb108
          refine l_step hE109 rfl (l_call (f := 81) (argv := [.slice b104 ((F_l03Put ap i bp).length / 2 : Nat) c105]) hE109 (fun _ => cf_l02Made_f _ _) rfl rfl (d_l02Made_t b104 ((F_l03Put ap i bp).length / 2 : Nat) c105 (F_l03Put ap i bp) w99 (St.rdO (i := 0) hS102 rfl) hb108) ?_)
          rintro _ _ ⟨rfl, rfl⟩ a113 hE114; clear hE109
          refine q_step (v := .tuple #[.slice none 0 0, .int .i64 3]) hE114 (y_move rfl) rfl rfl rfl ?_; intro a117 hE118; clear hE114
          refine q_step (v := .slice none 0 0) hE118 (y_extract rfl rfl) rfl rfl rfl ?_; intro a119 hE120; clear hE118
          refine q_step (v := .int .i64 3) hE120 (y_extract rfl rfl) rfl rfl rfl ?_; intro a121 hE122; clear hE120
          refine q_step (v := .slice none 0 0) hE122 (y_assign rfl) rfl rfl rfl ?_; intro a123 hE124; clear hE122
          refine q_step (v := .int .i64 3) hE124 (y_assign rfl) rfl rfl rfl ?_; intro a125 hE126; clear hE124
          refine c_nil ?_
          have hE127 := hE126.sub (L' := [(8, .slice none 0 0), (9, .int .i64 3)]) ⟨rfl, rfl, trivial⟩; clear hE126
          refine p_tn ?_
          refine c_seq ?_
          refine c_reg ?_
          refine q_step (v := .slice none 0 0) hE127 (y_move rfl) rfl rfl rfl ?_; intro a128 hE129; clear hE127
          refine q_step (v := .int .i64 3) hE129 (y_move rfl) rfl rfl rfl ?_; intro a130 hE131; clear hE129
          refine q_step (v := .slice none 0 0) hE131 (y_assign rfl) rfl rfl rfl ?_; intro a132 hE133; clear hE131
          refine q_step (v := .int .i64 3) hE133 (y_assign rfl) rfl rfl rfl ?_; intro a134 hE135; clear hE133
          refine c_nil ?_
          have hE136 := hE135.sub (L' := [(6, .slice none 0 0), (7, .int .i64 3)]) ⟨rfl, rfl, trivial⟩; clear hE135
          refine p_tn ?_
          refine wp_ret ?_
          have hF : F_s_ReplacePart ap i bp = ([], 3) := by unfold F_s_ReplacePart; rw [hb108, ht81, ht53, hb20]; first | done | rfl
          refine c_ret2 hE136 rfl rfl rfl ?_
          exact ⟨none, 0, (by rw [hF]; first | done | rfl), (by rw [hF]; exact OwnS.nilS _ _ _ _), hS102.ext⟩
        ·
          have hE137 := hE101; (try rw [hb108] at hE137); clear hE101
          have hp138 := of_decide_eq_false hb108
          refine l_step hE137 rfl (l_call (f := 81) (argv := [.slice b104 ((F_l03Put ap i bp).length / 2 : Nat) c105]) hE137 (fun _ => cf_l02Made_f _ _) rfl rfl (d_l02Made_f b104 ((F_l03Put ap i bp).length / 2 : Nat) c105 (F_l03Put ap i bp) w99 (St.rdO (i := 0) hS102 rfl) hb108) ?_)
          rintro _ _ ⟨rfl, rfl⟩ a141 hE142; clear hE137
          refine q_step (v := .tuple #[.slice b104 ((F_l03Put ap i bp).length / 2 : Nat) c105, .int .i64 0]) hE142 (y_move rfl) rfl rfl rfl ?_; intro a145 hE146; clear hE142
          refine q_step (v := .slice b104 ((F_l03Put ap i bp).length / 2 : Nat) c105) hE146 (y_extract rfl rfl) rfl rfl rfl ?_; intro a147 hE148; clear hE146
          refine q_step (v := .int .i64 0) hE148 (y_extract rfl rfl) rfl rfl rfl ?_; intro a149 hE150; clear hE148
          refine q_step (v := .slice b104 ((F_l03Put ap i bp).length / 2 : Nat) c105) hE150 (y_assign rfl) rfl rfl rfl ?_; intro a151 hE152; clear hE150
          refine q_step (v := .int .i64 0) hE152 (y_assign rfl) rfl rfl rfl ?_; intro a153 hE154; clear hE152
          refine c_nil ?_
          have hE155 := hE154.sub (L' := [(8, .slice b104 ((F_l03Put ap i bp).length / 2 : Nat) c105), (9, .int .i64 0)]) ⟨rfl, rfl, trivial⟩; clear hE154
          refine p_tn ?_
          refine c_seq ?_
          refine c_reg ?_
          refine q_step (v := .slice b104 ((F_l03Put ap i bp).length / 2 : Nat) c105) hE155 (y_move rfl) rfl rfl rfl ?_; intro a156 hE157; clear hE155
          refine q_step (v := .int .i64 0) hE157 (y_move rfl) rfl rfl rfl ?_; intro a158 hE159; clear hE157
          refine q_step (v := .slice b104 ((F_l03Put ap i bp).length / 2 : Nat) c105) hE159 (y_assign rfl) rfl rfl rfl ?_; intro a160 hE161; clear hE159
          refine q_step (v := .int .i64 0) hE161 (y_assign rfl) rfl rfl rfl ?_; intro a162 hE163; clear hE161
          refine c_nil ?_
          have hE164 := hE163.sub (L' := [(6, .slice b104 ((F_l03Put ap i bp).length / 2 : Nat) c105), (7, .int .i64 0)]) ⟨rfl, rfl, trivial⟩; clear hE163
          refine p_tn ?_
          refine wp_ret ?_
          have hF : F_s_ReplacePart ap i bp = (F_l03Put ap i bp, 0) := by unfold F_s_ReplacePart; rw [hb108, ht81, ht53, hb20]; first | done | rfl
          refine c_ret2 hE164 rfl rfl rfl ?_
          exact ⟨b104, c105, (by rw [hF]; first | done | rfl), (by rw [hF]; exact hS102.ok 0 _ rfl), hS102.ext⟩

def F_ReplacePart (ap : List Int) (i : Int) (bp : List Int) : (List Int) × (Int) :=
  bif (!(F_areFormulas ([ap, bp]))) then ([], 1) else (bif (!(F_inRange i 0 (((ap.length / 2 : Nat) : Int) - 1))) then ([], 2) else (bif (decide (40 < (((F_z_ConcatNode ([slI 2 ap (0 : Int) i, bp, slI 2 ap (F_partEnd ap i) (((ap).length / 2 : Nat) : Int)])).length / 2 : Nat) : Int))) then ([], 3) else (F_z_ConcatNode ([slI 2 ap (0 : Int) i, bp, slI 2 ap (F_partEnd ap i) (((ap).length / 2 : Nat) : Int)]), 0)))
theorem cf_ReplacePart (args : Array Value) (w : World) : (callFunc 32 args).run Try.prog w = .ok (.enter 32 args) w := by kernel_rfl
set_option maxRecDepth 100000 in
theorem c_ReplacePart (apA : Option Addr) (apN apC : Nat) (ap : List Int) (i : Int) (bpA : Option Addr) (bpN bpC : Nat) (bp : List Int) (w : World) (apR : RdS w 2 apA apN apC ap) (bpR : RdS w 2 bpA bpN bpC bp) (hl : ap.length ≤ 4194304) (hl : bp.length ≤ 4194304) :
    Calls Try.prog 32 #[.slice apA apN apC, .int .i64 i, .slice bpA bpN bpC] w (Ret fun v w' => ∃ b1 : Option Addr, ∃ c1 : Nat, v = .tuple #[.slice b1 (((F_ReplacePart ap i bp).1).length / 2 : Nat) c1, .int .i64 ((F_ReplacePart ap i bp).2)] ∧ OwnS w' w.heap.size 94 2 b1 (((F_ReplacePart ap i bp).1).length / 2 : Nat) c1 ((F_ReplacePart ap i bp).1) ∧ Ext w w') := by
  obtain rfl : apN = ap.length / 2 := (apR.lenD (by decide)).symm
  have apEv := apR.ev (by decide)
  have apLe := apR.le
  obtain rfl : bpN = bp.length / 2 := (bpR.lenD (by decide)).symm
  have bpEv := bpR.ev (by decide)
  have bpLe := bpR.le
  have hS := St.nil w
  have hS1 := St.rd0 hS rfl apR; clear hS
  have hS2 := St.rd0 hS1 rfl bpR; clear hS1
  refine enter (args := [.slice apA ((ap).length / 2 : Nat) apC, .int .i64 i, .slice bpA ((bp).length / 2 : Nat) bpC]) Try.func32 rfl rfl ?_
  rw [Try.ntmps32]; intro a hE
  have hE := hE.sub (L' := [(0, .slice apA ((ap).length / 2 : Nat) apC), (1, .int .i64 i), (2, .slice bpA ((bp).length / 2 : Nat) bpC)]) ⟨rfl, rfl, rfl, trivial⟩
  refine c_seq ?_
  refine c_reg ?_
  refine q_step (v := .slice none 0 0) hE (y_assign rfl) rfl rfl rfl ?_; intro a3 hE4; clear hE
  refine q_step (v := .int .i64 0) hE4 (y_assign rfl) rfl rfl rfl ?_; intro a5 hE6; clear hE4
  refine c_nil ?_
  have hE7 := hE6.sub (L' := [(0, .slice apA ((ap).length / 2 : Nat) apC), (1, .int .i64 i), (2, .slice bpA ((bp).length / 2 : Nat) bpC)]) ⟨rfl, rfl, rfl, trivial⟩; clear hE6
  refine p_tn ?_
  refine c_seq ?_
  refine wp_block ?_
  refine c_seq ?_
  refine c_reg ?_
  refine q_step (v := .slice apA ((ap).length / 2 : Nat) apC) hE7 (y_move rfl) rfl rfl rfl ?_; intro a8 hE9; clear hE7
  refine q_step (v := .slice bpA ((bp).length / 2 : Nat) bpC) hE9 (y_move rfl) rfl rfl rfl ?_; intro a10 hE11; clear hE9
  refine l_step hE11 rfl (l_litN (e := 32) (s := 2) (rows := [(⟨apA, ((ap).length / 2 : Nat), apC⟩, ap), (⟨bpA, ((bp).length / 2 : Nat), bpC⟩, bp)]) (hs := [⟨apA, ((ap).length / 2 : Nat), apC⟩, ⟨bpA, ((bp).length / 2 : Nat), bpC⟩]) (xss := [ap, bp]) (vs := [.slice apA ((ap).length / 2 : Nat) apC, .slice bpA ((bp).length / 2 : Nat) bpC]) hS2 hE11 rfl rfl rfl rfl (fun _ => by kernel_rfl) ⟨⟨(St.rdR (i := 1) hS2 rfl), (St.robR (i := 1) hS2 rfl)⟩, ⟨(St.rdR (i := 0) hS2 rfl), (St.robR (i := 0) hS2 rfl)⟩, trivial⟩ rfl rfl rfl ?_)
  intro b12 w13 hS16 he17 a14 hE15; clear hS2 hE11
  refine l_step hE15 rfl (l_call (f := 86) (argv := [.slice (some ⟨b12, 0, none⟩) 2 2]) hE15 (fun _ => cf_areFormulas _ _) rfl rfl (c_areFormulas (some ⟨b12, 0, none⟩) 2 2 ([⟨apA, ((ap).length / 2 : Nat), apC⟩, ⟨bpA, ((bp).length / 2 : Nat), bpC⟩]) ([ap, bp]) w13 (St.rdNo (i := 0) hS16 rfl) (by simp) (rows_le2 (by omega) (by omega))) ?_)
  rintro _ w19 ⟨rfl, he23⟩ a20 hE21; clear hE15
  have hS22 := St.go hS16 he23; clear hS16
  refine q_step (v := .bool (!(F_areFormulas ([ap, bp])))) hE21 (y_not rfl) rfl rfl rfl ?_; intro a24 hE25; clear hE21
  refine q_step (v := .bool (!(F_areFormulas ([ap, bp])))) hE25 (y_assign rfl) rfl rfl rfl ?_; intro a26 hE27; clear hE25
  refine c_nil ?_
  have hE28 := hE27.sub (L' := [(0, .slice apA ((ap).length / 2 : Nat) apC), (1, .int .i64 i), (2, .slice bpA ((bp).length / 2 : Nat) bpC), (8, .bool (!(F_areFormulas ([ap, bp]))))]) ⟨rfl, rfl, rfl, rfl, trivial⟩; clear hE27
  refine p_tn ?_
  refine c_cond hE28 rfl (fun ht29 => ?_) (fun ht29 => ?_)
  ·
    have ht30 := bn_t ht29
    have hE31 := hE28; rw [ht29] at hE31; clear hE28
    refine c_seq ?_
    refine c_reg ?_
    refine q_step (v := .slice none 0 0) hE31 (y_assign rfl) rfl rfl rfl ?_; intro a32 hE33; clear hE31
    refine q_step (v := .int .i64 1) hE33 (y_assign rfl) rfl rfl rfl ?_; intro a34 hE35; clear hE33
    refine c_nil ?_
    have hE36 := hE35.sub (L' := [(6, .slice none 0 0), (7, .int .i64 1)]) ⟨rfl, rfl, trivial⟩; clear hE35
    refine p_tn ?_
    refine wp_ret ?_
    refine p_br ?_
    refine p_tr ?_
    have hF : F_ReplacePart ap i bp = ([], 1) := by unfold F_ReplacePart; rw [ht29]; first | done | rfl
    refine c_ret2 hE36 rfl rfl rfl ?_
    exact ⟨none, 0, (by rw [hF]; first | done | rfl), (by rw [hF]; exact OwnS.nilS _ _ _ _), hS22.ext⟩
  ·
    have ht37 := bn_f ht29
    have hp38 := areFormulas2_t ht37
    have hE39 := hE28; rw [ht29] at hE39; clear hE28
    refine c_seq ?_
    refine c_reg ?_
    refine q_step (v := .int .i64 i) hE39 (y_move rfl) rfl rfl rfl ?_; intro a40 hE41; clear hE39
    refine q_step (v := .slice apA ((ap).length / 2 : Nat) apC) hE41 (y_move rfl) rfl rfl rfl ?_; intro a42 hE43; clear hE41
    refine l_step hE43 rfl (l_call (f := 76) (argv := [.slice apA ((ap).length / 2 : Nat) apC]) hE43 (fun _ => cf_sizeNode _ _) rfl rfl (d_sizeNode apA ((ap).length / 2 : Nat) apC ap w19 (St.rdR (i := 2) hS22 rfl)) ?_)
    rintro _ _ ⟨rfl, rfl⟩ a46 hE47; clear hE43
    refine q_step (v := .int .i64 (((ap.length / 2 : Nat) : Int) - 1)) hE47 (y_sub rfl rfl ⟨(by omega), (by omega)⟩) rfl rfl rfl ?_; intro a50 hE51; clear hE47
    refine l_step hE51 rfl (l_call (f := 75) (argv := [.int .i64 i, .int .i64 0, .int .i64 (((ap.length / 2 : Nat) : Int) - 1)]) hE51 (fun _ => cf_inRange _ _) rfl rfl (c_inRange i 0 (((ap.length / 2 : Nat) : Int) - 1) w19) ?_)
    rintro _ _ ⟨rfl, rfl⟩ a54 hE55; clear hE51
    refine q_step (v := .bool (!(F_inRange i 0 (((ap.length / 2 : Nat) : Int) - 1)))) hE55 (y_not rfl) rfl rfl rfl ?_; intro a58 hE59; clear hE55
    refine q_step (v := .bool (!(F_inRange i 0 (((ap.length / 2 : Nat) : Int) - 1)))) hE59 (y_assign rfl) rfl rfl rfl ?_; intro a60 hE61; clear hE59
    refine c_nil ?_
    have hE62 := hE61.sub (L' := [(0, .slice apA ((ap).length / 2 : Nat) apC), (1, .int .i64 i), (2, .slice bpA ((bp).length / 2 : Nat) bpC), (14, .bool (!(F_inRange i 0 (((ap.length / 2 : Nat) : Int) - 1))))]) ⟨rfl, rfl, rfl, rfl, trivial⟩; clear hE61
    refine p_tn ?_
    refine c_cond hE62 rfl (fun ht63 => ?_) (fun ht63 => ?_)
    ·
      have ht64 := bn_t ht63
      have hE65 := hE62; rw [ht63] at hE65; clear hE62
      refine c_seq ?_
      refine c_reg ?_
      refine q_step (v := .slice none 0 0) hE65 (y_assign rfl) rfl rfl rfl ?_; intro a66 hE67; clear hE65
      refine q_step (v := .int .i64 2) hE67 (y_assign rfl) rfl rfl rfl ?_; intro a68 hE69; clear hE67
      refine c_nil ?_
      have hE70 := hE69.sub (L' := [(6, .slice none 0 0), (7, .int .i64 2)]) ⟨rfl, rfl, trivial⟩; clear hE69
      refine p_tn ?_
      refine wp_ret ?_
      refine p_br ?_
      refine p_tr ?_
      have hF : F_ReplacePart ap i bp = ([], 2) := by unfold F_ReplacePart; rw [ht63, ht29]; first | done | rfl
      refine c_ret2 hE70 rfl rfl rfl ?_
      exact ⟨none, 0, (by rw [hF]; first | done | rfl), (by rw [hF]; exact OwnS.nilS _ _ _ _), hS22.ext⟩
    ·
      have ht71 := bn_f ht63
      have hp72 := F_inRange_t ht71
      have hE73 := hE62; rw [ht63] at hE73; clear hE62
      refine wp_skip ?_
      refine p_bn ?_
      refine p_tn ?_
      refine c_seq ?_
      refine d_start (fun _ _ => True) [] 16 (by kernel_rfl) rfl ?_
      intro w74 he75; have hS76 := St.go hS22 he75; clear hS22
      refine d_pure (fun _ => trivial) (v := .slice apA ((ap).length / 2 : Nat) apC) 0 rfl hE73 (y_move rfl) rfl (by kernel_rfl) (by kernel_rfl) (by kernel_rfl) rfl rfl (fun _ _ _ h => h) ?_; intro a77 hE78; clear hE73
      refine d_pure (fun _ => trivial) (v := .int .i64 i) 1 rfl hE78 (y_move rfl) rfl (by kernel_rfl) (by kernel_rfl) (by kernel_rfl) rfl rfl (fun _ _ _ h => h) ?_; intro a79 hE80; clear hE78
      have hv82 := (St.rdR (i := 2) hS76 rfl).2.1
      have hv81 : 0 ≤ (0 : Int) ∧ (0 : Int) ≤ i ∧ i ≤ (((ap).length / 2 : Nat) : Int) := ⟨(by omega), (by omega), (by omega)⟩
      have hv83 : Int.toNat i - Int.toNat (0 : Int) = ((slI 2 ap (0 : Int) i).length / 2 : Nat) := ((slI_lenD (by decide) (St.rdR (i := 2) hS76 rfl).1 hv81.2.2)).symm
      have hv84 : Int.toNat i ≤ apC ∧ apC ≤ apC := ⟨by omega, Nat.le_refl _⟩
      refine d_pure (fun _ => trivial) (v := .slice (subA apA (Int.toNat (0 : Int)) apC 2) ((slI 2 ap (0 : Int) i).length / 2 : Nat) (apC - Int.toNat (0 : Int))) 2 rfl hE80 (y_sliceH (by kernel_rfl) (fun _ => by kernel_rfl) rfl rfl hv81.2.1 (by omega) (by have h := hv83; omega)) rfl (by kernel_rfl) (by kernel_rfl) (by kernel_rfl) rfl rfl (fun _ _ _ h => h) ?_; intro a85 hE86; clear hE80
      refine d_pure (fun _ => trivial) (v := .slice bpA ((bp).length / 2 : Nat) bpC) 3 rfl hE86 (y_move rfl) rfl (by kernel_rfl) (by kernel_rfl) (by kernel_rfl) rfl rfl (fun _ _ _ h => h) ?_; intro a87 hE88; clear hE86
      refine d_pure (fun _ => trivial) (v := .slice apA ((ap).length / 2 : Nat) apC) 4 rfl hE88 (y_move rfl) rfl (by kernel_rfl) (by kernel_rfl) (by kernel_rfl) rfl rfl (fun _ _ _ h => h) ?_; intro a89 hE90; clear hE88
      refine d_pure (fun _ => trivial) (v := .slice apA ((ap).length / 2 : Nat) apC) 5 rfl hE90 (y_move rfl) rfl (by kernel_rfl) (by kernel_rfl) (by kernel_rfl) rfl rfl (fun _ _ _ h => h) ?_; intro a91 hE92; clear hE90
      refine d_pure (fun _ => trivial) (v := .int .i64 i) 6 rfl hE92 (y_move rfl) rfl (by kernel_rfl) (by kernel_rfl) (by kernel_rfl) rfl rfl (fun _ _ _ h => h) ?_; intro a93 hE94; clear hE92
      refine d_only 7 (by kernel_rfl) rfl hE94 rfl (l_call (f := 77) (argv := [.slice apA ((ap).length / 2 : Nat) apC, .int .i64 i]) hE94 (fun _ => cf_partEnd _ _) rfl rfl (c_partEnd apA ((ap).length / 2 : Nat) apC ap i w74 (St.rdR (i := 2) hS76 rfl) (by omega) (by omega)) ?_)
      rintro _ w96 ⟨rfl, he100⟩ a97 hE98; clear hE94
      have hpe := partEnd_in (ap := ap) (i := i) (areFormulas2_t (by assumption)).2.2.1 (by omega) (by omega)
      have hl1 := slI_le 2 ap 0 i
      have hl2 := slI_le 2 ap (F_partEnd ap i) ((ap.length / 2 : Nat) : Int)
      have hS99 := St.go hS76 he100; clear hS76
      refine ⟨fun _ => trivial, ?_⟩
      have hv102 := (St.rdR (i := 2) hS99 rfl).2.1
      have hv101 : 0 ≤ (F_partEnd ap i) ∧ (F_partEnd ap i) ≤ (((ap).length / 2 : Nat) : Int) ∧ (((ap).length / 2 : Nat) : Int) ≤ (((ap).length / 2 : Nat) : Int) := ⟨(by omega), (by omega), (by omega)⟩
      have hv103 : Int.toNat (((ap).length / 2 : Nat) : Int) - Int.toNat (F_partEnd ap i) = ((slI 2 ap (F_partEnd ap i) (((ap).length / 2 : Nat) : Int)).length / 2 : Nat) := ((slI_lenD (by decide) (St.rdR (i := 2) hS99 rfl).1 hv101.2.2)).symm
      have hv104 : Int.toNat (((ap).length / 2 : Nat) : Int) ≤ apC ∧ apC ≤ apC := ⟨by omega, Nat.le_refl _⟩
      refine d_pure (fun _ => trivial) (v := .slice (subA apA (Int.toNat (F_partEnd ap i)) apC 2) ((slI 2 ap (F_partEnd ap i) (((ap).length / 2 : Nat) : Int)).length / 2 : Nat) (apC - Int.toNat (F_partEnd ap i))) 8 rfl hE98 (y_sliceL (by kernel_rfl) (fun _ => by kernel_rfl) rfl rfl hv101.1 hv101.2.1 (by have h := hv103; omega) rfl) rfl (by kernel_rfl) (by kernel_rfl) (by kernel_rfl) rfl rfl (fun _ _ _ h => h) ?_; intro a105 hE106; clear hE98
      refine d_only 9 (by kernel_rfl) rfl hE106 rfl (l_litN (e := 32) (s := 2) (rows := [(⟨subA apA (Int.toNat (0 : Int)) apC 2, ((slI 2 ap (0 : Int) i).length / 2 : Nat), apC - Int.toNat (0 : Int)⟩, slI 2 ap (0 : Int) i), (⟨bpA, ((bp).length / 2 : Nat), bpC⟩, bp), (⟨subA apA (Int.toNat (F_partEnd ap i)) apC 2, ((slI 2 ap (F_partEnd ap i) (((ap).length / 2 : Nat) : Int)).length / 2 : Nat), apC - Int.toNat (F_partEnd ap i)⟩, slI 2 ap (F_partEnd ap i) (((ap).length / 2 : Nat) : Int))]) (hs := [⟨subA apA (Int.toNat (0 : Int)) apC 2, ((slI 2 ap (0 : Int) i).length / 2 : Nat), apC - Int.toNat (0 : Int)⟩, ⟨bpA, ((bp).length / 2 : Nat), bpC⟩, ⟨subA apA (Int.toNat (F_partEnd ap i)) apC 2, ((slI 2 ap (F_partEnd ap i) (((ap).length / 2 : Nat) : Int)).length / 2 : Nat), apC - Int.toNat (F_partEnd ap i)⟩]) (xss := [slI 2 ap (0 : Int) i, bp, slI 2 ap (F_partEnd ap i) (((ap).length / 2 : Nat) : Int)]) (vs := [.slice (subA apA (Int.toNat (0 : Int)) apC 2) ((slI 2 ap (0 : Int) i).length / 2 : Nat) (apC - Int.toNat (0 : Int)), .slice bpA ((bp).length / 2 : Nat) bpC, .slice (subA apA (Int.toNat (F_partEnd ap i)) apC 2) ((slI 2 ap (F_partEnd ap i) (((ap).length / 2 : Nat) : Int)).length / 2 : Nat) (apC - Int.toNat (F_partEnd ap i))]) hS99 hE106 rfl rfl rfl rfl (fun _ => by kernel_rfl) ⟨⟨(RdS.sub (St.rdR (i := 2) hS99 rfl) apC hv81.1 hv81.2.1 hv81.2.2 hv84.1 hv84.2 hv83 rfl), (RoB.sub (St.robR (i := 2) hS99 rfl))⟩, ⟨(St.rdR (i := 1) hS99 rfl), (St.robR (i := 1) hS99 rfl)⟩, ⟨(RdS.sub (St.rdR (i := 2) hS99 rfl) apC hv101.1 hv101.2.1 hv101.2.2 hv104.1 hv104.2 hv103 rfl), (RoB.sub (St.robR (i := 2) hS99 rfl))⟩, trivial⟩ rfl rfl rfl ?_)
      intro b107 w108 hS111 he112 a109 hE110; clear hS99 hE106
      refine ⟨fun _ => trivial, ?_⟩
      refine d_only 10 (by kernel_rfl) rfl hE110 rfl (l_call (f := 87) (argv := [.slice (some ⟨b107, 0, none⟩) 3 3]) hE110 (fun _ => cf_z_ConcatNode _ _) rfl rfl (c_z_ConcatNode (some ⟨b107, 0, none⟩) 3 3 ([⟨subA apA (Int.toNat (0 : Int)) apC 2, ((slI 2 ap (0 : Int) i).length / 2 : Nat), apC - Int.toNat (0 : Int)⟩, ⟨bpA, ((bp).length / 2 : Nat), bpC⟩, ⟨subA apA (Int.toNat (F_partEnd ap i)) apC 2, ((slI 2 ap (F_partEnd ap i) (((ap).length / 2 : Nat) : Int)).length / 2 : Nat), apC - Int.toNat (F_partEnd ap i)⟩]) ([slI 2 ap (0 : Int) i, bp, slI 2 ap (F_partEnd ap i) (((ap).length / 2 : Nat) : Int)]) w108 (St.rdNo (i := 0) hS111 rfl) (by simp) (rows_le3 (by omega) (by omega) (by omega))) ?_)
      rintro _ w114 ⟨b119, c120, rfl, ho121, he118⟩ a115 hE116; clear hE110
      have hS117 := St.own hS111 he118 ho121; clear hS111
      refine ⟨fun _ => trivial, ?_⟩
      rcases Bool.eq_false_or_eq_true (decide (40 < (((F_z_ConcatNode ([slI 2 ap (0 : Int) i, bp, slI 2 ap (F_partEnd ap i) (((ap).length / 2 : Nat) : Int)])).length / 2 : Nat) : Int))) with hb122 | hb122
      ·
        have hE123 := hE116; (try rw [hb122] at hE123); clear hE116
        have hp124 := of_decide_eq_true hb122
        refine d_only 11 (by kernel_rfl) rfl hE123 rfl (l_call (f := 83) (argv := [.slice b119 ((F_z_ConcatNode ([slI 2 ap (0 : Int) i, bp, slI 2 ap (F_partEnd ap i) (((ap).length / 2 : Nat) : Int)])).length / 2 : Nat) c120]) hE123 (fun _ => cf_limited_f _ _) rfl rfl (d_limited_t b119 ((F_z_ConcatNode ([slI 2 ap (0 : Int) i, bp, slI 2 ap (F_partEnd ap i) (((ap).length / 2 : Nat) : Int)])).length / 2 : Nat) c120 (F_z_ConcatNode ([slI 2 ap (0 : Int) i, bp, slI 2 ap (F_partEnd ap i) (((ap).length / 2 : Nat) : Int)])) w114 (St.rdO (i := 0) hS117 rfl) hb122) ?_)
        rintro _ _ ⟨rfl, rfl⟩ a127 hE128; clear hE123
        refine ⟨fun _ => trivial, ?_⟩
        refine d_pure (fun _ => trivial) (v := .slice none 0 0) 12 rfl hE128 (y_extract rfl rfl) rfl (by kernel_rfl) (by kernel_rfl) (by kernel_rfl) rfl rfl (fun _ _ _ h => h) ?_; intro a131 hE132; clear hE128
        refine d_pure (fun _ => trivial) (v := .int .i64 3) 13 rfl hE132 (y_extract rfl rfl) rfl (by kernel_rfl) (by kernel_rfl) (by kernel_rfl) rfl rfl (fun _ _ _ h => h) ?_; intro a133 hE134; clear hE132
        refine d_pure (fun _ => trivial) (v := .slice none 0 0) 14 rfl hE134 (y_assign rfl) rfl (by kernel_rfl) (by kernel_rfl) (by kernel_rfl) rfl rfl (fun _ _ _ h => h) ?_; intro a135 hE136; clear hE134
        refine d_pure (fun _ => trivial) (v := .int .i64 3) 15 rfl hE136 (y_assign rfl) rfl (by kernel_rfl) (by kernel_rfl) (by kernel_rfl) rfl rfl (fun _ _ _ h => h) ?_; intro a137 hE138; clear hE136
        refine d_done (by kernel_rfl) ?_
        have hE139 := hE138.sub (L' := [(6, .slice none 0 0), (7, .int .i64 3)]) ⟨rfl, rfl, trivial⟩; clear hE138
        refine p_tn ?_
        refine wp_ret ?_
        have hF : F_ReplacePart ap i bp = ([], 3) := by unfold F_ReplacePart; rw [hb122, ht63, ht29]; first | done | rfl
        refine c_ret2 hE139 rfl rfl rfl ?_
        exact ⟨none, 0, (by rw [hF]; first | done | rfl), (by rw [hF]; exact OwnS.nilS _ _ _ _), hS117.ext⟩
      ·
        have hE140 := hE116; (try rw [hb122] at hE140); clear hE116
        have hp141 := of_decide_eq_false hb122
        refine d_only 11 (by kernel_rfl) rfl hE140 rfl (l_call (f := 83) (argv := [.slice b119 ((F_z_ConcatNode ([slI 2 ap (0 : Int) i, bp, slI 2 ap (F_partEnd ap i) (((ap).length / 2 : Nat) : Int)])).length / 2 : Nat) c120]) hE140 (fun _ => cf_limited_f _ _) rfl rfl (d_limited_f b119 ((F_z_ConcatNode ([slI 2 ap (0 : Int) i, bp, slI 2 ap (F_partEnd ap i) (((ap).length / 2 : Nat) : Int)])).length / 2 : Nat) c120 (F_z_ConcatNode ([slI 2 ap (0 : Int) i, bp, slI 2 ap (F_partEnd ap i) (((ap).length / 2 : Nat) : Int)])) w114 (St.rdO (i := 0) hS117 rfl) hb122) ?_)
        rintro _ _ ⟨rfl, rfl⟩ a144 hE145; clear hE140
        refine ⟨fun _ => trivial, ?_⟩
        refine d_pure (fun _ => trivial) (v := .slice b119 ((F_z_ConcatNode ([slI 2 ap (0 : Int) i, bp, slI 2 ap (F_partEnd ap i) (((ap).length / 2 : Nat) : Int)])).length / 2 : Nat) c120) 12 rfl hE145 (y_extract rfl rfl) rfl (by kernel_rfl) (by kernel_rfl) (by kernel_rfl) rfl rfl (fun _ _ _ h => h) ?_; intro a148 hE149; clear hE145
        refine d_pure (fun _ => trivial) (v := .int .i64 0) 13 rfl hE149 (y_extract rfl rfl) rfl (by kernel_rfl) (by kernel_rfl) (by kernel_rfl) rfl rfl (fun _ _ _ h => h) ?_; intro a150 hE151; clear hE149
        refine d_pure (fun _ => trivial) (v := .slice b119 ((F_z_ConcatNode ([slI 2 ap (0 : Int) i, bp, slI 2 ap (F_partEnd ap i) (((ap).length / 2 : Nat) : Int)])).length / 2 : Nat) c120) 14 rfl hE151 (y_assign rfl) rfl (by kernel_rfl) (by kernel_rfl) (by kernel_rfl) rfl rfl (fun _ _ _ h => h) ?_; intro a152 hE153; clear hE151
        refine d_pure (fun _ => trivial) (v := .int .i64 0) 15 rfl hE153 (y_assign rfl) rfl (by kernel_rfl) (by kernel_rfl) (by kernel_rfl) rfl rfl (fun _ _ _ h => h) ?_; intro a154 hE155; clear hE153
        refine d_done (by kernel_rfl) ?_
        have hE156 := hE155.sub (L' := [(6, .slice b119 ((F_z_ConcatNode ([slI 2 ap (0 : Int) i, bp, slI 2 ap (F_partEnd ap i) (((ap).length / 2 : Nat) : Int)])).length / 2 : Nat) c120), (7, .int .i64 0)]) ⟨rfl, rfl, trivial⟩; clear hE155
        refine p_tn ?_
        refine wp_ret ?_
        have hF : F_ReplacePart ap i bp = (F_z_ConcatNode ([slI 2 ap (0 : Int) i, bp, slI 2 ap (F_partEnd ap i) (((ap).length / 2 : Nat) : Int)]), 0) := by unfold F_ReplacePart; rw [hb122, ht63, ht29]; first | done | rfl
        refine c_ret2 hE156 rfl rfl rfl ?_
        exact ⟨b119, c120, (by rw [hF]; first | done | rfl), (by rw [hF]; exact hS117.ok 0 _ rfl), hS117.ext⟩

theorem ReplacePart_eq (ap : List Int) (i : Int) (bp : List Int) : F_ReplacePart ap i bp = F_s_ReplacePart ap i bp := by
  unfold F_ReplacePart F_s_ReplacePart F_l03Put F_l02Own F_inRange F_l01In
  rw [areFormulas2, concat3, partEnd_eq, List.nil_append]
  cases F_l02Is ap <;> cases F_l02Is bp <;> rfl
theorem ReplacePart_len (ap : List Int) (i : Int) (bp : List Int) : (F_ReplacePart ap i bp).1.length ≤ 81 := by
  rw [ReplacePart_eq]
  unfold F_s_ReplacePart
  by_cases h : 40 < (((F_l03Put ap i bp).length / 2 : Nat) : Int)
  · cases F_l02Is ap <;> cases F_l02Is bp <;> cases F_l01In i 0 (((ap.length / 2 : Nat) : Int) - 1) <;> simp only [decide_eq_true h, Bool.not_true, Bool.not_false, cond_true, cond_false, List.length_nil] <;> omega
  · cases F_l02Is ap <;> cases F_l02Is bp <;> cases F_l01In i 0 (((ap.length / 2 : Nat) : Int) - 1) <;> simp only [decide_eq_false h, Bool.not_true, Bool.not_false, cond_true, cond_false, List.length_nil] <;> omega


end Go.Proofs.Ytkilkfhjfobcdaa
