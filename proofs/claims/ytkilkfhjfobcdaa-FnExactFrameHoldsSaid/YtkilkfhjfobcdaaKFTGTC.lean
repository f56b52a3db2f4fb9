/- GTC: models and contracts, printed by wip/gen/gen.py -/
import Derived.Test.YtkilkfhjfobcdaaKFTGTB
import Derived.Test.YtkilkfhjfobcdaaKFTGQ
set_option linter.unusedVariables false
set_option linter.unusedSimpArgs false
namespace Go.Proofs.Ytkilkfhjfobcdaa
open Go.RowKit
/-- Behind a call: a new slice whose rows are parts of what is only read. -/
theorem St.ownRows {w0 w w' : World} {Γ : List Ent} {e : TypeId} {s : Nat} {b : Option Addr} {c : Nat} {hs : List Hd} {xss : List (List Int)} {rows : List (Hd × List Int)} (hS : St w0 w Γ) (hext : Ext w w') (ho : OwnV w' w.heap.size e b xss.length c (hs.map Hd.v)) (hhs : rows.map (·.1) = hs) (hxs : rows.map (·.2) = xss) (hrow : RowsOk w Γ s rows) : St w0 w' (.nest e s none b c hs xss :: Γ) := by
  subst hhs; subst hxs
  have both : ∀ (i : Nat) (h : Hd) (xs : List Int), (rows.map (·.1))[i]? = some h → (rows.map (·.2))[i]? = some xs → RdS w s h.a h.n h.c xs ∧ RoB Γ h.a xs := fun i h xs h1 h2 => by
    rw [List.getElem?_map] at h1 h2
    cases hq : rows[i]? with
    | none => rw [hq] at h1; simp at h1
    | some r =>
      rw [hq] at h1 h2
      simp at h1 h2
      subst h1; subst h2
      exact RowsOk.get hrow i r hq
  refine hS.pushN hext (e := .nest e s none b c (rows.map (·.1)) (rows.map (·.2))) ⟨ho.mono hS.ext.size, ⟨by simp, fun i h xs h1 h2 => ⟨(both i h xs h1 h2).1.ext hext, fun _ h => by cases h⟩, fun h => by cases h⟩, fun k ⟨i, h, xs, h1, h2, h3, h4⟩ => ?_⟩ fun k hk => ?_
  · have h3 : xs ≠ [] := h3.resolve_right (by simp)
    have := RdS.lt (both i h xs h1 h2).1 h3 h4
    intro h; have := (ho.lt h).1; omega
  · rcases hk with hk | ⟨i, h, xs, h1, h2, h3, h4⟩
    · exact .inl (ho.lt hk).1
    · right
      have h3 : xs ≠ [] := h3.resolve_right (by simp)
      have hlt := RdS.lt (both i h xs h1 h2).1 h3 h4
      exact ⟨⟨rfl, fun h => by have := (ho.lt h).1; omega⟩, (both i h xs h1 h2).2 k h3 h4⟩
theorem Pm.kind (bd : Int) : (t : Pm) → t.Ok bd → F_pointParts (gS 3 0 t.code 0) = (match t with | .leaf _ _ _ => 0 | .un _ _ _ _ => 1 | .bin _ _ _ _ _ => 2)
  | .leaf _ _ _, h => h.1
  | .un _ _ _ _, h => h.1.1
  | .bin _ _ _ _ _, h => h.1.1
theorem Pm.node {bd : Int} : (t : Pm) → t.Ok bd → F_isPointNode (gS 3 0 t.code 0) (gS 3 1 t.code 0) (gS 3 2 t.code 0) = true ∧ (gS 3 0 t.code 0 = 2 → gS 3 1 t.code 0 < bd)
  | .leaf _ _ _, h => h.2
  | .un _ _ _ _, h => h.1.2
  | .bin _ _ _ _ _, h => h.1.2
theorem IsPm.len {bd : Int} {ap : List Int} (h : IsPm bd ap) : 1 ≤ ((ap.length / 3 : Nat) : Int) := by
  obtain ⟨t, _, rfl⟩ := h
  have := t.size_pos
  rw [t.code_half]; omega
theorem IsPm.ev {bd : Int} {ap : List Int} (h : IsPm bd ap) : ap.length = ap.length / 3 * 3 := by
  obtain ⟨t, _, rfl⟩ := h
  exact t.code_ev
theorem Pm.Ok.mono {b c : Int} (h : b ≤ c) : (t : Pm) → t.Ok b → t.Ok c
  | .leaf _ _ _, q => ⟨q.1, q.2.1, fun e => by have := q.2.2 e; omega⟩
  | .un _ _ _ a, q => ⟨⟨q.1.1, q.1.2.1, fun e => by have := q.1.2.2 e; omega⟩, Pm.Ok.mono h a q.2⟩
  | .bin _ _ _ a d, q => ⟨⟨q.1.1, q.1.2.1, fun e => by have := q.1.2.2 e; omega⟩, Pm.Ok.mono h a q.2.1, Pm.Ok.mono h d q.2.2⟩
theorem IsPm.mono {b c : Int} {ap : List Int} (h : IsPm b ap) (hbc : b ≤ c) : IsPm c ap := by
  obtain ⟨t, ht, rfl⟩ := h
  exact ⟨t, ht.mono hbc, rfl⟩
theorem node_kind {k u v : Int} (h : F_isPointNode k u v = true) : (0 ≤ k ∧ k ≤ 8) ∧ (k ≤ 1 → (0 ≤ u ∧ u ≤ 9) ∧ 0 ≤ v ∧ v ≤ 9) ∧ (k = 2 → (0 ≤ u ∧ u ≤ 5) ∧ 0 ≤ v ∧ v ≤ 9) ∧ (7 ≤ k → 0 ≤ u ∧ u ≤ 9) := by
  by_cases h1 : k = 0 ∨ k = 1
  · have h' : (F_isPoint u && F_isPoint v) = true := by rcases h1 with rfl | rfl <;> exact h
    rw [Bool.and_eq_true] at h'
    have a : 0 ≤ u ∧ u ≤ 9 := F_inRange_t h'.1
    have b : 0 ≤ v ∧ v ≤ 9 := F_inRange_t h'.2
    exact ⟨by omega, fun _ => ⟨a, b⟩, fun e => by omega, fun e => by omega⟩
  · by_cases h2 : k = 2
    · subst h2
      have h' : (F_isVariable u && F_isPoint v) = true := h
      rw [Bool.and_eq_true] at h'
      have a : 0 ≤ u ∧ u ≤ 5 := F_inRange_t h'.1
      have b : 0 ≤ v ∧ v ≤ 9 := F_inRange_t h'.2
      exact ⟨by omega, fun e => by omega, fun _ => ⟨a, b⟩, fun e => by omega⟩
    · unfold F_isPointNode at h
      rw [decide_eq_false (show ¬ k = 0 by omega), decide_eq_false (show ¬ k = 1 by omega), Bool.false_or, cond_false, decide_eq_false h2, cond_false] at h
      by_cases h7 : k = 7 ∨ k = 8
      · have h' : (F_isPoint u && decide (v = 0)) = true := by
          rcases h7 with rfl | rfl <;> exact h
        rw [Bool.and_eq_true] at h'
        have a : 0 ≤ u ∧ u ≤ 9 := F_inRange_t h'.1
        exact ⟨by omega, fun e => by omega, fun e => by omega, fun _ => a⟩
      · rw [decide_eq_false (show ¬ k = 7 by omega), decide_eq_false (show ¬ k = 8 by omega), Bool.false_or, cond_false, Bool.and_eq_true] at h
        have := F_inRange_t h.1
        exact ⟨by omega, fun e => by omega, fun e => by omega, fun e => by omega⟩
theorem parts_kind (k : Int) (h : 0 ≤ k ∧ k ≤ 8) : (k ≤ 3 → F_pointParts k = 0) ∧ (4 ≤ k → k ≤ 6 → F_pointParts k = 2) ∧ (7 ≤ k → F_pointParts k = 1) := by
  have : k = 0 ∨ k = 1 ∨ k = 2 ∨ k = 3 ∨ k = 4 ∨ k = 5 ∨ k = 6 ∨ k = 7 ∨ k = 8 := by omega
  rcases this with rfl | rfl | rfl | rfl | rfl | rfl | rfl | rfl | rfl <;> (refine ⟨?_, ?_, ?_⟩ <;> (intros; first | rfl | omega))
theorem pm_kind {bd : Int} {ap : List Int} (h : IsPm bd ap) : F_l10Parts (gS 3 0 ap 0) = F_pointParts (gS 3 0 ap 0) ∧ (0 ≤ gS 3 0 ap 0 ∧ gS 3 0 ap 0 ≤ 8) ∧ ((gS 3 0 ap 0 ≤ 3 → F_pointParts (gS 3 0 ap 0) = 0) ∧ (4 ≤ gS 3 0 ap 0 → gS 3 0 ap 0 ≤ 6 → F_pointParts (gS 3 0 ap 0) = 2) ∧ (7 ≤ gS 3 0 ap 0 → F_pointParts (gS 3 0 ap 0) = 1)) ∧ (gS 3 0 ap 0 ≤ 1 → (0 ≤ gS 3 1 ap 0 ∧ gS 3 1 ap 0 ≤ 9) ∧ 0 ≤ gS 3 2 ap 0 ∧ gS 3 2 ap 0 ≤ 9) ∧ (gS 3 0 ap 0 = 2 → (0 ≤ gS 3 1 ap 0 ∧ gS 3 1 ap 0 ≤ 5) ∧ 0 ≤ gS 3 2 ap 0 ∧ gS 3 2 ap 0 ≤ 9) ∧ (7 ≤ gS 3 0 ap 0 → 0 ≤ gS 3 1 ap 0 ∧ gS 3 1 ap 0 ≤ 9) ∧ (gS 3 0 ap 0 = 2 → gS 3 1 ap 0 < bd) := by
  obtain ⟨t, ht, rfl⟩ := h
  obtain ⟨n1, n2⟩ := t.node ht
  obtain ⟨k1, k2, k3, k4⟩ := node_kind n1
  exact ⟨l10Parts_k n1, k1, parts_kind _ k1, k2, k3, k4, n2⟩
theorem pm_un {k u v : Int} {a : Pm} : slI 3 (Pm.un k u v a).code 1 (((Pm.un k u v a).code.length / 3 : Nat) : Int) = a.code := by
  have e : (Pm.un k u v a).code = k :: u :: v :: a.code := rfl
  have := a.code_len
  unfold slI
  rw [(Pm.un k u v a).code_half, e]
  show List.take _ (List.drop 3 (k :: u :: v :: a.code)) = a.code
  rw [show List.drop 3 (k :: u :: v :: a.code) = a.code from rfl, List.take_of_length_le]
  show a.code.length ≤ ((((a.size + 1 : Nat) : Int)).toNat - 1) * 3
  omega
theorem pm_part {bd : Int} {k u v : Int} {a b : Pm} (h : (Pm.bin k u v a b).Ok bd) : F_pointEnd (Pm.bin k u v a b).code 1 = 1 + a.size ∧ F_l10End (Pm.bin k u v a b).code 1 = 1 + a.size ∧ slI 3 (Pm.bin k u v a b).code 1 (1 + a.size) = a.code ∧ slI 3 (Pm.bin k u v a b).code (1 + a.size) (((Pm.bin k u v a b).code.length / 3 : Nat) : Int) = b.code := by
  have e : (Pm.bin k u v a b).code = k :: u :: v :: (a.code ++ b.code) := rfl
  have hl := (Pm.bin k u v a b).code_half
  have hs : (Pm.bin k u v a b).size = a.size + b.size + 1 := rfl
  have la := a.code_len
  have lb := b.code_len
  have pa := a.size_pos
  have e1 : slI 3 (Pm.bin k u v a b).code 1 (1 + a.size) = a.code := by
    unfold slI
    rw [e, show (1 : Int).toNat * 3 = 3 by rfl, show List.drop 3 (k :: u :: v :: (a.code ++ b.code)) = a.code ++ b.code from rfl, show ((1 : Int) + (a.size : Int)).toNat - (1 : Int).toNat = a.size by omega, ← la, List.take_left']
    rfl
  have e2 : slI 3 (Pm.bin k u v a b).code (1 + a.size) (((Pm.bin k u v a b).code.length / 3 : Nat) : Int) = b.code := by
    unfold slI
    rw [hl, hs, e, show ((1 : Int) + (a.size : Int)).toNat * 3 = 3 + a.code.length by omega, ← List.drop_drop, show List.drop 3 (k :: u :: v :: (a.code ++ b.code)) = a.code ++ b.code from rfl, List.drop_left', List.take_of_length_le (by omega)]
    rfl
  refine ⟨pointEnd_code (Pm.code_ev _) h.2.1 (by omega) e1.symm (by rw [hl, hs]; omega), ?_, e1, e2⟩
  exact l10End_code _ bd (Pm.code_ev _) a _ 1 h.2.1 (by omega) e1.symm (by rw [hl, hs]; omega) (by rw [hl, hs]; omega)
theorem IsPm.un {bd : Int} {ap : List Int} (h : IsPm bd ap) (hp : F_pointParts (gS 3 0 ap 0) = 1) : IsPm bd (slI 3 ap 1 ((ap.length / 3 : Nat) : Int)) ∧ (slI 3 ap 1 ((ap.length / 3 : Nat) : Int)).length < ap.length := by
  obtain ⟨t, ht, rfl⟩ := h
  have hk := t.kind bd ht
  rw [hp] at hk
  cases t with
  | leaf k u v => exact absurd hk (by simp)
  | un k u v a =>
    rw [pm_un, (Pm.un k u v a).code_len, a.code_len]
    refine ⟨⟨a, ht.2, rfl⟩, ?_⟩
    show a.size * 3 < (a.size + 1) * 3; omega
  | bin k u v a b => exact absurd hk (by simp)
theorem IsPm.bin {bd : Int} {ap : List Int} (h : IsPm bd ap) (hp : F_pointParts (gS 3 0 ap 0) = 2) : (1 ≤ F_l10End ap 1 ∧ F_l10End ap 1 ≤ ((ap.length / 3 : Nat) : Int)) ∧ (IsPm bd (slI 3 ap 1 (F_l10End ap 1)) ∧ IsPm bd (slI 3 ap (F_l10End ap 1) ((ap.length / 3 : Nat) : Int))) ∧ (slI 3 ap 1 (F_l10End ap 1)).length + 3 ≤ ap.length ∧ (slI 3 ap (F_l10End ap 1) ((ap.length / 3 : Nat) : Int)).length + 3 ≤ ap.length ∧ F_pointEnd ap 1 = F_l10End ap 1 := by
  obtain ⟨t, ht, rfl⟩ := h
  have hk := t.kind bd ht
  rw [hp] at hk
  cases t with
  | leaf k u v => exact absurd hk (by simp)
  | un k u v a => exact absurd hk (by simp)
  | bin k u v a b =>
    obtain ⟨p0, p1, p2, p3⟩ := pm_part ht
    have pa := a.size_pos
    have pb := b.size_pos
    have hs : (Pm.bin k u v a b).size = a.size + b.size + 1 := rfl
    rw [p0, p1, p2, p3, (Pm.bin k u v a b).code_half, hs]
    refine ⟨by omega, ⟨⟨a, ht.2.1, rfl⟩, b, ht.2.2, rfl⟩, ?_, ?_, rfl⟩
    · rw [a.code_len, (Pm.bin k u v a b).code_len, hs]; omega
    · rw [b.code_len, (Pm.bin k u v a b).code_len, hs]; omega
theorem pm_end {bd : Int} {ap : List Int} (h : IsPm bd ap) : F_pointParts (gS 3 0 ap 0) = 2 → 1 ≤ F_pointEnd ap 1 ∧ F_pointEnd ap 1 ≤ ((ap.length / 3 : Nat) : Int) := fun hp => by
  have := h.bin hp
  omega
/-- The parts below the head, as views. -/
def belowRows (a : Option Addr) (c : Nat) (ap : List Int) : List (Hd × List Int) := bif decide (F_pointParts (gS 3 0 ap 0) = 1) then [(⟨subA a (Int.toNat 1) c 3, (slI 3 ap 1 ((ap.length / 3 : Nat) : Int)).length / 3, c - Int.toNat 1⟩, slI 3 ap 1 ((ap.length / 3 : Nat) : Int))]
  else bif decide (F_pointParts (gS 3 0 ap 0) = 2) then [(⟨subA a (Int.toNat 1) c 3, (slI 3 ap 1 (F_pointEnd ap 1)).length / 3, c - Int.toNat 1⟩, slI 3 ap 1 (F_pointEnd ap 1)),
    (⟨subA a (Int.toNat (F_pointEnd ap 1)) c 3, (slI 3 ap (F_pointEnd ap 1) ((ap.length / 3 : Nat) : Int)).length / 3, c - Int.toNat (F_pointEnd ap 1)⟩, slI 3 ap (F_pointEnd ap 1) ((ap.length / 3 : Nat) : Int))] else []
def F_l10Left (ap : List Int) : List Int :=
  slI 3 ap 1 (F_l10End ap 1)
theorem cf_l10Left (args : Array Value) (w : World) : (callFunc 165 args).run Try.prog w = .ok (.enter 165 args) w := by kernel_rfl
set_option maxRecDepth 100000 in
theorem c_l10Left (apA : Option Addr) (apN apC : Nat) (ap : List Int) (w : World) (apR : RdS w 3 apA apN apC ap) (hl : ap.length ≤ 4194304) (h1 : 1 ≤ ((ap.length / 3 : Nat) : Int)) (hp : 1 ≤ F_l10End ap 1 ∧ F_l10End ap 1 ≤ ((ap.length / 3 : Nat) : Int)) :
    Calls Try.prog 165 #[.slice apA apN apC] w (Ret fun v w' => v = .slice (subA apA (Int.toNat 1) apC 3) ((F_l10Left ap).length / 3 : Nat) (apC - (Int.toNat 1)) ∧ Ext w w') := by
  obtain rfl : apN = ap.length / 3 := (apR.lenD (by decide)).symm
  have apEv := apR.ev (by decide)
  have apLe := apR.le
  have hS := St.nil w
  have hS1 := St.rd0 hS rfl apR; clear hS
  refine enter (args := [.slice apA ((ap).length / 3 : Nat) apC]) Try.func165 rfl rfl ?_
  rw [Try.ntmps165]; intro a hE
  have hE := hE.sub (L' := [(0, .slice apA ((ap).length / 3 : Nat) apC)]) ⟨rfl, trivial⟩
  refine c_seq ?_
  refine c_reg ?_
  refine q_step (v := .slice none 0 0) hE (y_assign rfl) rfl rfl rfl ?_; intro a2 hE3; clear hE
  refine c_nil ?_
  have hE4 := hE3.sub (L' := [(0, .slice apA ((ap).length / 3 : Nat) apC)]) ⟨rfl, trivial⟩; clear hE3
  refine p_tn ?_
  refine c_seq ?_
  refine c_reg ?_
  refine q_step (v := .slice apA ((ap).length / 3 : Nat) apC) hE4 (y_move rfl) rfl rfl rfl ?_; intro a5 hE6; clear hE4
  refine q_step (v := .slice apA ((ap).length / 3 : Nat) apC) hE6 (y_move rfl) rfl rfl rfl ?_; intro a7 hE8; clear hE6
  refine l_step hE8 rfl (l_call (f := 163) (argv := [.slice apA ((ap).length / 3 : Nat) apC, .int .i64 1]) hE8 (fun _ => cf_l10End _ _) rfl rfl (c_l10End apA ((ap).length / 3 : Nat) apC ap 1 w (St.rdR (i := 0) hS1 rfl) (by omega) (by omega)) ?_)
  rintro _ w10 ⟨rfl, he14⟩ a11 hE12; clear hE8
  have hS13 := St.go hS1 he14; clear hS1
  have hv16 := (St.rdR (i := 0) hS13 rfl).2.1
  have hv15 : (0 : Int) ≤ 1 ∧ 1 ≤ (F_l10End ap 1) ∧ (F_l10End ap 1) ≤ (((ap).length / 3 : Nat) : Int) := ⟨(by omega), (by omega), (by omega)⟩
  have hv17 : Int.toNat (F_l10End ap 1) - Int.toNat 1 = ((slI 3 ap 1 (F_l10End ap 1)).length / 3 : Nat) := ((slI_lenD (by decide) (St.rdR (i := 0) hS13 rfl).1 hv15.2.2)).symm
  have hv18 : Int.toNat (F_l10End ap 1) ≤ apC ∧ apC ≤ apC := ⟨by omega, Nat.le_refl _⟩
  refine q_step (v := .slice (subA apA (Int.toNat 1) apC 3) ((slI 3 ap 1 (F_l10End ap 1)).length / 3 : Nat) (apC - Int.toNat 1)) hE12 (y_sliceLH (by kernel_rfl) (fun _ => by kernel_rfl) rfl rfl rfl hv15.1 hv15.2.1 (by omega) hv17 rfl) rfl rfl rfl ?_; intro a19 hE20; clear hE12
  refine q_step (v := .slice (subA apA (Int.toNat 1) apC 3) ((slI 3 ap 1 (F_l10End ap 1)).length / 3 : Nat) (apC - Int.toNat 1)) hE20 (y_assign rfl) rfl rfl rfl ?_; intro a21 hE22; clear hE20
  refine c_nil ?_
  have hE23 := hE22.sub (L' := [(2, .slice (subA apA (Int.toNat 1) apC 3) ((slI 3 ap 1 (F_l10End ap 1)).length / 3 : Nat) (apC - Int.toNat 1))]) ⟨rfl, trivial⟩; clear hE22
  refine p_tn ?_
  refine wp_ret ?_
  have hF : F_l10Left ap = slI 3 ap 1 (F_l10End ap 1) := by unfold F_l10Left; rfl
  refine c_ret1 hE23 rfl rfl ?_
  exact ⟨(by rw [hF]; first | done | (dsimp only; done) | rfl), hS13.ext⟩
def F_l10Right (ap : List Int) : List Int :=
  slI 3 ap (F_l10End ap 1) (((ap).length / 3 : Nat) : Int)
theorem cf_l10Right (args : Array Value) (w : World) : (callFunc 166 args).run Try.prog w = .ok (.enter 166 args) w := by kernel_rfl
set_option maxRecDepth 100000 in
theorem c_l10Right (apA : Option Addr) (apN apC : Nat) (ap : List Int) (w : World) (apR : RdS w 3 apA apN apC ap) (hl : ap.length ≤ 4194304) (h1 : 1 ≤ ((ap.length / 3 : Nat) : Int)) (hp : 1 ≤ F_l10End ap 1 ∧ F_l10End ap 1 ≤ ((ap.length / 3 : Nat) : Int)) :
    Calls Try.prog 166 #[.slice apA apN apC] w (Ret fun v w' => v = .slice (subA apA (Int.toNat (F_l10End ap 1)) apC 3) ((F_l10Right ap).length / 3 : Nat) (apC - (Int.toNat (F_l10End ap 1))) ∧ Ext w w') := by
  obtain rfl : apN = ap.length / 3 := (apR.lenD (by decide)).symm
  have apEv := apR.ev (by decide)
  have apLe := apR.le
  have hS := St.nil w
  have hS1 := St.rd0 hS rfl apR; clear hS
  refine enter (args := [.slice apA ((ap).length / 3 : Nat) apC]) Try.func166 rfl rfl ?_
  rw [Try.ntmps166]; intro a hE
  have hE := hE.sub (L' := [(0, .slice apA ((ap).length / 3 : Nat) apC)]) ⟨rfl, trivial⟩
  refine c_seq ?_
  refine c_reg ?_
  refine q_step (v := .slice none 0 0) hE (y_assign rfl) rfl rfl rfl ?_; intro a2 hE3; clear hE
  refine c_nil ?_
  have hE4 := hE3.sub (L' := [(0, .slice apA ((ap).length / 3 : Nat) apC)]) ⟨rfl, trivial⟩; clear hE3
  refine p_tn ?_
  refine c_seq ?_
  refine c_reg ?_
  refine q_step (v := .slice apA ((ap).length / 3 : Nat) apC) hE4 (y_move rfl) rfl rfl rfl ?_; intro a5 hE6; clear hE4
  refine q_step (v := .slice apA ((ap).length / 3 : Nat) apC) hE6 (y_move rfl) rfl rfl rfl ?_; intro a7 hE8; clear hE6
  refine l_step hE8 rfl (l_call (f := 163) (argv := [.slice apA ((ap).length / 3 : Nat) apC, .int .i64 1]) hE8 (fun _ => cf_l10End _ _) rfl rfl (c_l10End apA ((ap).length / 3 : Nat) apC ap 1 w (St.rdR (i := 0) hS1 rfl) (by omega) (by omega)) ?_)
  rintro _ w10 ⟨rfl, he14⟩ a11 hE12; clear hE8
  have hS13 := St.go hS1 he14; clear hS1
  have hv16 := (St.rdR (i := 0) hS13 rfl).2.1
  have hv15 : (0 : Int) ≤ (F_l10End ap 1) ∧ (F_l10End ap 1) ≤ (((ap).length / 3 : Nat) : Int) ∧ (((ap).length / 3 : Nat) : Int) ≤ (((ap).length / 3 : Nat) : Int) := ⟨(by omega), (by omega), (by omega)⟩
  have hv17 : Int.toNat (((ap).length / 3 : Nat) : Int) - Int.toNat (F_l10End ap 1) = ((slI 3 ap (F_l10End ap 1) (((ap).length / 3 : Nat) : Int)).length / 3 : Nat) := ((slI_lenD (by decide) (St.rdR (i := 0) hS13 rfl).1 hv15.2.2)).symm
  have hv18 : Int.toNat (((ap).length / 3 : Nat) : Int) ≤ apC ∧ apC ≤ apC := ⟨by omega, Nat.le_refl _⟩
  refine q_step (v := .slice (subA apA (Int.toNat (F_l10End ap 1)) apC 3) ((slI 3 ap (F_l10End ap 1) (((ap).length / 3 : Nat) : Int)).length / 3 : Nat) (apC - Int.toNat (F_l10End ap 1))) hE12 (y_sliceL (by kernel_rfl) (fun _ => by kernel_rfl) rfl rfl hv15.1 hv15.2.1 (by have h := hv17; omega) rfl) rfl rfl rfl ?_; intro a19 hE20; clear hE12
  refine q_step (v := .slice (subA apA (Int.toNat (F_l10End ap 1)) apC 3) ((slI 3 ap (F_l10End ap 1) (((ap).length / 3 : Nat) : Int)).length / 3 : Nat) (apC - Int.toNat (F_l10End ap 1))) hE20 (y_assign rfl) rfl rfl rfl ?_; intro a21 hE22; clear hE20
  refine c_nil ?_
  have hE23 := hE22.sub (L' := [(2, .slice (subA apA (Int.toNat (F_l10End ap 1)) apC 3) ((slI 3 ap (F_l10End ap 1) (((ap).length / 3 : Nat) : Int)).length / 3 : Nat) (apC - Int.toNat (F_l10End ap 1)))]) ⟨rfl, trivial⟩; clear hE22
  refine p_tn ?_
  refine wp_ret ?_
  have hF : F_l10Right ap = slI 3 ap (F_l10End ap 1) (((ap).length / 3 : Nat) : Int) := by unfold F_l10Right; rfl
  refine c_ret1 hE23 rfl rfl ?_
  exact ⟨(by rw [hF]; first | done | (dsimp only; done) | rfl), hS13.ext⟩
def F_below (ap : List Int) : List (List Int) :=
  bif (decide ((F_pointParts (gS 3 0 ap 0)) = 1)) then ([slI 3 ap 1 (((ap).length / 3 : Nat) : Int)]) else (bif (decide ((F_pointParts (gS 3 0 ap 0)) = 2)) then ([slI 3 ap 1 (F_pointEnd ap 1), slI 3 ap (F_pointEnd ap 1) (((ap).length / 3 : Nat) : Int)]) else ([]))
theorem cf_below (args : Array Value) (w : World) : (callFunc 172 args).run Try.prog w = .ok (.enter 172 args) w := by kernel_rfl
set_option maxRecDepth 100000 in
theorem c_below (apA : Option Addr) (apN apC : Nat) (ap : List Int) (w : World) (apR : RdS w 3 apA apN apC ap) (hl : ap.length ≤ 4194304) (hf : IsPm 6 ap) :
    Calls Try.prog 172 #[.slice apA apN apC] w (Ret fun v w' => ∃ b1 : Option Addr, ∃ c1 : Nat, v = .slice b1 (F_below ap).length c1 ∧ OwnV w' w.heap.size 59 b1 (F_below ap).length c1 (((belowRows apA apC ap).map (·.1)).map Hd.v) ∧ Ext w w') := by
  obtain rfl : apN = ap.length / 3 := (apR.lenD (by decide)).symm
  have apEv := apR.ev (by decide)
  have apLe := apR.le
  have hl1 := hf.len
  have hpb := pm_end hf
  have hS := St.nil w
  have hS1 := St.rd0 hS rfl apR; clear hS
  refine enter (args := [.slice apA ((ap).length / 3 : Nat) apC]) Try.func172 rfl rfl ?_
  rw [Try.ntmps172]; intro a hE
  have hE := hE.sub (L' := [(0, .slice apA ((ap).length / 3 : Nat) apC)]) ⟨rfl, trivial⟩
  refine c_seq ?_
  refine c_reg ?_
  refine q_step (v := .slice none 0 0) hE (y_assign rfl) rfl rfl rfl ?_; intro a2 hE3; clear hE
  refine c_nil ?_
  have hE4 := hE3.sub (L' := [(0, .slice apA ((ap).length / 3 : Nat) apC)]) ⟨rfl, trivial⟩; clear hE3
  refine p_tn ?_
  refine c_seq ?_
  refine c_seq ?_
  refine c_reg ?_
  refine q_step (v := .slice apA ((ap).length / 3 : Nat) apC) hE4 (y_move rfl) rfl rfl rfl ?_; intro a5 hE6; clear hE4
  refine q_step (v := .pointer (some (adr apA (Int.toNat 0 * 3)))) hE6 (y_idx (by kernel_rfl) (fun _ => by kernel_rfl) rfl rfl (RdS.isS (m := 0) (St.rdR (i := 0) hS1 rfl) (by omega) (by omega)) (by omega) (by omega) rfl) rfl rfl rfl ?_; intro a7 hE8; clear hE6
  refine q_step (v := .pointer (some (adr apA ((Int.toNat 0 * 3) + 0)))) hE8 (y_fieldE (o := 0) (fun _ _ => by kernel_rfl) rfl) rfl rfl rfl ?_; intro a9 hE10; clear hE8
  refine q_step (v := .int .i64 (gS 3 0 ap 0)) hE10 (y_load (fun _ => by kernel_rfl) rfl (RdS.eltS (j := 0) (St.rdR (i := 0) hS1 rfl) (by omega) (by omega) (by decide))) rfl rfl rfl ?_; intro a11 hE12; clear hE10
  refine l_step hE12 rfl (l_call (f := 173) (argv := [.int .i64 (gS 3 0 ap 0)]) hE12 (fun _ => cf_pointParts _ _) rfl rfl (c_pointParts (gS 3 0 ap 0) w) ?_)
  rintro _ _ ⟨rfl, rfl⟩ a15 hE16; clear hE12
  have hf19 := pointParts_bd (gS 3 0 ap 0)
  refine c_nil ?_
  have hE20 := hE16.sub (L' := [(0, .slice apA ((ap).length / 3 : Nat) apC), (8, .int .i64 (F_pointParts (gS 3 0 ap 0)))]) ⟨rfl, rfl, trivial⟩; clear hE16
  refine p_tn ?_
  refine wp_block ?_
  refine c_seq ?_
  refine c_reg ?_
  refine q_step (v := .bool (decide ((F_pointParts (gS 3 0 ap 0)) = 1))) hE20 (y_eql rfl rfl) rfl rfl rfl ?_; intro a21 hE22; clear hE20
  refine q_step (v := .bool (decide ((F_pointParts (gS 3 0 ap 0)) = 1))) hE22 (y_assign rfl) rfl rfl rfl ?_; intro a23 hE24; clear hE22
  refine c_nil ?_
  have hE25 := hE24.sub (L' := [(0, .slice apA ((ap).length / 3 : Nat) apC), (8, .int .i64 (F_pointParts (gS 3 0 ap 0))), (9, .bool (decide ((F_pointParts (gS 3 0 ap 0)) = 1)))]) ⟨rfl, rfl, rfl, trivial⟩; clear hE24
  refine p_tn ?_
  refine c_cond hE25 rfl (fun ht26 => ?_) (fun ht26 => ?_)
  ·
   have hp27 := of_decide_eq_true ht26
   have hE28 := hE25; rw [ht26] at hE28; clear hE25
   refine c_seq ?_
   refine c_reg ?_
   refine q_step (v := .slice apA ((ap).length / 3 : Nat) apC) hE28 (y_move rfl) rfl rfl rfl ?_; intro a29 hE30; clear hE28
   have hv32 := (St.rdR (i := 0) hS1 rfl).2.1
   have hv31 : (0 : Int) ≤ 1 ∧ 1 ≤ (((ap).length / 3 : Nat) : Int) ∧ (((ap).length / 3 : Nat) : Int) ≤ (((ap).length / 3 : Nat) : Int) := ⟨(by omega), (by omega), (by omega)⟩
   have hv33 : Int.toNat (((ap).length / 3 : Nat) : Int) - Int.toNat 1 = ((slI 3 ap 1 (((ap).length / 3 : Nat) : Int)).length / 3 : Nat) := ((slI_lenD (by decide) (St.rdR (i := 0) hS1 rfl).1 hv31.2.2)).symm
   have hv34 : Int.toNat (((ap).length / 3 : Nat) : Int) ≤ apC ∧ apC ≤ apC := ⟨by omega, Nat.le_refl _⟩
   refine q_step (v := .slice (subA apA (Int.toNat 1) apC 3) ((slI 3 ap 1 (((ap).length / 3 : Nat) : Int)).length / 3 : Nat) (apC - Int.toNat 1)) hE30 (y_sliceL (by kernel_rfl) (fun _ => by kernel_rfl) rfl rfl hv31.1 hv31.2.1 (by have h := hv33; omega) rfl) rfl rfl rfl ?_; intro a35 hE36; clear hE30
   refine l_step hE36 rfl (l_litN (e := 59) (s := 3) (rows := [(⟨subA apA (Int.toNat 1) apC 3, ((slI 3 ap 1 (((ap).length / 3 : Nat) : Int)).length / 3 : Nat), apC - Int.toNat 1⟩, slI 3 ap 1 (((ap).length / 3 : Nat) : Int))]) (hs := [⟨subA apA (Int.toNat 1) apC 3, ((slI 3 ap 1 (((ap).length / 3 : Nat) : Int)).length / 3 : Nat), apC - Int.toNat 1⟩]) (xss := [slI 3 ap 1 (((ap).length / 3 : Nat) : Int)]) (vs := [.slice (subA apA (Int.toNat 1) apC 3) ((slI 3 ap 1 (((ap).length / 3 : Nat) : Int)).length / 3 : Nat) (apC - Int.toNat 1)]) hS1 hE36 rfl rfl rfl rfl (fun _ => by kernel_rfl) ⟨⟨(RdS.sub (St.rdR (i := 0) hS1 rfl) apC hv31.1 hv31.2.1 hv31.2.2 hv34.1 hv34.2 hv33 rfl), (RoB.sub (St.robR (i := 0) hS1 rfl))⟩, trivial⟩ rfl rfl rfl ?_)
   intro b37 w38 hS41 he42 a39 hE40; clear hS1 hE36
   refine q_step (v := .slice (some ⟨b37, 0, none⟩) 1 1) hE40 (y_assign rfl) rfl rfl rfl ?_; intro a43 hE44; clear hE40
   refine c_nil ?_
   have hE45 := hE44.sub (L' := [(2, .slice (some ⟨b37, 0, none⟩) 1 1)]) ⟨rfl, trivial⟩; clear hE44
   refine p_tn ?_
   refine wp_ret ?_
   refine p_br ?_
   refine p_tr ?_
   have hF : F_below ap = [slI 3 ap 1 (((ap).length / 3 : Nat) : Int)] := by unfold F_below; rw [ht26]; first | done | rfl
   refine c_ret1 hE45 rfl rfl ?_
   exact ⟨some ⟨b37, 0, none⟩, 1, (by rw [hF]; exact congrArg (fun q => Value.slice (some ⟨b37, 0, none⟩) q 1) (show 1 = ([slI 3 ap 1 (((ap).length / 3 : Nat) : Int)]).length by first | rfl | simp)), (by rw [hF, show ((belowRows apA apC ap).map (·.1)).map Hd.v = ([⟨subA apA (Int.toNat 1) apC 3, ((slI 3 ap 1 (((ap).length / 3 : Nat) : Int)).length / 3 : Nat), apC - Int.toNat 1⟩]).map Hd.v from (by unfold belowRows; rw [ht26]; first | done | rfl)]; first | exact St.nestV (i := 0) hS41 rfl | (dsimp only; exact St.nestV (i := 0) hS41 rfl)), hS41.ext⟩
  ·
   have hp46 := of_decide_eq_false ht26
   have hE47 := hE25; rw [ht26] at hE47; clear hE25
   refine c_seq ?_
   refine c_reg ?_
   refine q_step (v := .bool (decide ((F_pointParts (gS 3 0 ap 0)) = 2))) hE47 (y_eql rfl rfl) rfl rfl rfl ?_; intro a48 hE49; clear hE47
   refine q_step (v := .bool (decide ((F_pointParts (gS 3 0 ap 0)) = 2))) hE49 (y_assign rfl) rfl rfl rfl ?_; intro a50 hE51; clear hE49
   refine c_nil ?_
   have hE52 := hE51.sub (L' := [(0, .slice apA ((ap).length / 3 : Nat) apC), (14, .bool (decide ((F_pointParts (gS 3 0 ap 0)) = 2)))]) ⟨rfl, rfl, trivial⟩; clear hE51
   refine p_tn ?_
   refine c_cond hE52 rfl (fun ht53 => ?_) (fun ht53 => ?_)
   ·
    have hp54 := of_decide_eq_true ht53
    have hE55 := hE52; rw [ht53] at hE55; clear hE52
    refine c_seq ?_
    refine c_reg ?_
    refine q_step (v := .slice apA ((ap).length / 3 : Nat) apC) hE55 (y_move rfl) rfl rfl rfl ?_; intro a56 hE57; clear hE55
    refine l_step hE57 rfl (l_call (f := 171) (argv := [.slice apA ((ap).length / 3 : Nat) apC, .int .i64 1]) hE57 (fun _ => cf_pointEnd _ _) rfl rfl (c_pointEnd apA ((ap).length / 3 : Nat) apC ap 1 w (St.rdR (i := 0) hS1 rfl) (by omega) (by omega)) ?_)
    rintro _ w59 ⟨rfl, he63⟩ a60 hE61; clear hE57
    have hS62 := St.go hS1 he63; clear hS1
    refine q_step (v := .int .i64 (F_pointEnd ap 1)) hE61 (y_assign rfl) rfl rfl rfl ?_; intro a64 hE65; clear hE61
    refine c_nil ?_
    have hE66 := hE65.sub (L' := [(0, .slice apA ((ap).length / 3 : Nat) apC), (3, .int .i64 (F_pointEnd ap 1))]) ⟨rfl, rfl, trivial⟩; clear hE65
    refine p_tn ?_
    refine c_seq ?_
    refine d_start (fun _ _ => True) [] 8 (by kernel_rfl) rfl ?_
    intro w67 he68; have hS69 := St.go hS62 he68; clear hS62
    refine d_pure (fun _ => trivial) (v := .slice apA ((ap).length / 3 : Nat) apC) 0 rfl hE66 (y_move rfl) rfl (by kernel_rfl) (by kernel_rfl) (by kernel_rfl) rfl rfl (fun _ _ _ h => h) ?_; intro a70 hE71; clear hE66
    refine d_pure (fun _ => trivial) (v := .int .i64 (F_pointEnd ap 1)) 1 rfl hE71 (y_move rfl) rfl (by kernel_rfl) (by kernel_rfl) (by kernel_rfl) rfl rfl (fun _ _ _ h => h) ?_; intro a72 hE73; clear hE71
    have hv75 := (St.rdR (i := 0) hS69 rfl).2.1
    have hv74 : (0 : Int) ≤ 1 ∧ 1 ≤ (F_pointEnd ap 1) ∧ (F_pointEnd ap 1) ≤ (((ap).length / 3 : Nat) : Int) := ⟨(by omega), (by omega), (by omega)⟩
    have hv76 : Int.toNat (F_pointEnd ap 1) - Int.toNat 1 = ((slI 3 ap 1 (F_pointEnd ap 1)).length / 3 : Nat) := ((slI_lenD (by decide) (St.rdR (i := 0) hS69 rfl).1 hv74.2.2)).symm
    have hv77 : Int.toNat (F_pointEnd ap 1) ≤ apC ∧ apC ≤ apC := ⟨by omega, Nat.le_refl _⟩
    refine d_pure (fun _ => trivial) (v := .slice (subA apA (Int.toNat 1) apC 3) ((slI 3 ap 1 (F_pointEnd ap 1)).length / 3 : Nat) (apC - Int.toNat 1)) 2 rfl hE73 (y_sliceLH (by kernel_rfl) (fun _ => by kernel_rfl) rfl rfl rfl hv74.1 hv74.2.1 (by omega) hv76 rfl) rfl (by kernel_rfl) (by kernel_rfl) (by kernel_rfl) rfl rfl (fun _ _ _ h => h) ?_; intro a78 hE79; clear hE73
    refine d_pure (fun _ => trivial) (v := .slice apA ((ap).length / 3 : Nat) apC) 3 rfl hE79 (y_move rfl) rfl (by kernel_rfl) (by kernel_rfl) (by kernel_rfl) rfl rfl (fun _ _ _ h => h) ?_; intro a80 hE81; clear hE79
    refine d_pure (fun _ => trivial) (v := .int .i64 (F_pointEnd ap 1)) 4 rfl hE81 (y_move rfl) rfl (by kernel_rfl) (by kernel_rfl) (by kernel_rfl) rfl rfl (fun _ _ _ h => h) ?_; intro a82 hE83; clear hE81
    have hv85 := (St.rdR (i := 0) hS69 rfl).2.1
    have hv84 : (0 : Int) ≤ (F_pointEnd ap 1) ∧ (F_pointEnd ap 1) ≤ (((ap).length / 3 : Nat) : Int) ∧ (((ap).length / 3 : Nat) : Int) ≤ (((ap).length / 3 : Nat) : Int) := ⟨(by omega), (by omega), (by omega)⟩
    have hv86 : Int.toNat (((ap).length / 3 : Nat) : Int) - Int.toNat (F_pointEnd ap 1) = ((slI 3 ap (F_pointEnd ap 1) (((ap).length / 3 : Nat) : Int)).length / 3 : Nat) := ((slI_lenD (by decide) (St.rdR (i := 0) hS69 rfl).1 hv84.2.2)).symm
    have hv87 : Int.toNat (((ap).length / 3 : Nat) : Int) ≤ apC ∧ apC ≤ apC := ⟨by omega, Nat.le_refl _⟩
    refine d_pure (fun _ => trivial) (v := .slice (subA apA (Int.toNat (F_pointEnd ap 1)) apC 3) ((slI 3 ap (F_pointEnd ap 1) (((ap).length / 3 : Nat) : Int)).length / 3 : Nat) (apC - Int.toNat (F_pointEnd ap 1))) 5 rfl hE83 (y_sliceL (by kernel_rfl) (fun _ => by kernel_rfl) rfl rfl hv84.1 hv84.2.1 (by have h := hv86; omega) rfl) rfl (by kernel_rfl) (by kernel_rfl) (by kernel_rfl) rfl rfl (fun _ _ _ h => h) ?_; intro a88 hE89; clear hE83
    refine d_only 6 (by kernel_rfl) rfl hE89 rfl (l_litN (e := 59) (s := 3) (rows := [(⟨subA apA (Int.toNat 1) apC 3, ((slI 3 ap 1 (F_pointEnd ap 1)).length / 3 : Nat), apC - Int.toNat 1⟩, slI 3 ap 1 (F_pointEnd ap 1)), (⟨subA apA (Int.toNat (F_pointEnd ap 1)) apC 3, ((slI 3 ap (F_pointEnd ap 1) (((ap).length / 3 : Nat) : Int)).length / 3 : Nat), apC - Int.toNat (F_pointEnd ap 1)⟩, slI 3 ap (F_pointEnd ap 1) (((ap).length / 3 : Nat) : Int))]) (hs := [⟨subA apA (Int.toNat 1) apC 3, ((slI 3 ap 1 (F_pointEnd ap 1)).length / 3 : Nat), apC - Int.toNat 1⟩, ⟨subA apA (Int.toNat (F_pointEnd ap 1)) apC 3, ((slI 3 ap (F_pointEnd ap 1) (((ap).length / 3 : Nat) : Int)).length / 3 : Nat), apC - Int.toNat (F_pointEnd ap 1)⟩]) (xss := [slI 3 ap 1 (F_pointEnd ap 1), slI 3 ap (F_pointEnd ap 1) (((ap).length / 3 : Nat) : Int)]) (vs := [.slice (subA apA (Int.toNat 1) apC 3) ((slI 3 ap 1 (F_pointEnd ap 1)).length / 3 : Nat) (apC - Int.toNat 1), .slice (subA apA (Int.toNat (F_pointEnd ap 1)) apC 3) ((slI 3 ap (F_pointEnd ap 1) (((ap).length / 3 : Nat) : Int)).length / 3 : Nat) (apC - Int.toNat (F_pointEnd ap 1))]) hS69 hE89 rfl rfl rfl rfl (fun _ => by kernel_rfl) ⟨⟨(RdS.sub (St.rdR (i := 0) hS69 rfl) apC hv74.1 hv74.2.1 hv74.2.2 hv77.1 hv77.2 hv76 rfl), (RoB.sub (St.robR (i := 0) hS69 rfl))⟩, ⟨(RdS.sub (St.rdR (i := 0) hS69 rfl) apC hv84.1 hv84.2.1 hv84.2.2 hv87.1 hv87.2 hv86 rfl), (RoB.sub (St.robR (i := 0) hS69 rfl))⟩, trivial⟩ rfl rfl rfl ?_)
    intro b90 w91 hS94 he95 a92 hE93; clear hS69 hE89
    refine ⟨fun _ => trivial, ?_⟩
    refine d_pure (fun _ => trivial) (v := .slice (some ⟨b90, 0, none⟩) 2 2) 7 rfl hE93 (y_assign rfl) rfl (by kernel_rfl) (by kernel_rfl) (by kernel_rfl) rfl rfl (fun _ _ _ h => h) ?_; intro a96 hE97; clear hE93
    refine d_done (by kernel_rfl) ?_
    have hE98 := hE97.sub (L' := [(2, .slice (some ⟨b90, 0, none⟩) 2 2)]) ⟨rfl, trivial⟩; clear hE97
    refine p_tn ?_
    refine wp_ret ?_
    refine p_br ?_
    refine p_tr ?_
    have hF : F_below ap = [slI 3 ap 1 (F_pointEnd ap 1), slI 3 ap (F_pointEnd ap 1) (((ap).length / 3 : Nat) : Int)] := by unfold F_below; rw [ht53, ht26]; first | done | rfl
    refine c_ret1 hE98 rfl rfl ?_
    exact ⟨some ⟨b90, 0, none⟩, 2, (by rw [hF]; exact congrArg (fun q => Value.slice (some ⟨b90, 0, none⟩) q 2) (show 2 = ([slI 3 ap 1 (F_pointEnd ap 1), slI 3 ap (F_pointEnd ap 1) (((ap).length / 3 : Nat) : Int)]).length by first | rfl | simp)), (by rw [hF, show ((belowRows apA apC ap).map (·.1)).map Hd.v = ([⟨subA apA (Int.toNat 1) apC 3, ((slI 3 ap 1 (F_pointEnd ap 1)).length / 3 : Nat), apC - Int.toNat 1⟩, ⟨subA apA (Int.toNat (F_pointEnd ap 1)) apC 3, ((slI 3 ap (F_pointEnd ap 1) (((ap).length / 3 : Nat) : Int)).length / 3 : Nat), apC - Int.toNat (F_pointEnd ap 1)⟩]).map Hd.v from (by unfold belowRows; rw [ht53, ht26]; first | done | rfl)]; first | exact St.nestV (i := 0) hS94 rfl | (dsimp only; exact St.nestV (i := 0) hS94 rfl)), hS94.ext⟩
   ·
    have hp99 := of_decide_eq_false ht53
    have hE100 := hE52; rw [ht53] at hE100; clear hE52
    refine wp_skip ?_
    refine p_bn ?_
    refine p_tn ?_
    refine c_seq ?_
    refine c_reg ?_
    refine q_step (v := .slice none 0 0) hE100 (y_assign rfl) rfl rfl rfl ?_; intro a101 hE102; clear hE100
    refine c_nil ?_
    have hE103 := hE102.sub (L' := [(2, .slice none 0 0)]) ⟨rfl, trivial⟩; clear hE102
    refine p_tn ?_
    refine wp_ret ?_
    have hF : F_below ap = [] := by unfold F_below; rw [ht53, ht26]; first | done | rfl
    refine c_ret1 hE103 rfl rfl ?_
    exact ⟨none, 0, (by rw [hF]; first | done | (dsimp only; done) | rfl), (by rw [hF, show ((belowRows apA apC ap).map (·.1)).map Hd.v = [] from (by unfold belowRows; rw [ht53, ht26]; first | done | rfl)]; exact OwnV.nilV _ _ _), hS1.ext⟩
theorem belowRows_xs (a : Option Addr) (c : Nat) (ap : List Int) : (belowRows a c ap).map (·.2) = F_below ap := by
  unfold belowRows F_below
  cases decide (F_pointParts (gS 3 0 ap 0) = 1) <;> cases decide (F_pointParts (gS 3 0 ap 0) = 2) <;> rfl
theorem belowRows_ok {w : World} {Γ : List Ent} {a : Option Addr} {n c : Nat} {ap : List Int} {bd : Int} (h : RdS w 3 a n c ap) (hr : RoB Γ a ap) (hf : IsPm bd ap) : RowsOk w Γ 3 (belowRows a c ap) := by
  have hn := h.lenD (by decide)
  have hc := h.2.1
  have hl := h.1
  have h1l := hf.len
  unfold belowRows
  by_cases h1 : F_pointParts (gS 3 0 ap 0) = 1
  · rw [decide_eq_true h1, cond_true]
    exact ⟨⟨RdS.sub h c (by omega) (by omega) (by omega) (by omega) (by omega) (slI_lenD (by decide) hl (by omega)).symm rfl, RoB.sub hr⟩, trivial⟩
  · rw [decide_eq_false h1, cond_false]
    by_cases h2 : F_pointParts (gS 3 0 ap 0) = 2
    · rw [decide_eq_true h2, cond_true]
      have e := pm_end hf h2
      exact ⟨⟨RdS.sub h c (by omega) e.1 (by omega) (by omega) (by omega) (slI_lenD (by decide) hl (by omega)).symm rfl, RoB.sub hr⟩,
        ⟨RdS.sub h c (by omega) e.2 (by omega) (by omega) (by omega) (slI_lenD (by decide) hl (by omega)).symm rfl, RoB.sub hr⟩, trivial⟩
    · rw [decide_eq_false h2, cond_false]
      exact trivial
theorem below_rows {bd : Int} {ap : List Int} (h : IsPm bd ap) : ((F_below ap).length : Int) = F_pointParts (gS 3 0 ap 0) ∧ ∀ m : Int, 0 ≤ m → m < ((F_below ap).length : Int) → IsPm bd (gL (F_below ap) m) ∧ (gL (F_below ap) m).length + 3 ≤ ap.length := by
  have hb := pointParts_bd (gS 3 0 ap 0)
  unfold F_below
  by_cases h1 : F_pointParts (gS 3 0 ap 0) = 1
  · rw [decide_eq_true h1, cond_true]
    have hu := h.un h1
    have he := h.ev
    have he2 := hu.1.ev
    refine ⟨by rw [h1]; rfl, fun m h0 hm => ?_⟩
    simp at hm
    obtain rfl : m = 0 := by omega
    show IsPm bd (slI 3 ap 1 ((ap.length / 3 : Nat) : Int)) ∧ (slI 3 ap 1 ((ap.length / 3 : Nat) : Int)).length + 3 ≤ ap.length
    exact ⟨hu.1, by omega⟩
  · rw [decide_eq_false h1, cond_false]
    by_cases h2 : F_pointParts (gS 3 0 ap 0) = 2
    · rw [decide_eq_true h2, cond_true]
      have hbn := h.bin h2
      rw [hbn.2.2.2.2]
      refine ⟨by rw [h2]; rfl, fun m h0 hm => ?_⟩
      simp at hm
      rcases (show m = 0 ∨ m = 1 by omega) with rfl | rfl
      · exact ⟨hbn.2.1.1, hbn.2.2.1⟩
      · exact ⟨hbn.2.1.2, hbn.2.2.2.1⟩
    · rw [decide_eq_false h2, cond_false]
      exact ⟨by show ((0 : Nat) : Int) = _; omega, fun m h0 hm => by simp at hm; omega⟩
theorem below_leaf {bd : Int} {k u v : Int} (h : (Pm.leaf k u v).Ok bd) : F_below (Pm.leaf k u v).code = [] := by
  have hk : F_pointParts (gS 3 0 (Pm.leaf k u v).code 0) = 0 := h.1
  unfold F_below
  rw [hk]; rfl
theorem below_un {bd : Int} {k u v : Int} {a : Pm} (h : (Pm.un k u v a).Ok bd) : F_below (Pm.un k u v a).code = [a.code] := by
  have hk : F_pointParts (gS 3 0 (Pm.un k u v a).code 0) = 1 := h.1.1
  unfold F_below
  rw [hk, pm_un, decide_eq_true rfl, cond_true]
theorem below_bin {bd : Int} {k u v : Int} {a b : Pm} (h : (Pm.bin k u v a b).Ok bd) : F_below (Pm.bin k u v a b).code = [a.code, b.code] := by
  have hk : F_pointParts (gS 3 0 (Pm.bin k u v a b).code 0) = 2 := h.1.1
  obtain ⟨p0, p1, p2, p3⟩ := pm_part h
  unfold F_below
  rw [hk, p0, p2, p3, decide_eq_false (by omega), cond_false, decide_eq_true rfl, cond_true]
def F_l10Nested_b (self : List Int → Int) (ap : List Int) : Int :=
  bif (decide ((F_l10Parts (gS 3 0 ap 0)) = 1)) then (1 + (self (slI 3 ap 1 (((ap).length / 3 : Nat) : Int)))) else (bif (decide ((F_l10Parts (gS 3 0 ap 0)) = 2)) then (max (self (slI 3 ap 1 (F_l10End ap 1))) (self (slI 3 ap (F_l10End ap 1) ((ap.length / 3 : Nat) : Int)))) else 0)
def F_l10Nested_r : Nat → List Int → Int
  | 0 => fun _ => default
  | r + 1 => F_l10Nested_b (F_l10Nested_r r)
def F_l10Nested (ap : List Int) : Int := F_l10Nested_r (ap.length + 1) ap
/-- How deep quantifiers are nested. -/
def Pm.nest : Pm → Int
  | .leaf _ _ _ => 0
  | .un _ _ _ a => 1 + a.nest
  | .bin _ _ _ a b => max a.nest b.nest
theorem Pm.nest_bd : (t : Pm) → 0 ≤ t.nest ∧ t.nest ≤ (t.size : Int)
  | .leaf _ _ _ => by unfold Pm.nest Pm.size; omega
  | .un _ _ _ a => by have := a.nest_bd; unfold Pm.nest Pm.size; omega
  | .bin _ _ _ a b => by have := a.nest_bd; have := b.nest_bd; unfold Pm.nest Pm.size; omega
theorem nest_tree (bd : Int) : ∀ (t : Pm) (r : Nat), t.Ok bd → t.code.length < r → F_l10Nested_r r t.code = t.nest := by
  intro t
  induction t with
  | leaf k u v =>
    intro r h hr
    obtain ⟨r, rfl⟩ : ∃ r', r = r' + 1 := ⟨r - 1, by omega⟩
    show F_l10Nested_b (F_l10Nested_r r) (Pm.leaf k u v).code = 0
    unfold F_l10Nested_b
    rw [show gS 3 0 (Pm.leaf k u v).code 0 = k from rfl, l10Parts_k h.2.1, h.1]; rfl
  | un k u v a ih =>
    intro r h hr
    obtain ⟨r, rfl⟩ : ∃ r', r = r' + 1 := ⟨r - 1, by omega⟩
    have e : (Pm.un k u v a).code = k :: u :: v :: a.code := rfl
    have hl : a.code.length < r := by rw [e] at hr; simp only [List.length_cons] at hr; omega
    show F_l10Nested_b (F_l10Nested_r r) (Pm.un k u v a).code = 1 + a.nest
    unfold F_l10Nested_b
    rw [show gS 3 0 (Pm.un k u v a).code 0 = k from rfl, l10Parts_k h.1.2.1, h.1.1, pm_un, ih r h.2 hl]; rfl
  | bin k u v a b iha ihb =>
    intro r h hr
    obtain ⟨r, rfl⟩ : ∃ r', r = r' + 1 := ⟨r - 1, by omega⟩
    have e : (Pm.bin k u v a b).code = k :: u :: v :: (a.code ++ b.code) := rfl
    have hla : a.code.length < r := by rw [e] at hr; simp only [List.length_cons, List.length_append] at hr; omega
    have hlb : b.code.length < r := by rw [e] at hr; simp only [List.length_cons, List.length_append] at hr; omega
    obtain ⟨p0, p1, p2, p3⟩ := pm_part h
    show F_l10Nested_b (F_l10Nested_r r) (Pm.bin k u v a b).code = max a.nest b.nest
    unfold F_l10Nested_b
    rw [show gS 3 0 (Pm.bin k u v a b).code 0 = k from rfl, l10Parts_k h.1.2.1, h.1.1, p1, p2, p3, iha r h.2.1 hla, ihb r h.2.2 hlb]; rfl
theorem nestPost : ∀ (r : Nat) (ap : List Int) (hl : ap.length ≤ 4194304) (hf : IsPm 6 ap) (hm : ap.length < r), 0 ≤ F_l10Nested_r r ap ∧ F_l10Nested_r r ap ≤ (ap.length : Int) := by
  intro r ap _ hf hm
  obtain ⟨t, ht, rfl⟩ := hf
  have := t.nest_bd
  have := t.code_len
  rw [nest_tree 6 t r ht hm]; omega
theorem cf_l10Nested (args : Array Value) (w : World) : (callFunc 167 args).run Try.prog w = .ok (.enter 167 args) w := by kernel_rfl
set_option maxRecDepth 100000 in
theorem cb_l10Nested (self : List Int → Int) (mu : Nat) (hpost : ∀ (ap : List Int) (hl : ap.length ≤ 4194304) (hf : IsPm 6 ap) (hm : ap.length < mu), 0 ≤ (self ap) ∧ (self ap) ≤ (ap.length : Int)) (apA : Option Addr) (apN apC : Nat) (ap : List Int) (w : World) (apR : RdS w 3 apA apN apC ap) (hl : ap.length ≤ 4194304) (hf : IsPm 6 ap) (hmu : mu = ap.length) (ih : ∀ (apA : Option Addr) (apN apC : Nat) (ap : List Int) (w : World) (apR : RdS w 3 apA apN apC ap) (hl : ap.length ≤ 4194304) (hf : IsPm 6 ap) (hdec : ap.length < mu), Calls Try.prog 167 #[.slice apA apN apC] w (Ret fun v w' => v = .int .i64 (self ap) ∧ Ext w w')) :
    Calls Try.prog 167 #[.slice apA apN apC] w (Ret fun v w' => v = .int .i64 (F_l10Nested_b self ap) ∧ Ext w w') := by
  obtain rfl : apN = ap.length / 3 := (apR.lenD (by decide)).symm
  have apEv := apR.ev (by decide)
  have apLe := apR.le
  have hl1 := hf.len
  have hpk := pm_kind hf
  have hS := St.nil w
  have hS1 := St.rd0 hS rfl apR; clear hS
  refine enter (args := [.slice apA ((ap).length / 3 : Nat) apC]) Try.func167 rfl rfl ?_
  rw [Try.ntmps167]; intro a hE
  have hE := hE.sub (L' := [(0, .slice apA ((ap).length / 3 : Nat) apC)]) ⟨rfl, trivial⟩
  refine c_seq ?_
  refine c_reg ?_
  refine q_step (v := .int .i64 0) hE (y_assign rfl) rfl rfl rfl ?_; intro a2 hE3; clear hE
  refine c_nil ?_
  have hE4 := hE3.sub (L' := [(0, .slice apA ((ap).length / 3 : Nat) apC)]) ⟨rfl, trivial⟩; clear hE3
  refine p_tn ?_
  refine c_seq ?_
  refine c_seq ?_
  refine c_reg ?_
  refine q_step (v := .slice apA ((ap).length / 3 : Nat) apC) hE4 (y_move rfl) rfl rfl rfl ?_; intro a5 hE6; clear hE4
  refine q_step (v := .pointer (some (adr apA (Int.toNat 0 * 3)))) hE6 (y_idx (by kernel_rfl) (fun _ => by kernel_rfl) rfl rfl (RdS.isS (m := 0) (St.rdR (i := 0) hS1 rfl) (by omega) (by omega)) (by omega) (by omega) rfl) rfl rfl rfl ?_; intro a7 hE8; clear hE6
  refine q_step (v := .pointer (some (adr apA ((Int.toNat 0 * 3) + 0)))) hE8 (y_fieldE (o := 0) (fun _ _ => by kernel_rfl) rfl) rfl rfl rfl ?_; intro a9 hE10; clear hE8
  refine q_step (v := .int .i64 (gS 3 0 ap 0)) hE10 (y_load (fun _ => by kernel_rfl) rfl (RdS.eltS (j := 0) (St.rdR (i := 0) hS1 rfl) (by omega) (by omega) (by decide))) rfl rfl rfl ?_; intro a11 hE12; clear hE10
  refine l_step hE12 rfl (l_call (f := 161) (argv := [.int .i64 (gS 3 0 ap 0)]) hE12 (fun _ => cf_l10Parts _ _) rfl rfl (c_l10Parts (gS 3 0 ap 0) w) ?_)
  rintro _ _ ⟨rfl, rfl⟩ a15 hE16; clear hE12
  have hf19 := l10Parts_bd (gS 3 0 ap 0)
  refine c_nil ?_
  have hE20 := hE16.sub (L' := [(0, .slice apA ((ap).length / 3 : Nat) apC), (7, .int .i64 (F_l10Parts (gS 3 0 ap 0)))]) ⟨rfl, rfl, trivial⟩; clear hE16
  refine p_tn ?_
  refine wp_block ?_
  refine c_seq ?_
  refine c_reg ?_
  refine q_step (v := .bool (decide ((F_l10Parts (gS 3 0 ap 0)) = 1))) hE20 (y_eql rfl rfl) rfl rfl rfl ?_; intro a21 hE22; clear hE20
  refine q_step (v := .bool (decide ((F_l10Parts (gS 3 0 ap 0)) = 1))) hE22 (y_assign rfl) rfl rfl rfl ?_; intro a23 hE24; clear hE22
  refine c_nil ?_
  have hE25 := hE24.sub (L' := [(0, .slice apA ((ap).length / 3 : Nat) apC), (7, .int .i64 (F_l10Parts (gS 3 0 ap 0))), (8, .bool (decide ((F_l10Parts (gS 3 0 ap 0)) = 1)))]) ⟨rfl, rfl, rfl, trivial⟩; clear hE24
  refine p_tn ?_
  refine c_cond hE25 rfl (fun ht26 => ?_) (fun ht26 => ?_)
  ·
   have hp27 := of_decide_eq_true ht26
   have hE28 := hE25; rw [ht26] at hE28; clear hE25
   refine c_seq ?_
   refine c_reg ?_
   refine q_step (v := .slice apA ((ap).length / 3 : Nat) apC) hE28 (y_move rfl) rfl rfl rfl ?_; intro a29 hE30; clear hE28
   have hv32 := (St.rdR (i := 0) hS1 rfl).2.1
   have hv31 : (0 : Int) ≤ 1 ∧ 1 ≤ (((ap).length / 3 : Nat) : Int) ∧ (((ap).length / 3 : Nat) : Int) ≤ (((ap).length / 3 : Nat) : Int) := ⟨(by omega), (by omega), (by omega)⟩
   have hv33 : Int.toNat (((ap).length / 3 : Nat) : Int) - Int.toNat 1 = ((slI 3 ap 1 (((ap).length / 3 : Nat) : Int)).length / 3 : Nat) := ((slI_lenD (by decide) (St.rdR (i := 0) hS1 rfl).1 hv31.2.2)).symm
   have hv34 : Int.toNat (((ap).length / 3 : Nat) : Int) ≤ apC ∧ apC ≤ apC := ⟨by omega, Nat.le_refl _⟩
   refine q_step (v := .slice (subA apA (Int.toNat 1) apC 3) ((slI 3 ap 1 (((ap).length / 3 : Nat) : Int)).length / 3 : Nat) (apC - Int.toNat 1)) hE30 (y_sliceL (by kernel_rfl) (fun _ => by kernel_rfl) rfl rfl hv31.1 hv31.2.1 (by have h := hv33; omega) rfl) rfl rfl rfl ?_; intro a35 hE36; clear hE30
   refine l_step hE36 rfl (l_call (f := 167) (argv := [.slice (subA apA (Int.toNat 1) apC 3) ((slI 3 ap 1 (((ap).length / 3 : Nat) : Int)).length / 3 : Nat) (apC - Int.toNat 1)]) hE36 (fun _ => cf_l10Nested _ _) rfl rfl (ih (subA apA (Int.toNat 1) apC 3) ((slI 3 ap 1 (((ap).length / 3 : Nat) : Int)).length / 3 : Nat) (apC - Int.toNat 1) (slI 3 ap 1 (((ap).length / 3 : Nat) : Int)) w (RdS.sub (St.rdR (i := 0) hS1 rfl) apC hv31.1 hv31.2.1 hv31.2.2 hv34.1 hv34.2 hv33 rfl) (Nat.le_trans (slI_le 3 _ _ _) hl) (by first | (with_reducible exact hbn.2.1.1) | (with_reducible exact hbn.2.1.2) | exact (IsPm.un hf (by omega)).1) (by first | (have h := hbn.2.2; omega) | (have h := (IsPm.un hf (by omega)).2; omega))) ?_)
   rintro _ w38 ⟨rfl, he42⟩ a39 hE40; clear hE36
   have hf43 := hpost (slI 3 ap 1 (((ap).length / 3 : Nat) : Int)) (Nat.le_trans (slI_le 3 _ _ _) hl) (by first | (with_reducible exact hbn.2.1.1) | (with_reducible exact hbn.2.1.2) | exact (IsPm.un hf (by omega)).1) (by first | (have h := hbn.2.2; omega) | (have h := (IsPm.un hf (by omega)).2; omega))
   have hS41 := St.go hS1 he42; clear hS1
   refine q_step (v := .int .i64 (1 + (self (slI 3 ap 1 (((ap).length / 3 : Nat) : Int))))) hE40 (y_add rfl rfl ⟨(by omega), (by omega)⟩) rfl rfl rfl ?_; intro a44 hE45; clear hE40
   refine q_step (v := .int .i64 (1 + (self (slI 3 ap 1 (((ap).length / 3 : Nat) : Int))))) hE45 (y_assign rfl) rfl rfl rfl ?_; intro a46 hE47; clear hE45
   refine c_nil ?_
   have hE48 := hE47.sub (L' := [(2, .int .i64 (1 + (self (slI 3 ap 1 (((ap).length / 3 : Nat) : Int)))))]) ⟨rfl, trivial⟩; clear hE47
   refine p_tn ?_
   refine wp_ret ?_
   refine p_br ?_
   refine p_tr ?_
   have hF : F_l10Nested_b self ap = 1 + (self (slI 3 ap 1 (((ap).length / 3 : Nat) : Int))) := by unfold F_l10Nested_b; rw [ht26]; first | done | rfl
   refine c_ret1 hE48 rfl rfl ?_
   exact ⟨(by rw [hF]; first | done | (dsimp only; done) | rfl), hS41.ext⟩
  ·
   have hp49 := of_decide_eq_false ht26
   have hE50 := hE25; rw [ht26] at hE50; clear hE25
   refine c_seq ?_
   refine c_reg ?_
   refine q_step (v := .bool (decide ((F_l10Parts (gS 3 0 ap 0)) = 2))) hE50 (y_eql rfl rfl) rfl rfl rfl ?_; intro a51 hE52; clear hE50
   refine q_step (v := .bool (decide ((F_l10Parts (gS 3 0 ap 0)) = 2))) hE52 (y_assign rfl) rfl rfl rfl ?_; intro a53 hE54; clear hE52
   refine c_nil ?_
   have hE55 := hE54.sub (L' := [(0, .slice apA ((ap).length / 3 : Nat) apC), (14, .bool (decide ((F_l10Parts (gS 3 0 ap 0)) = 2)))]) ⟨rfl, rfl, trivial⟩; clear hE54
   refine p_tn ?_
   refine c_cond hE55 rfl (fun ht56 => ?_) (fun ht56 => ?_)
   ·
    have hp57 := of_decide_eq_true ht56
    have hE58 := hE55; rw [ht56] at hE58; clear hE55
    refine c_seq ?_
    refine c_reg ?_
    refine q_step (v := .slice apA ((ap).length / 3 : Nat) apC) hE58 (y_move rfl) rfl rfl rfl ?_; intro a59 hE60; clear hE58
    refine l_step hE60 rfl (l_call (f := 165) (argv := [.slice apA ((ap).length / 3 : Nat) apC]) hE60 (fun _ => cf_l10Left _ _) rfl rfl (c_l10Left apA ((ap).length / 3 : Nat) apC ap w (St.rdR (i := 0) hS1 rfl) (by omega) (by omega) (IsPm.bin hf (by omega)).1) ?_)
    rintro _ w62 ⟨rfl, he66⟩ a63 hE64; clear hE60
    have hbn := IsPm.bin hf (by omega)
    have hS65 := St.go hS1 he66; clear hS1
    have hv70 := (St.rdR (i := 0) hS65 rfl).2.1
    have hv67 : (0 : Int) ≤ 1 ∧ 1 ≤ (F_l10End ap 1) ∧ (F_l10End ap 1) ≤ (((ap).length / 3 : Nat) : Int) := ⟨(by omega), (by omega), (by omega)⟩
    have hv68 : Int.toNat (F_l10End ap 1) - Int.toNat 1 = ((slI 3 ap 1 (F_l10End ap 1)).length / 3 : Nat) := ((slI_lenD (by decide) (St.rdR (i := 0) hS65 rfl).1 hv67.2.2)).symm
    have hv69 : Int.toNat (F_l10End ap 1) ≤ apC ∧ apC ≤ apC := ⟨by omega, by omega⟩
    refine l_step hE64 rfl (l_call (f := 167) (argv := [.slice (subA apA (Int.toNat 1) apC 3) ((slI 3 ap 1 (F_l10End ap 1)).length / 3 : Nat) (apC - (Int.toNat 1))]) hE64 (fun _ => cf_l10Nested _ _) rfl rfl (ih (subA apA (Int.toNat 1) apC 3) ((slI 3 ap 1 (F_l10End ap 1)).length / 3 : Nat) (apC - (Int.toNat 1)) (slI 3 ap 1 (F_l10End ap 1)) w62 (RdS.sub (St.rdR (i := 0) hS65 rfl) apC hv67.1 hv67.2.1 hv67.2.2 hv69.1 hv69.2 hv68 rfl) (Nat.le_trans (slI_le 3 _ _ _) hl) (by first | (with_reducible exact hbn.2.1.1) | (with_reducible exact hbn.2.1.2) | exact (IsPm.un hf (by omega)).1) (by first | (have h := hbn.2.2; omega) | (have h := (IsPm.un hf (by omega)).2; omega))) ?_)
    rintro _ w72 ⟨rfl, he76⟩ a73 hE74; clear hE64
    have hf77 := hpost (slI 3 ap 1 (F_l10End ap 1)) (Nat.le_trans (slI_le 3 _ _ _) hl) (by first | (with_reducible exact hbn.2.1.1) | (with_reducible exact hbn.2.1.2) | exact (IsPm.un hf (by omega)).1) (by first | (have h := hbn.2.2; omega) | (have h := (IsPm.un hf (by omega)).2; omega))
    have hS75 := St.go hS65 he76; clear hS65
    refine q_step (v := .slice apA ((ap).length / 3 : Nat) apC) hE74 (y_move rfl) rfl rfl rfl ?_; intro a78 hE79; clear hE74
    refine l_step hE79 rfl (l_call (f := 166) (argv := [.slice apA ((ap).length / 3 : Nat) apC]) hE79 (fun _ => cf_l10Right _ _) rfl rfl (c_l10Right apA ((ap).length / 3 : Nat) apC ap w72 (St.rdR (i := 0) hS75 rfl) (by omega) (by omega) (IsPm.bin hf (by omega)).1) ?_)
    rintro _ w81 ⟨rfl, he85⟩ a82 hE83; clear hE79
    have hbn := IsPm.bin hf (by omega)
    have hS84 := St.go hS75 he85; clear hS75
    have hv89 := (St.rdR (i := 0) hS84 rfl).2.1
    have hv86 : (0 : Int) ≤ (F_l10End ap 1) ∧ (F_l10End ap 1) ≤ ((ap.length / 3 : Nat) : Int) ∧ ((ap.length / 3 : Nat) : Int) ≤ (((ap).length / 3 : Nat) : Int) := ⟨(by omega), (by omega), (by omega)⟩
    have hv87 : Int.toNat ((ap.length / 3 : Nat) : Int) - Int.toNat (F_l10End ap 1) = ((slI 3 ap (F_l10End ap 1) ((ap.length / 3 : Nat) : Int)).length / 3 : Nat) := ((slI_lenD (by decide) (St.rdR (i := 0) hS84 rfl).1 hv86.2.2)).symm
    have hv88 : Int.toNat ((ap.length / 3 : Nat) : Int) ≤ apC ∧ apC ≤ apC := ⟨by omega, by omega⟩
    refine l_step hE83 rfl (l_call (f := 167) (argv := [.slice (subA apA (Int.toNat (F_l10End ap 1)) apC 3) ((slI 3 ap (F_l10End ap 1) ((ap.length / 3 : Nat) : Int)).length / 3 : Nat) (apC - (Int.toNat (F_l10End ap 1)))]) hE83 (fun _ => cf_l10Nested _ _) rfl rfl (ih (subA apA (Int.toNat (F_l10End ap 1)) apC 3) ((slI 3 ap (F_l10End ap 1) ((ap.length / 3 : Nat) : Int)).length / 3 : Nat) (apC - (Int.toNat (F_l10End ap 1))) (slI 3 ap (F_l10End ap 1) ((ap.length / 3 : Nat) : Int)) w81 (RdS.sub (St.rdR (i := 0) hS84 rfl) apC hv86.1 hv86.2.1 hv86.2.2 hv88.1 hv88.2 hv87 rfl) (Nat.le_trans (slI_le 3 _ _ _) hl) (by first | (with_reducible exact hbn.2.1.1) | (with_reducible exact hbn.2.1.2) | exact (IsPm.un hf (by omega)).1) (by first | (have h := hbn.2.2; omega) | (have h := (IsPm.un hf (by omega)).2; omega))) ?_)
    rintro _ w91 ⟨rfl, he95⟩ a92 hE93; clear hE83
    have hf96 := hpost (slI 3 ap (F_l10End ap 1) ((ap.length / 3 : Nat) : Int)) (Nat.le_trans (slI_le 3 _ _ _) hl) (by first | (with_reducible exact hbn.2.1.1) | (with_reducible exact hbn.2.1.2) | exact (IsPm.un hf (by omega)).1) (by first | (have h := hbn.2.2; omega) | (have h := (IsPm.un hf (by omega)).2; omega))
    have hS94 := St.go hS84 he95; clear hS84
    refine q_step (v := .int .i64 (max (self (slI 3 ap 1 (F_l10End ap 1))) (self (slI 3 ap (F_l10End ap 1) ((ap.length / 3 : Nat) : Int))))) hE93 (y_max rfl rfl) rfl rfl rfl ?_; intro a97 hE98; clear hE93
    refine q_step (v := .int .i64 (max (self (slI 3 ap 1 (F_l10End ap 1))) (self (slI 3 ap (F_l10End ap 1) ((ap.length / 3 : Nat) : Int))))) hE98 (y_assign rfl) rfl rfl rfl ?_; intro a99 hE100; clear hE98
    refine c_nil ?_
    have hE101 := hE100.sub (L' := [(2, .int .i64 (max (self (slI 3 ap 1 (F_l10End ap 1))) (self (slI 3 ap (F_l10End ap 1) ((ap.length / 3 : Nat) : Int)))))]) ⟨rfl, trivial⟩; clear hE100
    refine p_tn ?_
    refine wp_ret ?_
    refine p_br ?_
    refine p_tr ?_
    have hF : F_l10Nested_b self ap = max (self (slI 3 ap 1 (F_l10End ap 1))) (self (slI 3 ap (F_l10End ap 1) ((ap.length / 3 : Nat) : Int))) := by unfold F_l10Nested_b; rw [ht56, ht26]; first | done | rfl
    refine c_ret1 hE101 rfl rfl ?_
    exact ⟨(by rw [hF]; first | done | (dsimp only; done) | rfl), hS94.ext⟩
   ·
    have hp102 := of_decide_eq_false ht56
    have hE103 := hE55; rw [ht56] at hE103; clear hE55
    refine wp_skip ?_
    refine p_bn ?_
    refine p_tn ?_
    refine c_seq ?_
    refine c_reg ?_
    refine q_step (v := .int .i64 0) hE103 (y_assign rfl) rfl rfl rfl ?_; intro a104 hE105; clear hE103
    refine c_nil ?_
    have hE106 := hE105.sub (L' := [(2, .int .i64 0)]) ⟨rfl, trivial⟩; clear hE105
    refine p_tn ?_
    refine wp_ret ?_
    have hF : F_l10Nested_b self ap = 0 := by unfold F_l10Nested_b; rw [ht56, ht26]; first | done | rfl
    refine c_ret1 hE106 rfl rfl ?_
    exact ⟨(by rw [hF]; first | done | (dsimp only; done) | rfl), hS1.ext⟩
theorem c_l10Nested_r : ∀ (r : Nat) (apA : Option Addr) (apN apC : Nat) (ap : List Int) (w : World) (apR : RdS w 3 apA apN apC ap) (hl : ap.length ≤ 4194304) (hf : IsPm 6 ap) (hlt : ap.length < r), Calls Try.prog 167 #[.slice apA apN apC] w (Ret fun v w' => v = .int .i64 ((F_l10Nested_r r) ap) ∧ Ext w w') := by
  intro r
  induction r with
  | zero => intros; omega
  | succ r ih =>
    intro apA apN apC ap w apR hl hf hlt
    exact cb_l10Nested (F_l10Nested_r r) ap.length (fun ap hl hf hm => nestPost r ap hl hf (by omega)) apA apN apC ap w apR hl hf rfl (fun apA apN apC ap w apR hl hf hdec => ih apA apN apC ap w apR hl hf (by omega))
theorem c_l10Nested (apA : Option Addr) (apN apC : Nat) (ap : List Int) (w : World) (apR : RdS w 3 apA apN apC ap) (hl : ap.length ≤ 4194304) (hf : IsPm 6 ap) :
    Calls Try.prog 167 #[.slice apA apN apC] w (Ret fun v w' => v = .int .i64 (F_l10Nested ap) ∧ Ext w w') := c_l10Nested_r (ap.length + 1) apA apN apC ap w apR hl hf (Nat.lt_succ_self _)
theorem nested_tree {bd : Int} {t : Pm} (h : t.Ok bd) : F_l10Nested t.code = t.nest := nest_tree bd t _ h (Nat.lt_succ_self _)
theorem nested_bd (ap : List Int) {bd : Int} (hf : IsPm bd ap) : 0 ≤ F_l10Nested ap ∧ F_l10Nested ap ≤ (ap.length : Int) := by
  obtain ⟨t, ht, rfl⟩ := hf
  have := t.nest_bd
  have := t.code_len
  rw [nested_tree ht]; omega
def F_l10Free_b (self : List Int → Int) (ap : List Int) : Int :=
  bif (decide ((gS 3 0 ap 0) = 0)) then (orI (powI (gS 3 1 ap 0)) (powI (gS 3 2 ap 0))) else (bif (decide ((gS 3 0 ap 0) = 1)) then (orI (powI (gS 3 1 ap 0)) (powI (gS 3 2 ap 0))) else (bif (decide ((gS 3 0 ap 0) = 2)) then (powI (gS 3 2 ap 0)) else (bif (decide ((gS 3 0 ap 0) = 3)) then 0 else (bif (decide ((gS 3 0 ap 0) = 7)) then (anI (self (slI 3 ap 1 (((ap).length / 3 : Nat) : Int))) (powI (gS 3 1 ap 0))) else (bif (decide ((gS 3 0 ap 0) = 8)) then (anI (self (slI 3 ap 1 (((ap).length / 3 : Nat) : Int))) (powI (gS 3 1 ap 0))) else (orI (self (slI 3 ap 1 (F_l10End ap 1))) (self (slI 3 ap (F_l10End ap 1) ((ap.length / 3 : Nat) : Int)))))))))
def F_l10Free_r : Nat → List Int → Int
  | 0 => fun _ => default
  | r + 1 => F_l10Free_b (F_l10Free_r r)
def F_l10Free (ap : List Int) : Int := F_l10Free_r (ap.length + 1) ap
/-- The points that are free. -/
def Pm.free : Pm → Int
  | .leaf k u v => bif decide (k = 0) then orI (powI u) (powI v) else bif decide (k = 1) then orI (powI u) (powI v) else bif decide (k = 2) then powI v else 0
  | .un _ u _ a => anI a.free (powI u)
  | .bin _ _ _ a b => orI a.free b.free
theorem pow_mk {n : Nat} {u : Int} (h0 : 0 ≤ u) (h1 : u < (n : Int)) : Mk n (powI u) := by
  have : Mk n (powI ((u.toNat : Nat) : Int)) := Mk.pow (by omega)
  rwa [Int.toNat_of_nonneg h0] at this
theorem anI_mk {n : Nat} (hn : n ≤ 62) {a b : Int} (ha : Mk n a) (hb : Mk n b) : Mk n (anI a b) ∧ ∀ j, tb (anI a b) j = (tb a j && !tb b j) := by
  have h1 := ha.sm hn
  have h2 := hb.sm hn
  obtain ⟨h3, h4, h5⟩ := anI_testBit ha.1 (by omega) hb.1 (by omega)
  have e : ∀ j, tb (anI a b) j = (tb a j && !tb b j) := fun j => h5 j
  refine ⟨Mk.ofBits h3 fun j hj => ?_, e⟩
  rw [e, Bool.and_eq_true] at hj
  exact tb_lt ha hj.1
theorem leaf_kind {bd k u v : Int} (h : ndP bd 0 k u v) : k = 0 ∨ k = 1 ∨ k = 2 ∨ k = 3 := by
  obtain ⟨k1, _⟩ := node_kind h.2.1
  have := parts_kind k k1
  have := h.1
  omega
theorem Pm.free_mk {bd : Int} : (t : Pm) → t.Ok bd → Mk 10 t.free
  | .leaf k u v, h => by
    obtain ⟨k1, k2, k3, k4⟩ := node_kind h.2.1
    unfold Pm.free
    rcases leaf_kind h with rfl | rfl | rfl | rfl
    · have := k2 (by omega)
      exact (Mk.or (by omega) (pow_mk (by omega) (by omega)) (pow_mk (by omega) (by omega))).1
    · have := k2 (by omega)
      exact (Mk.or (by omega) (pow_mk (by omega) (by omega)) (pow_mk (by omega) (by omega))).1
    · have := k3 rfl
      exact pow_mk (by omega) (by omega)
    · exact Mk.zero 10
  | .un k u v a, h => by
    obtain ⟨k1, k2, k3, k4⟩ := node_kind h.1.2.1
    have := parts_kind k k1
    have := h.1.1
    have hu := k4 (by omega)
    exact (anI_mk (by omega) (a.free_mk h.2) (pow_mk hu.1 (by omega))).1
  | .bin k u v a b, h => (Mk.or (by omega) (a.free_mk h.2.1) (b.free_mk h.2.2)).1
theorem un_kind {bd k u v : Int} (h : ndP bd 1 k u v) : k = 7 ∨ k = 8 := by
  obtain ⟨k1, _⟩ := node_kind h.2.1
  have := parts_kind k k1
  have := h.1
  omega
theorem bin_kind {bd k u v : Int} (h : ndP bd 2 k u v) : k = 4 ∨ k = 5 ∨ k = 6 := by
  obtain ⟨k1, _⟩ := node_kind h.2.1
  have := parts_kind k k1
  have := h.1
  omega
theorem free_tree (bd : Int) : ∀ (t : Pm) (r : Nat), t.Ok bd → t.code.length < r → F_l10Free_r r t.code = t.free := by
  intro t
  induction t with
  | leaf k u v =>
    intro r h hr
    obtain ⟨r, rfl⟩ : ∃ r', r = r' + 1 := ⟨r - 1, by omega⟩
    show F_l10Free_b (F_l10Free_r r) (Pm.leaf k u v).code = (Pm.leaf k u v).free
    unfold F_l10Free_b Pm.free
    rw [show gS 3 0 (Pm.leaf k u v).code 0 = k from rfl, show gS 3 1 (Pm.leaf k u v).code 0 = u from rfl, show gS 3 2 (Pm.leaf k u v).code 0 = v from rfl]
    rcases leaf_kind h with rfl | rfl | rfl | rfl <;> rfl
  | un k u v a ih =>
    intro r h hr
    obtain ⟨r, rfl⟩ : ∃ r', r = r' + 1 := ⟨r - 1, by omega⟩
    have e : (Pm.un k u v a).code = k :: u :: v :: a.code := rfl
    have hl : a.code.length < r := by rw [e] at hr; simp only [List.length_cons] at hr; omega
    show F_l10Free_b (F_l10Free_r r) (Pm.un k u v a).code = anI a.free (powI u)
    unfold F_l10Free_b
    rw [show gS 3 0 (Pm.un k u v a).code 0 = k from rfl, show gS 3 1 (Pm.un k u v a).code 0 = u from rfl, pm_un, ih r h.2 hl]
    rcases un_kind h.1 with rfl | rfl <;> rfl
  | bin k u v a b iha ihb =>
    intro r h hr
    obtain ⟨r, rfl⟩ : ∃ r', r = r' + 1 := ⟨r - 1, by omega⟩
    have e : (Pm.bin k u v a b).code = k :: u :: v :: (a.code ++ b.code) := rfl
    have hla : a.code.length < r := by rw [e] at hr; simp only [List.length_cons, List.length_append] at hr; omega
    have hlb : b.code.length < r := by rw [e] at hr; simp only [List.length_cons, List.length_append] at hr; omega
    obtain ⟨p0, p1, p2, p3⟩ := pm_part h
    show F_l10Free_b (F_l10Free_r r) (Pm.bin k u v a b).code = orI a.free b.free
    unfold F_l10Free_b
    rw [show gS 3 0 (Pm.bin k u v a b).code 0 = k from rfl, p1, p2, p3, iha r h.2.1 hla, ihb r h.2.2 hlb]
    rcases bin_kind h.1 with rfl | rfl | rfl <;> rfl
theorem freePost : ∀ (r : Nat) (ap : List Int) (hl : ap.length ≤ 4194304) (hf : IsPm 6 ap) (hm : ap.length < r), 0 ≤ F_l10Free_r r ap ∧ F_l10Free_r r ap ≤ 1023 := by
  intro r ap _ hf hm
  obtain ⟨t, ht, rfl⟩ := hf
  rw [free_tree 6 t r ht hm]
  exact t.free_mk ht
theorem cf_l10Free (args : Array Value) (w : World) : (callFunc 99 args).run Try.prog w = .ok (.enter 99 args) w := by kernel_rfl
set_option maxRecDepth 100000 in
theorem cb_l10Free (self : List Int → Int) (mu : Nat) (hpost : ∀ (ap : List Int) (hl : ap.length ≤ 4194304) (hf : IsPm 6 ap) (hm : ap.length < mu), 0 ≤ (self ap) ∧ (self ap) ≤ 1023) (apA : Option Addr) (apN apC : Nat) (ap : List Int) (w : World) (apR : RdS w 3 apA apN apC ap) (hl : ap.length ≤ 4194304) (hf : IsPm 6 ap) (hmu : mu = ap.length) (ih : ∀ (apA : Option Addr) (apN apC : Nat) (ap : List Int) (w : World) (apR : RdS w 3 apA apN apC ap) (hl : ap.length ≤ 4194304) (hf : IsPm 6 ap) (hdec : ap.length < mu), Calls Try.prog 99 #[.slice apA apN apC] w (Ret fun v w' => v = .int .i64 (self ap) ∧ Ext w w')) :
    Calls Try.prog 99 #[.slice apA apN apC] w (Ret fun v w' => v = .int .i64 (F_l10Free_b self ap) ∧ Ext w w') := by
  obtain rfl : apN = ap.length / 3 := (apR.lenD (by decide)).symm
  have apEv := apR.ev (by decide)
  have apLe := apR.le
  have hl1 := hf.len
  have hpk := pm_kind hf
  have hS := St.nil w
  have hS1 := St.rd0 hS rfl apR; clear hS
  refine enter (args := [.slice apA ((ap).length / 3 : Nat) apC]) Try.func99 rfl rfl ?_
  rw [Try.ntmps99]; intro a hE
  have hE := hE.sub (L' := [(0, .slice apA ((ap).length / 3 : Nat) apC)]) ⟨rfl, trivial⟩
  refine c_seq ?_
  refine c_reg ?_
  refine q_step (v := .int .i64 0) hE (y_assign rfl) rfl rfl rfl ?_; intro a2 hE3; clear hE
  refine c_nil ?_
  have hE4 := hE3.sub (L' := [(0, .slice apA ((ap).length / 3 : Nat) apC)]) ⟨rfl, trivial⟩; clear hE3
  refine p_tn ?_
  refine c_seq ?_
  refine c_reg ?_
  refine q_step (v := .slice apA ((ap).length / 3 : Nat) apC) hE4 (y_move rfl) rfl rfl rfl ?_; intro a5 hE6; clear hE4
  refine q_step (v := .pointer (some (adr apA (Int.toNat 0 * 3)))) hE6 (y_idx (by kernel_rfl) (fun _ => by kernel_rfl) rfl rfl (RdS.isS (m := 0) (St.rdR (i := 0) hS1 rfl) (by omega) (by omega)) (by omega) (by omega) rfl) rfl rfl rfl ?_; intro a7 hE8; clear hE6
  refine q_step (v := .agg #[.int .i64 (gS 3 0 ap 0), .int .i64 (gS 3 1 ap 0), .int .i64 (gS 3 2 ap 0)]) hE8 (y_loadE Try.underlying115 rfl (by kernel_rfl) rfl (RdS.rng3 (St.rdR (i := 0) hS1 rfl) (by omega) (by omega))) rfl rfl rfl ?_; intro a9 hE10; clear hE8
  refine l_step hE10 rfl (l_alloc (z := .agg #[.int .i64 0, .int .i64 0, .int .i64 0]) (cs := #[.int .i64 0, .int .i64 0, .int .i64 0]) hS1 hE10 (fun _ => by kernel_rfl) rfl rfl ?_)
  intro b11 w12 hS15 he16 a13 hE14; clear hS1 hE10
  refine l_step hE14 rfl (l_storeS (k := 0) (cs' := #[.int .i64 (gS 3 0 ap 0), .int .i64 (gS 3 1 ap 0), .int .i64 (gS 3 2 ap 0)]) hS15 hE14 (by kernel_rfl) rfl rfl (by kernel_rfl) rfl rfl ?_)
  intro w18 hS21 a19 hE20; clear hS15 hE14
  refine c_nil ?_
  have hE23 := hE20.sub (L' := [(0, .slice apA ((ap).length / 3 : Nat) apC), (3, .pointer (some ⟨b11, 0, none⟩))]) ⟨rfl, rfl, trivial⟩; clear hE20
  refine p_tn ?_
  refine c_seq ?_
  refine c_seq ?_
  refine c_reg ?_
  refine q_step (v := .pointer (some ⟨b11, 0, none⟩)) hE23 (y_field rfl (fun _ => by kernel_rfl)) rfl rfl rfl ?_; intro a24 hE25; clear hE23
  refine q_step (v := .int .i64 (gS 3 0 ap 0)) hE25 (y_load (fun _ => by kernel_rfl) rfl (St.cell (i := 0) hS21 rfl rfl)) rfl rfl rfl ?_; intro a26 hE27; clear hE25
  refine c_nil ?_
  have hE28 := hE27.sub (L' := [(0, .slice apA ((ap).length / 3 : Nat) apC), (3, .pointer (some ⟨b11, 0, none⟩)), (8, .int .i64 (gS 3 0 ap 0))]) ⟨rfl, rfl, rfl, trivial⟩; clear hE27
  refine p_tn ?_
  refine wp_block ?_
  refine c_seq ?_
  refine c_seq ?_
  refine c_reg ?_
  refine q_step (v := .bool (decide ((gS 3 0 ap 0) = 0))) hE28 (y_eql rfl rfl) rfl rfl rfl ?_; intro a29 hE30; clear hE28
  refine q_step (v := .bool (decide ((gS 3 0 ap 0) = 0))) hE30 (y_assign rfl) rfl rfl rfl ?_; intro a31 hE32; clear hE30
  refine c_nil ?_
  have hE33 := hE32.sub (L' := [(0, .slice apA ((ap).length / 3 : Nat) apC), (3, .pointer (some ⟨b11, 0, none⟩)), (8, .int .i64 (gS 3 0 ap 0)), (9, .bool (decide ((gS 3 0 ap 0) = 0)))]) ⟨rfl, rfl, rfl, rfl, trivial⟩; clear hE32
  refine p_tn ?_
  refine c_cond hE33 rfl (fun ht34 => ?_) (fun ht34 => ?_)
  ·
   have hp35 := of_decide_eq_true ht34
   have hE36 := hE33; rw [ht34] at hE36; clear hE33
   refine wp_skip ?_
   refine p_tn ?_
   refine c_true hE36 rfl ?_
   refine c_seq ?_
   refine d_start (fun w w' => (fun w' => w'.cell? ⟨b11, 1, none⟩ = some (.int .i64 (gS 3 1 ap 0)) ∧ w'.cell? ⟨b11, 2, none⟩ = some (.int .i64 (gS 3 2 ap 0)) ∧ True) w → (fun w' => w'.cell? ⟨b11, 1, none⟩ = some (.int .i64 (gS 3 1 ap 0)) ∧ w'.cell? ⟨b11, 2, none⟩ = some (.int .i64 (gS 3 2 ap 0)) ∧ True) w') [1, 4] 8 (by kernel_rfl) rfl ?_
   intro w37 he38; have hS39 := St.go hS21 he38; clear hS21
   refine d_pure (fun _ h => h) (v := .pointer (some ⟨b11, 1, none⟩)) 0 rfl hE36 (y_field rfl (fun _ => by kernel_rfl)) rfl (by kernel_rfl) (by kernel_rfl) (by kernel_rfl) rfl rfl (fun _ _ _ h => h) ?_; intro a40 hE41; clear hE36
   refine d_take (fun _ h => h) (fun _ _ h k => h k) (v := .int .i64 (gS 3 1 ap 0)) 1 rfl hE41 (S := fun w' => w'.cell? ⟨b11, 1, none⟩ = some (.int .i64 (gS 3 1 ap 0)) ∧ w'.cell? ⟨b11, 2, none⟩ = some (.int .i64 (gS 3 2 ap 0)) ∧ True) ⟨(St.cell (i := 0) hS39 rfl rfl _ (Ext.refl _)), (St.cell (i := 0) hS39 rfl rfl _ (Ext.refl _)), trivial⟩ (y_load (fun _ => by kernel_rfl) rfl (fun _ h => h.1)) rfl rfl (by kernel_rfl) (by kernel_rfl) (by kernel_rfl) (by kernel_rfl) rfl rfl (fun _ _ _ h => h) ?_; intro a42 hE43; clear hE41
   refine d_pure (fun _ h => h) (v := .pointer (some ⟨b11, 2, none⟩)) 3 rfl hE43 (y_field rfl (fun _ => by kernel_rfl)) rfl (by kernel_rfl) (by kernel_rfl) (by kernel_rfl) rfl rfl (fun _ _ _ h => h) ?_; intro a44 hE45; clear hE43
   refine d_take (fun _ h => h) (fun _ _ h k => h k) (v := .int .i64 (gS 3 2 ap 0)) 4 rfl hE45 (S := fun w' => w'.cell? ⟨b11, 1, none⟩ = some (.int .i64 (gS 3 1 ap 0)) ∧ w'.cell? ⟨b11, 2, none⟩ = some (.int .i64 (gS 3 2 ap 0)) ∧ True) ⟨(St.cell (i := 0) hS39 rfl rfl _ (Ext.refl _)), (St.cell (i := 0) hS39 rfl rfl _ (Ext.refl _)), trivial⟩ (y_load (fun _ => by kernel_rfl) rfl (fun _ h => h.2.1)) rfl rfl (by kernel_rfl) (by kernel_rfl) (by kernel_rfl) (by kernel_rfl) rfl rfl (fun _ _ _ h => h) ?_; intro a46 hE47; clear hE45
   refine d_only 2 (by kernel_rfl) rfl hE47 rfl (l_call (f := 164) (argv := [.int .i64 (gS 3 1 ap 0)]) hE47 (fun _ => cf_l01One _ _) rfl rfl (d_l01One (gS 3 1 ap 0) w37 (by omega) (by omega)) ?_)
   rintro _ _ ⟨rfl, rfl⟩ a50 hE51; clear hE47
   refine ⟨fun _ _ => ⟨(St.cell (i := 0) hS39 rfl rfl _ (Ext.refl _)), (St.cell (i := 0) hS39 rfl rfl _ (Ext.refl _)), trivial⟩, ?_⟩
   refine d_only 5 (by kernel_rfl) rfl hE51 rfl (l_call (f := 164) (argv := [.int .i64 (gS 3 2 ap 0)]) hE51 (fun _ => cf_l01One _ _) rfl rfl (d_l01One (gS 3 2 ap 0) w37 (by omega) (by omega)) ?_)
   rintro _ _ ⟨rfl, rfl⟩ a56 hE57; clear hE51
   refine ⟨fun h => Bool.noConfusion (h.symm.trans (show exm _ _ _ = true by kernel_rfl)), ?_⟩
   refine d_pure (fun _ h => h) (v := .int .i64 (orI (powI (gS 3 1 ap 0)) (powI (gS 3 2 ap 0)))) 6 rfl hE57 (y_or rfl rfl) rfl (by kernel_rfl) (by kernel_rfl) (by kernel_rfl) rfl rfl (fun _ _ _ h => h) ?_; intro a60 hE61; clear hE57
   refine d_pure (fun _ h => h) (v := .int .i64 (orI (powI (gS 3 1 ap 0)) (powI (gS 3 2 ap 0)))) 7 rfl hE61 (y_assign rfl) rfl (by kernel_rfl) (by kernel_rfl) (by kernel_rfl) rfl rfl (fun _ _ _ h => h) ?_; intro a62 hE63; clear hE61
   refine d_done (by kernel_rfl) ?_
   have hE64 := hE63.sub (L' := [(2, .int .i64 (orI (powI (gS 3 1 ap 0)) (powI (gS 3 2 ap 0))))]) ⟨rfl, trivial⟩; clear hE63
   refine p_tn ?_
   refine wp_ret ?_
   refine p_br ?_
   refine p_tr ?_
   have hF : F_l10Free_b self ap = orI (powI (gS 3 1 ap 0)) (powI (gS 3 2 ap 0)) := by unfold F_l10Free_b; rw [ht34]; first | done | rfl
   refine c_ret1 hE64 rfl rfl ?_
   exact ⟨(by rw [hF]; first | done | (dsimp only; done) | rfl), hS39.ext⟩
  ·
   have hp65 := of_decide_eq_false ht34
   have hE66 := hE33; rw [ht34] at hE66; clear hE33
   refine c_reg ?_
   refine q_step (v := .bool (decide ((gS 3 0 ap 0) = 1))) hE66 (y_eql rfl rfl) rfl rfl rfl ?_; intro a67 hE68; clear hE66
   refine q_step (v := .bool (decide ((gS 3 0 ap 0) = 1))) hE68 (y_assign rfl) rfl rfl rfl ?_; intro a69 hE70; clear hE68
   refine c_nil ?_
   have hE71 := hE70.sub (L' := [(0, .slice apA ((ap).length / 3 : Nat) apC), (3, .pointer (some ⟨b11, 0, none⟩)), (8, .int .i64 (gS 3 0 ap 0)), (9, .bool (decide ((gS 3 0 ap 0) = 1)))]) ⟨rfl, rfl, rfl, rfl, trivial⟩; clear hE70
   refine p_tn ?_
   refine c_cond hE71 rfl (fun ht72 => ?_) (fun ht72 => ?_)
   ·
    have hp73 := of_decide_eq_true ht72
    have hE74 := hE71; rw [ht72] at hE74; clear hE71
    refine c_seq ?_
    refine d_start (fun w w' => (fun w' => w'.cell? ⟨b11, 1, none⟩ = some (.int .i64 (gS 3 1 ap 0)) ∧ w'.cell? ⟨b11, 2, none⟩ = some (.int .i64 (gS 3 2 ap 0)) ∧ True) w → (fun w' => w'.cell? ⟨b11, 1, none⟩ = some (.int .i64 (gS 3 1 ap 0)) ∧ w'.cell? ⟨b11, 2, none⟩ = some (.int .i64 (gS 3 2 ap 0)) ∧ True) w') [1, 4] 8 (by kernel_rfl) rfl ?_
    intro w75 he76; have hS77 := St.go hS21 he76; clear hS21
    refine d_pure (fun _ h => h) (v := .pointer (some ⟨b11, 1, none⟩)) 0 rfl hE74 (y_field rfl (fun _ => by kernel_rfl)) rfl (by kernel_rfl) (by kernel_rfl) (by kernel_rfl) rfl rfl (fun _ _ _ h => h) ?_; intro a78 hE79; clear hE74
    refine d_take (fun _ h => h) (fun _ _ h k => h k) (v := .int .i64 (gS 3 1 ap 0)) 1 rfl hE79 (S := fun w' => w'.cell? ⟨b11, 1, none⟩ = some (.int .i64 (gS 3 1 ap 0)) ∧ w'.cell? ⟨b11, 2, none⟩ = some (.int .i64 (gS 3 2 ap 0)) ∧ True) ⟨(St.cell (i := 0) hS77 rfl rfl _ (Ext.refl _)), (St.cell (i := 0) hS77 rfl rfl _ (Ext.refl _)), trivial⟩ (y_load (fun _ => by kernel_rfl) rfl (fun _ h => h.1)) rfl rfl (by kernel_rfl) (by kernel_rfl) (by kernel_rfl) (by kernel_rfl) rfl rfl (fun _ _ _ h => h) ?_; intro a80 hE81; clear hE79
    refine d_pure (fun _ h => h) (v := .pointer (some ⟨b11, 2, none⟩)) 3 rfl hE81 (y_field rfl (fun _ => by kernel_rfl)) rfl (by kernel_rfl) (by kernel_rfl) (by kernel_rfl) rfl rfl (fun _ _ _ h => h) ?_; intro a82 hE83; clear hE81
    refine d_take (fun _ h => h) (fun _ _ h k => h k) (v := .int .i64 (gS 3 2 ap 0)) 4 rfl hE83 (S := fun w' => w'.cell? ⟨b11, 1, none⟩ = some (.int .i64 (gS 3 1 ap 0)) ∧ w'.cell? ⟨b11, 2, none⟩ = some (.int .i64 (gS 3 2 ap 0)) ∧ True) ⟨(St.cell (i := 0) hS77 rfl rfl _ (Ext.refl _)), (St.cell (i := 0) hS77 rfl rfl _ (Ext.refl _)), trivial⟩ (y_load (fun _ => by kernel_rfl) rfl (fun _ h => h.2.1)) rfl rfl (by kernel_rfl) (by kernel_rfl) (by kernel_rfl) (by kernel_rfl) rfl rfl (fun _ _ _ h => h) ?_; intro a84 hE85; clear hE83
    refine d_only 2 (by kernel_rfl) rfl hE85 rfl (l_call (f := 164) (argv := [.int .i64 (gS 3 1 ap 0)]) hE85 (fun _ => cf_l01One _ _) rfl rfl (d_l01One (gS 3 1 ap 0) w75 (by omega) (by omega)) ?_)
    rintro _ _ ⟨rfl, rfl⟩ a88 hE89; clear hE85
    refine ⟨fun _ _ => ⟨(St.cell (i := 0) hS77 rfl rfl _ (Ext.refl _)), (St.cell (i := 0) hS77 rfl rfl _ (Ext.refl _)), trivial⟩, ?_⟩
    refine d_only 5 (by kernel_rfl) rfl hE89 rfl (l_call (f := 164) (argv := [.int .i64 (gS 3 2 ap 0)]) hE89 (fun _ => cf_l01One _ _) rfl rfl (d_l01One (gS 3 2 ap 0) w75 (by omega) (by omega)) ?_)
    rintro _ _ ⟨rfl, rfl⟩ a94 hE95; clear hE89
    refine ⟨fun h => Bool.noConfusion (h.symm.trans (show exm _ _ _ = true by kernel_rfl)), ?_⟩
    refine d_pure (fun _ h => h) (v := .int .i64 (orI (powI (gS 3 1 ap 0)) (powI (gS 3 2 ap 0)))) 6 rfl hE95 (y_or rfl rfl) rfl (by kernel_rfl) (by kernel_rfl) (by kernel_rfl) rfl rfl (fun _ _ _ h => h) ?_; intro a98 hE99; clear hE95
    refine d_pure (fun _ h => h) (v := .int .i64 (orI (powI (gS 3 1 ap 0)) (powI (gS 3 2 ap 0)))) 7 rfl hE99 (y_assign rfl) rfl (by kernel_rfl) (by kernel_rfl) (by kernel_rfl) rfl rfl (fun _ _ _ h => h) ?_; intro a100 hE101; clear hE99
    refine d_done (by kernel_rfl) ?_
    have hE102 := hE101.sub (L' := [(2, .int .i64 (orI (powI (gS 3 1 ap 0)) (powI (gS 3 2 ap 0))))]) ⟨rfl, trivial⟩; clear hE101
    refine p_tn ?_
    refine wp_ret ?_
    refine p_br ?_
    refine p_tr ?_
    have hF : F_l10Free_b self ap = orI (powI (gS 3 1 ap 0)) (powI (gS 3 2 ap 0)) := by unfold F_l10Free_b; rw [ht72, ht34]; first | done | rfl
    refine c_ret1 hE102 rfl rfl ?_
    exact ⟨(by rw [hF]; first | done | (dsimp only; done) | rfl), hS77.ext⟩
   ·
    have hp103 := of_decide_eq_false ht72
    have hE104 := hE71; rw [ht72] at hE104; clear hE71
    refine c_seq ?_
    refine c_reg ?_
    refine q_step (v := .bool (decide ((gS 3 0 ap 0) = 2))) hE104 (y_eql rfl rfl) rfl rfl rfl ?_; intro a105 hE106; clear hE104
    refine q_step (v := .bool (decide ((gS 3 0 ap 0) = 2))) hE106 (y_assign rfl) rfl rfl rfl ?_; intro a107 hE108; clear hE106
    refine c_nil ?_
    have hE109 := hE108.sub (L' := [(0, .slice apA ((ap).length / 3 : Nat) apC), (3, .pointer (some ⟨b11, 0, none⟩)), (8, .int .i64 (gS 3 0 ap 0)), (19, .bool (decide ((gS 3 0 ap 0) = 2)))]) ⟨rfl, rfl, rfl, rfl, trivial⟩; clear hE108
    refine p_tn ?_
    refine c_cond hE109 rfl (fun ht110 => ?_) (fun ht110 => ?_)
    ·
     have hp111 := of_decide_eq_true ht110
     have hE112 := hE109; rw [ht110] at hE112; clear hE109
     refine c_seq ?_
     refine c_reg ?_
     refine q_step (v := .pointer (some ⟨b11, 2, none⟩)) hE112 (y_field rfl (fun _ => by kernel_rfl)) rfl rfl rfl ?_; intro a113 hE114; clear hE112
     refine q_step (v := .int .i64 (gS 3 2 ap 0)) hE114 (y_load (fun _ => by kernel_rfl) rfl (St.cell (i := 0) hS21 rfl rfl)) rfl rfl rfl ?_; intro a115 hE116; clear hE114
     refine l_step hE116 rfl (l_call (f := 164) (argv := [.int .i64 (gS 3 2 ap 0)]) hE116 (fun _ => cf_l01One _ _) rfl rfl (d_l01One (gS 3 2 ap 0) w18 (by omega) (by omega)) ?_)
     rintro _ _ ⟨rfl, rfl⟩ a119 hE120; clear hE116
     refine q_step (v := .int .i64 (powI (gS 3 2 ap 0))) hE120 (y_assign rfl) rfl rfl rfl ?_; intro a123 hE124; clear hE120
     refine c_nil ?_
     have hE125 := hE124.sub (L' := [(2, .int .i64 (powI (gS 3 2 ap 0)))]) ⟨rfl, trivial⟩; clear hE124
     refine p_tn ?_
     refine wp_ret ?_
     refine p_br ?_
     refine p_tr ?_
     have hF : F_l10Free_b self ap = powI (gS 3 2 ap 0) := by unfold F_l10Free_b; rw [ht110, ht72, ht34]; first | done | rfl
     refine c_ret1 hE125 rfl rfl ?_
     exact ⟨(by rw [hF]; first | done | (dsimp only; done) | rfl), hS21.ext⟩
    ·
     have hp126 := of_decide_eq_false ht110
     have hE127 := hE109; rw [ht110] at hE127; clear hE109
     refine c_seq ?_
     refine c_reg ?_
     refine q_step (v := .bool (decide ((gS 3 0 ap 0) = 3))) hE127 (y_eql rfl rfl) rfl rfl rfl ?_; intro a128 hE129; clear hE127
     refine q_step (v := .bool (decide ((gS 3 0 ap 0) = 3))) hE129 (y_assign rfl) rfl rfl rfl ?_; intro a130 hE131; clear hE129
     refine c_nil ?_
     have hE132 := hE131.sub (L' := [(0, .slice apA ((ap).length / 3 : Nat) apC), (3, .pointer (some ⟨b11, 0, none⟩)), (8, .int .i64 (gS 3 0 ap 0)), (24, .bool (decide ((gS 3 0 ap 0) = 3)))]) ⟨rfl, rfl, rfl, rfl, trivial⟩; clear hE131
     refine p_tn ?_
     refine c_cond hE132 rfl (fun ht133 => ?_) (fun ht133 => ?_)
     ·
      have hp134 := of_decide_eq_true ht133
      have hE135 := hE132; rw [ht133] at hE135; clear hE132
      refine c_seq ?_
      refine c_reg ?_
      refine q_step (v := .int .i64 0) hE135 (y_assign rfl) rfl rfl rfl ?_; intro a136 hE137; clear hE135
      refine c_nil ?_
      have hE138 := hE137.sub (L' := [(2, .int .i64 0)]) ⟨rfl, trivial⟩; clear hE137
      refine p_tn ?_
      refine wp_ret ?_
      refine p_br ?_
      refine p_tr ?_
      have hF : F_l10Free_b self ap = 0 := by unfold F_l10Free_b; rw [ht133, ht110, ht72, ht34]; first | done | rfl
      refine c_ret1 hE138 rfl rfl ?_
      exact ⟨(by rw [hF]; first | done | (dsimp only; done) | rfl), hS21.ext⟩
     ·
      have hp139 := of_decide_eq_false ht133
      have hE140 := hE132; rw [ht133] at hE140; clear hE132
      refine c_seq ?_
      refine c_seq ?_
      refine c_reg ?_
      refine q_step (v := .bool (decide ((gS 3 0 ap 0) = 7))) hE140 (y_eql rfl rfl) rfl rfl rfl ?_; intro a141 hE142; clear hE140
      refine q_step (v := .bool (decide ((gS 3 0 ap 0) = 7))) hE142 (y_assign rfl) rfl rfl rfl ?_; intro a143 hE144; clear hE142
      refine c_nil ?_
      have hE145 := hE144.sub (L' := [(0, .slice apA ((ap).length / 3 : Nat) apC), (3, .pointer (some ⟨b11, 0, none⟩)), (8, .int .i64 (gS 3 0 ap 0)), (26, .bool (decide ((gS 3 0 ap 0) = 7)))]) ⟨rfl, rfl, rfl, rfl, trivial⟩; clear hE144
      refine p_tn ?_
      refine c_cond hE145 rfl (fun ht146 => ?_) (fun ht146 => ?_)
      ·
       have hp147 := of_decide_eq_true ht146
       have hE148 := hE145; rw [ht146] at hE148; clear hE145
       refine wp_skip ?_
       refine p_tn ?_
       refine c_true hE148 rfl ?_
       refine c_seq ?_
       refine d_start (fun w w' => (fun w' => w'.cell? ⟨b11, 1, none⟩ = some (.int .i64 (gS 3 1 ap 0)) ∧ True) w → (fun w' => w'.cell? ⟨b11, 1, none⟩ = some (.int .i64 (gS 3 1 ap 0)) ∧ True) w') [4] 8 (by kernel_rfl) rfl ?_
       intro w149 he150; have hS151 := St.go hS21 he150; clear hS21
       refine d_pure (fun _ h => h) (v := .slice apA ((ap).length / 3 : Nat) apC) 0 rfl hE148 (y_move rfl) rfl (by kernel_rfl) (by kernel_rfl) (by kernel_rfl) rfl rfl (fun _ _ _ h => h) ?_; intro a152 hE153; clear hE148
       have hv155 := (St.rdR (i := 1) hS151 rfl).2.1
       have hv154 : (0 : Int) ≤ 1 ∧ 1 ≤ (((ap).length / 3 : Nat) : Int) ∧ (((ap).length / 3 : Nat) : Int) ≤ (((ap).length / 3 : Nat) : Int) := ⟨(by omega), (by omega), (by omega)⟩
       have hv156 : Int.toNat (((ap).length / 3 : Nat) : Int) - Int.toNat 1 = ((slI 3 ap 1 (((ap).length / 3 : Nat) : Int)).length / 3 : Nat) := ((slI_lenD (by decide) (St.rdR (i := 1) hS151 rfl).1 hv154.2.2)).symm
       have hv157 : Int.toNat (((ap).length / 3 : Nat) : Int) ≤ apC ∧ apC ≤ apC := ⟨by omega, Nat.le_refl _⟩
       refine d_pure (fun _ h => h) (v := .slice (subA apA (Int.toNat 1) apC 3) ((slI 3 ap 1 (((ap).length / 3 : Nat) : Int)).length / 3 : Nat) (apC - Int.toNat 1)) 1 rfl hE153 (y_sliceL (by kernel_rfl) (fun _ => by kernel_rfl) rfl rfl hv154.1 hv154.2.1 (by have h := hv156; omega) rfl) rfl (by kernel_rfl) (by kernel_rfl) (by kernel_rfl) rfl rfl (fun _ _ _ h => h) ?_; intro a158 hE159; clear hE153
       refine d_pure (fun _ h => h) (v := .pointer (some ⟨b11, 1, none⟩)) 3 rfl hE159 (y_field rfl (fun _ => by kernel_rfl)) rfl (by kernel_rfl) (by kernel_rfl) (by kernel_rfl) rfl rfl (fun _ _ _ h => h) ?_; intro a160 hE161; clear hE159
       refine d_take (fun _ h => h) (fun _ _ h k => h k) (v := .int .i64 (gS 3 1 ap 0)) 4 rfl hE161 (S := fun w' => w'.cell? ⟨b11, 1, none⟩ = some (.int .i64 (gS 3 1 ap 0)) ∧ True) ⟨(St.cell (i := 0) hS151 rfl rfl _ (Ext.refl _)), trivial⟩ (y_load (fun _ => by kernel_rfl) rfl (fun _ h => h.1)) rfl rfl (by kernel_rfl) (by kernel_rfl) (by kernel_rfl) (by kernel_rfl) rfl rfl (fun _ _ _ h => h) ?_; intro a162 hE163; clear hE161
       refine d_only 2 (by kernel_rfl) rfl hE163 rfl (l_call (f := 99) (argv := [.slice (subA apA (Int.toNat 1) apC 3) ((slI 3 ap 1 (((ap).length / 3 : Nat) : Int)).length / 3 : Nat) (apC - Int.toNat 1)]) hE163 (fun _ => cf_l10Free _ _) rfl rfl (ih (subA apA (Int.toNat 1) apC 3) ((slI 3 ap 1 (((ap).length / 3 : Nat) : Int)).length / 3 : Nat) (apC - Int.toNat 1) (slI 3 ap 1 (((ap).length / 3 : Nat) : Int)) w149 (RdS.sub (St.rdR (i := 1) hS151 rfl) apC hv154.1 hv154.2.1 hv154.2.2 hv157.1 hv157.2 hv156 rfl) (Nat.le_trans (slI_le 3 _ _ _) hl) (by first | (with_reducible exact hbn.2.1.1) | (with_reducible exact hbn.2.1.2) | exact (IsPm.un hf (by omega)).1) (by first | (have h := hbn.2.2; omega) | (have h := (IsPm.un hf (by omega)).2; omega))) ?_)
       rintro _ w165 ⟨rfl, he169⟩ a166 hE167; clear hE163
       have hf170 := hpost (slI 3 ap 1 (((ap).length / 3 : Nat) : Int)) (Nat.le_trans (slI_le 3 _ _ _) hl) (by first | (with_reducible exact hbn.2.1.1) | (with_reducible exact hbn.2.1.2) | exact (IsPm.un hf (by omega)).1) (by first | (have h := hbn.2.2; omega) | (have h := (IsPm.un hf (by omega)).2; omega))
       have hS168 := St.go hS151 he169; clear hS151
       refine ⟨fun _ _ => ⟨(St.cell (i := 0) hS168 rfl rfl _ (Ext.refl _)), trivial⟩, ?_⟩
       refine d_only 5 (by kernel_rfl) rfl hE167 rfl (l_call (f := 164) (argv := [.int .i64 (gS 3 1 ap 0)]) hE167 (fun _ => cf_l01One _ _) rfl rfl (d_l01One (gS 3 1 ap 0) w165 (by omega) (by omega)) ?_)
       rintro _ _ ⟨rfl, rfl⟩ a173 hE174; clear hE167
       refine ⟨fun h => Bool.noConfusion (h.symm.trans (show exm _ _ _ = true by kernel_rfl)), ?_⟩
       refine d_pure (fun _ h => h) (v := .int .i64 (anI (self (slI 3 ap 1 (((ap).length / 3 : Nat) : Int))) (powI (gS 3 1 ap 0)))) 6 rfl hE174 (y_andNot rfl rfl) rfl (by kernel_rfl) (by kernel_rfl) (by kernel_rfl) rfl rfl (fun _ _ _ h => h) ?_; intro a177 hE178; clear hE174
       refine d_pure (fun _ h => h) (v := .int .i64 (anI (self (slI 3 ap 1 (((ap).length / 3 : Nat) : Int))) (powI (gS 3 1 ap 0)))) 7 rfl hE178 (y_assign rfl) rfl (by kernel_rfl) (by kernel_rfl) (by kernel_rfl) rfl rfl (fun _ _ _ h => h) ?_; intro a179 hE180; clear hE178
       refine d_done (by kernel_rfl) ?_
       have hE181 := hE180.sub (L' := [(2, .int .i64 (anI (self (slI 3 ap 1 (((ap).length / 3 : Nat) : Int))) (powI (gS 3 1 ap 0))))]) ⟨rfl, trivial⟩; clear hE180
       refine p_tn ?_
       refine wp_ret ?_
       refine p_br ?_
       refine p_tr ?_
       have hF : F_l10Free_b self ap = anI (self (slI 3 ap 1 (((ap).length / 3 : Nat) : Int))) (powI (gS 3 1 ap 0)) := by unfold F_l10Free_b; rw [ht146, ht133, ht110, ht72, ht34]; first | done | rfl
       refine c_ret1 hE181 rfl rfl ?_
       exact ⟨(by rw [hF]; first | done | (dsimp only; done) | rfl), hS168.ext⟩
      ·
       have hp182 := of_decide_eq_false ht146
       have hE183 := hE145; rw [ht146] at hE183; clear hE145
       refine c_reg ?_
       refine q_step (v := .bool (decide ((gS 3 0 ap 0) = 8))) hE183 (y_eql rfl rfl) rfl rfl rfl ?_; intro a184 hE185; clear hE183
       refine q_step (v := .bool (decide ((gS 3 0 ap 0) = 8))) hE185 (y_assign rfl) rfl rfl rfl ?_; intro a186 hE187; clear hE185
       refine c_nil ?_
       have hE188 := hE187.sub (L' := [(0, .slice apA ((ap).length / 3 : Nat) apC), (3, .pointer (some ⟨b11, 0, none⟩)), (26, .bool (decide ((gS 3 0 ap 0) = 8)))]) ⟨rfl, rfl, rfl, trivial⟩; clear hE187
       refine p_tn ?_
       refine c_cond hE188 rfl (fun ht189 => ?_) (fun ht189 => ?_)
       ·
        have hp190 := of_decide_eq_true ht189
        have hE191 := hE188; rw [ht189] at hE191; clear hE188
        refine c_seq ?_
        refine d_start (fun w w' => (fun w' => w'.cell? ⟨b11, 1, none⟩ = some (.int .i64 (gS 3 1 ap 0)) ∧ True) w → (fun w' => w'.cell? ⟨b11, 1, none⟩ = some (.int .i64 (gS 3 1 ap 0)) ∧ True) w') [4] 8 (by kernel_rfl) rfl ?_
        intro w192 he193; have hS194 := St.go hS21 he193; clear hS21
        refine d_pure (fun _ h => h) (v := .slice apA ((ap).length / 3 : Nat) apC) 0 rfl hE191 (y_move rfl) rfl (by kernel_rfl) (by kernel_rfl) (by kernel_rfl) rfl rfl (fun _ _ _ h => h) ?_; intro a195 hE196; clear hE191
        have hv198 := (St.rdR (i := 1) hS194 rfl).2.1
        have hv197 : (0 : Int) ≤ 1 ∧ 1 ≤ (((ap).length / 3 : Nat) : Int) ∧ (((ap).length / 3 : Nat) : Int) ≤ (((ap).length / 3 : Nat) : Int) := ⟨(by omega), (by omega), (by omega)⟩
        have hv199 : Int.toNat (((ap).length / 3 : Nat) : Int) - Int.toNat 1 = ((slI 3 ap 1 (((ap).length / 3 : Nat) : Int)).length / 3 : Nat) := ((slI_lenD (by decide) (St.rdR (i := 1) hS194 rfl).1 hv197.2.2)).symm
        have hv200 : Int.toNat (((ap).length / 3 : Nat) : Int) ≤ apC ∧ apC ≤ apC := ⟨by omega, Nat.le_refl _⟩
        refine d_pure (fun _ h => h) (v := .slice (subA apA (Int.toNat 1) apC 3) ((slI 3 ap 1 (((ap).length / 3 : Nat) : Int)).length / 3 : Nat) (apC - Int.toNat 1)) 1 rfl hE196 (y_sliceL (by kernel_rfl) (fun _ => by kernel_rfl) rfl rfl hv197.1 hv197.2.1 (by have h := hv199; omega) rfl) rfl (by kernel_rfl) (by kernel_rfl) (by kernel_rfl) rfl rfl (fun _ _ _ h => h) ?_; intro a201 hE202; clear hE196
        refine d_pure (fun _ h => h) (v := .pointer (some ⟨b11, 1, none⟩)) 3 rfl hE202 (y_field rfl (fun _ => by kernel_rfl)) rfl (by kernel_rfl) (by kernel_rfl) (by kernel_rfl) rfl rfl (fun _ _ _ h => h) ?_; intro a203 hE204; clear hE202
        refine d_take (fun _ h => h) (fun _ _ h k => h k) (v := .int .i64 (gS 3 1 ap 0)) 4 rfl hE204 (S := fun w' => w'.cell? ⟨b11, 1, none⟩ = some (.int .i64 (gS 3 1 ap 0)) ∧ True) ⟨(St.cell (i := 0) hS194 rfl rfl _ (Ext.refl _)), trivial⟩ (y_load (fun _ => by kernel_rfl) rfl (fun _ h => h.1)) rfl rfl (by kernel_rfl) (by kernel_rfl) (by kernel_rfl) (by kernel_rfl) rfl rfl (fun _ _ _ h => h) ?_; intro a205 hE206; clear hE204
        refine d_only 2 (by kernel_rfl) rfl hE206 rfl (l_call (f := 99) (argv := [.slice (subA apA (Int.toNat 1) apC 3) ((slI 3 ap 1 (((ap).length / 3 : Nat) : Int)).length / 3 : Nat) (apC - Int.toNat 1)]) hE206 (fun _ => cf_l10Free _ _) rfl rfl (ih (subA apA (Int.toNat 1) apC 3) ((slI 3 ap 1 (((ap).length / 3 : Nat) : Int)).length / 3 : Nat) (apC - Int.toNat 1) (slI 3 ap 1 (((ap).length / 3 : Nat) : Int)) w192 (RdS.sub (St.rdR (i := 1) hS194 rfl) apC hv197.1 hv197.2.1 hv197.2.2 hv200.1 hv200.2 hv199 rfl) (Nat.le_trans (slI_le 3 _ _ _) hl) (by first | (with_reducible exact hbn.2.1.1) | (with_reducible exact hbn.2.1.2) | exact (IsPm.un hf (by omega)).1) (by first | (have h := hbn.2.2; omega) | (have h := (IsPm.un hf (by omega)).2; omega))) ?_)
        rintro _ w208 ⟨rfl, he212⟩ a209 hE210; clear hE206
        have hf213 := hpost (slI 3 ap 1 (((ap).length / 3 : Nat) : Int)) (Nat.le_trans (slI_le 3 _ _ _) hl) (by first | (with_reducible exact hbn.2.1.1) | (with_reducible exact hbn.2.1.2) | exact (IsPm.un hf (by omega)).1) (by first | (have h := hbn.2.2; omega) | (have h := (IsPm.un hf (by omega)).2; omega))
        have hS211 := St.go hS194 he212; clear hS194
        refine ⟨fun _ _ => ⟨(St.cell (i := 0) hS211 rfl rfl _ (Ext.refl _)), trivial⟩, ?_⟩
        refine d_only 5 (by kernel_rfl) rfl hE210 rfl (l_call (f := 164) (argv := [.int .i64 (gS 3 1 ap 0)]) hE210 (fun _ => cf_l01One _ _) rfl rfl (d_l01One (gS 3 1 ap 0) w208 (by omega) (by omega)) ?_)
        rintro _ _ ⟨rfl, rfl⟩ a216 hE217; clear hE210
        refine ⟨fun h => Bool.noConfusion (h.symm.trans (show exm _ _ _ = true by kernel_rfl)), ?_⟩
        refine d_pure (fun _ h => h) (v := .int .i64 (anI (self (slI 3 ap 1 (((ap).length / 3 : Nat) : Int))) (powI (gS 3 1 ap 0)))) 6 rfl hE217 (y_andNot rfl rfl) rfl (by kernel_rfl) (by kernel_rfl) (by kernel_rfl) rfl rfl (fun _ _ _ h => h) ?_; intro a220 hE221; clear hE217
        refine d_pure (fun _ h => h) (v := .int .i64 (anI (self (slI 3 ap 1 (((ap).length / 3 : Nat) : Int))) (powI (gS 3 1 ap 0)))) 7 rfl hE221 (y_assign rfl) rfl (by kernel_rfl) (by kernel_rfl) (by kernel_rfl) rfl rfl (fun _ _ _ h => h) ?_; intro a222 hE223; clear hE221
        refine d_done (by kernel_rfl) ?_
        have hE224 := hE223.sub (L' := [(2, .int .i64 (anI (self (slI 3 ap 1 (((ap).length / 3 : Nat) : Int))) (powI (gS 3 1 ap 0))))]) ⟨rfl, trivial⟩; clear hE223
        refine p_tn ?_
        refine wp_ret ?_
        refine p_br ?_
        refine p_tr ?_
        have hF : F_l10Free_b self ap = anI (self (slI 3 ap 1 (((ap).length / 3 : Nat) : Int))) (powI (gS 3 1 ap 0)) := by unfold F_l10Free_b; rw [ht189, ht146, ht133, ht110, ht72, ht34]; first | done | rfl
        refine c_ret1 hE224 rfl rfl ?_
        exact ⟨(by rw [hF]; first | done | (dsimp only; done) | rfl), hS211.ext⟩
       ·
        have hp225 := of_decide_eq_false ht189
        have hE226 := hE188; rw [ht189] at hE226; clear hE188
        refine wp_skip ?_
        refine p_bn ?_
        refine p_tn ?_
        refine c_seq ?_
        refine c_reg ?_
        refine q_step (v := .slice apA ((ap).length / 3 : Nat) apC) hE226 (y_move rfl) rfl rfl rfl ?_; intro a227 hE228; clear hE226
        refine l_step hE228 rfl (l_call (f := 165) (argv := [.slice apA ((ap).length / 3 : Nat) apC]) hE228 (fun _ => cf_l10Left _ _) rfl rfl (c_l10Left apA ((ap).length / 3 : Nat) apC ap w18 (St.rdR (i := 1) hS21 rfl) (by omega) (by omega) (IsPm.bin hf (by omega)).1) ?_)
        rintro _ w230 ⟨rfl, he234⟩ a231 hE232; clear hE228
        have hbn := IsPm.bin hf (by omega)
        have hS233 := St.go hS21 he234; clear hS21
        have hv238 := (St.rdR (i := 1) hS233 rfl).2.1
        have hv235 : (0 : Int) ≤ 1 ∧ 1 ≤ (F_l10End ap 1) ∧ (F_l10End ap 1) ≤ (((ap).length / 3 : Nat) : Int) := ⟨(by omega), (by omega), (by omega)⟩
        have hv236 : Int.toNat (F_l10End ap 1) - Int.toNat 1 = ((slI 3 ap 1 (F_l10End ap 1)).length / 3 : Nat) := ((slI_lenD (by decide) (St.rdR (i := 1) hS233 rfl).1 hv235.2.2)).symm
        have hv237 : Int.toNat (F_l10End ap 1) ≤ apC ∧ apC ≤ apC := ⟨by omega, by omega⟩
        refine l_step hE232 rfl (l_call (f := 99) (argv := [.slice (subA apA (Int.toNat 1) apC 3) ((slI 3 ap 1 (F_l10End ap 1)).length / 3 : Nat) (apC - (Int.toNat 1))]) hE232 (fun _ => cf_l10Free _ _) rfl rfl (ih (subA apA (Int.toNat 1) apC 3) ((slI 3 ap 1 (F_l10End ap 1)).length / 3 : Nat) (apC - (Int.toNat 1)) (slI 3 ap 1 (F_l10End ap 1)) w230 (RdS.sub (St.rdR (i := 1) hS233 rfl) apC hv235.1 hv235.2.1 hv235.2.2 hv237.1 hv237.2 hv236 rfl) (Nat.le_trans (slI_le 3 _ _ _) hl) (by first | (with_reducible exact hbn.2.1.1) | (with_reducible exact hbn.2.1.2) | exact (IsPm.un hf (by omega)).1) (by first | (have h := hbn.2.2; omega) | (have h := (IsPm.un hf (by omega)).2; omega))) ?_)
        rintro _ w240 ⟨rfl, he244⟩ a241 hE242; clear hE232
        have hf245 := hpost (slI 3 ap 1 (F_l10End ap 1)) (Nat.le_trans (slI_le 3 _ _ _) hl) (by first | (with_reducible exact hbn.2.1.1) | (with_reducible exact hbn.2.1.2) | exact (IsPm.un hf (by omega)).1) (by first | (have h := hbn.2.2; omega) | (have h := (IsPm.un hf (by omega)).2; omega))
        have hS243 := St.go hS233 he244; clear hS233
        refine q_step (v := .slice apA ((ap).length / 3 : Nat) apC) hE242 (y_move rfl) rfl rfl rfl ?_; intro a246 hE247; clear hE242
        refine l_step hE247 rfl (l_call (f := 166) (argv := [.slice apA ((ap).length / 3 : Nat) apC]) hE247 (fun _ => cf_l10Right _ _) rfl rfl (c_l10Right apA ((ap).length / 3 : Nat) apC ap w240 (St.rdR (i := 1) hS243 rfl) (by omega) (by omega) (IsPm.bin hf (by omega)).1) ?_)
        rintro _ w249 ⟨rfl, he253⟩ a250 hE251; clear hE247
        have hbn := IsPm.bin hf (by omega)
        have hS252 := St.go hS243 he253; clear hS243
        have hv257 := (St.rdR (i := 1) hS252 rfl).2.1
        have hv254 : (0 : Int) ≤ (F_l10End ap 1) ∧ (F_l10End ap 1) ≤ ((ap.length / 3 : Nat) : Int) ∧ ((ap.length / 3 : Nat) : Int) ≤ (((ap).length / 3 : Nat) : Int) := ⟨(by omega), (by omega), (by omega)⟩
        have hv255 : Int.toNat ((ap.length / 3 : Nat) : Int) - Int.toNat (F_l10End ap 1) = ((slI 3 ap (F_l10End ap 1) ((ap.length / 3 : Nat) : Int)).length / 3 : Nat) := ((slI_lenD (by decide) (St.rdR (i := 1) hS252 rfl).1 hv254.2.2)).symm
        have hv256 : Int.toNat ((ap.length / 3 : Nat) : Int) ≤ apC ∧ apC ≤ apC := ⟨by omega, by omega⟩
        refine l_step hE251 rfl (l_call (f := 99) (argv := [.slice (subA apA (Int.toNat (F_l10End ap 1)) apC 3) ((slI 3 ap (F_l10End ap 1) ((ap.length / 3 : Nat) : Int)).length / 3 : Nat) (apC - (Int.toNat (F_l10End ap 1)))]) hE251 (fun _ => cf_l10Free _ _) rfl rfl (ih (subA apA (Int.toNat (F_l10End ap 1)) apC 3) ((slI 3 ap (F_l10End ap 1) ((ap.length / 3 : Nat) : Int)).length / 3 : Nat) (apC - (Int.toNat (F_l10End ap 1))) (slI 3 ap (F_l10End ap 1) ((ap.length / 3 : Nat) : Int)) w249 (RdS.sub (St.rdR (i := 1) hS252 rfl) apC hv254.1 hv254.2.1 hv254.2.2 hv256.1 hv256.2 hv255 rfl) (Nat.le_trans (slI_le 3 _ _ _) hl) (by first | (with_reducible exact hbn.2.1.1) | (with_reducible exact hbn.2.1.2) | exact (IsPm.un hf (by omega)).1) (by first | (have h := hbn.2.2; omega) | (have h := (IsPm.un hf (by omega)).2; omega))) ?_)
        rintro _ w259 ⟨rfl, he263⟩ a260 hE261; clear hE251
        have hf264 := hpost (slI 3 ap (F_l10End ap 1) ((ap.length / 3 : Nat) : Int)) (Nat.le_trans (slI_le 3 _ _ _) hl) (by first | (with_reducible exact hbn.2.1.1) | (with_reducible exact hbn.2.1.2) | exact (IsPm.un hf (by omega)).1) (by first | (have h := hbn.2.2; omega) | (have h := (IsPm.un hf (by omega)).2; omega))
        have hS262 := St.go hS252 he263; clear hS252
        refine q_step (v := .int .i64 (orI (self (slI 3 ap 1 (F_l10End ap 1))) (self (slI 3 ap (F_l10End ap 1) ((ap.length / 3 : Nat) : Int))))) hE261 (y_or rfl rfl) rfl rfl rfl ?_; intro a265 hE266; clear hE261
        refine q_step (v := .int .i64 (orI (self (slI 3 ap 1 (F_l10End ap 1))) (self (slI 3 ap (F_l10End ap 1) ((ap.length / 3 : Nat) : Int))))) hE266 (y_assign rfl) rfl rfl rfl ?_; intro a267 hE268; clear hE266
        refine c_nil ?_
        have hE269 := hE268.sub (L' := [(2, .int .i64 (orI (self (slI 3 ap 1 (F_l10End ap 1))) (self (slI 3 ap (F_l10End ap 1) ((ap.length / 3 : Nat) : Int)))))]) ⟨rfl, trivial⟩; clear hE268
        refine p_tn ?_
        refine wp_ret ?_
        have hF : F_l10Free_b self ap = orI (self (slI 3 ap 1 (F_l10End ap 1))) (self (slI 3 ap (F_l10End ap 1) ((ap.length / 3 : Nat) : Int))) := by unfold F_l10Free_b; rw [ht189, ht146, ht133, ht110, ht72, ht34]; first | done | rfl
        refine c_ret1 hE269 rfl rfl ?_
        exact ⟨(by rw [hF]; first | done | (dsimp only; done) | rfl), hS262.ext⟩
theorem c_l10Free_r : ∀ (r : Nat) (apA : Option Addr) (apN apC : Nat) (ap : List Int) (w : World) (apR : RdS w 3 apA apN apC ap) (hl : ap.length ≤ 4194304) (hf : IsPm 6 ap) (hlt : ap.length < r), Calls Try.prog 99 #[.slice apA apN apC] w (Ret fun v w' => v = .int .i64 ((F_l10Free_r r) ap) ∧ Ext w w') := by
  intro r
  induction r with
  | zero => intros; omega
  | succ r ih =>
    intro apA apN apC ap w apR hl hf hlt
    exact cb_l10Free (F_l10Free_r r) ap.length (fun ap hl hf hm => freePost r ap hl hf (by omega)) apA apN apC ap w apR hl hf rfl (fun apA apN apC ap w apR hl hf hdec => ih apA apN apC ap w apR hl hf (by omega))
theorem c_l10Free (apA : Option Addr) (apN apC : Nat) (ap : List Int) (w : World) (apR : RdS w 3 apA apN apC ap) (hl : ap.length ≤ 4194304) (hf : IsPm 6 ap) :
    Calls Try.prog 99 #[.slice apA apN apC] w (Ret fun v w' => v = .int .i64 (F_l10Free ap) ∧ Ext w w') := c_l10Free_r (ap.length + 1) apA apN apC ap w apR hl hf (Nat.lt_succ_self _)
theorem l10Free_tree {bd : Int} {t : Pm} (h : t.Ok bd) : F_l10Free t.code = t.free := free_tree bd t _ h (Nat.lt_succ_self _)
end Go.Proofs.Ytkilkfhjfobcdaa
