/- GRA: models and contracts, printed by wip/gen/gen.py -/
import Derived.Test.YtkilkfhjfobcdaaKFBGNC
set_option linter.unusedVariables false
set_option linter.unusedSimpArgs false
namespace Go.Proofs.Ytkilkfhjfobcdaa
open Go.RowKit
theorem part_run (ap : List Int) : ∀ (r : Nat) (i o : Int), 0 ≤ o → 0 ≤ i → i ≤ ((ap.length / 2 : Nat) : Int) → ((ap.length / 2 : Nat) : Int) - i < (r : Int) →
    F_l02Part_L1 ap r i o = .error (-1) ∨ ∃ e, F_l02Part_L1 ap r i o = .ok (e, 0) ∧ i ≤ e ∧ e ≤ ((ap.length / 2 : Nat) : Int) ∧ (0 < o → i < e) := by
  intro r
  induction r with
  | zero => intro i o h0 h1 h2 h3; omega
  | succ r ih =>
    intro i o h0 h1 h2 h3
    have hb := l02Parts_bd (gS 2 0 ap i)
    show F_l02Part_L1b ap (F_l02Part_L1 ap r) i o = _ ∨ ∃ e, F_l02Part_L1b ap (F_l02Part_L1 ap r) i o = _ ∧ _
    unfold F_l02Part_L1b
    by_cases ho : 0 < o
    · rw [decide_eq_true ho, cond_true]
      by_cases hi : ((ap.length / 2 : Nat) : Int) ≤ i
      · rw [decide_eq_true hi]; exact .inl rfl
      · rw [decide_eq_false hi, cond_false]
        rcases ih (i + 1) (o - 1 + F_l02Parts (gS 2 0 ap i)) (by omega) (by omega) (by omega) (by omega) with h | ⟨e, h, e1, e2, _⟩
        · exact .inl h
        · exact .inr ⟨e, h, by omega, e2, fun _ => by omega⟩
    · rw [decide_eq_false ho, cond_false]
      have : o = 0 := by omega
      subst this
      exact .inr ⟨i, rfl, Int.le_refl _, h2, fun h => absurd h (by decide)⟩
theorem part_step (ap : List Int) (r : Nat) {i o : Int} (ho : 0 < o) (hi : i < ((ap.length / 2 : Nat) : Int)) : F_l02Part_L1 ap (r + 1) i o = F_l02Part_L1 ap r (i + 1) (o - 1 + F_l02Parts (gS 2 0 ap i)) := by
  show F_l02Part_L1b ap (F_l02Part_L1 ap r) i o = _
  unfold F_l02Part_L1b
  rw [decide_eq_true ho, decide_eq_false (by omega)]; rfl
theorem part_zero (ap : List Int) (r : Nat) (i : Int) : F_l02Part_L1 ap r i 0 = .ok (i, 0) := by
  cases r with
  | zero => rfl
  | succ r => rfl
theorem l02Part_of {ap : List Int} {i e : Int} (h : F_l02Part_L1 ap (Int.toNat (((ap.length / 2 : Nat) : Int) - i) + 1) i 1 = .ok (e, 0)) : F_l02Part ap i = e := by
  unfold F_l02Part
  rw [h]; rfl
theorem l02Is_run {ap : List Int} (h : F_l02Is ap = true) : F_l02Part_L1 ap (Int.toNat (((ap.length / 2 : Nat) : Int) - 0) + 1) 0 1 = .ok (((ap.length / 2 : Nat) : Int), 0) := by
  rw [← isFormula_eq] at h
  unfold F_isFormula at h
  simp only [Bool.and_eq_true, decide_eq_true_eq] at h
  have h2 := h.2.2.2
  rw [partEnd_eq] at h2
  rcases part_run ap (Int.toNat (((ap.length / 2 : Nat) : Int) - 0) + 1) 0 1 (by omega) (by omega) (by omega) (by omega) with g | ⟨e, g, g1, g2, _⟩
  · unfold F_l02Part at h2; rw [g] at h2
    have : (-1 : Int) = ((ap.length / 2 : Nat) : Int) := h2
    omega
  · rw [l02Part_of g] at h2; rw [g, h2]
/-- Formulas as trees. -/
inductive Fm : Type
  | leaf (k v : Int) : Fm
  | un (k v : Int) (a : Fm) : Fm
  | bin (k v : Int) (a b : Fm) : Fm
def Fm.code : Fm → List Int
  | .leaf k v => [k, v]
  | .un k v a => k :: v :: a.code
  | .bin k v a b => k :: v :: (a.code ++ b.code)
def Fm.size : Fm → Nat
  | .leaf _ _ => 1
  | .un _ _ a => a.size + 1
  | .bin _ _ a b => a.size + b.size + 1
theorem Fm.size_pos : (t : Fm) → 1 ≤ t.size
  | .leaf _ _ => Nat.le_refl _
  | .un _ _ a => by unfold Fm.size; omega
  | .bin _ _ a b => by unfold Fm.size; omega
theorem Fm.code_len : (t : Fm) → t.code.length = t.size * 2
  | .leaf _ _ => rfl
  | .un _ _ a => by have := a.code_len; simp only [Fm.code, Fm.size, List.length_cons]; omega
  | .bin _ _ a b => by have := a.code_len; have := b.code_len; simp only [Fm.code, Fm.size, List.length_cons, List.length_append]; omega
def ndOk (p k v : Int) : Prop := F_l02Parts k = p ∧ (0 ≤ k ∧ k ≤ 6) ∧ (0 ≤ v ∧ v ≤ 5) ∧ (k = 0 ∨ v = 0)
def Fm.Ok : Fm → Prop
  | .leaf k v => ndOk 0 k v
  | .un k v a => ndOk 1 k v ∧ a.Ok
  | .bin k v a b => ndOk 2 k v ∧ a.Ok ∧ b.Ok
theorem slI_cons {ap : List Int} {i j : Int} (he : ap.length = ap.length / 2 * 2) (h0 : 0 ≤ i) (h1 : i < ((ap.length / 2 : Nat) : Int)) (h2 : i + 1 ≤ j) : slI 2 ap i j = gS 2 0 ap i :: gS 2 1 ap i :: slI 2 ap (i + 1) j := by
  unfold slI gS
  have e1 : i.toNat * 2 < ap.length := by omega
  have e2 : i.toNat * 2 + 1 < ap.length := by omega
  rw [List.drop_eq_getElem_cons e1, List.drop_eq_getElem_cons e2, ← gi_get e1, ← gi_get e2, show (j.toNat - i.toNat) * 2 = (j.toNat - (i + 1).toNat) * 2 + 1 + 1 by omega, List.take_succ_cons, List.take_succ_cons,
    show (i + 1).toNat * 2 = i.toNat * 2 + 1 + 1 by omega]
  rfl
theorem slI_app {ap : List Int} {i j h : Int} (h0 : 0 ≤ i) (h1 : i ≤ j) (h2 : j ≤ h) : slI 2 ap i h = slI 2 ap i j ++ slI 2 ap j h := by
  unfold slI
  rw [show (h.toNat - i.toNat) * 2 = (j.toNat - i.toNat) * 2 + (h.toNat - j.toNat) * 2 by omega, List.take_add, List.drop_drop, show i.toNat * 2 + (j.toNat - i.toNat) * 2 = j.toNat * 2 by omega]
theorem part_end {ap : List Int} {r : Nat} {i o e : Int} (h0 : 0 < o) (h1 : ¬ i < ((ap.length / 2 : Nat) : Int)) (h : F_l02Part_L1 ap r i o = .ok (e, 0)) : False := by
  cases r with
  | zero =>
    have h : (Except.ok (i, o) : Except Int (Int × Int)) = .ok (e, 0) := h
    injection h with h; injection h with _ h; omega
  | succ r =>
    have h : F_l02Part_L1b ap (F_l02Part_L1 ap r) i o = .ok (e, 0) := h
    unfold F_l02Part_L1b at h
    rw [decide_eq_true h0, cond_true, decide_eq_true (by omega), cond_true] at h
    cases h
theorem parse (ap : List Int) (he : ap.length = ap.length / 2 * 2) (hq : ∀ i : Int, 0 ≤ i → i < ((ap.length / 2 : Nat) : Int) → (0 ≤ gS 2 0 ap i ∧ gS 2 0 ap i ≤ 6) ∧ (0 ≤ gS 2 1 ap i ∧ gS 2 1 ap i ≤ 5) ∧ (gS 2 0 ap i = 0 ∨ gS 2 1 ap i = 0)) :
    ∀ (n r : Nat) (i o e : Int), ((ap.length / 2 : Nat) : Int) - i ≤ (n : Int) → 0 < o → 0 ≤ i → ((ap.length / 2 : Nat) : Int) - i < (r : Int) → F_l02Part_L1 ap r i o = .ok (e, 0) →
      ∃ (t : Fm) (r' : Nat), t.Ok ∧ t.code = slI 2 ap i (i + t.size) ∧ i + t.size ≤ ((ap.length / 2 : Nat) : Int) ∧ ((ap.length / 2 : Nat) : Int) - (i + t.size) < (r' : Int) ∧ F_l02Part_L1 ap r' (i + t.size) (o - 1) = .ok (e, 0) := by
  intro n
  induction n with
  | zero => intro r i o e hn ho hi hr h; exact (part_end ho (by omega) h).elim
  | succ n ih =>
    intro r i o e hn ho hi hr h
    by_cases hl : i < ((ap.length / 2 : Nat) : Int)
    · obtain ⟨s, rfl⟩ : ∃ s, r = s + 1 := ⟨r - 1, by omega⟩
      rw [part_step _ _ ho hl] at h
      have hb := l02Parts_bd (gS 2 0 ap i)
      have q := hq i hi hl
      generalize hp : F_l02Parts (gS 2 0 ap i) = p at *
      have hp3 : p = 0 ∨ p = 1 ∨ p = 2 := by omega
      rcases hp3 with rfl | rfl | rfl
      · refine ⟨.leaf (gS 2 0 ap i) (gS 2 1 ap i), s, ⟨hp, q⟩, ?_, ?_, ?_, ?_⟩
        · show [_, _] = slI 2 ap i (i + ((1 : Nat) : Int))
          rw [slI_cons he hi hl (by omega)]
          unfold slI
          rw [show (i + ((1 : Nat) : Int)).toNat - (i + 1).toNat = 0 by omega]; simp
        · show i + ((1 : Nat) : Int) ≤ _; omega
        · show _ - (i + ((1 : Nat) : Int)) < _; omega
        · show F_l02Part_L1 ap s (i + ((1 : Nat) : Int)) (o - 1) = _
          rw [← h, show o - 1 + 0 = o - 1 by omega]; rfl
      · obtain ⟨a, r', a1, a2, a3, a4, a5⟩ := ih s (i + 1) _ _ (by omega) (by omega) (by omega) (by omega) h
        have e1 : i + ((a.size + 1 : Nat) : Int) = i + 1 + (a.size : Int) := by omega
        refine ⟨.un (gS 2 0 ap i) (gS 2 1 ap i) a, r', ⟨⟨hp, q⟩, a1⟩, ?_, ?_, ?_, ?_⟩
        · show _ :: _ :: a.code = slI 2 ap i (i + ((a.size + 1 : Nat) : Int))
          rw [e1, slI_cons he hi hl (by omega), ← a2]
        · show i + ((a.size + 1 : Nat) : Int) ≤ _; omega
        · show _ - (i + ((a.size + 1 : Nat) : Int)) < _; omega
        · show F_l02Part_L1 ap r' (i + ((a.size + 1 : Nat) : Int)) (o - 1) = _
          rw [e1, ← a5, show o - 1 + 1 - 1 = o - 1 by omega]
      · obtain ⟨a, r', a1, a2, a3, a4, a5⟩ := ih s (i + 1) _ _ (by omega) (by omega) (by omega) (by omega) h
        obtain ⟨b, r2, b1, b2, b3, b4, b5⟩ := ih r' (i + 1 + (a.size : Int)) _ _ (by have := a.size_pos; omega) (by omega) (by omega) (by omega) a5
        have e1 : i + ((a.size + b.size + 1 : Nat) : Int) = i + 1 + (a.size : Int) + (b.size : Int) := by omega
        refine ⟨.bin (gS 2 0 ap i) (gS 2 1 ap i) a b, r2, ⟨⟨hp, q⟩, a1, b1⟩, ?_, ?_, ?_, ?_⟩
        · show _ :: _ :: (a.code ++ b.code) = slI 2 ap i (i + ((a.size + b.size + 1 : Nat) : Int))
          rw [e1, slI_cons he hi hl (by omega), slI_app (i := i + 1) (j := i + 1 + (a.size : Int)) (by omega) (by omega) (by omega), ← a2, ← b2]
        · show i + ((a.size + b.size + 1 : Nat) : Int) ≤ _; omega
        · show _ - (i + ((a.size + b.size + 1 : Nat) : Int)) < _; omega
        · show F_l02Part_L1 ap r2 (i + ((a.size + b.size + 1 : Nat) : Int)) (o - 1) = _
          rw [e1, ← b5, show o - 1 + 2 - 1 - 1 = o - 1 by omega]
    · exact (part_end ho hl h).elim
/-- Reading over a part. -/
theorem part_code (ap : List Int) (he : ap.length = ap.length / 2 * 2) : ∀ (t : Fm) (r : Nat) (i o : Int), t.Ok → 0 < o → 0 ≤ i → t.code = slI 2 ap i (i + t.size) → i + t.size ≤ ((ap.length / 2 : Nat) : Int) →
    F_l02Part_L1 ap (r + t.size) i o = F_l02Part_L1 ap r (i + t.size) (o - 1) := by
  intro t
  induction t with
  | leaf k v =>
    intro r i o hk ho hi hc hl
    have hl' : i + ((1 : Nat) : Int) ≤ ((ap.length / 2 : Nat) : Int) := hl
    have hc' : [k, v] = slI 2 ap i (i + ((1 : Nat) : Int)) := hc
    rw [slI_cons he hi (by omega) (by omega)] at hc'
    injection hc' with c1 _
    show F_l02Part_L1 ap (r + 1) i o = F_l02Part_L1 ap r (i + ((1 : Nat) : Int)) (o - 1)
    rw [part_step _ _ ho (by omega), ← c1, hk.1, Int.add_zero]; rfl
  | un k v a ih =>
    intro r i o hk ho hi hc hl
    have e1 : i + ((a.size + 1 : Nat) : Int) = i + 1 + (a.size : Int) := by omega
    have hl' : i + ((a.size + 1 : Nat) : Int) ≤ ((ap.length / 2 : Nat) : Int) := hl
    have hc' : k :: v :: a.code = slI 2 ap i (i + ((a.size + 1 : Nat) : Int)) := hc
    rw [e1, slI_cons he hi (by omega) (by omega)] at hc'
    injection hc' with c1 hc'; injection hc' with _ c2
    show F_l02Part_L1 ap (r + a.size + 1) i o = F_l02Part_L1 ap r (i + ((a.size + 1 : Nat) : Int)) (o - 1)
    rw [part_step _ _ ho (by omega), ← c1, hk.1.1, ih r (i + 1) _ hk.2 (by omega) (by omega) c2 (by omega), e1, show o - 1 + 1 - 1 = o - 1 by omega]
  | bin k v a b iha ihb =>
    intro r i o hk ho hi hc hl
    have e1 : i + ((a.size + b.size + 1 : Nat) : Int) = i + 1 + (a.size : Int) + (b.size : Int) := by omega
    have hl' : i + ((a.size + b.size + 1 : Nat) : Int) ≤ ((ap.length / 2 : Nat) : Int) := hl
    have hc' : k :: v :: (a.code ++ b.code) = slI 2 ap i (i + ((a.size + b.size + 1 : Nat) : Int)) := hc
    rw [e1, slI_cons he hi (by omega) (by omega), slI_app (i := i + 1) (j := i + 1 + (a.size : Int)) (by omega) (by omega) (by omega)] at hc'
    injection hc' with c1 hc'; injection hc' with _ c2
    have hla : a.code.length = (slI 2 ap (i + 1) (i + 1 + (a.size : Int))).length := by
      rw [a.code_len, slI_len (n := ap.length / 2) he (by omega)]; omega
    obtain ⟨c3, c4⟩ := List.append_inj c2 hla
    show F_l02Part_L1 ap (r + (a.size + b.size + 1)) i o = F_l02Part_L1 ap r (i + ((a.size + b.size + 1 : Nat) : Int)) (o - 1)
    rw [show r + (a.size + b.size + 1) = (r + b.size) + a.size + 1 by omega, part_step _ _ ho (by omega), ← c1, hk.1.1, iha (r + b.size) (i + 1) _ hk.2.1 (by omega) (by omega) c3 (by omega), ihb r (i + 1 + (a.size : Int)) _ hk.2.2 (by omega) (by omega) c4 (by omega), e1, show o - 1 + 2 - 1 - 1 = o - 1 by omega]
def IsFm (ap : List Int) : Prop := ∃ t : Fm, t.Ok ∧ t.code = ap
theorem slI_all {ap : List Int} (he : ap.length = ap.length / 2 * 2) : slI 2 ap 0 ((ap.length / 2 : Nat) : Int) = ap := by
  unfold slI
  rw [show ((0 : Int).toNat * 2) = 0 by rfl, List.drop_zero, List.take_of_length_le (by omega)]
theorem IsFm.of {ap : List Int} (he : ap.length = ap.length / 2 * 2) (h : F_l02Is ap = true) : IsFm ap := by
  have hr := l02Is_run h
  have ht : F_l02Tree ap = true := by unfold F_l02Is at h; simp only [Bool.and_eq_true] at h; exact h.2
  have hq : ∀ i : Int, 0 ≤ i → i < ((ap.length / 2 : Nat) : Int) → (0 ≤ gS 2 0 ap i ∧ gS 2 0 ap i ≤ 6) ∧ (0 ≤ gS 2 1 ap i ∧ gS 2 1 ap i ≤ 5) ∧ (gS 2 0 ap i = 0 ∨ gS 2 1 ap i = 0) := fun i h0 h1 => by
    unfold F_l02Tree at ht
    rw [allE (F_l02Tree_L1 ap) false ((ap.length / 2 : Nat) : Int) (fun i3 => ((!(F_l01In (gS 2 0 ap i3) 0 6)) || ((!(F_l01In (gS 2 1 ap i3) 0 5)) || ((!decide ((gS 2 0 ap i3) = 0)) && (!decide ((gS 2 1 ap i3) = 0)))))) (by omega) (fun _ _ _ _ => rfl), isOk_bif] at ht
    cases ha : (List.range ((ap.length / 2 : Nat) : Int).toNat).all (fun (j : Nat) => !((!(F_l01In (gS 2 0 ap (j : Int)) 0 6)) || ((!(F_l01In (gS 2 1 ap (j : Int)) 0 5)) || ((!decide ((gS 2 0 ap (j : Int)) = 0)) && (!decide ((gS 2 1 ap (j : Int)) = 0))))))
    · rw [ha] at ht; cases ht
    · rw [List.all_eq_true] at ha
      have := ha i.toNat (List.mem_range.2 (by omega))
      rw [show ((i.toNat : Nat) : Int) = i by omega] at this
      unfold F_l01In at this
      simp only [Bool.not_or, Bool.not_not, Bool.and_eq_true, decide_eq_true_eq, Bool.not_and, Bool.or_eq_true] at this
      exact this
  obtain ⟨t, r', a1, a2, a3, a4, a5⟩ := parse ap he hq (ap.length / 2) _ 0 1 _ (by omega) (by omega) (by omega) (by omega) hr
  rw [show (1 : Int) - 1 = 0 by rfl, part_zero] at a5
  injection a5 with a5; injection a5 with a5 _
  refine ⟨t, a1, ?_⟩
  rw [a2, a5, slI_all he]
theorem Fm.code_ev (t : Fm) : t.code.length = t.code.length / 2 * 2 := by rw [t.code_len]; omega
theorem Fm.code_half (t : Fm) : t.code.length / 2 = t.size := by rw [t.code_len]; omega
theorem Fm.kind : (t : Fm) → t.Ok → F_l02Parts (gS 2 0 t.code 0) = (match t with | .leaf _ _ => 0 | .un _ _ _ => 1 | .bin _ _ _ _ => 2)
  | .leaf _ _, h => h.1
  | .un _ _ _, h => h.1.1
  | .bin _ _ _ _, h => h.1.1
theorem IsFm.len {ap : List Int} (h : IsFm ap) : 1 ≤ ((ap.length / 2 : Nat) : Int) := by
  obtain ⟨t, _, rfl⟩ := h
  have := t.size_pos
  rw [t.code_half]; omega
theorem IsFm.ev {ap : List Int} (h : IsFm ap) : ap.length = ap.length / 2 * 2 := by
  obtain ⟨t, _, rfl⟩ := h
  exact t.code_ev
theorem fm_un {k v : Int} {a : Fm} : slI 2 (Fm.un k v a).code 1 (((Fm.un k v a).code.length / 2 : Nat) : Int) = a.code := by
  have e : (Fm.un k v a).code = k :: v :: a.code := rfl
  have := a.code_len
  unfold slI
  rw [(Fm.un k v a).code_half, e]
  show List.take _ (List.drop 2 (k :: v :: a.code)) = a.code
  rw [show List.drop 2 (k :: v :: a.code) = a.code from rfl, List.take_of_length_le]
  show a.code.length ≤ ((((a.size + 1 : Nat) : Int)).toNat - 1) * 2
  omega
theorem fm_part {k v : Int} {a b : Fm} (h : (Fm.bin k v a b).Ok) : F_l02Part (Fm.bin k v a b).code 1 = 1 + a.size ∧ slI 2 (Fm.bin k v a b).code 1 (1 + a.size) = a.code ∧ slI 2 (Fm.bin k v a b).code (1 + a.size) (((Fm.bin k v a b).code.length / 2 : Nat) : Int) = b.code := by
  have e : (Fm.bin k v a b).code = k :: v :: (a.code ++ b.code) := rfl
  have hl := (Fm.bin k v a b).code_half
  have hs : (Fm.bin k v a b).size = a.size + b.size + 1 := rfl
  have la := a.code_len
  have lb := b.code_len
  have pa := a.size_pos
  have e1 : slI 2 (Fm.bin k v a b).code 1 (1 + a.size) = a.code := by
    unfold slI
    rw [e, show (1 : Int).toNat * 2 = 2 by rfl, show List.drop 2 (k :: v :: (a.code ++ b.code)) = a.code ++ b.code from rfl, show ((1 : Int) + (a.size : Int)).toNat - (1 : Int).toNat = a.size by omega, ← la, List.take_left']
    rfl
  have e2 : slI 2 (Fm.bin k v a b).code (1 + a.size) (((Fm.bin k v a b).code.length / 2 : Nat) : Int) = b.code := by
    unfold slI
    rw [hl, hs, e, show ((1 : Int) + (a.size : Int)).toNat * 2 = 2 + a.code.length by omega, ← List.drop_drop, show List.drop 2 (k :: v :: (a.code ++ b.code)) = a.code ++ b.code from rfl, List.drop_left', List.take_of_length_le (by omega)]
    rfl
  refine ⟨?_, e1, e2⟩
  refine l02Part_of ?_
  rw [hl, hs, show Int.toNat (((a.size + b.size + 1 : Nat) : Int) - 1) + 1 = (b.size + 1) + a.size by omega, part_code _ (Fm.code_ev _) a (b.size + 1) 1 1 h.2.1 (by omega) (by omega) e1.symm (by rw [hl, hs]; omega)]
  rw [show (1 : Int) - 1 = 0 by rfl, part_zero]
theorem IsFm.un {ap : List Int} (h : IsFm ap) (hp : F_l02Parts (gS 2 0 ap 0) = 1) : IsFm (slI 2 ap 1 ((ap.length / 2 : Nat) : Int)) ∧ (slI 2 ap 1 ((ap.length / 2 : Nat) : Int)).length < ap.length := by
  obtain ⟨t, ht, rfl⟩ := h
  have hk := t.kind ht
  rw [hp] at hk
  cases t with
  | leaf k v => exact absurd hk (by simp)
  | un k v a =>
    rw [fm_un, (Fm.un k v a).code_len, a.code_len]
    refine ⟨⟨a, ht.2, rfl⟩, ?_⟩
    show a.size * 2 < (a.size + 1) * 2; omega
  | bin k v a b => exact absurd hk (by simp)
theorem IsFm.bin {ap : List Int} (h : IsFm ap) (hp : F_l02Parts (gS 2 0 ap 0) = 2) : (1 ≤ F_l02Part ap 1 ∧ F_l02Part ap 1 ≤ ((ap.length / 2 : Nat) : Int)) ∧ (IsFm (slI 2 ap 1 (F_l02Part ap 1)) ∧ IsFm (slI 2 ap (F_l02Part ap 1) ((ap.length / 2 : Nat) : Int))) ∧ (slI 2 ap 1 (F_l02Part ap 1)).length + (slI 2 ap (F_l02Part ap 1) ((ap.length / 2 : Nat) : Int)).length + 2 = ap.length ∧ 2 ≤ (slI 2 ap 1 (F_l02Part ap 1)).length ∧ 2 ≤ (slI 2 ap (F_l02Part ap 1) ((ap.length / 2 : Nat) : Int)).length := by
  obtain ⟨t, ht, rfl⟩ := h
  have hk := t.kind ht
  rw [hp] at hk
  cases t with
  | leaf k v => exact absurd hk (by simp)
  | un k v a => exact absurd hk (by simp)
  | bin k v a b =>
    obtain ⟨p1, p2, p3⟩ := fm_part ht
    have pa := a.size_pos
    have pb := b.size_pos
    have hs : (Fm.bin k v a b).size = a.size + b.size + 1 := rfl
    rw [p1, p2, p3, (Fm.bin k v a b).code_half, hs]
    refine ⟨by omega, ⟨⟨a, ht.2.1, rfl⟩, b, ht.2.2, rfl⟩, ?_, ?_, ?_⟩
    · rw [a.code_len, b.code_len, (Fm.bin k v a b).code_len, hs]; omega
    · rw [a.code_len]; omega
    · rw [b.code_len]; omega
theorem parts_k (k : Int) : (k = 2 → F_l02Parts k = 2) ∧ (k = 3 → F_l02Parts k = 2) ∧ (k = 4 → F_l02Parts k = 2) ∧ (k = 5 → F_l02Parts k = 1) ∧ (k = 6 → F_l02Parts k = 1) := by
  refine ⟨?_, ?_, ?_, ?_, ?_⟩ <;> (intro h; subst h; rfl)
def F_l02Own (ap : List Int) : List Int :=
  ([]) ++ ap
theorem cf_l02Own (args : Array Value) (w : World) : (callFunc 145 args).run Try.prog w = .ok (.enter 145 args) w := by kernel_rfl
set_option maxRecDepth 100000 in
theorem c_l02Own (apA : Option Addr) (apN apC : Nat) (ap : List Int) (w : World) (apR : RdS w 2 apA apN apC ap) (hap : ap.length ≤ 1048576) :
    Calls Try.prog 145 #[.slice apA apN apC] w (Ret fun v w' => ∃ b1 : Option Addr, ∃ c1 : Nat, v = .slice b1 ((F_l02Own ap).length / 2 : Nat) c1 ∧ OwnS w' w.heap.size 94 2 b1 ((F_l02Own ap).length / 2 : Nat) c1 (F_l02Own ap) ∧ Ext w w') := by
  obtain rfl : apN = ap.length / 2 := (apR.lenD (by decide)).symm
  have apEv := apR.ev (by decide)
  have apLe := apR.le
  have hS := St.nil w
  have hS1 := St.rd0 hS rfl apR; clear hS
  refine enter (args := [.slice apA ((ap).length / 2 : Nat) apC]) Try.func145 rfl rfl ?_
  rw [Try.ntmps145]; intro a hE
  have hE := hE.sub (L' := [(0, .slice apA ((ap).length / 2 : Nat) apC)]) ⟨rfl, trivial⟩
  refine c_seq ?_
  refine c_reg ?_
  refine q_step (v := .slice none 0 0) hE (y_assign rfl) rfl rfl rfl ?_; intro a2 hE3; clear hE
  refine c_nil ?_
  have hE4 := hE3.sub (L' := [(0, .slice apA ((ap).length / 2 : Nat) apC)]) ⟨rfl, trivial⟩; clear hE3
  refine p_tn ?_
  refine c_seq ?_
  refine c_reg ?_
  refine l_step hE4 rfl (l_lit (e := 94) (s := 2) (xs := []) (vs := []) hS1 hE4 rfl (fun _ => by kernel_rfl) rfl rfl rfl ?_)
  intro b5 w6 hS9 he10 a7 hE8; clear hS1 hE4
  refine q_step (v := .slice apA ((ap).length / 2 : Nat) apC) hE8 (y_move rfl) rfl rfl rfl ?_; intro a11 hE12; clear hE8
  obtain ⟨_, hi1, hi2, hi3, hi4⟩ := info_parts (show (Try.prog.info? 94).map (fun i => (i.zero, i.size, i.bytes)) = some (some (.agg #[.int .i64 0, .int .i64 0]), 2, 16) by kernel_rfl)
  refine l_step hE12 rfl (l_append (k := 0) (n' := ((([]) ++ ap).length / 2 : Nat)) hS9 hE12 (by kernel_rfl) hi1 hi2 hi3 rfl (by decide) (by rw [hi4]; decide) rfl rfl rfl (St.rdR (i := 1) hS9 rfl) (by first | omega | (simp only [List.length_append, List.length_cons, List.length_nil]; omega)) (by have h1 := (St.rdO (i := 0) hS9 rfl).1; have h2 := (St.rdR (i := 1) hS9 rfl).1; simp only [List.length_append, List.length_nil, List.length_cons] at h1 h2 ⊢; omega) rfl ?_)
  intro b13 c19 w14 hS17 a15 hE16; clear hS9 hE12 hi1 hi2 hi3 hi4
  refine q_step (v := .slice b13 ((([]) ++ ap).length / 2 : Nat) c19) hE16 (y_assign rfl) rfl rfl rfl ?_; intro a20 hE21; clear hE16
  refine c_nil ?_
  have hE22 := hE21.sub (L' := [(2, .slice b13 ((([]) ++ ap).length / 2 : Nat) c19)]) ⟨rfl, trivial⟩; clear hE21
  refine p_tn ?_
  refine wp_ret ?_
  have hF : F_l02Own ap = ([]) ++ ap := by unfold F_l02Own; rfl
  refine c_ret1 hE22 rfl rfl ?_
  exact ⟨b13, c19, (by rw [hF]; first | done | (dsimp only; done) | rfl), (by rw [hF]; (try dsimp only); exact hS17.ok 0 _ rfl), hS17.ext⟩
theorem l02Own_len (ap : List Int) : (F_l02Own ap).length = ap.length := rfl
end Go.Proofs.Ytkilkfhjfobcdaa
