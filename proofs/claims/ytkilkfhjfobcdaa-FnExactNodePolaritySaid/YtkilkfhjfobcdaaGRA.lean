/- GRA: models and contracts, printed by wip/gen/gen.py -/
import Derived.Test.YtkilkfhjfobcdaaGNC
set_option linter.unusedVariables false
set_option linter.unusedSimpArgs false
namespace Go.Proofs.Ytkilkfhjfobcdaa
open Go.RowKit

theorem part_run (ap : List Int) : ∀ (r : Nat) (i o : Int), 0 ≤ o → 0 ≤ i → i ≤ ((ap.length / 2 : Nat) : Int) → ((ap.length / 2 : Nat) : Int) - i < (r : Int) →
    F_l02Part_L1 ap r i o = .error (-1) ∨ ∃ e, F_l02Part_L1 ap r i o = .ok (e, 0) ∧ i ≤ e ∧ e ≤ ((ap.length / 2 : Nat) : Int) ∧ (0 < o → i < e) := by
  intro r
  induction r with
  | zero => intro i o h0 h1 h2 h3; omega
  | succ r ih =>
    intro i o h0 h1 h2 h3
    have hb := l02Parts_bd (gS 2 0 ap i)
    show F_l02Part_L1b ap (F_l02Part_L1 ap r) i o = _ ∨ ∃ e, F_l02Part_L1b ap (F_l02Part_L1 ap r) i o = _ ∧ _
    unfold F_l02Part_L1b
    by_cases ho : 0 < o
    · rw [decide_eq_true ho, cond_true]
      by_cases hi : ((ap.length / 2 : Nat) : Int) ≤ i
      · rw [decide_eq_true hi]; exact .inl rfl
      · rw [decide_eq_false hi, cond_false]
        rcases ih (i + 1) (o - 1 + F_l02Parts (gS 2 0 ap i)) (by omega) (by omega) (by omega) (by omega) with h | ⟨e, h, e1, e2, _⟩
        · exact .inl h
        · exact .inr ⟨e, h, by omega, e2, fun _ => by omega⟩
    · rw [decide_eq_false ho, cond_false]
      have : o = 0 := by omega
      subst this
      exact .inr ⟨i, rfl, Int.le_refl _, h2, fun h => absurd h (by decide)⟩
theorem part_step (ap : List Int) (r : Nat) {i o : Int} (ho : 0 < o) (hi : i < ((ap.length / 2 : Nat) : Int)) : F_l02Part_L1 ap (r + 1) i o = F_l02Part_L1 ap r (i + 1) (o - 1 + F_l02Parts (gS 2 0 ap i)) := by
  show F_l02Part_L1b ap (F_l02Part_L1 ap r) i o = _
  unfold F_l02Part_L1b
  rw [decide_eq_true ho, decide_eq_false (by omega)]; rfl
theorem part_zero (ap : List Int) (r : Nat) (i : Int) : F_l02Part_L1 ap r i 0 = .ok (i, 0) := by
  cases r with
  | zero => rfl
  | succ r => rfl
theorem part_mono (ap : List Int) : ∀ (r r' : Nat) (i o o' e : Int), 1 ≤ o' → o' ≤ o → 0 ≤ i → ((ap.length / 2 : Nat) : Int) - i < (r : Int) → ((ap.length / 2 : Nat) : Int) - i < (r' : Int) → F_l02Part_L1 ap r i o = .ok (e, 0) →
    ∃ e', F_l02Part_L1 ap r' i o' = .ok (e', 0) ∧ i < e' ∧ e' ≤ e := by
  intro r
  induction r with
  | zero =>
    intro r' i o o' e h1 h2 h0 h3 h4 h
    exfalso
    have h5 : Except.ok (i, o) = (Except.ok (e, 0) : Except Int (Int × Int)) := h
    simp at h5; omega
  | succ r ih =>
    intro r' i o o' e h1 h2 h0 h3 h4 h
    by_cases hi : i < ((ap.length / 2 : Nat) : Int)
    · rw [part_step ap r (by omega) hi] at h
      have hb := l02Parts_bd (gS 2 0 ap i)
      obtain ⟨s, rfl⟩ : ∃ s, r' = s + 1 := ⟨r' - 1, by omega⟩
      rw [part_step ap s (by omega) hi]
      by_cases hz : o' - 1 + F_l02Parts (gS 2 0 ap i) = 0
      · rw [hz, part_zero]
        refine ⟨i + 1, rfl, by omega, ?_⟩
        rcases part_run ap r (i + 1) (o - 1 + F_l02Parts (gS 2 0 ap i)) (by omega) (by omega) (by omega) (by omega) with g | ⟨e2, g, g1, g2, _⟩
        · rw [g] at h; cases h
        · rw [g] at h; cases h; exact g1
      · obtain ⟨e', g, g1, g2⟩ := ih s (i + 1) (o - 1 + F_l02Parts (gS 2 0 ap i)) (o' - 1 + F_l02Parts (gS 2 0 ap i)) e (by omega) (by omega) (by omega) (by omega) (by omega) h
        exact ⟨e', g, by omega, g2⟩
    · exfalso
      have h5 : F_l02Part_L1b ap (F_l02Part_L1 ap r) i o = .ok (e, 0) := h
      unfold F_l02Part_L1b at h5
      rw [decide_eq_true (show 0 < o by omega), decide_eq_true (show ((ap.length / 2 : Nat) : Int) ≤ i by omega)] at h5
      cases h5
/-- On the way to the end of a part one passes each place in it. -/
theorem part_pass (ap : List Int) : ∀ (k : Nat) (r : Nat) (i o e : Int), 1 ≤ o → 0 ≤ i → ((ap.length / 2 : Nat) : Int) - i < (r : Int) → F_l02Part_L1 ap r i o = .ok (e, 0) → i + (k : Int) < e →
    ∃ (r' : Nat) (o' : Int), 1 ≤ o' ∧ ((ap.length / 2 : Nat) : Int) - (i + (k : Int)) < (r' : Int) ∧ F_l02Part_L1 ap r' (i + (k : Int)) o' = .ok (e, 0) := by
  intro k
  induction k with
  | zero => intro r i o e h1 h0 h3 h hk; exact ⟨r, o, h1, by simpa using h3, by simpa using h⟩
  | succ k ih =>
    intro r i o e h1 h0 h3 h hk
    rcases part_run ap r i o (by omega) h0 (by
      apply Decidable.byContradiction; intro hc
      obtain ⟨s, rfl⟩ | rfl : (∃ s, r = s + 1) ∨ r = 0 := by cases r with | zero => exact .inr rfl | succ s => exact .inl ⟨s, rfl⟩
      · have h5 : F_l02Part_L1b ap (F_l02Part_L1 ap s) i o = .ok (e, 0) := h
        unfold F_l02Part_L1b at h5
        rw [decide_eq_true (show 0 < o by omega), decide_eq_true (show ((ap.length / 2 : Nat) : Int) ≤ i by omega)] at h5
        cases h5
      · have h5 : Except.ok (i, o) = (Except.ok (e, 0) : Except Int (Int × Int)) := h
        simp at h5; omega) h3 with g | ⟨e2, g, g1, g2, _⟩
    · rw [g] at h; cases h
    · rw [g] at h; cases h
      have hi : i < ((ap.length / 2 : Nat) : Int) := by omega
      obtain ⟨s, rfl⟩ : ∃ s, r = s + 1 := ⟨r - 1, by omega⟩
      rw [part_step ap s (by omega) hi] at g
      have hb := l02Parts_bd (gS 2 0 ap i)
      have ho : 1 ≤ o - 1 + F_l02Parts (gS 2 0 ap i) := by
        apply Decidable.byContradiction; intro hc
        have : o - 1 + F_l02Parts (gS 2 0 ap i) = 0 := by omega
        rw [this, part_zero] at g
        simp at g; omega
      obtain ⟨r', o', a1, a2, a3⟩ := ih s (i + 1) _ _ ho (by omega) (by omega) g (by omega)
      rw [show i + 1 + (k : Int) = i + ((k + 1 : Nat) : Int) by omega] at a2 a3
      exact ⟨r', o', a1, a2, a3⟩
theorem l02Part_of {ap : List Int} {i e : Int} (h : F_l02Part_L1 ap (Int.toNat (((ap.length / 2 : Nat) : Int) - i) + 1) i 1 = .ok (e, 0)) : F_l02Part ap i = e := by
  unfold F_l02Part
  rw [h]; rfl
theorem l02Is_run {ap : List Int} (h : F_l02Is ap = true) : F_l02Part_L1 ap (Int.toNat (((ap.length / 2 : Nat) : Int) - 0) + 1) 0 1 = .ok (((ap.length / 2 : Nat) : Int), 0) := by
  rw [← isFormula_eq] at h
  unfold F_isFormula at h
  simp only [Bool.and_eq_true, decide_eq_true_eq] at h
  have h2 := h.2.2.2
  rw [partEnd_eq] at h2
  rcases part_run ap (Int.toNat (((ap.length / 2 : Nat) : Int) - 0) + 1) 0 1 (by omega) (by omega) (by omega) (by omega) with g | ⟨e, g, g1, g2, _⟩
  · unfold F_l02Part at h2; rw [g] at h2
    have : (-1 : Int) = ((ap.length / 2 : Nat) : Int) := h2
    omega
  · rw [l02Part_of g] at h2; rw [g, h2]
/-- Each place of a formula is the beginning of a part that ends in it. -/
theorem l02Part_lt {ap : List Int} {i : Int} (h : F_l02Is ap = true) (h0 : 0 ≤ i) (h1 : i < ((ap.length / 2 : Nat) : Int)) : i < F_l02Part ap i ∧ F_l02Part ap i ≤ ((ap.length / 2 : Nat) : Int) := by
  obtain ⟨r', o', a1, a2, a3⟩ := part_pass ap i.toNat _ 0 1 _ (by omega) (by omega) (by omega) (l02Is_run h) (by omega)
  rw [show (0 : Int) + (i.toNat : Int) = i by omega] at a2 a3
  obtain ⟨e', g, g1, g2⟩ := part_mono ap r' (Int.toNat (((ap.length / 2 : Nat) : Int) - i) + 1) i o' 1 _ (by omega) a1 h0 a2 (by omega) a3
  rw [l02Part_of g]; exact ⟨g1, g2⟩
theorem l02Part_in {ap : List Int} {i : Int} (h : F_l02Is ap = true) (h0 : 0 ≤ i) (h1 : i < ((ap.length / 2 : Nat) : Int)) : i ≤ F_l02Part ap i ∧ F_l02Part ap i ≤ ((ap.length / 2 : Nat) : Int) := by
  have := l02Part_lt h h0 h1; omega
theorem partEnd_in {ap : List Int} {i : Int} (h : F_l02Is ap = true) (h0 : 0 ≤ i) (h1 : i < ((ap.length / 2 : Nat) : Int)) : i < F_partEnd ap i ∧ F_partEnd ap i ≤ ((ap.length / 2 : Nat) : Int) := by
  rw [partEnd_eq]; exact l02Part_lt h h0 h1



/-- Formulas as trees. -/
inductive Fm : Type
  | leaf (k v : Int) : Fm
  | un (k v : Int) (a : Fm) : Fm
  | bin (k v : Int) (a b : Fm) : Fm
def Fm.code : Fm → List Int
  | .leaf k v => [k, v]
  | .un k v a => k :: v :: a.code
  | .bin k v a b => k :: v :: (a.code ++ b.code)
def Fm.size : Fm → Nat
  | .leaf _ _ => 1
  | .un _ _ a => a.size + 1
  | .bin _ _ a b => a.size + b.size + 1
theorem Fm.size_pos : (t : Fm) → 1 ≤ t.size
  | .leaf _ _ => Nat.le_refl _
  | .un _ _ a => by unfold Fm.size; omega
  | .bin _ _ a b => by unfold Fm.size; omega
theorem Fm.code_len : (t : Fm) → t.code.length = t.size * 2
  | .leaf _ _ => rfl
  | .un _ _ a => by have := a.code_len; simp only [Fm.code, Fm.size, List.length_cons]; omega
  | .bin _ _ a b => by have := a.code_len; have := b.code_len; simp only [Fm.code, Fm.size, List.length_cons, List.length_append]; omega
def ndOk (p k v : Int) : Prop := F_l02Parts k = p ∧ (0 ≤ k ∧ k ≤ 6) ∧ (0 ≤ v ∧ v ≤ 5) ∧ (k = 0 ∨ v = 0)
def Fm.Ok : Fm → Prop
  | .leaf k v => ndOk 0 k v
  | .un k v a => ndOk 1 k v ∧ a.Ok
  | .bin k v a b => ndOk 2 k v ∧ a.Ok ∧ b.Ok
theorem slI_cons {ap : List Int} {i j : Int} (he : ap.length = ap.length / 2 * 2) (h0 : 0 ≤ i) (h1 : i < ((ap.length / 2 : Nat) : Int)) (h2 : i + 1 ≤ j) : slI 2 ap i j = gS 2 0 ap i :: gS 2 1 ap i :: slI 2 ap (i + 1) j := by
  unfold slI gS
  have e1 : i.toNat * 2 < ap.length := by omega
  have e2 : i.toNat * 2 + 1 < ap.length := by omega
  rw [List.drop_eq_getElem_cons e1, List.drop_eq_getElem_cons e2, ← gi_get e1, ← gi_get e2, show (j.toNat - i.toNat) * 2 = (j.toNat - (i + 1).toNat) * 2 + 1 + 1 by omega, List.take_succ_cons, List.take_succ_cons,
    show (i + 1).toNat * 2 = i.toNat * 2 + 1 + 1 by omega]
  rfl
theorem slI_app {ap : List Int} {i j h : Int} (h0 : 0 ≤ i) (h1 : i ≤ j) (h2 : j ≤ h) : slI 2 ap i h = slI 2 ap i j ++ slI 2 ap j h := by
  unfold slI
  rw [show (h.toNat - i.toNat) * 2 = (j.toNat - i.toNat) * 2 + (h.toNat - j.toNat) * 2 by omega, List.take_add, List.drop_drop, show i.toNat * 2 + (j.toNat - i.toNat) * 2 = j.toNat * 2 by omega]
theorem part_end {ap : List Int} {r : Nat} {i o e : Int} (h0 : 0 < o) (h1 : ¬ i < ((ap.length / 2 : Nat) : Int)) (h : F_l02Part_L1 ap r i o = .ok (e, 0)) : False := by
  cases r with
  | zero =>
    have h : (Except.ok (i, o) : Except Int (Int × Int)) = .ok (e, 0) := h
    injection h with h; injection h with _ h; omega
  | succ r =>
    have h : F_l02Part_L1b ap (F_l02Part_L1 ap r) i o = .ok (e, 0) := h
    unfold F_l02Part_L1b at h
    rw [decide_eq_true h0, cond_true, decide_eq_true (by omega), cond_true] at h
    cases h
theorem parse (ap : List Int) (he : ap.length = ap.length / 2 * 2) (hq : ∀ i : Int, 0 ≤ i → i < ((ap.length / 2 : Nat) : Int) → (0 ≤ gS 2 0 ap i ∧ gS 2 0 ap i ≤ 6) ∧ (0 ≤ gS 2 1 ap i ∧ gS 2 1 ap i ≤ 5) ∧ (gS 2 0 ap i = 0 ∨ gS 2 1 ap i = 0)) :
    ∀ (n r : Nat) (i o e : Int), ((ap.length / 2 : Nat) : Int) - i ≤ (n : Int) → 0 < o → 0 ≤ i → ((ap.length / 2 : Nat) : Int) - i < (r : Int) → F_l02Part_L1 ap r i o = .ok (e, 0) →
      ∃ (t : Fm) (r' : Nat), t.Ok ∧ t.code = slI 2 ap i (i + t.size) ∧ i + t.size ≤ ((ap.length / 2 : Nat) : Int) ∧ ((ap.length / 2 : Nat) : Int) - (i + t.size) < (r' : Int) ∧ F_l02Part_L1 ap r' (i + t.size) (o - 1) = .ok (e, 0) := by
  intro n
  induction n with
  | zero => intro r i o e hn ho hi hr h; exact (part_end ho (by omega) h).elim
  | succ n ih =>
    intro r i o e hn ho hi hr h
    by_cases hl : i < ((ap.length / 2 : Nat) : Int)
    · obtain ⟨s, rfl⟩ : ∃ s, r = s + 1 := ⟨r - 1, by omega⟩
      rw [part_step _ _ ho hl] at h
      have hb := l02Parts_bd (gS 2 0 ap i)
      have q := hq i hi hl
      generalize hp : F_l02Parts (gS 2 0 ap i) = p at *
      have hp3 : p = 0 ∨ p = 1 ∨ p = 2 := by omega
      rcases hp3 with rfl | rfl | rfl
      · refine ⟨.leaf (gS 2 0 ap i) (gS 2 1 ap i), s, ⟨hp, q⟩, ?_, ?_, ?_, ?_⟩
        · show [_, _] = slI 2 ap i (i + ((1 : Nat) : Int))
          rw [slI_cons he hi hl (by omega)]
          unfold slI
          rw [show (i + ((1 : Nat) : Int)).toNat - (i + 1).toNat = 0 by omega]; simp
        · show i + ((1 : Nat) : Int) ≤ _; omega
        · show _ - (i + ((1 : Nat) : Int)) < _; omega
        · show F_l02Part_L1 ap s (i + ((1 : Nat) : Int)) (o - 1) = _
          rw [← h, show o - 1 + 0 = o - 1 by omega]; rfl
      · obtain ⟨a, r', a1, a2, a3, a4, a5⟩ := ih s (i + 1) _ _ (by omega) (by omega) (by omega) (by omega) h
        have e1 : i + ((a.size + 1 : Nat) : Int) = i + 1 + (a.size : Int) := by omega
        refine ⟨.un (gS 2 0 ap i) (gS 2 1 ap i) a, r', ⟨⟨hp, q⟩, a1⟩, ?_, ?_, ?_, ?_⟩
        · show _ :: _ :: a.code = slI 2 ap i (i + ((a.size + 1 : Nat) : Int))
          rw [e1, slI_cons he hi hl (by omega), ← a2]
        · show i + ((a.size + 1 : Nat) : Int) ≤ _; omega
        · show _ - (i + ((a.size + 1 : Nat) : Int)) < _; omega
        · show F_l02Part_L1 ap r' (i + ((a.size + 1 : Nat) : Int)) (o - 1) = _
          rw [e1, ← a5, show o - 1 + 1 - 1 = o - 1 by omega]
      · obtain ⟨a, r', a1, a2, a3, a4, a5⟩ := ih s (i + 1) _ _ (by omega) (by omega) (by omega) (by omega) h
        obtain ⟨b, r2, b1, b2, b3, b4, b5⟩ := ih r' (i + 1 + (a.size : Int)) _ _ (by have := a.size_pos; omega) (by omega) (by omega) (by omega) a5
        have e1 : i + ((a.size + b.size + 1 : Nat) : Int) = i + 1 + (a.size : Int) + (b.size : Int) := by omega
        refine ⟨.bin (gS 2 0 ap i) (gS 2 1 ap i) a b, r2, ⟨⟨hp, q⟩, a1, b1⟩, ?_, ?_, ?_, ?_⟩
        · show _ :: _ :: (a.code ++ b.code) = slI 2 ap i (i + ((a.size + b.size + 1 : Nat) : Int))
          rw [e1, slI_cons he hi hl (by omega), slI_app (i := i + 1) (j := i + 1 + (a.size : Int)) (by omega) (by omega) (by omega), ← a2, ← b2]
        · show i + ((a.size + b.size + 1 : Nat) : Int) ≤ _; omega
        · show _ - (i + ((a.size + b.size + 1 : Nat) : Int)) < _; omega
        · show F_l02Part_L1 ap r2 (i + ((a.size + b.size + 1 : Nat) : Int)) (o - 1) = _
          rw [e1, ← b5, show o - 1 + 2 - 1 - 1 = o - 1 by omega]
    · exact (part_end ho hl h).elim
/-- Reading over a part. -/
theorem part_code (ap : List Int) (he : ap.length = ap.length / 2 * 2) : ∀ (t : Fm) (r : Nat) (i o : Int), t.Ok → 0 < o → 0 ≤ i → t.code = slI 2 ap i (i + t.size) → i + t.size ≤ ((ap.length / 2 : Nat) : Int) →
    F_l02Part_L1 ap (r + t.size) i o = F_l02Part_L1 ap r (i + t.size) (o - 1) := by
  intro t
  induction t with
  | leaf k v =>
    intro r i o hk ho hi hc hl
    have hl' : i + ((1 : Nat) : Int) ≤ ((ap.length / 2 : Nat) : Int) := hl
    have hc' : [k, v] = slI 2 ap i (i + ((1 : Nat) : Int)) := hc
    rw [slI_cons he hi (by omega) (by omega)] at hc'
    injection hc' with c1 _
    show F_l02Part_L1 ap (r + 1) i o = F_l02Part_L1 ap r (i + ((1 : Nat) : Int)) (o - 1)
    rw [part_step _ _ ho (by omega), ← c1, hk.1, Int.add_zero]; rfl
  | un k v a ih =>
    intro r i o hk ho hi hc hl
    have e1 : i + ((a.size + 1 : Nat) : Int) = i + 1 + (a.size : Int) := by omega
    have hl' : i + ((a.size + 1 : Nat) : Int) ≤ ((ap.length / 2 : Nat) : Int) := hl
    have hc' : k :: v :: a.code = slI 2 ap i (i + ((a.size + 1 : Nat) : Int)) := hc
    rw [e1, slI_cons he hi (by omega) (by omega)] at hc'
    injection hc' with c1 hc'; injection hc' with _ c2
    show F_l02Part_L1 ap (r + a.size + 1) i o = F_l02Part_L1 ap r (i + ((a.size + 1 : Nat) : Int)) (o - 1)
    rw [part_step _ _ ho (by omega), ← c1, hk.1.1, ih r (i + 1) _ hk.2 (by omega) (by omega) c2 (by omega), e1, show o - 1 + 1 - 1 = o - 1 by omega]
  | bin k v a b iha ihb =>
    intro r i o hk ho hi hc hl
    have e1 : i + ((a.size + b.size + 1 : Nat) : Int) = i + 1 + (a.size : Int) + (b.size : Int) := by omega
    have hl' : i + ((a.size + b.size + 1 : Nat) : Int) ≤ ((ap.length / 2 : Nat) : Int) := hl
    have hc' : k :: v :: (a.code ++ b.code) = slI 2 ap i (i + ((a.size + b.size + 1 : Nat) : Int)) := hc
    rw [e1, slI_cons he hi (by omega) (by omega), slI_app (i := i + 1) (j := i + 1 + (a.size : Int)) (by omega) (by omega) (by omega)] at hc'
    injection hc' with c1 hc'; injection hc' with _ c2
    have hla : a.code.length = (slI 2 ap (i + 1) (i + 1 + (a.size : Int))).length := by
      rw [a.code_len, slI_len (n := ap.length / 2) he (by omega)]; omega
    obtain ⟨c3, c4⟩ := List.append_inj c2 hla
    show F_l02Part_L1 ap (r + (a.size + b.size + 1)) i o = F_l02Part_L1 ap r (i + ((a.size + b.size + 1 : Nat) : Int)) (o - 1)
    rw [show r + (a.size + b.size + 1) = (r + b.size) + a.size + 1 by omega, part_step _ _ ho (by omega), ← c1, hk.1.1, iha (r + b.size) (i + 1) _ hk.2.1 (by omega) (by omega) c3 (by omega), ihb r (i + 1 + (a.size : Int)) _ hk.2.2 (by omega) (by omega) c4 (by omega), e1, show o - 1 + 2 - 1 - 1 = o - 1 by omega]


def F_l02Left (ap : List Int) : List Int :=
  slI 2 ap 1 (F_l02Part ap 1)
theorem cf_l02Left (args : Array Value) (w : World) : (callFunc 139 args).run Try.prog w = .ok (.enter 139 args) w := by kernel_rfl
set_option maxRecDepth 100000 in
theorem c_l02Left (apA : Option Addr) (apN apC : Nat) (ap : List Int) (w : World) (apR : RdS w 2 apA apN apC ap) (hl : ap.length ≤ 4194304) (h1 : 1 ≤ ((ap.length / 2 : Nat) : Int)) (hp : 1 ≤ F_l02Part ap 1 ∧ F_l02Part ap 1 ≤ ((ap.length / 2 : Nat) : Int)) :
    Calls Try.prog 139 #[.slice apA apN apC] w (Ret fun v w' => v = .slice (subA apA (Int.toNat 1) apC 2) ((F_l02Left ap).length / 2 : Nat) (apC - (Int.toNat 1)) ∧ Ext w w') := by
  obtain rfl : apN = ap.length / 2 := (apR.lenD (by decide)).symm
  have apEv := apR.ev (by decide)
  have apLe := apR.le
  have hS := St.nil w
  have hS1 := St.rd0 hS rfl apR; clear hS
  refine enter (args := [.slice apA ((ap).length / 2 : Nat) apC]) Try.func139 rfl rfl ?_
  rw [Try.ntmps139]; intro a hE
  have hE := hE.sub (L' := [(0, .slice apA ((ap).length / 2 : Nat) apC)]) ⟨rfl, trivial⟩
  refine c_seq ?_
  refine c_reg ?_
  refine q_step (v := .slice none 0 0) hE (y_assign rfl) rfl rfl rfl ?_; intro a2 hE3; clear hE
  refine c_nil ?_
  have hE4 := hE3.sub (L' := [(0, .slice apA ((ap).length / 2 : Nat) apC)]) ⟨rfl, trivial⟩; clear hE3
  refine p_tn ?_
  refine c_seq ?_
  refine c_reg ?_
  refine q_step (v := .slice apA ((ap).length / 2 : Nat) apC) hE4 (y_move rfl) rfl rfl rfl ?_; intro a5 hE6; clear hE4
  refine q_step (v := .slice apA ((ap).length / 2 : Nat) apC) hE6 (y_move rfl) rfl rfl rfl ?_; intro a7 hE8; clear hE6
  refine l_step hE8 rfl (l_call (f := 72) (argv := [.slice apA ((ap).length / 2 : Nat) apC, .int .i64 1]) hE8 (fun _ => cf_l02Part _ _) rfl rfl (c_l02Part apA ((ap).length / 2 : Nat) apC ap 1 w (St.rdR (i := 0) hS1 rfl) (by omega) (by omega)) ?_)
  rintro _ w10 ⟨rfl, he14⟩ a11 hE12; clear hE8
  have hS13 := St.go hS1 he14; clear hS1
  have hv16 := (St.rdR (i := 0) hS13 rfl).2.1
  have hv15 : (0 : Int) ≤ 1 ∧ 1 ≤ (F_l02Part ap 1) ∧ (F_l02Part ap 1) ≤ (((ap).length / 2 : Nat) : Int) := ⟨(by omega), (by omega), (by omega)⟩
  have hv17 : Int.toNat (F_l02Part ap 1) - Int.toNat 1 = ((slI 2 ap 1 (F_l02Part ap 1)).length / 2 : Nat) := ((slI_lenD (by decide) (St.rdR (i := 0) hS13 rfl).1 hv15.2.2)).symm
  have hv18 : Int.toNat (F_l02Part ap 1) ≤ apC ∧ apC ≤ apC := ⟨by omega, Nat.le_refl _⟩
  refine q_step (v := .slice (subA apA (Int.toNat 1) apC 2) ((slI 2 ap 1 (F_l02Part ap 1)).length / 2 : Nat) (apC - Int.toNat 1)) hE12 (y_sliceLH (by kernel_rfl) (fun _ => by kernel_rfl) rfl rfl rfl hv15.1 hv15.2.1 (by omega) hv17 rfl) rfl rfl rfl ?_; intro a19 hE20; clear hE12
  refine q_step (v := .slice (subA apA (Int.toNat 1) apC 2) ((slI 2 ap 1 (F_l02Part ap 1)).length / 2 : Nat) (apC - Int.toNat 1)) hE20 (y_assign rfl) rfl rfl rfl ?_; intro a21 hE22; clear hE20
  refine c_nil ?_
  have hE23 := hE22.sub (L' := [(2, .slice (subA apA (Int.toNat 1) apC 2) ((slI 2 ap 1 (F_l02Part ap 1)).length / 2 : Nat) (apC - Int.toNat 1))]) ⟨rfl, trivial⟩; clear hE22
  refine p_tn ?_
  refine wp_ret ?_
  have hF : F_l02Left ap = slI 2 ap 1 (F_l02Part ap 1) := by unfold F_l02Left; rfl
  refine c_ret1 hE23 rfl rfl ?_
  exact ⟨(by rw [hF]; first | done | (dsimp only; done) | rfl), hS13.ext⟩

def F_l02Right (ap : List Int) : List Int :=
  slI 2 ap (F_l02Part ap 1) (((ap).length / 2 : Nat) : Int)
theorem cf_l02Right (args : Array Value) (w : World) : (callFunc 140 args).run Try.prog w = .ok (.enter 140 args) w := by kernel_rfl
set_option maxRecDepth 100000 in
theorem c_l02Right (apA : Option Addr) (apN apC : Nat) (ap : List Int) (w : World) (apR : RdS w 2 apA apN apC ap) (hl : ap.length ≤ 4194304) (h1 : 1 ≤ ((ap.length / 2 : Nat) : Int)) (hp : 1 ≤ F_l02Part ap 1 ∧ F_l02Part ap 1 ≤ ((ap.length / 2 : Nat) : Int)) :
    Calls Try.prog 140 #[.slice apA apN apC] w (Ret fun v w' => v = .slice (subA apA (Int.toNat (F_l02Part ap 1)) apC 2) ((F_l02Right ap).length / 2 : Nat) (apC - (Int.toNat (F_l02Part ap 1))) ∧ Ext w w') := by
  obtain rfl : apN = ap.length / 2 := (apR.lenD (by decide)).symm
  have apEv := apR.ev (by decide)
  have apLe := apR.le
  have hS := St.nil w
  have hS1 := St.rd0 hS rfl apR; clear hS
  refine enter (args := [.slice apA ((ap).length / 2 : Nat) apC]) Try.func140 rfl rfl ?_
  rw [Try.ntmps140]; intro a hE
  have hE := hE.sub (L' := [(0, .slice apA ((ap).length / 2 : Nat) apC)]) ⟨rfl, trivial⟩
  refine c_seq ?_
  refine c_reg ?_
  refine q_step (v := .slice none 0 0) hE (y_assign rfl) rfl rfl rfl ?_; intro a2 hE3; clear hE
  refine c_nil ?_
  have hE4 := hE3.sub (L' := [(0, .slice apA ((ap).length / 2 : Nat) apC)]) ⟨rfl, trivial⟩; clear hE3
  refine p_tn ?_
  refine c_seq ?_
  refine c_reg ?_
  refine q_step (v := .slice apA ((ap).length / 2 : Nat) apC) hE4 (y_move rfl) rfl rfl rfl ?_; intro a5 hE6; clear hE4
  refine q_step (v := .slice apA ((ap).length / 2 : Nat) apC) hE6 (y_move rfl) rfl rfl rfl ?_; intro a7 hE8; clear hE6
  refine l_step hE8 rfl (l_call (f := 72) (argv := [.slice apA ((ap).length / 2 : Nat) apC, .int .i64 1]) hE8 (fun _ => cf_l02Part _ _) rfl rfl (c_l02Part apA ((ap).length / 2 : Nat) apC ap 1 w (St.rdR (i := 0) hS1 rfl) (by omega) (by omega)) ?_)
  rintro _ w10 ⟨rfl, he14⟩ a11 hE12; clear hE8
  have hS13 := St.go hS1 he14; clear hS1
  have hv16 := (St.rdR (i := 0) hS13 rfl).2.1
  have hv15 : (0 : Int) ≤ (F_l02Part ap 1) ∧ (F_l02Part ap 1) ≤ (((ap).length / 2 : Nat) : Int) ∧ (((ap).length / 2 : Nat) : Int) ≤ (((ap).length / 2 : Nat) : Int) := ⟨(by omega), (by omega), (by omega)⟩
  have hv17 : Int.toNat (((ap).length / 2 : Nat) : Int) - Int.toNat (F_l02Part ap 1) = ((slI 2 ap (F_l02Part ap 1) (((ap).length / 2 : Nat) : Int)).length / 2 : Nat) := ((slI_lenD (by decide) (St.rdR (i := 0) hS13 rfl).1 hv15.2.2)).symm
  have hv18 : Int.toNat (((ap).length / 2 : Nat) : Int) ≤ apC ∧ apC ≤ apC := ⟨by omega, Nat.le_refl _⟩
  refine q_step (v := .slice (subA apA (Int.toNat (F_l02Part ap 1)) apC 2) ((slI 2 ap (F_l02Part ap 1) (((ap).length / 2 : Nat) : Int)).length / 2 : Nat) (apC - Int.toNat (F_l02Part ap 1))) hE12 (y_sliceL (by kernel_rfl) (fun _ => by kernel_rfl) rfl rfl hv15.1 hv15.2.1 (by have h := hv17; omega) rfl) rfl rfl rfl ?_; intro a19 hE20; clear hE12
  refine q_step (v := .slice (subA apA (Int.toNat (F_l02Part ap 1)) apC 2) ((slI 2 ap (F_l02Part ap 1) (((ap).length / 2 : Nat) : Int)).length / 2 : Nat) (apC - Int.toNat (F_l02Part ap 1))) hE20 (y_assign rfl) rfl rfl rfl ?_; intro a21 hE22; clear hE20
  refine c_nil ?_
  have hE23 := hE22.sub (L' := [(2, .slice (subA apA (Int.toNat (F_l02Part ap 1)) apC 2) ((slI 2 ap (F_l02Part ap 1) (((ap).length / 2 : Nat) : Int)).length / 2 : Nat) (apC - Int.toNat (F_l02Part ap 1)))]) ⟨rfl, trivial⟩; clear hE22
  refine p_tn ?_
  refine wp_ret ?_
  have hF : F_l02Right ap = slI 2 ap (F_l02Part ap 1) (((ap).length / 2 : Nat) : Int) := by unfold F_l02Right; rfl
  refine c_ret1 hE23 rfl rfl ?_
  exact ⟨(by rw [hF]; first | done | (dsimp only; done) | rfl), hS13.ext⟩

def IsFm (ap : List Int) : Prop := ∃ t : Fm, t.Ok ∧ t.code = ap
theorem slI_all {ap : List Int} (he : ap.length = ap.length / 2 * 2) : slI 2 ap 0 ((ap.length / 2 : Nat) : Int) = ap := by
  unfold slI
  rw [show ((0 : Int).toNat * 2) = 0 by rfl, List.drop_zero, List.take_of_length_le (by omega)]
theorem IsFm.of {ap : List Int} (he : ap.length = ap.length / 2 * 2) (h : F_l02Is ap = true) : IsFm ap := by
  have hr := l02Is_run h
  have ht : F_l02Tree ap = true := by unfold F_l02Is at h; simp only [Bool.and_eq_true] at h; exact h.2
  have hq : ∀ i : Int, 0 ≤ i → i < ((ap.length / 2 : Nat) : Int) → (0 ≤ gS 2 0 ap i ∧ gS 2 0 ap i ≤ 6) ∧ (0 ≤ gS 2 1 ap i ∧ gS 2 1 ap i ≤ 5) ∧ (gS 2 0 ap i = 0 ∨ gS 2 1 ap i = 0) := fun i h0 h1 => by
    unfold F_l02Tree at ht
    rw [allE (F_l02Tree_L1 ap) false ((ap.length / 2 : Nat) : Int) (fun i3 => ((!(F_l01In (gS 2 0 ap i3) 0 6)) || ((!(F_l01In (gS 2 1 ap i3) 0 5)) || ((!decide ((gS 2 0 ap i3) = 0)) && (!decide ((gS 2 1 ap i3) = 0)))))) (by omega) (fun _ _ _ _ => rfl), isOk_bif] at ht
    cases ha : (List.range ((ap.length / 2 : Nat) : Int).toNat).all (fun (j : Nat) => !((!(F_l01In (gS 2 0 ap (j : Int)) 0 6)) || ((!(F_l01In (gS 2 1 ap (j : Int)) 0 5)) || ((!decide ((gS 2 0 ap (j : Int)) = 0)) && (!decide ((gS 2 1 ap (j : Int)) = 0))))))
    · rw [ha] at ht; cases ht
    · rw [List.all_eq_true] at ha
      have := ha i.toNat (List.mem_range.2 (by omega))
      rw [show ((i.toNat : Nat) : Int) = i by omega] at this
      unfold F_l01In at this
      simp only [Bool.not_or, Bool.not_not, Bool.and_eq_true, decide_eq_true_eq, Bool.not_and, Bool.or_eq_true] at this
      exact this
  obtain ⟨t, r', a1, a2, a3, a4, a5⟩ := parse ap he hq (ap.length / 2) _ 0 1 _ (by omega) (by omega) (by omega) (by omega) hr
  rw [show (1 : Int) - 1 = 0 by rfl, part_zero] at a5
  injection a5 with a5; injection a5 with a5 _
  refine ⟨t, a1, ?_⟩
  rw [a2, a5, slI_all he]
theorem Fm.code_ev (t : Fm) : t.code.length = t.code.length / 2 * 2 := by rw [t.code_len]; omega
theorem Fm.code_half (t : Fm) : t.code.length / 2 = t.size := by rw [t.code_len]; omega
theorem Fm.kind : (t : Fm) → t.Ok → F_l02Parts (gS 2 0 t.code 0) = (match t with | .leaf _ _ => 0 | .un _ _ _ => 1 | .bin _ _ _ _ => 2)
  | .leaf _ _, h => h.1
  | .un _ _ _, h => h.1.1
  | .bin _ _ _ _, h => h.1.1
theorem IsFm.len {ap : List Int} (h : IsFm ap) : 1 ≤ ((ap.length / 2 : Nat) : Int) := by
  obtain ⟨t, _, rfl⟩ := h
  have := t.size_pos
  rw [t.code_half]; omega
theorem IsFm.ev {ap : List Int} (h : IsFm ap) : ap.length = ap.length / 2 * 2 := by
  obtain ⟨t, _, rfl⟩ := h
  exact t.code_ev
theorem fm_un {k v : Int} {a : Fm} : slI 2 (Fm.un k v a).code 1 (((Fm.un k v a).code.length / 2 : Nat) : Int) = a.code := by
  have e : (Fm.un k v a).code = k :: v :: a.code := rfl
  have := a.code_len
  unfold slI
  rw [(Fm.un k v a).code_half, e]
  show List.take _ (List.drop 2 (k :: v :: a.code)) = a.code
  rw [show List.drop 2 (k :: v :: a.code) = a.code from rfl, List.take_of_length_le]
  show a.code.length ≤ ((((a.size + 1 : Nat) : Int)).toNat - 1) * 2
  omega
theorem fm_part {k v : Int} {a b : Fm} (h : (Fm.bin k v a b).Ok) : F_l02Part (Fm.bin k v a b).code 1 = 1 + a.size ∧ slI 2 (Fm.bin k v a b).code 1 (1 + a.size) = a.code ∧ slI 2 (Fm.bin k v a b).code (1 + a.size) (((Fm.bin k v a b).code.length / 2 : Nat) : Int) = b.code := by
  have e : (Fm.bin k v a b).code = k :: v :: (a.code ++ b.code) := rfl
  have hl := (Fm.bin k v a b).code_half
  have hs : (Fm.bin k v a b).size = a.size + b.size + 1 := rfl
  have la := a.code_len
  have lb := b.code_len
  have pa := a.size_pos
  have e1 : slI 2 (Fm.bin k v a b).code 1 (1 + a.size) = a.code := by
    unfold slI
    rw [e, show (1 : Int).toNat * 2 = 2 by rfl, show List.drop 2 (k :: v :: (a.code ++ b.code)) = a.code ++ b.code from rfl, show ((1 : Int) + (a.size : Int)).toNat - (1 : Int).toNat = a.size by omega, ← la, List.take_left']
    rfl
  have e2 : slI 2 (Fm.bin k v a b).code (1 + a.size) (((Fm.bin k v a b).code.length / 2 : Nat) : Int) = b.code := by
    unfold slI
    rw [hl, hs, e, show ((1 : Int) + (a.size : Int)).toNat * 2 = 2 + a.code.length by omega, ← List.drop_drop, show List.drop 2 (k :: v :: (a.code ++ b.code)) = a.code ++ b.code from rfl, List.drop_left', List.take_of_length_le (by omega)]
    rfl
  refine ⟨?_, e1, e2⟩
  refine l02Part_of ?_
  rw [hl, hs, show Int.toNat (((a.size + b.size + 1 : Nat) : Int) - 1) + 1 = (b.size + 1) + a.size by omega, part_code _ (Fm.code_ev _) a (b.size + 1) 1 1 h.2.1 (by omega) (by omega) e1.symm (by rw [hl, hs]; omega)]
  rw [show (1 : Int) - 1 = 0 by rfl, part_zero]
theorem IsFm.un {ap : List Int} (h : IsFm ap) (hp : F_l02Parts (gS 2 0 ap 0) = 1) : IsFm (slI 2 ap 1 ((ap.length / 2 : Nat) : Int)) ∧ (slI 2 ap 1 ((ap.length / 2 : Nat) : Int)).length < ap.length := by
  obtain ⟨t, ht, rfl⟩ := h
  have hk := t.kind ht
  rw [hp] at hk
  cases t with
  | leaf k v => exact absurd hk (by simp)
  | un k v a =>
    rw [fm_un, (Fm.un k v a).code_len, a.code_len]
    refine ⟨⟨a, ht.2, rfl⟩, ?_⟩
    show a.size * 2 < (a.size + 1) * 2; omega
  | bin k v a b => exact absurd hk (by simp)
theorem IsFm.bin {ap : List Int} (h : IsFm ap) (hp : F_l02Parts (gS 2 0 ap 0) = 2) : (1 ≤ F_l02Part ap 1 ∧ F_l02Part ap 1 ≤ ((ap.length / 2 : Nat) : Int)) ∧ (IsFm (slI 2 ap 1 (F_l02Part ap 1)) ∧ IsFm (slI 2 ap (F_l02Part ap 1) ((ap.length / 2 : Nat) : Int))) ∧ (slI 2 ap 1 (F_l02Part ap 1)).length + (slI 2 ap (F_l02Part ap 1) ((ap.length / 2 : Nat) : Int)).length + 2 = ap.length ∧ 2 ≤ (slI 2 ap 1 (F_l02Part ap 1)).length ∧ 2 ≤ (slI 2 ap (F_l02Part ap 1) ((ap.length / 2 : Nat) : Int)).length := by
  obtain ⟨t, ht, rfl⟩ := h
  have hk := t.kind ht
  rw [hp] at hk
  cases t with
  | leaf k v => exact absurd hk (by simp)
  | un k v a => exact absurd hk (by simp)
  | bin k v a b =>
    obtain ⟨p1, p2, p3⟩ := fm_part ht
    have pa := a.size_pos
    have pb := b.size_pos
    have hs : (Fm.bin k v a b).size = a.size + b.size + 1 := rfl
    rw [p1, p2, p3, (Fm.bin k v a b).code_half, hs]
    refine ⟨by omega, ⟨⟨a, ht.2.1, rfl⟩, b, ht.2.2, rfl⟩, ?_, ?_, ?_⟩
    · rw [a.code_len, b.code_len, (Fm.bin k v a b).code_len, hs]; omega
    · rw [a.code_len]; omega
    · rw [b.code_len]; omega


theorem parts_k (k : Int) : (k = 2 → F_l02Parts k = 2) ∧ (k = 3 → F_l02Parts k = 2) ∧ (k = 4 → F_l02Parts k = 2) ∧ (k = 5 → F_l02Parts k = 1) ∧ (k = 6 → F_l02Parts k = 1) := by
  refine ⟨?_, ?_, ?_, ?_, ?_⟩ <;> (intro h; subst h; rfl)
theorem Fm.rng : (t : Fm) → t.Ok → 0 ≤ gS 2 0 t.code 0 ∧ gS 2 0 t.code 0 ≤ 6
  | .leaf _ _, h => h.2.1
  | .un _ _ _, h => h.1.2.1
  | .bin _ _ _ _, h => h.1.2.1
theorem IsFm.rng {ap : List Int} (h : IsFm ap) : 0 ≤ gS 2 0 ap 0 ∧ gS 2 0 ap 0 ≤ 6 := by
  obtain ⟨t, ht, rfl⟩ := h
  exact t.rng ht


def F_l03Polarities_b (self : List Int → Int → (List Int)) (ap : List Int) (sign : Int) : List Int :=
  bif (decide ((F_l02Parts (gS 2 0 ap 0)) = 1)) then (([sign]) ++ (self (slI 2 ap 1 (((ap).length / 2 : Nat) : Int)) sign)) else (bif (decide ((F_l02Parts (gS 2 0 ap 0)) = 2)) then (bif (decide ((gS 2 0 ap 0) = 4)) then ((([sign]) ++ (self (slI 2 ap 1 (F_l02Part ap 1)) (0 - sign))) ++ (self (slI 2 ap (F_l02Part ap 1) ((ap.length / 2 : Nat) : Int)) sign)) else ((([sign]) ++ (self (slI 2 ap 1 (F_l02Part ap 1)) sign)) ++ (self (slI 2 ap (F_l02Part ap 1) ((ap.length / 2 : Nat) : Int)) sign))) else ([sign]))
def F_l03Polarities_r : Nat → List Int → Int → (List Int)
  | 0 => fun _ _ => default
  | r + 1 => F_l03Polarities_b (F_l03Polarities_r r)
def F_l03Polarities (ap : List Int) (sign : Int) : List Int := F_l03Polarities_r (ap.length + 1) ap sign
theorem polLen : ∀ (r : Nat) (ap : List Int) (sign : Int) (hl : ap.length ≤ 4194304) (hf : IsFm ap) (hs : -1 ≤ sign ∧ sign ≤ 1), (F_l03Polarities_r r ap sign).length ≤ ap.length := by
  intro r
  induction r with
  | zero => intro ap sign _ _ _; show (default : List Int).length ≤ _; simp [default]
  | succ r ih =>
    intro ap sign hl hf hs
    have h0 := hf.len
    show (F_l03Polarities_b (F_l03Polarities_r r) ap sign).length ≤ ap.length
    unfold F_l03Polarities_b
    by_cases h1 : F_l02Parts (gS 2 0 ap 0) = 1
    · rw [decide_eq_true h1, cond_true, List.length_append]
      have a1 := hf.un h1
      have a2 := ih _ sign (by omega) a1.1 hs
      simp only [List.length_cons, List.length_nil]
      omega
    · rw [decide_eq_false h1, cond_false]
      by_cases h2 : F_l02Parts (gS 2 0 ap 0) = 2
      · rw [decide_eq_true h2, cond_true]
        have a1 := hf.bin h2
        have a2 := ih _ sign (by omega) a1.2.1.1 hs
        have a3 := ih _ (0 - sign) (by omega) a1.2.1.1 (by omega)
        have a4 := ih _ sign (by omega) a1.2.1.2 hs
        cases decide (gS 2 0 ap 0 = 4) <;> simp only [cond_true, cond_false, List.length_append, List.length_cons, List.length_nil] <;> omega
      · rw [decide_eq_false h2, cond_false]
        simp only [List.length_cons, List.length_nil]; omega

theorem cf_l03Polarities (args : Array Value) (w : World) : (callFunc 79 args).run Try.prog w = .ok (.enter 79 args) w := by kernel_rfl
set_option maxRecDepth 100000 in
theorem cb_l03Polarities (self : List Int → Int → (List Int)) (hpost : ∀ (ap : List Int) (sign : Int) (hl : ap.length ≤ 4194304) (hf : IsFm ap) (hs : -1 ≤ sign ∧ sign ≤ 1), (self ap sign).length ≤ ap.length) (apA : Option Addr) (apN apC : Nat) (ap : List Int) (sign : Int) (w : World) (apR : RdS w 2 apA apN apC ap) (hl : ap.length ≤ 4194304) (hf : IsFm ap) (hs : -1 ≤ sign ∧ sign ≤ 1) (mu : Nat) (hmu : mu = ap.length) (ih : ∀ (apA : Option Addr) (apN apC : Nat) (ap : List Int) (sign : Int) (w : World) (apR : RdS w 2 apA apN apC ap) (hl : ap.length ≤ 4194304) (hf : IsFm ap) (hs : -1 ≤ sign ∧ sign ≤ 1) (hdec : ap.length < mu), Calls Try.prog 79 #[.slice apA apN apC, .int .i64 sign] w (Ret fun v w' => ∃ b1 : Option Addr, ∃ c1 : Nat, v = .slice b1 (self ap sign).length c1 ∧ OwnS w' w.heap.size 2 1 b1 (self ap sign).length c1 (self ap sign) ∧ Ext w w')) :
    Calls Try.prog 79 #[.slice apA apN apC, .int .i64 sign] w (Ret fun v w' => ∃ b1 : Option Addr, ∃ c1 : Nat, v = .slice b1 (F_l03Polarities_b self ap sign).length c1 ∧ OwnS w' w.heap.size 2 1 b1 (F_l03Polarities_b self ap sign).length c1 (F_l03Polarities_b self ap sign) ∧ Ext w w') := by
  obtain rfl : apN = ap.length / 2 := (apR.lenD (by decide)).symm
  have apEv := apR.ev (by decide)
  have apLe := apR.le
  have hl1 := hf.len
  have hS := St.nil w
  have hS1 := St.rd0 hS rfl apR; clear hS
  refine enter (args := [.slice apA ((ap).length / 2 : Nat) apC, .int .i64 sign]) Try.func79 rfl rfl ?_
  rw [Try.ntmps79]; intro a hE
  have hE := hE.sub (L' := [(0, .slice apA ((ap).length / 2 : Nat) apC), (1, .int .i64 sign)]) ⟨rfl, rfl, trivial⟩
  refine c_seq ?_
  refine c_reg ?_
  refine q_step (v := .slice none 0 0) hE (y_assign rfl) rfl rfl rfl ?_; intro a2 hE3; clear hE
  refine c_nil ?_
  have hE4 := hE3.sub (L' := [(0, .slice apA ((ap).length / 2 : Nat) apC), (1, .int .i64 sign)]) ⟨rfl, rfl, trivial⟩; clear hE3
  refine p_tn ?_
  refine c_seq ?_
  refine c_reg ?_
  refine q_step (v := .int .i64 sign) hE4 (y_move rfl) rfl rfl rfl ?_; intro a5 hE6; clear hE4
  refine l_step hE6 rfl (l_lit (e := 2) (s := 1) (xs := [sign]) (vs := [.int .i64 sign]) hS1 hE6 rfl (fun _ => by kernel_rfl) rfl rfl rfl ?_)
  intro b7 w8 hS11 he12 a9 hE10; clear hS1 hE6
  refine q_step (v := .slice (some ⟨b7, 0, none⟩) 1 1) hE10 (y_assign rfl) rfl rfl rfl ?_; intro a13 hE14; clear hE10
  refine c_nil ?_
  have hE15 := hE14.sub (L' := [(0, .slice apA ((ap).length / 2 : Nat) apC), (1, .int .i64 sign), (5, .slice (some ⟨b7, 0, none⟩) 1 1)]) ⟨rfl, rfl, rfl, trivial⟩; clear hE14
  refine p_tn ?_
  refine c_seq ?_
  refine c_seq ?_
  refine c_reg ?_
  refine q_step (v := .slice apA ((ap).length / 2 : Nat) apC) hE15 (y_move rfl) rfl rfl rfl ?_; intro a16 hE17; clear hE15
  refine q_step (v := .pointer (some (adr apA (Int.toNat 0 * 2)))) hE17 (y_idx (by kernel_rfl) (fun _ => by kernel_rfl) rfl rfl (RdS.isS (m := 0) (St.rdR (i := 1) hS11 rfl) (by omega) (by omega)) (by omega) (by omega) rfl) rfl rfl rfl ?_; intro a18 hE19; clear hE17
  refine q_step (v := .pointer (some (adr apA ((Int.toNat 0 * 2) + 0)))) hE19 (y_fieldE (o := 0) (fun _ _ => by kernel_rfl) rfl) rfl rfl rfl ?_; intro a20 hE21; clear hE19
  refine q_step (v := .int .i64 (gS 2 0 ap 0)) hE21 (y_load (fun _ => by kernel_rfl) rfl (RdS.eltS (j := 0) (St.rdR (i := 1) hS11 rfl) (by omega) (by omega) (by decide))) rfl rfl rfl ?_; intro a22 hE23; clear hE21
  refine l_step hE23 rfl (l_call (f := 135) (argv := [.int .i64 (gS 2 0 ap 0)]) hE23 (fun _ => cf_l02Parts _ _) rfl rfl (c_l02Parts (gS 2 0 ap 0) w8) ?_)
  rintro _ _ ⟨rfl, rfl⟩ a26 hE27; clear hE23
  have hf30 := l02Parts_bd (gS 2 0 ap 0)
  refine c_nil ?_
  have hE31 := hE27.sub (L' := [(0, .slice apA ((ap).length / 2 : Nat) apC), (1, .int .i64 sign), (5, .slice (some ⟨b7, 0, none⟩) 1 1), (13, .int .i64 (F_l02Parts (gS 2 0 ap 0)))]) ⟨rfl, rfl, rfl, rfl, trivial⟩; clear hE27
  refine p_tn ?_
  refine wp_block ?_
  refine c_seq ?_
  refine c_reg ?_
  refine q_step (v := .bool (decide ((F_l02Parts (gS 2 0 ap 0)) = 1))) hE31 (y_eql rfl rfl) rfl rfl rfl ?_; intro a32 hE33; clear hE31
  refine q_step (v := .bool (decide ((F_l02Parts (gS 2 0 ap 0)) = 1))) hE33 (y_assign rfl) rfl rfl rfl ?_; intro a34 hE35; clear hE33
  refine c_nil ?_
  have hE36 := hE35.sub (L' := [(0, .slice apA ((ap).length / 2 : Nat) apC), (1, .int .i64 sign), (5, .slice (some ⟨b7, 0, none⟩) 1 1), (13, .int .i64 (F_l02Parts (gS 2 0 ap 0))), (14, .bool (decide ((F_l02Parts (gS 2 0 ap 0)) = 1)))]) ⟨rfl, rfl, rfl, rfl, rfl, trivial⟩; clear hE35
  refine p_tn ?_
  refine c_cond hE36 rfl (fun ht37 => ?_) (fun ht37 => ?_)
  ·
   have hp38 := of_decide_eq_true ht37
   have hE39 := hE36; rw [ht37] at hE39; clear hE36
   refine c_seq ?_
   refine c_reg ?_
   refine q_step (v := .slice (some ⟨b7, 0, none⟩) 1 1) hE39 (y_move rfl) rfl rfl rfl ?_; intro a40 hE41; clear hE39
   refine q_step (v := .slice apA ((ap).length / 2 : Nat) apC) hE41 (y_move rfl) rfl rfl rfl ?_; intro a42 hE43; clear hE41
   have hv45 := (St.rdR (i := 1) hS11 rfl).2.1
   have hv44 : (0 : Int) ≤ 1 ∧ 1 ≤ (((ap).length / 2 : Nat) : Int) ∧ (((ap).length / 2 : Nat) : Int) ≤ (((ap).length / 2 : Nat) : Int) := ⟨(by omega), (by omega), (by omega)⟩
   have hv46 : Int.toNat (((ap).length / 2 : Nat) : Int) - Int.toNat 1 = ((slI 2 ap 1 (((ap).length / 2 : Nat) : Int)).length / 2 : Nat) := ((slI_lenD (by decide) (St.rdR (i := 1) hS11 rfl).1 hv44.2.2)).symm
   have hv47 : Int.toNat (((ap).length / 2 : Nat) : Int) ≤ apC ∧ apC ≤ apC := ⟨by omega, Nat.le_refl _⟩
   refine q_step (v := .slice (subA apA (Int.toNat 1) apC 2) ((slI 2 ap 1 (((ap).length / 2 : Nat) : Int)).length / 2 : Nat) (apC - Int.toNat 1)) hE43 (y_sliceL (by kernel_rfl) (fun _ => by kernel_rfl) rfl rfl hv44.1 hv44.2.1 (by have h := hv46; omega) rfl) rfl rfl rfl ?_; intro a48 hE49; clear hE43
   refine q_step (v := .int .i64 sign) hE49 (y_move rfl) rfl rfl rfl ?_; intro a50 hE51; clear hE49
   refine l_step hE51 rfl (l_call (f := 79) (argv := [.slice (subA apA (Int.toNat 1) apC 2) ((slI 2 ap 1 (((ap).length / 2 : Nat) : Int)).length / 2 : Nat) (apC - Int.toNat 1), .int .i64 sign]) hE51 (fun _ => cf_l03Polarities _ _) rfl rfl (ih (subA apA (Int.toNat 1) apC 2) ((slI 2 ap 1 (((ap).length / 2 : Nat) : Int)).length / 2 : Nat) (apC - Int.toNat 1) (slI 2 ap 1 (((ap).length / 2 : Nat) : Int)) sign w8 (RdS.sub (St.rdR (i := 1) hS11 rfl) apC hv44.1 hv44.2.1 hv44.2.2 hv47.1 hv47.2 hv46 rfl) (Nat.le_trans (slI_le 2 _ _ _) hl) (by first | (with_reducible exact hbn.2.1.1) | (with_reducible exact hbn.2.1.2) | exact (IsFm.un hf (by omega)).1) (by omega) (by first | (have h := hbn.2.2; omega) | (have h := (IsFm.un hf (by omega)).2; omega))) ?_)
   rintro _ w53 ⟨b58, c59, rfl, ho60, he57⟩ a54 hE55; clear hE51
   have hf61 := hpost (slI 2 ap 1 (((ap).length / 2 : Nat) : Int)) sign (Nat.le_trans (slI_le 2 _ _ _) hl) (by first | (with_reducible exact hbn.2.1.1) | (with_reducible exact hbn.2.1.2) | exact (IsFm.un hf (by omega)).1) (by omega)
   have hS56 := St.own hS11 he57 ho60; clear hS11
   obtain ⟨_, hi1, hi2, hi3, hi4⟩ := info_parts (show (Try.prog.info? 2).map (fun i => (i.zero, i.size, i.bytes)) = some (some (.int .i64 0), 1, 8) by kernel_rfl)
   refine l_step hE55 rfl (l_append (k := 1) (n' := (([sign]) ++ (self (slI 2 ap 1 (((ap).length / 2 : Nat) : Int)) sign)).length) hS56 hE55 (by kernel_rfl) hi1 hi2 hi3 rfl (by decide) (by rw [hi4]; decide) rfl rfl rfl (St.rdO (i := 0) hS56 rfl) (by first | omega | (simp only [List.length_append, List.length_cons, List.length_nil]; omega)) (by have h1 := (St.rdO (i := 1) hS56 rfl).len1; have h2 := (St.rdO (i := 0) hS56 rfl).len1; first | rw [List.length_append, h1, h2] | (simp only [List.length_append])) rfl ?_)
   intro b62 c68 w63 hS66 a64 hE65; clear hS56 hE55 hi1 hi2 hi3 hi4
   refine q_step (v := .slice b62 ((([sign]) ++ (self (slI 2 ap 1 (((ap).length / 2 : Nat) : Int)) sign)).length) c68) hE65 (y_assign rfl) rfl rfl rfl ?_; intro a69 hE70; clear hE65
   refine c_nil ?_
   have hE71 := hE70.sub (L' := [(4, .slice b62 ((([sign]) ++ (self (slI 2 ap 1 (((ap).length / 2 : Nat) : Int)) sign)).length) c68)]) ⟨rfl, trivial⟩; clear hE70
   refine p_tn ?_
   refine wp_ret ?_
   refine p_br ?_
   refine p_tr ?_
   have hF : F_l03Polarities_b self ap sign = ([sign]) ++ (self (slI 2 ap 1 (((ap).length / 2 : Nat) : Int)) sign) := by unfold F_l03Polarities_b; rw [ht37]; first | done | rfl
   refine c_ret1 hE71 rfl rfl ?_
   exact ⟨b62, c68, (by rw [hF]; first | done | (dsimp only; done) | rfl), (by rw [hF]; (try dsimp only); exact hS66.ok 1 _ rfl), hS66.ext⟩
  ·
   have hp72 := of_decide_eq_false ht37
   have hE73 := hE36; rw [ht37] at hE73; clear hE36
   refine c_seq ?_
   refine c_reg ?_
   refine q_step (v := .bool (decide ((F_l02Parts (gS 2 0 ap 0)) = 2))) hE73 (y_eql rfl rfl) rfl rfl rfl ?_; intro a74 hE75; clear hE73
   refine q_step (v := .bool (decide ((F_l02Parts (gS 2 0 ap 0)) = 2))) hE75 (y_assign rfl) rfl rfl rfl ?_; intro a76 hE77; clear hE75
   refine c_nil ?_
   have hE78 := hE77.sub (L' := [(0, .slice apA ((ap).length / 2 : Nat) apC), (1, .int .i64 sign), (5, .slice (some ⟨b7, 0, none⟩) 1 1), (22, .bool (decide ((F_l02Parts (gS 2 0 ap 0)) = 2)))]) ⟨rfl, rfl, rfl, rfl, trivial⟩; clear hE77
   refine p_tn ?_
   refine c_cond hE78 rfl (fun ht79 => ?_) (fun ht79 => ?_)
   ·
    have hp80 := of_decide_eq_true ht79
    have hE81 := hE78; rw [ht79] at hE81; clear hE78
    refine c_seq ?_
    refine c_reg ?_
    refine q_step (v := .int .i64 sign) hE81 (y_move rfl) rfl rfl rfl ?_; intro a82 hE83; clear hE81
    refine q_step (v := .int .i64 sign) hE83 (y_assign rfl) rfl rfl rfl ?_; intro a84 hE85; clear hE83
    refine c_nil ?_
    have hE86 := hE85.sub (L' := [(0, .slice apA ((ap).length / 2 : Nat) apC), (1, .int .i64 sign), (5, .slice (some ⟨b7, 0, none⟩) 1 1), (6, .int .i64 sign)]) ⟨rfl, rfl, rfl, rfl, trivial⟩; clear hE85
    refine p_tn ?_
    refine c_seq ?_
    refine c_seq ?_
    refine c_reg ?_
    refine q_step (v := .slice apA ((ap).length / 2 : Nat) apC) hE86 (y_move rfl) rfl rfl rfl ?_; intro a87 hE88; clear hE86
    refine q_step (v := .pointer (some (adr apA (Int.toNat 0 * 2)))) hE88 (y_idx (by kernel_rfl) (fun _ => by kernel_rfl) rfl rfl (RdS.isS (m := 0) (St.rdR (i := 1) hS11 rfl) (by omega) (by omega)) (by omega) (by omega) rfl) rfl rfl rfl ?_; intro a89 hE90; clear hE88
    refine q_step (v := .pointer (some (adr apA ((Int.toNat 0 * 2) + 0)))) hE90 (y_fieldE (o := 0) (fun _ _ => by kernel_rfl) rfl) rfl rfl rfl ?_; intro a91 hE92; clear hE90
    refine q_step (v := .int .i64 (gS 2 0 ap 0)) hE92 (y_load (fun _ => by kernel_rfl) rfl (RdS.eltS (j := 0) (St.rdR (i := 1) hS11 rfl) (by omega) (by omega) (by decide))) rfl rfl rfl ?_; intro a93 hE94; clear hE92
    refine q_step (v := .bool (decide ((gS 2 0 ap 0) = 4))) hE94 (y_eql rfl rfl) rfl rfl rfl ?_; intro a95 hE96; clear hE94
    refine c_nil ?_
    have hE97 := hE96.sub (L' := [(0, .slice apA ((ap).length / 2 : Nat) apC), (1, .int .i64 sign), (5, .slice (some ⟨b7, 0, none⟩) 1 1), (6, .int .i64 sign), (29, .bool (decide ((gS 2 0 ap 0) = 4)))]) ⟨rfl, rfl, rfl, rfl, rfl, trivial⟩; clear hE96
    refine p_tn ?_
    refine c_cond hE97 rfl (fun ht98 => ?_) (fun ht98 => ?_)
    ·
     have hp99 := of_decide_eq_true ht98
     have hE100 := hE97; rw [ht98] at hE100; clear hE97
     refine c_reg ?_
     refine q_step (v := .int .i64 sign) hE100 (y_move rfl) rfl rfl rfl ?_; intro a101 hE102; clear hE100
     have hv103 : IntKind.i64.wrap (0 - sign) = 0 - sign := wI_in (m := 0 - sign) ⟨(by omega), (by omega)⟩
     refine q_step (v := .int .i64 (0 - sign)) hE102 ((by rw [← hv103]; exact y_neg rfl)) rfl rfl rfl ?_; intro a104 hE105; clear hE102
     refine q_step (v := .int .i64 (0 - sign)) hE105 (y_assign rfl) rfl rfl rfl ?_; intro a106 hE107; clear hE105
     refine c_nil ?_
     have hE108 := hE107.sub (L' := [(0, .slice apA ((ap).length / 2 : Nat) apC), (1, .int .i64 sign), (5, .slice (some ⟨b7, 0, none⟩) 1 1), (6, .int .i64 (0 - sign))]) ⟨rfl, rfl, rfl, rfl, trivial⟩; clear hE107
     refine p_tn ?_
     refine c_seq ?_
     refine c_reg ?_
     refine q_step (v := .slice (some ⟨b7, 0, none⟩) 1 1) hE108 (y_move rfl) rfl rfl rfl ?_; intro a109 hE110; clear hE108
     refine q_step (v := .slice apA ((ap).length / 2 : Nat) apC) hE110 (y_move rfl) rfl rfl rfl ?_; intro a111 hE112; clear hE110
     refine l_step hE112 rfl (l_call (f := 139) (argv := [.slice apA ((ap).length / 2 : Nat) apC]) hE112 (fun _ => cf_l02Left _ _) rfl rfl (c_l02Left apA ((ap).length / 2 : Nat) apC ap w8 (St.rdR (i := 1) hS11 rfl) (by omega) (by omega) (IsFm.bin hf (by omega)).1) ?_)
     rintro _ w114 ⟨rfl, he118⟩ a115 hE116; clear hE112
     have hbn := IsFm.bin hf (by omega)
     have hS117 := St.go hS11 he118; clear hS11
     have hv122 := (St.rdR (i := 1) hS117 rfl).2.1
     have hv119 : (0 : Int) ≤ 1 ∧ 1 ≤ (F_l02Part ap 1) ∧ (F_l02Part ap 1) ≤ (((ap).length / 2 : Nat) : Int) := ⟨(by omega), (by omega), (by omega)⟩
     have hv120 : Int.toNat (F_l02Part ap 1) - Int.toNat 1 = ((slI 2 ap 1 (F_l02Part ap 1)).length / 2 : Nat) := ((slI_lenD (by decide) (St.rdR (i := 1) hS117 rfl).1 hv119.2.2)).symm
     have hv121 : Int.toNat (F_l02Part ap 1) ≤ apC ∧ apC ≤ apC := ⟨by omega, by omega⟩
     refine q_step (v := .int .i64 (0 - sign)) hE116 (y_move rfl) rfl rfl rfl ?_; intro a123 hE124; clear hE116
     refine l_step hE124 rfl (l_call (f := 79) (argv := [.slice (subA apA (Int.toNat 1) apC 2) ((slI 2 ap 1 (F_l02Part ap 1)).length / 2 : Nat) (apC - (Int.toNat 1)), .int .i64 (0 - sign)]) hE124 (fun _ => cf_l03Polarities _ _) rfl rfl (ih (subA apA (Int.toNat 1) apC 2) ((slI 2 ap 1 (F_l02Part ap 1)).length / 2 : Nat) (apC - (Int.toNat 1)) (slI 2 ap 1 (F_l02Part ap 1)) (0 - sign) w114 (RdS.sub (St.rdR (i := 1) hS117 rfl) apC hv119.1 hv119.2.1 hv119.2.2 hv121.1 hv121.2 hv120 rfl) (Nat.le_trans (slI_le 2 _ _ _) hl) (by first | (with_reducible exact hbn.2.1.1) | (with_reducible exact hbn.2.1.2) | exact (IsFm.un hf (by omega)).1) (by omega) (by first | (have h := hbn.2.2; omega) | (have h := (IsFm.un hf (by omega)).2; omega))) ?_)
     rintro _ w126 ⟨b131, c132, rfl, ho133, he130⟩ a127 hE128; clear hE124
     have hf134 := hpost (slI 2 ap 1 (F_l02Part ap 1)) (0 - sign) (Nat.le_trans (slI_le 2 _ _ _) hl) (by first | (with_reducible exact hbn.2.1.1) | (with_reducible exact hbn.2.1.2) | exact (IsFm.un hf (by omega)).1) (by omega)
     have hS129 := St.own hS117 he130 ho133; clear hS117
     obtain ⟨_, hi1, hi2, hi3, hi4⟩ := info_parts (show (Try.prog.info? 2).map (fun i => (i.zero, i.size, i.bytes)) = some (some (.int .i64 0), 1, 8) by kernel_rfl)
     refine l_step hE128 rfl (l_append (k := 1) (n' := (([sign]) ++ (self (slI 2 ap 1 (F_l02Part ap 1)) (0 - sign))).length) hS129 hE128 (by kernel_rfl) hi1 hi2 hi3 rfl (by decide) (by rw [hi4]; decide) rfl rfl rfl (St.rdO (i := 0) hS129 rfl) (by first | omega | (simp only [List.length_append, List.length_cons, List.length_nil]; omega)) (by have h1 := (St.rdO (i := 1) hS129 rfl).len1; have h2 := (St.rdO (i := 0) hS129 rfl).len1; first | rw [List.length_append, h1, h2] | (simp only [List.length_append])) rfl ?_)
     intro b135 c141 w136 hS139 a137 hE138; clear hS129 hE128 hi1 hi2 hi3 hi4
     refine q_step (v := .slice b135 ((([sign]) ++ (self (slI 2 ap 1 (F_l02Part ap 1)) (0 - sign))).length) c141) hE138 (y_assign rfl) rfl rfl rfl ?_; intro a142 hE143; clear hE138
     refine c_nil ?_
     have hE144 := hE143.sub (L' := [(0, .slice apA ((ap).length / 2 : Nat) apC), (1, .int .i64 sign), (5, .slice b135 ((([sign]) ++ (self (slI 2 ap 1 (F_l02Part ap 1)) (0 - sign))).length) c141)]) ⟨rfl, rfl, rfl, trivial⟩; clear hE143
     refine p_tn ?_
     refine c_seq ?_
     refine c_reg ?_
     refine q_step (v := .slice b135 ((([sign]) ++ (self (slI 2 ap 1 (F_l02Part ap 1)) (0 - sign))).length) c141) hE144 (y_move rfl) rfl rfl rfl ?_; intro a145 hE146; clear hE144
     refine q_step (v := .slice apA ((ap).length / 2 : Nat) apC) hE146 (y_move rfl) rfl rfl rfl ?_; intro a147 hE148; clear hE146
     refine l_step hE148 rfl (l_call (f := 140) (argv := [.slice apA ((ap).length / 2 : Nat) apC]) hE148 (fun _ => cf_l02Right _ _) rfl rfl (c_l02Right apA ((ap).length / 2 : Nat) apC ap w136 (St.rdR (i := 2) hS139 rfl) (by omega) (by omega) (IsFm.bin hf (by omega)).1) ?_)
     rintro _ w150 ⟨rfl, he154⟩ a151 hE152; clear hE148
     have hbn := IsFm.bin hf (by omega)
     have hS153 := St.go hS139 he154; clear hS139
     have hv158 := (St.rdR (i := 2) hS153 rfl).2.1
     have hv155 : (0 : Int) ≤ (F_l02Part ap 1) ∧ (F_l02Part ap 1) ≤ ((ap.length / 2 : Nat) : Int) ∧ ((ap.length / 2 : Nat) : Int) ≤ (((ap).length / 2 : Nat) : Int) := ⟨(by omega), (by omega), (by omega)⟩
     have hv156 : Int.toNat ((ap.length / 2 : Nat) : Int) - Int.toNat (F_l02Part ap 1) = ((slI 2 ap (F_l02Part ap 1) ((ap.length / 2 : Nat) : Int)).length / 2 : Nat) := ((slI_lenD (by decide) (St.rdR (i := 2) hS153 rfl).1 hv155.2.2)).symm
     have hv157 : Int.toNat ((ap.length / 2 : Nat) : Int) ≤ apC ∧ apC ≤ apC := ⟨by omega, by omega⟩
     refine q_step (v := .int .i64 sign) hE152 (y_move rfl) rfl rfl rfl ?_; intro a159 hE160; clear hE152
     refine l_step hE160 rfl (l_call (f := 79) (argv := [.slice (subA apA (Int.toNat (F_l02Part ap 1)) apC 2) ((slI 2 ap (F_l02Part ap 1) ((ap.length / 2 : Nat) : Int)).length / 2 : Nat) (apC - (Int.toNat (F_l02Part ap 1))), .int .i64 sign]) hE160 (fun _ => cf_l03Polarities _ _) rfl rfl (ih (subA apA (Int.toNat (F_l02Part ap 1)) apC 2) ((slI 2 ap (F_l02Part ap 1) ((ap.length / 2 : Nat) : Int)).length / 2 : Nat) (apC - (Int.toNat (F_l02Part ap 1))) (slI 2 ap (F_l02Part ap 1) ((ap.length / 2 : Nat) : Int)) sign w150 (RdS.sub (St.rdR (i := 2) hS153 rfl) apC hv155.1 hv155.2.1 hv155.2.2 hv157.1 hv157.2 hv156 rfl) (Nat.le_trans (slI_le 2 _ _ _) hl) (by first | (with_reducible exact hbn.2.1.1) | (with_reducible exact hbn.2.1.2) | exact (IsFm.un hf (by omega)).1) (by omega) (by first | (have h := hbn.2.2; omega) | (have h := (IsFm.un hf (by omega)).2; omega))) ?_)
     rintro _ w162 ⟨b167, c168, rfl, ho169, he166⟩ a163 hE164; clear hE160
     have hf170 := hpost (slI 2 ap (F_l02Part ap 1) ((ap.length / 2 : Nat) : Int)) sign (Nat.le_trans (slI_le 2 _ _ _) hl) (by first | (with_reducible exact hbn.2.1.1) | (with_reducible exact hbn.2.1.2) | exact (IsFm.un hf (by omega)).1) (by omega)
     have hS165 := St.own hS153 he166 ho169; clear hS153
     obtain ⟨_, hi1, hi2, hi3, hi4⟩ := info_parts (show (Try.prog.info? 2).map (fun i => (i.zero, i.size, i.bytes)) = some (some (.int .i64 0), 1, 8) by kernel_rfl)
     refine l_step hE164 rfl (l_append (k := 2) (n' := ((([sign]) ++ (self (slI 2 ap 1 (F_l02Part ap 1)) (0 - sign))) ++ (self (slI 2 ap (F_l02Part ap 1) ((ap.length / 2 : Nat) : Int)) sign)).length) hS165 hE164 (by kernel_rfl) hi1 hi2 hi3 rfl (by decide) (by rw [hi4]; decide) rfl rfl rfl (St.rdO (i := 0) hS165 rfl) (by first | omega | (simp only [List.length_append, List.length_cons, List.length_nil]; omega)) (by have h1 := (St.rdO (i := 2) hS165 rfl).len1; have h2 := (St.rdO (i := 0) hS165 rfl).len1; first | rw [List.length_append, h1, h2] | (simp only [List.length_append])) rfl ?_)
     intro b171 c177 w172 hS175 a173 hE174; clear hS165 hE164 hi1 hi2 hi3 hi4
     refine q_step (v := .slice b171 (((([sign]) ++ (self (slI 2 ap 1 (F_l02Part ap 1)) (0 - sign))) ++ (self (slI 2 ap (F_l02Part ap 1) ((ap.length / 2 : Nat) : Int)) sign)).length) c177) hE174 (y_assign rfl) rfl rfl rfl ?_; intro a178 hE179; clear hE174
     refine c_nil ?_
     have hE180 := hE179.sub (L' := [(4, .slice b171 (((([sign]) ++ (self (slI 2 ap 1 (F_l02Part ap 1)) (0 - sign))) ++ (self (slI 2 ap (F_l02Part ap 1) ((ap.length / 2 : Nat) : Int)) sign)).length) c177)]) ⟨rfl, trivial⟩; clear hE179
     refine p_tn ?_
     refine wp_ret ?_
     refine p_br ?_
     refine p_tr ?_
     have hF : F_l03Polarities_b self ap sign = (([sign]) ++ (self (slI 2 ap 1 (F_l02Part ap 1)) (0 - sign))) ++ (self (slI 2 ap (F_l02Part ap 1) ((ap.length / 2 : Nat) : Int)) sign) := by unfold F_l03Polarities_b; rw [ht98, ht79, ht37]; first | done | rfl
     refine c_ret1 hE180 rfl rfl ?_
     exact ⟨b171, c177, (by rw [hF]; first | done | (dsimp only; done) | rfl), (by rw [hF]; (try dsimp only); exact hS175.ok 2 _ rfl), hS175.ext⟩
    ·
     have hp181 := of_decide_eq_false ht98
     have hE182 := hE97; rw [ht98] at hE182; clear hE97
     refine wp_skip ?_
     refine p_tn ?_
     refine c_seq ?_
     refine c_reg ?_
     refine q_step (v := .slice (some ⟨b7, 0, none⟩) 1 1) hE182 (y_move rfl) rfl rfl rfl ?_; intro a183 hE184; clear hE182
     refine q_step (v := .slice apA ((ap).length / 2 : Nat) apC) hE184 (y_move rfl) rfl rfl rfl ?_; intro a185 hE186; clear hE184
     refine l_step hE186 rfl (l_call (f := 139) (argv := [.slice apA ((ap).length / 2 : Nat) apC]) hE186 (fun _ => cf_l02Left _ _) rfl rfl (c_l02Left apA ((ap).length / 2 : Nat) apC ap w8 (St.rdR (i := 1) hS11 rfl) (by omega) (by omega) (IsFm.bin hf (by omega)).1) ?_)
     rintro _ w188 ⟨rfl, he192⟩ a189 hE190; clear hE186
     have hbn := IsFm.bin hf (by omega)
     have hS191 := St.go hS11 he192; clear hS11
     have hv196 := (St.rdR (i := 1) hS191 rfl).2.1
     have hv193 : (0 : Int) ≤ 1 ∧ 1 ≤ (F_l02Part ap 1) ∧ (F_l02Part ap 1) ≤ (((ap).length / 2 : Nat) : Int) := ⟨(by omega), (by omega), (by omega)⟩
     have hv194 : Int.toNat (F_l02Part ap 1) - Int.toNat 1 = ((slI 2 ap 1 (F_l02Part ap 1)).length / 2 : Nat) := ((slI_lenD (by decide) (St.rdR (i := 1) hS191 rfl).1 hv193.2.2)).symm
     have hv195 : Int.toNat (F_l02Part ap 1) ≤ apC ∧ apC ≤ apC := ⟨by omega, by omega⟩
     refine q_step (v := .int .i64 sign) hE190 (y_move rfl) rfl rfl rfl ?_; intro a197 hE198; clear hE190
     refine l_step hE198 rfl (l_call (f := 79) (argv := [.slice (subA apA (Int.toNat 1) apC 2) ((slI 2 ap 1 (F_l02Part ap 1)).length / 2 : Nat) (apC - (Int.toNat 1)), .int .i64 sign]) hE198 (fun _ => cf_l03Polarities _ _) rfl rfl (ih (subA apA (Int.toNat 1) apC 2) ((slI 2 ap 1 (F_l02Part ap 1)).length / 2 : Nat) (apC - (Int.toNat 1)) (slI 2 ap 1 (F_l02Part ap 1)) sign w188 (RdS.sub (St.rdR (i := 1) hS191 rfl) apC hv193.1 hv193.2.1 hv193.2.2 hv195.1 hv195.2 hv194 rfl) (Nat.le_trans (slI_le 2 _ _ _) hl) (by first | (with_reducible exact hbn.2.1.1) | (with_reducible exact hbn.2.1.2) | exact (IsFm.un hf (by omega)).1) (by omega) (by first | (have h := hbn.2.2; omega) | (have h := (IsFm.un hf (by omega)).2; omega))) ?_)
     rintro _ w200 ⟨b205, c206, rfl, ho207, he204⟩ a201 hE202; clear hE198
     have hf208 := hpost (slI 2 ap 1 (F_l02Part ap 1)) sign (Nat.le_trans (slI_le 2 _ _ _) hl) (by first | (with_reducible exact hbn.2.1.1) | (with_reducible exact hbn.2.1.2) | exact (IsFm.un hf (by omega)).1) (by omega)
     have hS203 := St.own hS191 he204 ho207; clear hS191
     obtain ⟨_, hi1, hi2, hi3, hi4⟩ := info_parts (show (Try.prog.info? 2).map (fun i => (i.zero, i.size, i.bytes)) = some (some (.int .i64 0), 1, 8) by kernel_rfl)
     refine l_step hE202 rfl (l_append (k := 1) (n' := (([sign]) ++ (self (slI 2 ap 1 (F_l02Part ap 1)) sign)).length) hS203 hE202 (by kernel_rfl) hi1 hi2 hi3 rfl (by decide) (by rw [hi4]; decide) rfl rfl rfl (St.rdO (i := 0) hS203 rfl) (by first | omega | (simp only [List.length_append, List.length_cons, List.length_nil]; omega)) (by have h1 := (St.rdO (i := 1) hS203 rfl).len1; have h2 := (St.rdO (i := 0) hS203 rfl).len1; first | rw [List.length_append, h1, h2] | (simp only [List.length_append])) rfl ?_)
     intro b209 c215 w210 hS213 a211 hE212; clear hS203 hE202 hi1 hi2 hi3 hi4
     refine q_step (v := .slice b209 ((([sign]) ++ (self (slI 2 ap 1 (F_l02Part ap 1)) sign)).length) c215) hE212 (y_assign rfl) rfl rfl rfl ?_; intro a216 hE217; clear hE212
     refine c_nil ?_
     have hE218 := hE217.sub (L' := [(0, .slice apA ((ap).length / 2 : Nat) apC), (1, .int .i64 sign), (5, .slice b209 ((([sign]) ++ (self (slI 2 ap 1 (F_l02Part ap 1)) sign)).length) c215)]) ⟨rfl, rfl, rfl, trivial⟩; clear hE217
     refine p_tn ?_
     refine c_seq ?_
     refine c_reg ?_
     refine q_step (v := .slice b209 ((([sign]) ++ (self (slI 2 ap 1 (F_l02Part ap 1)) sign)).length) c215) hE218 (y_move rfl) rfl rfl rfl ?_; intro a219 hE220; clear hE218
     refine q_step (v := .slice apA ((ap).length / 2 : Nat) apC) hE220 (y_move rfl) rfl rfl rfl ?_; intro a221 hE222; clear hE220
     refine l_step hE222 rfl (l_call (f := 140) (argv := [.slice apA ((ap).length / 2 : Nat) apC]) hE222 (fun _ => cf_l02Right _ _) rfl rfl (c_l02Right apA ((ap).length / 2 : Nat) apC ap w210 (St.rdR (i := 2) hS213 rfl) (by omega) (by omega) (IsFm.bin hf (by omega)).1) ?_)
     rintro _ w224 ⟨rfl, he228⟩ a225 hE226; clear hE222
     have hbn := IsFm.bin hf (by omega)
     have hS227 := St.go hS213 he228; clear hS213
     have hv232 := (St.rdR (i := 2) hS227 rfl).2.1
     have hv229 : (0 : Int) ≤ (F_l02Part ap 1) ∧ (F_l02Part ap 1) ≤ ((ap.length / 2 : Nat) : Int) ∧ ((ap.length / 2 : Nat) : Int) ≤ (((ap).length / 2 : Nat) : Int) := ⟨(by omega), (by omega), (by omega)⟩
     have hv230 : Int.toNat ((ap.length / 2 : Nat) : Int) - Int.toNat (F_l02Part ap 1) = ((slI 2 ap (F_l02Part ap 1) ((ap.length / 2 : Nat) : Int)).length / 2 : Nat) := ((slI_lenD (by decide) (St.rdR (i := 2) hS227 rfl).1 hv229.2.2)).symm
     have hv231 : Int.toNat ((ap.length / 2 : Nat) : Int) ≤ apC ∧ apC ≤ apC := ⟨by omega, by omega⟩
     refine q_step (v := .int .i64 sign) hE226 (y_move rfl) rfl rfl rfl ?_; intro a233 hE234; clear hE226
     refine l_step hE234 rfl (l_call (f := 79) (argv := [.slice (subA apA (Int.toNat (F_l02Part ap 1)) apC 2) ((slI 2 ap (F_l02Part ap 1) ((ap.length / 2 : Nat) : Int)).length / 2 : Nat) (apC - (Int.toNat (F_l02Part ap 1))), .int .i64 sign]) hE234 (fun _ => cf_l03Polarities _ _) rfl rfl (ih (subA apA (Int.toNat (F_l02Part ap 1)) apC 2) ((slI 2 ap (F_l02Part ap 1) ((ap.length / 2 : Nat) : Int)).length / 2 : Nat) (apC - (Int.toNat (F_l02Part ap 1))) (slI 2 ap (F_l02Part ap 1) ((ap.length / 2 : Nat) : Int)) sign w224 (RdS.sub (St.rdR (i := 2) hS227 rfl) apC hv229.1 hv229.2.1 hv229.2.2 hv231.1 hv231.2 hv230 rfl) (Nat.le_trans (slI_le 2 _ _ _) hl) (by first | (with_reducible exact hbn.2.1.1) | (with_reducible exact hbn.2.1.2) | exact (IsFm.un hf (by omega)).1) (by omega) (by first | (have h := hbn.2.2; omega) | (have h := (IsFm.un hf (by omega)).2; omega))) ?_)
     rintro _ w236 ⟨b241, c242, rfl, ho243, he240⟩ a237 hE238; clear hE234
     have hf244 := hpost (slI 2 ap (F_l02Part ap 1) ((ap.length / 2 : Nat) : Int)) sign (Nat.le_trans (slI_le 2 _ _ _) hl) (by first | (with_reducible exact hbn.2.1.1) | (with_reducible exact hbn.2.1.2) | exact (IsFm.un hf (by omega)).1) (by omega)
     have hS239 := St.own hS227 he240 ho243; clear hS227
     obtain ⟨_, hi1, hi2, hi3, hi4⟩ := info_parts (show (Try.prog.info? 2).map (fun i => (i.zero, i.size, i.bytes)) = some (some (.int .i64 0), 1, 8) by kernel_rfl)
     refine l_step hE238 rfl (l_append (k := 2) (n' := ((([sign]) ++ (self (slI 2 ap 1 (F_l02Part ap 1)) sign)) ++ (self (slI 2 ap (F_l02Part ap 1) ((ap.length / 2 : Nat) : Int)) sign)).length) hS239 hE238 (by kernel_rfl) hi1 hi2 hi3 rfl (by decide) (by rw [hi4]; decide) rfl rfl rfl (St.rdO (i := 0) hS239 rfl) (by first | omega | (simp only [List.length_append, List.length_cons, List.length_nil]; omega)) (by have h1 := (St.rdO (i := 2) hS239 rfl).len1; have h2 := (St.rdO (i := 0) hS239 rfl).len1; first | rw [List.length_append, h1, h2] | (simp only [List.length_append])) rfl ?_)
     intro b245 c251 w246 hS249 a247 hE248; clear hS239 hE238 hi1 hi2 hi3 hi4
     refine q_step (v := .slice b245 (((([sign]) ++ (self (slI 2 ap 1 (F_l02Part ap 1)) sign)) ++ (self (slI 2 ap (F_l02Part ap 1) ((ap.length / 2 : Nat) : Int)) sign)).length) c251) hE248 (y_assign rfl) rfl rfl rfl ?_; intro a252 hE253; clear hE248
     refine c_nil ?_
     have hE254 := hE253.sub (L' := [(4, .slice b245 (((([sign]) ++ (self (slI 2 ap 1 (F_l02Part ap 1)) sign)) ++ (self (slI 2 ap (F_l02Part ap 1) ((ap.length / 2 : Nat) : Int)) sign)).length) c251)]) ⟨rfl, trivial⟩; clear hE253
     refine p_tn ?_
     refine wp_ret ?_
     refine p_br ?_
     refine p_tr ?_
     have hF : F_l03Polarities_b self ap sign = (([sign]) ++ (self (slI 2 ap 1 (F_l02Part ap 1)) sign)) ++ (self (slI 2 ap (F_l02Part ap 1) ((ap.length / 2 : Nat) : Int)) sign) := by unfold F_l03Polarities_b; rw [ht98, ht79, ht37]; first | done | rfl
     refine c_ret1 hE254 rfl rfl ?_
     exact ⟨b245, c251, (by rw [hF]; first | done | (dsimp only; done) | rfl), (by rw [hF]; (try dsimp only); exact hS249.ok 2 _ rfl), hS249.ext⟩
   ·
    have hp255 := of_decide_eq_false ht79
    have hE256 := hE78; rw [ht79] at hE256; clear hE78
    refine wp_skip ?_
    refine p_bn ?_
    refine p_tn ?_
    refine c_seq ?_
    refine c_reg ?_
    refine q_step (v := .slice (some ⟨b7, 0, none⟩) 1 1) hE256 (y_move rfl) rfl rfl rfl ?_; intro a257 hE258; clear hE256
    refine q_step (v := .slice (some ⟨b7, 0, none⟩) 1 1) hE258 (y_assign rfl) rfl rfl rfl ?_; intro a259 hE260; clear hE258
    refine c_nil ?_
    have hE261 := hE260.sub (L' := [(4, .slice (some ⟨b7, 0, none⟩) 1 1)]) ⟨rfl, trivial⟩; clear hE260
    refine p_tn ?_
    refine wp_ret ?_
    have hF : F_l03Polarities_b self ap sign = [sign] := by unfold F_l03Polarities_b; rw [ht79, ht37]; first | done | rfl
    refine c_ret1 hE261 rfl rfl ?_
    exact ⟨some ⟨b7, 0, none⟩, 1, (by rw [hF]; first | rfl | (rw [(St.rdO (i := 0) hS11 rfl).len1])), (by rw [hF, (St.rdO (i := 0) hS11 rfl).len1]; (try dsimp only); exact hS11.ok 0 _ rfl), hS11.ext⟩
theorem c_l03Polarities_r : ∀ (r : Nat) (apA : Option Addr) (apN apC : Nat) (ap : List Int) (sign : Int) (w : World) (apR : RdS w 2 apA apN apC ap) (hl : ap.length ≤ 4194304) (hf : IsFm ap) (hs : -1 ≤ sign ∧ sign ≤ 1) (hlt : ap.length < r), Calls Try.prog 79 #[.slice apA apN apC, .int .i64 sign] w (Ret fun v w' => ∃ b1 : Option Addr, ∃ c1 : Nat, v = .slice b1 ((F_l03Polarities_r r) ap sign).length c1 ∧ OwnS w' w.heap.size 2 1 b1 ((F_l03Polarities_r r) ap sign).length c1 ((F_l03Polarities_r r) ap sign) ∧ Ext w w') := by
  intro r
  induction r with
  | zero => intros; omega
  | succ r ih =>
    intro apA apN apC ap sign w apR hl hf hs hlt
    exact cb_l03Polarities (F_l03Polarities_r r) (polLen r) apA apN apC ap sign w apR hl hf hs ap.length rfl (fun apA apN apC ap sign w apR hl hf hs hdec => ih apA apN apC ap sign w apR hl hf hs (by omega))
theorem c_l03Polarities (apA : Option Addr) (apN apC : Nat) (ap : List Int) (sign : Int) (w : World) (apR : RdS w 2 apA apN apC ap) (hl : ap.length ≤ 4194304) (hf : IsFm ap) (hs : -1 ≤ sign ∧ sign ≤ 1) :
    Calls Try.prog 79 #[.slice apA apN apC, .int .i64 sign] w (Ret fun v w' => ∃ b1 : Option Addr, ∃ c1 : Nat, v = .slice b1 (F_l03Polarities ap sign).length c1 ∧ OwnS w' w.heap.size 2 1 b1 (F_l03Polarities ap sign).length c1 (F_l03Polarities ap sign) ∧ Ext w w') := c_l03Polarities_r (ap.length + 1) apA apN apC ap sign w apR hl hf hs (Nat.lt_succ_self _)

def F_l02Own (ap : List Int) : List Int :=
  ([]) ++ ap
theorem cf_l02Own (args : Array Value) (w : World) : (callFunc 145 args).run Try.prog w = .ok (.enter 145 args) w := by kernel_rfl
set_option maxRecDepth 100000 in
theorem c_l02Own (apA : Option Addr) (apN apC : Nat) (ap : List Int) (w : World) (apR : RdS w 2 apA apN apC ap) (hap : ap.length ≤ 1048576) :
    Calls Try.prog 145 #[.slice apA apN apC] w (Ret fun v w' => ∃ b1 : Option Addr, ∃ c1 : Nat, v = .slice b1 ((F_l02Own ap).length / 2 : Nat) c1 ∧ OwnS w' w.heap.size 94 2 b1 ((F_l02Own ap).length / 2 : Nat) c1 (F_l02Own ap) ∧ Ext w w') := by
  obtain rfl : apN = ap.length / 2 := (apR.lenD (by decide)).symm
  have apEv := apR.ev (by decide)
  have apLe := apR.le
  have hS := St.nil w
  have hS1 := St.rd0 hS rfl apR; clear hS
  refine enter (args := [.slice apA ((ap).length / 2 : Nat) apC]) Try.func145 rfl rfl ?_
  rw [Try.ntmps145]; intro a hE
  have hE := hE.sub (L' := [(0, .slice apA ((ap).length / 2 : Nat) apC)]) ⟨rfl, trivial⟩
  refine c_seq ?_
  refine c_reg ?_
  refine q_step (v := .slice none 0 0) hE (y_assign rfl) rfl rfl rfl ?_; intro a2 hE3; clear hE
  refine c_nil ?_
  have hE4 := hE3.sub (L' := [(0, .slice apA ((ap).length / 2 : Nat) apC)]) ⟨rfl, trivial⟩; clear hE3
  refine p_tn ?_
  refine c_seq ?_
  refine c_reg ?_
  refine l_step hE4 rfl (l_lit (e := 94) (s := 2) (xs := []) (vs := []) hS1 hE4 rfl (fun _ => by kernel_rfl) rfl rfl rfl ?_)
  intro b5 w6 hS9 he10 a7 hE8; clear hS1 hE4
  refine q_step (v := .slice apA ((ap).length / 2 : Nat) apC) hE8 (y_move rfl) rfl rfl rfl ?_; intro a11 hE12; clear hE8
  obtain ⟨_, hi1, hi2, hi3, hi4⟩ := info_parts (show (Try.prog.info? 94).map (fun i => (i.zero, i.size, i.bytes)) = some (some (.agg #[.int .i64 0, .int .i64 0]), 2, 16) by kernel_rfl)
  refine l_step hE12 rfl (l_append (k := 0) (n' := ((([]) ++ ap).length / 2 : Nat)) hS9 hE12 (by kernel_rfl) hi1 hi2 hi3 rfl (by decide) (by rw [hi4]; decide) rfl rfl rfl (St.rdR (i := 1) hS9 rfl) (by first | omega | (simp only [List.length_append, List.length_cons, List.length_nil]; omega)) (by have h1 := (St.rdO (i := 0) hS9 rfl).1; have h2 := (St.rdR (i := 1) hS9 rfl).1; simp only [List.length_append, List.length_nil, List.length_cons] at h1 h2 ⊢; omega) rfl ?_)
  intro b13 c19 w14 hS17 a15 hE16; clear hS9 hE12 hi1 hi2 hi3 hi4
  refine q_step (v := .slice b13 ((([]) ++ ap).length / 2 : Nat) c19) hE16 (y_assign rfl) rfl rfl rfl ?_; intro a20 hE21; clear hE16
  refine c_nil ?_
  have hE22 := hE21.sub (L' := [(2, .slice b13 ((([]) ++ ap).length / 2 : Nat) c19)]) ⟨rfl, trivial⟩; clear hE21
  refine p_tn ?_
  refine wp_ret ?_
  have hF : F_l02Own ap = ([]) ++ ap := by unfold F_l02Own; rfl
  refine c_ret1 hE22 rfl rfl ?_
  exact ⟨b13, c19, (by rw [hF]; first | done | (dsimp only; done) | rfl), (by rw [hF]; (try dsimp only); exact hS17.ok 0 _ rfl), hS17.ext⟩

theorem l02Own_len (ap : List Int) : (F_l02Own ap).length = ap.length := rfl

def F_l02True : List Int :=
  F_l02Not F_l02False
theorem cf_l02True (args : Array Value) (w : World) : (callFunc 149 args).run Try.prog w = .ok (.enter 149 args) w := by kernel_rfl
set_option maxRecDepth 100000 in
theorem c_l02True  (w : World) :
    Calls Try.prog 149 #[] w (Ret fun v w' => ∃ b1 : Option Addr, ∃ c1 : Nat, v = .slice b1 ((F_l02True).length / 2 : Nat) c1 ∧ OwnS w' w.heap.size 94 2 b1 ((F_l02True).length / 2 : Nat) c1 F_l02True ∧ Ext w w') := by
  have hS := St.nil w
  refine enter (args := []) Try.func149 rfl rfl ?_
  rw [Try.ntmps149]; intro a hE
  have hE := hE.sub (L' := []) trivial
  refine c_seq ?_
  refine c_reg ?_
  refine q_step (v := .slice none 0 0) hE (y_assign rfl) rfl rfl rfl ?_; intro a1 hE2; clear hE
  refine c_nil ?_
  have hE3 := hE2.sub (L' := []) trivial; clear hE2
  refine p_tn ?_
  refine c_seq ?_
  refine c_reg ?_
  refine l_step hE3 rfl (l_call (f := 143) (argv := []) hE3 (fun _ => cf_l02False _ _) rfl rfl (c_l02False w) ?_)
  rintro _ w5 ⟨b10, c11, rfl, ho12, he9⟩ a6 hE7; clear hE3
  have hf13 := l02False_len
  have hS8 := St.own hS he9 ho12; clear hS
  refine l_step hE7 rfl (l_call (f := 82) (argv := [.slice b10 ((F_l02False).length / 2 : Nat) c11]) hE7 (fun _ => cf_l02Not _ _) rfl rfl (c_l02Not b10 ((F_l02False).length / 2 : Nat) c11 F_l02False w5 (St.rdO (i := 0) hS8 rfl) (by omega)) ?_)
  rintro _ w15 ⟨b20, c21, rfl, ho22, he19⟩ a16 hE17; clear hE7
  have hf23 := l02Not_len F_l02False
  have hS18 := St.own hS8 he19 ho22; clear hS8
  refine q_step (v := .slice b20 ((F_l02Not F_l02False).length / 2 : Nat) c21) hE17 (y_assign rfl) rfl rfl rfl ?_; intro a24 hE25; clear hE17
  refine c_nil ?_
  have hE26 := hE25.sub (L' := [(0, .slice b20 ((F_l02Not F_l02False).length / 2 : Nat) c21)]) ⟨rfl, trivial⟩; clear hE25
  refine p_tn ?_
  refine wp_ret ?_
  have hF : F_l02True = F_l02Not F_l02False := by unfold F_l02True; rfl
  refine c_ret1 hE26 rfl rfl ?_
  exact ⟨b20, c21, (by rw [hF]; first | done | (dsimp only; done) | rfl), (by rw [hF]; (try dsimp only); exact hS18.ok 0 _ rfl), hS18.ext⟩

theorem l02True_len : F_l02True.length = 6 := by unfold F_l02True; rw [l02Not_len, l02False_len]
theorem falsum_eq2 : F_falsum = F_l02False := rfl

def F_l03Normal_b (self : List Int → Bool → (List Int)) (ap : List Int) (positive : Bool) : List Int :=
  bif (decide ((gS 2 0 ap 0) = 0)) then (bif positive then (F_l02Own ap) else (F_l02Not ap)) else (bif (decide ((gS 2 0 ap 0) = 1)) then (bif positive then F_l02False else F_l02True) else (bif (decide ((gS 2 0 ap 0) = 5)) then (bif (!positive) then (F_l02Pre (11 - (gS 2 0 ap 0)) (self (slI 2 ap 1 (((ap).length / 2 : Nat) : Int)) positive)) else (F_l02Pre (gS 2 0 ap 0) (self (slI 2 ap 1 (((ap).length / 2 : Nat) : Int)) positive))) else (bif (decide ((gS 2 0 ap 0) = 6)) then (bif (!positive) then (F_l02Pre (11 - (gS 2 0 ap 0)) (self (slI 2 ap 1 (((ap).length / 2 : Nat) : Int)) positive)) else (F_l02Pre (gS 2 0 ap 0) (self (slI 2 ap 1 (((ap).length / 2 : Nat) : Int)) positive))) else (bif (decide ((gS 2 0 ap 0) = 2)) then (bif (!positive) then (F_l02Pair (5 - (gS 2 0 ap 0)) (self (slI 2 ap 1 (F_l02Part ap 1)) positive) (self (slI 2 ap (F_l02Part ap 1) ((ap.length / 2 : Nat) : Int)) positive)) else (F_l02Pair (gS 2 0 ap 0) (self (slI 2 ap 1 (F_l02Part ap 1)) positive) (self (slI 2 ap (F_l02Part ap 1) ((ap.length / 2 : Nat) : Int)) positive))) else (bif (decide ((gS 2 0 ap 0) = 3)) then (bif (!positive) then (F_l02Pair (5 - (gS 2 0 ap 0)) (self (slI 2 ap 1 (F_l02Part ap 1)) positive) (self (slI 2 ap (F_l02Part ap 1) ((ap.length / 2 : Nat) : Int)) positive)) else (F_l02Pair (gS 2 0 ap 0) (self (slI 2 ap 1 (F_l02Part ap 1)) positive) (self (slI 2 ap (F_l02Part ap 1) ((ap.length / 2 : Nat) : Int)) positive))) else (bif (decide ((gS 2 0 (slI 2 ap 1 (F_l02Part ap 1)) 0) = 1)) then (bif (decide ((gS 2 0 (slI 2 ap (F_l02Part ap 1) ((ap.length / 2 : Nat) : Int)) 0) = 1)) then (bif positive then F_l02True else F_l02False) else (bif positive then (F_l02Pair 3 (self (slI 2 ap 1 (F_l02Part ap 1)) false) (self (slI 2 ap (F_l02Part ap 1) ((ap.length / 2 : Nat) : Int)) true)) else (F_l02Pair 2 (self (slI 2 ap 1 (F_l02Part ap 1)) true) (self (slI 2 ap (F_l02Part ap 1) ((ap.length / 2 : Nat) : Int)) false)))) else (bif (decide ((gS 2 0 (slI 2 ap (F_l02Part ap 1) ((ap.length / 2 : Nat) : Int)) 0) = 1)) then (self (slI 2 ap 1 (F_l02Part ap 1)) (!positive)) else (bif positive then (F_l02Pair 3 (self (slI 2 ap 1 (F_l02Part ap 1)) false) (self (slI 2 ap (F_l02Part ap 1) ((ap.length / 2 : Nat) : Int)) true)) else (F_l02Pair 2 (self (slI 2 ap 1 (F_l02Part ap 1)) true) (self (slI 2 ap (F_l02Part ap 1) ((ap.length / 2 : Nat) : Int)) false))))))))))
def F_l03Normal_r : Nat → List Int → Bool → (List Int)
  | 0 => fun _ _ => default
  | r + 1 => F_l03Normal_b (F_l03Normal_r r)
def F_l03Normal (ap : List Int) (positive : Bool) : List Int := F_l03Normal_r (ap.length + 1) ap positive
theorem norLen : ∀ (r : Nat) (ap : List Int) (positive : Bool) (hl : ap.length ≤ 100) (hf : IsFm ap), (F_l03Normal_r r ap positive).length ≤ 3 * ap.length := by
  intro r
  induction r with
  | zero => intro ap positive _ _; show (default : List Int).length ≤ _; simp [default]
  | succ r ih =>
    intro ap positive hl hf
    have h0 := hf.len
    have hev := hf.ev
    have hk := parts_k (gS 2 0 ap 0)
    have hr := hf.rng
    have q0 := l02True_len
    have q1 := l02False_len
    show (F_l03Normal_b (F_l03Normal_r r) ap positive).length ≤ 3 * ap.length
    unfold F_l03Normal_b
    by_cases h1 : F_l02Parts (gS 2 0 ap 0) = 1
    · have a1 := hf.un h1
      have a2 := fun s => ih _ s (by omega) a1.1
      have a3 := a2 positive
      generalize F_l03Normal_r r (slI 2 ap 1 ((ap.length / 2 : Nat) : Int)) positive = X at *
      have e5 := l02Pre_len (gS 2 0 ap 0) X
      have e6 := l02Pre_len (11 - gS 2 0 ap 0) X
      have hc : gS 2 0 ap 0 = 5 ∨ gS 2 0 ap 0 = 6 := by
        rcases Decidable.em (gS 2 0 ap 0 = 5) with h | h
        · exact .inl h
        · rcases Decidable.em (gS 2 0 ap 0 = 6) with h' | h'
          · exact .inr h'
          · exfalso
            have : gS 2 0 ap 0 = 0 ∨ gS 2 0 ap 0 = 1 ∨ gS 2 0 ap 0 = 2 ∨ gS 2 0 ap 0 = 3 ∨ gS 2 0 ap 0 = 4 := by omega
            rcases this with h'' | h'' | h'' | h'' | h'' <;> rw [h''] at h1 <;> exact absurd h1 (by decide)
      rcases hc with h | h
      · rw [decide_eq_false (show ¬ gS 2 0 ap 0 = 0 by omega), decide_eq_false (show ¬ gS 2 0 ap 0 = 1 by omega), decide_eq_true h]
        cases positive <;> simp only [Bool.not_true, Bool.not_false, cond_true, cond_false] <;> omega
      · rw [decide_eq_false (show ¬ gS 2 0 ap 0 = 0 by omega), decide_eq_false (show ¬ gS 2 0 ap 0 = 1 by omega), decide_eq_false (show ¬ gS 2 0 ap 0 = 5 by omega), decide_eq_true h]
        cases positive <;> simp only [Bool.not_true, Bool.not_false, cond_true, cond_false] <;> omega
    · by_cases h2 : F_l02Parts (gS 2 0 ap 0) = 2
      · have a1 := hf.bin h2
        have a2 := fun s => ih _ s (by omega) a1.2.1.1
        have a3 := fun s => ih _ s (by omega) a1.2.1.2
        generalize slI 2 ap 1 (F_l02Part ap 1) = U at *
        generalize slI 2 ap (F_l02Part ap 1) ((ap.length / 2 : Nat) : Int) = V at *
        have b1 := a2 true
        have b2 := a2 false
        have b3 := a3 true
        have b4 := a3 false
        have hz : ¬ gS 2 0 ap 0 = 0 := fun h => by rw [h] at h2; exact absurd h2 (by decide)
        have hz1 : ¬ gS 2 0 ap 0 = 1 := fun h => by rw [h] at h2; exact absurd h2 (by decide)
        rw [decide_eq_false hz, decide_eq_false hz1, decide_eq_false (show ¬ gS 2 0 ap 0 = 5 by omega), decide_eq_false (show ¬ gS 2 0 ap 0 = 6 by omega)]
        cases positive <;> cases decide (gS 2 0 ap 0 = 2) <;> cases decide (gS 2 0 ap 0 = 3) <;> cases decide (gS 2 0 U 0 = 1) <;> cases decide (gS 2 0 V 0 = 1) <;> simp only [Bool.not_true, Bool.not_false, cond_true, cond_false, l02Pair_len] <;> omega
      · have hc : gS 2 0 ap 0 = 0 ∨ gS 2 0 ap 0 = 1 := by omega
        rcases hc with h | h
        · have := l02Not_len ap
          have := l02Own_len ap
          rw [decide_eq_true h]
          cases positive <;> simp only [cond_true, cond_false] <;> omega
        · rw [decide_eq_false (show ¬ gS 2 0 ap 0 = 0 by omega), decide_eq_true h]
          cases positive <;> simp only [cond_true, cond_false] <;> omega

theorem cf_l03Normal (args : Array Value) (w : World) : (callFunc 88 args).run Try.prog w = .ok (.enter 88 args) w := by kernel_rfl
set_option maxRecDepth 100000 in
theorem cb_l03Normal (self : List Int → Bool → (List Int)) (hpost : ∀ (ap : List Int) (positive : Bool) (hl : ap.length ≤ 100) (hf : IsFm ap), (self ap positive).length ≤ 3 * ap.length) (apA : Option Addr) (apN apC : Nat) (ap : List Int) (positive : Bool) (w : World) (apR : RdS w 2 apA apN apC ap) (hl : ap.length ≤ 100) (hf : IsFm ap) (mu : Nat) (hmu : mu = ap.length) (ih : ∀ (apA : Option Addr) (apN apC : Nat) (ap : List Int) (positive : Bool) (w : World) (apR : RdS w 2 apA apN apC ap) (hl : ap.length ≤ 100) (hf : IsFm ap) (hdec : ap.length < mu), Calls Try.prog 88 #[.slice apA apN apC, .bool positive] w (Ret fun v w' => ∃ b1 : Option Addr, ∃ c1 : Nat, v = .slice b1 ((self ap positive).length / 2 : Nat) c1 ∧ OwnS w' w.heap.size 94 2 b1 ((self ap positive).length / 2 : Nat) c1 (self ap positive) ∧ Ext w w')) :
    Calls Try.prog 88 #[.slice apA apN apC, .bool positive] w (Ret fun v w' => ∃ b1 : Option Addr, ∃ c1 : Nat, v = .slice b1 ((F_l03Normal_b self ap positive).length / 2 : Nat) c1 ∧ OwnS w' w.heap.size 94 2 b1 ((F_l03Normal_b self ap positive).length / 2 : Nat) c1 (F_l03Normal_b self ap positive) ∧ Ext w w') := by
  obtain rfl : apN = ap.length / 2 := (apR.lenD (by decide)).symm
  have apEv := apR.ev (by decide)
  have apLe := apR.le
  have hl1 := hf.len
  have hpk := parts_k (gS 2 0 ap 0)
  have hrg := hf.rng
  have hS := St.nil w
  have hS1 := St.rd0 hS rfl apR; clear hS
  refine enter (args := [.slice apA ((ap).length / 2 : Nat) apC, .bool positive]) Try.func88 rfl rfl ?_
  rw [Try.ntmps88]; intro a hE
  have hE := hE.sub (L' := [(0, .slice apA ((ap).length / 2 : Nat) apC), (1, .bool positive)]) ⟨rfl, rfl, trivial⟩
  refine c_seq ?_
  refine c_reg ?_
  refine q_step (v := .slice none 0 0) hE (y_assign rfl) rfl rfl rfl ?_; intro a2 hE3; clear hE
  refine c_nil ?_
  have hE4 := hE3.sub (L' := [(0, .slice apA ((ap).length / 2 : Nat) apC), (1, .bool positive)]) ⟨rfl, rfl, trivial⟩; clear hE3
  refine p_tn ?_
  refine c_seq ?_
  refine c_seq ?_
  refine c_reg ?_
  refine q_step (v := .slice apA ((ap).length / 2 : Nat) apC) hE4 (y_move rfl) rfl rfl rfl ?_; intro a5 hE6; clear hE4
  refine q_step (v := .pointer (some (adr apA (Int.toNat 0 * 2)))) hE6 (y_idx (by kernel_rfl) (fun _ => by kernel_rfl) rfl rfl (RdS.isS (m := 0) (St.rdR (i := 0) hS1 rfl) (by omega) (by omega)) (by omega) (by omega) rfl) rfl rfl rfl ?_; intro a7 hE8; clear hE6
  refine q_step (v := .pointer (some (adr apA ((Int.toNat 0 * 2) + 0)))) hE8 (y_fieldE (o := 0) (fun _ _ => by kernel_rfl) rfl) rfl rfl rfl ?_; intro a9 hE10; clear hE8
  refine q_step (v := .int .i64 (gS 2 0 ap 0)) hE10 (y_load (fun _ => by kernel_rfl) rfl (RdS.eltS (j := 0) (St.rdR (i := 0) hS1 rfl) (by omega) (by omega) (by decide))) rfl rfl rfl ?_; intro a11 hE12; clear hE10
  refine c_nil ?_
  have hE13 := hE12.sub (L' := [(0, .slice apA ((ap).length / 2 : Nat) apC), (1, .bool positive), (12, .int .i64 (gS 2 0 ap 0))]) ⟨rfl, rfl, rfl, trivial⟩; clear hE12
  refine p_tn ?_
  refine wp_block ?_
  refine c_seq ?_
  refine c_reg ?_
  refine q_step (v := .bool (decide ((gS 2 0 ap 0) = 0))) hE13 (y_eql rfl rfl) rfl rfl rfl ?_; intro a14 hE15; clear hE13
  refine q_step (v := .bool (decide ((gS 2 0 ap 0) = 0))) hE15 (y_assign rfl) rfl rfl rfl ?_; intro a16 hE17; clear hE15
  refine c_nil ?_
  have hE18 := hE17.sub (L' := [(0, .slice apA ((ap).length / 2 : Nat) apC), (1, .bool positive), (12, .int .i64 (gS 2 0 ap 0)), (13, .bool (decide ((gS 2 0 ap 0) = 0)))]) ⟨rfl, rfl, rfl, rfl, trivial⟩; clear hE17
  refine p_tn ?_
  refine c_cond hE18 rfl (fun ht19 => ?_) (fun ht19 => ?_)
  ·
   have hp20 := of_decide_eq_true ht19
   have hE21 := hE18; rw [ht19] at hE21; clear hE18
   refine c_seq ?_
   refine c_seq ?_
   refine c_reg ?_
   refine q_step (v := .bool positive) hE21 (y_move rfl) rfl rfl rfl ?_; intro a22 hE23; clear hE21
   refine c_nil ?_
   have hE24 := hE23.sub (L' := [(0, .slice apA ((ap).length / 2 : Nat) apC), (15, .bool positive)]) ⟨rfl, rfl, trivial⟩; clear hE23
   refine p_tn ?_
   refine c_cond hE24 rfl (fun ht25 => ?_) (fun ht25 => ?_)
   ·
    have hE26 := hE24; rw [ht25] at hE26; clear hE24
    refine c_seq ?_
    refine c_reg ?_
    refine q_step (v := .slice apA ((ap).length / 2 : Nat) apC) hE26 (y_move rfl) rfl rfl rfl ?_; intro a27 hE28; clear hE26
    refine l_step hE28 rfl (l_call (f := 145) (argv := [.slice apA ((ap).length / 2 : Nat) apC]) hE28 (fun _ => cf_l02Own _ _) rfl rfl (c_l02Own apA ((ap).length / 2 : Nat) apC ap w (St.rdR (i := 0) hS1 rfl) (by omega)) ?_)
    rintro _ w30 ⟨b35, c36, rfl, ho37, he34⟩ a31 hE32; clear hE28
    have hf38 := l02Own_len ap
    have hS33 := St.own hS1 he34 ho37; clear hS1
    refine q_step (v := .slice b35 ((F_l02Own ap).length / 2 : Nat) c36) hE32 (y_assign rfl) rfl rfl rfl ?_; intro a39 hE40; clear hE32
    refine c_nil ?_
    have hE41 := hE40.sub (L' := [(4, .slice b35 ((F_l02Own ap).length / 2 : Nat) c36)]) ⟨rfl, trivial⟩; clear hE40
    refine p_tn ?_
    refine wp_ret ?_
    refine p_tr ?_
    refine p_br ?_
    refine p_tr ?_
    have hF : F_l03Normal_b self ap positive = F_l02Own ap := by unfold F_l03Normal_b; rw [ht25, ht19]; first | done | rfl
    refine c_ret1 hE41 rfl rfl ?_
    exact ⟨b35, c36, (by rw [hF]; first | done | (dsimp only; done) | rfl), (by rw [hF]; (try dsimp only); exact hS33.ok 0 _ rfl), hS33.ext⟩
   ·
    have hE42 := hE24; rw [ht25] at hE42; clear hE24
    refine wp_skip ?_
    refine p_tn ?_
    refine c_seq ?_
    refine c_reg ?_
    refine q_step (v := .slice apA ((ap).length / 2 : Nat) apC) hE42 (y_move rfl) rfl rfl rfl ?_; intro a43 hE44; clear hE42
    refine l_step hE44 rfl (l_call (f := 82) (argv := [.slice apA ((ap).length / 2 : Nat) apC]) hE44 (fun _ => cf_l02Not _ _) rfl rfl (c_l02Not apA ((ap).length / 2 : Nat) apC ap w (St.rdR (i := 0) hS1 rfl) (by omega)) ?_)
    rintro _ w46 ⟨b51, c52, rfl, ho53, he50⟩ a47 hE48; clear hE44
    have hf54 := l02Not_len ap
    have hS49 := St.own hS1 he50 ho53; clear hS1
    refine q_step (v := .slice b51 ((F_l02Not ap).length / 2 : Nat) c52) hE48 (y_assign rfl) rfl rfl rfl ?_; intro a55 hE56; clear hE48
    refine c_nil ?_
    have hE57 := hE56.sub (L' := [(4, .slice b51 ((F_l02Not ap).length / 2 : Nat) c52)]) ⟨rfl, trivial⟩; clear hE56
    refine p_tn ?_
    refine wp_ret ?_
    refine p_br ?_
    refine p_tr ?_
    have hF : F_l03Normal_b self ap positive = F_l02Not ap := by unfold F_l03Normal_b; rw [ht25, ht19]; first | done | rfl
    refine c_ret1 hE57 rfl rfl ?_
    exact ⟨b51, c52, (by rw [hF]; first | done | (dsimp only; done) | rfl), (by rw [hF]; (try dsimp only); exact hS49.ok 0 _ rfl), hS49.ext⟩
  ·
   have hp58 := of_decide_eq_false ht19
   have hE59 := hE18; rw [ht19] at hE59; clear hE18
   refine c_seq ?_
   refine c_reg ?_
   refine q_step (v := .bool (decide ((gS 2 0 ap 0) = 1))) hE59 (y_eql rfl rfl) rfl rfl rfl ?_; intro a60 hE61; clear hE59
   refine q_step (v := .bool (decide ((gS 2 0 ap 0) = 1))) hE61 (y_assign rfl) rfl rfl rfl ?_; intro a62 hE63; clear hE61
   refine c_nil ?_
   have hE64 := hE63.sub (L' := [(0, .slice apA ((ap).length / 2 : Nat) apC), (1, .bool positive), (12, .int .i64 (gS 2 0 ap 0)), (20, .bool (decide ((gS 2 0 ap 0) = 1)))]) ⟨rfl, rfl, rfl, rfl, trivial⟩; clear hE63
   refine p_tn ?_
   refine c_cond hE64 rfl (fun ht65 => ?_) (fun ht65 => ?_)
   ·
    have hp66 := of_decide_eq_true ht65
    have hE67 := hE64; rw [ht65] at hE67; clear hE64
    refine c_seq ?_
    refine c_seq ?_
    refine c_reg ?_
    refine q_step (v := .bool positive) hE67 (y_move rfl) rfl rfl rfl ?_; intro a68 hE69; clear hE67
    refine c_nil ?_
    have hE70 := hE69.sub (L' := [(22, .bool positive)]) ⟨rfl, trivial⟩; clear hE69
    refine p_tn ?_
    refine c_cond hE70 rfl (fun ht71 => ?_) (fun ht71 => ?_)
    ·
     have hE72 := hE70; rw [ht71] at hE72; clear hE70
     refine c_seq ?_
     refine c_reg ?_
     refine l_step hE72 rfl (l_call (f := 143) (argv := []) hE72 (fun _ => cf_l02False _ _) rfl rfl (c_l02False w) ?_)
     rintro _ w74 ⟨b79, c80, rfl, ho81, he78⟩ a75 hE76; clear hE72
     have hf82 := l02False_len
     have hS77 := St.own hS1 he78 ho81; clear hS1
     refine q_step (v := .slice b79 ((F_l02False).length / 2 : Nat) c80) hE76 (y_assign rfl) rfl rfl rfl ?_; intro a83 hE84; clear hE76
     refine c_nil ?_
     have hE85 := hE84.sub (L' := [(4, .slice b79 ((F_l02False).length / 2 : Nat) c80)]) ⟨rfl, trivial⟩; clear hE84
     refine p_tn ?_
     refine wp_ret ?_
     refine p_tr ?_
     refine p_br ?_
     refine p_tr ?_
     have hF : F_l03Normal_b self ap positive = F_l02False := by unfold F_l03Normal_b; rw [ht71, ht65, ht19]; first | done | rfl
     refine c_ret1 hE85 rfl rfl ?_
     exact ⟨b79, c80, (by rw [hF]; first | done | (dsimp only; done) | rfl), (by rw [hF]; (try dsimp only); exact hS77.ok 0 _ rfl), hS77.ext⟩
    ·
     have hE86 := hE70; rw [ht71] at hE86; clear hE70
     refine wp_skip ?_
     refine p_tn ?_
     refine c_seq ?_
     refine c_reg ?_
     refine l_step hE86 rfl (l_call (f := 149) (argv := []) hE86 (fun _ => cf_l02True _ _) rfl rfl (c_l02True w) ?_)
     rintro _ w88 ⟨b93, c94, rfl, ho95, he92⟩ a89 hE90; clear hE86
     have hf96 := l02True_len
     have hS91 := St.own hS1 he92 ho95; clear hS1
     refine q_step (v := .slice b93 ((F_l02True).length / 2 : Nat) c94) hE90 (y_assign rfl) rfl rfl rfl ?_; intro a97 hE98; clear hE90
     refine c_nil ?_
     have hE99 := hE98.sub (L' := [(4, .slice b93 ((F_l02True).length / 2 : Nat) c94)]) ⟨rfl, trivial⟩; clear hE98
     refine p_tn ?_
     refine wp_ret ?_
     refine p_br ?_
     refine p_tr ?_
     have hF : F_l03Normal_b self ap positive = F_l02True := by unfold F_l03Normal_b; rw [ht71, ht65, ht19]; first | done | rfl
     refine c_ret1 hE99 rfl rfl ?_
     exact ⟨b93, c94, (by rw [hF]; first | done | (dsimp only; done) | rfl), (by rw [hF]; (try dsimp only); exact hS91.ok 0 _ rfl), hS91.ext⟩
   ·
    have hp100 := of_decide_eq_false ht65
    have hE101 := hE64; rw [ht65] at hE101; clear hE64
    refine c_seq ?_
    refine c_seq ?_
    refine c_reg ?_
    refine q_step (v := .bool (decide ((gS 2 0 ap 0) = 5))) hE101 (y_eql rfl rfl) rfl rfl rfl ?_; intro a102 hE103; clear hE101
    refine q_step (v := .bool (decide ((gS 2 0 ap 0) = 5))) hE103 (y_assign rfl) rfl rfl rfl ?_; intro a104 hE105; clear hE103
    refine c_nil ?_
    have hE106 := hE105.sub (L' := [(0, .slice apA ((ap).length / 2 : Nat) apC), (1, .bool positive), (12, .int .i64 (gS 2 0 ap 0)), (25, .bool (decide ((gS 2 0 ap 0) = 5)))]) ⟨rfl, rfl, rfl, rfl, trivial⟩; clear hE105
    refine p_tn ?_
    refine c_cond hE106 rfl (fun ht107 => ?_) (fun ht107 => ?_)
    ·
     have hp108 := of_decide_eq_true ht107
     have hE109 := hE106; rw [ht107] at hE109; clear hE106
     refine wp_skip ?_
     refine p_tn ?_
     refine c_true hE109 rfl ?_
     refine c_seq ?_
     refine c_reg ?_
     refine q_step (v := .slice apA ((ap).length / 2 : Nat) apC) hE109 (y_move rfl) rfl rfl rfl ?_; intro a110 hE111; clear hE109
     refine q_step (v := .pointer (some (adr apA (Int.toNat 0 * 2)))) hE111 (y_idx (by kernel_rfl) (fun _ => by kernel_rfl) rfl rfl (RdS.isS (m := 0) (St.rdR (i := 0) hS1 rfl) (by omega) (by omega)) (by omega) (by omega) rfl) rfl rfl rfl ?_; intro a112 hE113; clear hE111
     refine q_step (v := .pointer (some (adr apA ((Int.toNat 0 * 2) + 0)))) hE113 (y_fieldE (o := 0) (fun _ _ => by kernel_rfl) rfl) rfl rfl rfl ?_; intro a114 hE115; clear hE113
     refine q_step (v := .int .i64 (gS 2 0 ap 0)) hE115 (y_load (fun _ => by kernel_rfl) rfl (RdS.eltS (j := 0) (St.rdR (i := 0) hS1 rfl) (by omega) (by omega) (by decide))) rfl rfl rfl ?_; intro a116 hE117; clear hE115
     refine q_step (v := .int .i64 (gS 2 0 ap 0)) hE117 (y_assign rfl) rfl rfl rfl ?_; intro a118 hE119; clear hE117
     refine c_nil ?_
     have hE120 := hE119.sub (L' := [(0, .slice apA ((ap).length / 2 : Nat) apC), (1, .bool positive), (5, .int .i64 (gS 2 0 ap 0))]) ⟨rfl, rfl, rfl, trivial⟩; clear hE119
     refine p_tn ?_
     refine c_seq ?_
     refine c_seq ?_
     refine c_reg ?_
     refine q_step (v := .bool positive) hE120 (y_move rfl) rfl rfl rfl ?_; intro a121 hE122; clear hE120
     refine q_step (v := .bool (!positive)) hE122 (y_not rfl) rfl rfl rfl ?_; intro a123 hE124; clear hE122
     refine c_nil ?_
     have hE125 := hE124.sub (L' := [(0, .slice apA ((ap).length / 2 : Nat) apC), (1, .bool positive), (5, .int .i64 (gS 2 0 ap 0)), (33, .bool (!positive))]) ⟨rfl, rfl, rfl, rfl, trivial⟩; clear hE124
     refine p_tn ?_
     refine c_cond hE125 rfl (fun ht126 => ?_) (fun ht126 => ?_)
     ·
      have ht127 := bn_t ht126
      have hE128 := hE125; rw [ht126] at hE128; clear hE125
      refine c_reg ?_
      refine q_step (v := .int .i64 (gS 2 0 ap 0)) hE128 (y_move rfl) rfl rfl rfl ?_; intro a129 hE130; clear hE128
      refine q_step (v := .int .i64 (11 - (gS 2 0 ap 0))) hE130 (y_sub rfl rfl ⟨(by omega), (by omega)⟩) rfl rfl rfl ?_; intro a131 hE132; clear hE130
      refine q_step (v := .int .i64 (11 - (gS 2 0 ap 0))) hE132 (y_assign rfl) rfl rfl rfl ?_; intro a133 hE134; clear hE132
      refine c_nil ?_
      have hE135 := hE134.sub (L' := [(0, .slice apA ((ap).length / 2 : Nat) apC), (1, .bool positive), (5, .int .i64 (11 - (gS 2 0 ap 0)))]) ⟨rfl, rfl, rfl, trivial⟩; clear hE134
      refine p_tn ?_
      refine c_seq ?_
      refine c_reg ?_
      refine q_step (v := .int .i64 (11 - (gS 2 0 ap 0))) hE135 (y_move rfl) rfl rfl rfl ?_; intro a136 hE137; clear hE135
      refine q_step (v := .slice apA ((ap).length / 2 : Nat) apC) hE137 (y_move rfl) rfl rfl rfl ?_; intro a138 hE139; clear hE137
      have hv141 := (St.rdR (i := 0) hS1 rfl).2.1
      have hv140 : (0 : Int) ≤ 1 ∧ 1 ≤ (((ap).length / 2 : Nat) : Int) ∧ (((ap).length / 2 : Nat) : Int) ≤ (((ap).length / 2 : Nat) : Int) := ⟨(by omega), (by omega), (by omega)⟩
      have hv142 : Int.toNat (((ap).length / 2 : Nat) : Int) - Int.toNat 1 = ((slI 2 ap 1 (((ap).length / 2 : Nat) : Int)).length / 2 : Nat) := ((slI_lenD (by decide) (St.rdR (i := 0) hS1 rfl).1 hv140.2.2)).symm
      have hv143 : Int.toNat (((ap).length / 2 : Nat) : Int) ≤ apC ∧ apC ≤ apC := ⟨by omega, Nat.le_refl _⟩
      refine q_step (v := .slice (subA apA (Int.toNat 1) apC 2) ((slI 2 ap 1 (((ap).length / 2 : Nat) : Int)).length / 2 : Nat) (apC - Int.toNat 1)) hE139 (y_sliceL (by kernel_rfl) (fun _ => by kernel_rfl) rfl rfl hv140.1 hv140.2.1 (by have h := hv142; omega) rfl) rfl rfl rfl ?_; intro a144 hE145; clear hE139
      refine q_step (v := .bool positive) hE145 (y_move rfl) rfl rfl rfl ?_; intro a146 hE147; clear hE145
      refine l_step hE147 rfl (l_call (f := 88) (argv := [.slice (subA apA (Int.toNat 1) apC 2) ((slI 2 ap 1 (((ap).length / 2 : Nat) : Int)).length / 2 : Nat) (apC - Int.toNat 1), .bool positive]) hE147 (fun _ => cf_l03Normal _ _) rfl rfl (ih (subA apA (Int.toNat 1) apC 2) ((slI 2 ap 1 (((ap).length / 2 : Nat) : Int)).length / 2 : Nat) (apC - Int.toNat 1) (slI 2 ap 1 (((ap).length / 2 : Nat) : Int)) positive w (RdS.sub (St.rdR (i := 0) hS1 rfl) apC hv140.1 hv140.2.1 hv140.2.2 hv143.1 hv143.2 hv142 rfl) (Nat.le_trans (slI_le 2 _ _ _) hl) (by first | (with_reducible exact hbn.2.1.1) | (with_reducible exact hbn.2.1.2) | exact (IsFm.un hf (by omega)).1) (by first | (have h := hbn.2.2; omega) | (have h := (IsFm.un hf (by omega)).2; omega))) ?_)
      rintro _ w149 ⟨b154, c155, rfl, ho156, he153⟩ a150 hE151; clear hE147
      have hf157 := hpost (slI 2 ap 1 (((ap).length / 2 : Nat) : Int)) positive (Nat.le_trans (slI_le 2 _ _ _) hl) (by first | (with_reducible exact hbn.2.1.1) | (with_reducible exact hbn.2.1.2) | exact (IsFm.un hf (by omega)).1)
      have hS152 := St.own hS1 he153 ho156; clear hS1
      refine l_step hE151 rfl (l_call (f := 150) (argv := [.int .i64 (11 - (gS 2 0 ap 0)), .slice b154 ((self (slI 2 ap 1 (((ap).length / 2 : Nat) : Int)) positive).length / 2 : Nat) c155]) hE151 (fun _ => cf_l02Pre _ _) rfl rfl (c_l02Pre (11 - (gS 2 0 ap 0)) b154 ((self (slI 2 ap 1 (((ap).length / 2 : Nat) : Int)) positive).length / 2 : Nat) c155 (self (slI 2 ap 1 (((ap).length / 2 : Nat) : Int)) positive) w149 (St.rdO (i := 0) hS152 rfl) (by omega)) ?_)
      rintro _ w159 ⟨b164, c165, rfl, ho166, he163⟩ a160 hE161; clear hE151
      have hf167 := l02Pre_len (11 - (gS 2 0 ap 0)) (self (slI 2 ap 1 (((ap).length / 2 : Nat) : Int)) positive)
      have hS162 := St.own hS152 he163 ho166; clear hS152
      refine q_step (v := .slice b164 ((F_l02Pre (11 - (gS 2 0 ap 0)) (self (slI 2 ap 1 (((ap).length / 2 : Nat) : Int)) positive)).length / 2 : Nat) c165) hE161 (y_assign rfl) rfl rfl rfl ?_; intro a168 hE169; clear hE161
      refine c_nil ?_
      have hE170 := hE169.sub (L' := [(4, .slice b164 ((F_l02Pre (11 - (gS 2 0 ap 0)) (self (slI 2 ap 1 (((ap).length / 2 : Nat) : Int)) positive)).length / 2 : Nat) c165)]) ⟨rfl, trivial⟩; clear hE169
      refine p_tn ?_
      refine wp_ret ?_
      refine p_br ?_
      refine p_tr ?_
      have hF : F_l03Normal_b self ap positive = F_l02Pre (11 - (gS 2 0 ap 0)) (self (slI 2 ap 1 (((ap).length / 2 : Nat) : Int)) positive) := by unfold F_l03Normal_b; rw [ht126, ht107, ht65, ht19]; first | done | rfl
      refine c_ret1 hE170 rfl rfl ?_
      exact ⟨b164, c165, (by rw [hF]; first | done | (dsimp only; done) | rfl), (by rw [hF]; (try dsimp only); exact hS162.ok 0 _ rfl), hS162.ext⟩
     ·
      have ht171 := bn_f ht126
      have hE172 := hE125; rw [ht126] at hE172; clear hE125
      refine wp_skip ?_
      refine p_tn ?_
      refine c_seq ?_
      refine c_reg ?_
      refine q_step (v := .int .i64 (gS 2 0 ap 0)) hE172 (y_move rfl) rfl rfl rfl ?_; intro a173 hE174; clear hE172
      refine q_step (v := .slice apA ((ap).length / 2 : Nat) apC) hE174 (y_move rfl) rfl rfl rfl ?_; intro a175 hE176; clear hE174
      have hv178 := (St.rdR (i := 0) hS1 rfl).2.1
      have hv177 : (0 : Int) ≤ 1 ∧ 1 ≤ (((ap).length / 2 : Nat) : Int) ∧ (((ap).length / 2 : Nat) : Int) ≤ (((ap).length / 2 : Nat) : Int) := ⟨(by omega), (by omega), (by omega)⟩
      have hv179 : Int.toNat (((ap).length / 2 : Nat) : Int) - Int.toNat 1 = ((slI 2 ap 1 (((ap).length / 2 : Nat) : Int)).length / 2 : Nat) := ((slI_lenD (by decide) (St.rdR (i := 0) hS1 rfl).1 hv177.2.2)).symm
      have hv180 : Int.toNat (((ap).length / 2 : Nat) : Int) ≤ apC ∧ apC ≤ apC := ⟨by omega, Nat.le_refl _⟩
      refine q_step (v := .slice (subA apA (Int.toNat 1) apC 2) ((slI 2 ap 1 (((ap).length / 2 : Nat) : Int)).length / 2 : Nat) (apC - Int.toNat 1)) hE176 (y_sliceL (by kernel_rfl) (fun _ => by kernel_rfl) rfl rfl hv177.1 hv177.2.1 (by have h := hv179; omega) rfl) rfl rfl rfl ?_; intro a181 hE182; clear hE176
      refine q_step (v := .bool positive) hE182 (y_move rfl) rfl rfl rfl ?_; intro a183 hE184; clear hE182
      refine l_step hE184 rfl (l_call (f := 88) (argv := [.slice (subA apA (Int.toNat 1) apC 2) ((slI 2 ap 1 (((ap).length / 2 : Nat) : Int)).length / 2 : Nat) (apC - Int.toNat 1), .bool positive]) hE184 (fun _ => cf_l03Normal _ _) rfl rfl (ih (subA apA (Int.toNat 1) apC 2) ((slI 2 ap 1 (((ap).length / 2 : Nat) : Int)).length / 2 : Nat) (apC - Int.toNat 1) (slI 2 ap 1 (((ap).length / 2 : Nat) : Int)) positive w (RdS.sub (St.rdR (i := 0) hS1 rfl) apC hv177.1 hv177.2.1 hv177.2.2 hv180.1 hv180.2 hv179 rfl) (Nat.le_trans (slI_le 2 _ _ _) hl) (by first | (with_reducible exact hbn.2.1.1) | (with_reducible exact hbn.2.1.2) | exact (IsFm.un hf (by omega)).1) (by first | (have h := hbn.2.2; omega) | (have h := (IsFm.un hf (by omega)).2; omega))) ?_)
      rintro _ w186 ⟨b191, c192, rfl, ho193, he190⟩ a187 hE188; clear hE184
      have hf194 := hpost (slI 2 ap 1 (((ap).length / 2 : Nat) : Int)) positive (Nat.le_trans (slI_le 2 _ _ _) hl) (by first | (with_reducible exact hbn.2.1.1) | (with_reducible exact hbn.2.1.2) | exact (IsFm.un hf (by omega)).1)
      have hS189 := St.own hS1 he190 ho193; clear hS1
      refine l_step hE188 rfl (l_call (f := 150) (argv := [.int .i64 (gS 2 0 ap 0), .slice b191 ((self (slI 2 ap 1 (((ap).length / 2 : Nat) : Int)) positive).length / 2 : Nat) c192]) hE188 (fun _ => cf_l02Pre _ _) rfl rfl (c_l02Pre (gS 2 0 ap 0) b191 ((self (slI 2 ap 1 (((ap).length / 2 : Nat) : Int)) positive).length / 2 : Nat) c192 (self (slI 2 ap 1 (((ap).length / 2 : Nat) : Int)) positive) w186 (St.rdO (i := 0) hS189 rfl) (by omega)) ?_)
      rintro _ w196 ⟨b201, c202, rfl, ho203, he200⟩ a197 hE198; clear hE188
      have hf204 := l02Pre_len (gS 2 0 ap 0) (self (slI 2 ap 1 (((ap).length / 2 : Nat) : Int)) positive)
      have hS199 := St.own hS189 he200 ho203; clear hS189
      refine q_step (v := .slice b201 ((F_l02Pre (gS 2 0 ap 0) (self (slI 2 ap 1 (((ap).length / 2 : Nat) : Int)) positive)).length / 2 : Nat) c202) hE198 (y_assign rfl) rfl rfl rfl ?_; intro a205 hE206; clear hE198
      refine c_nil ?_
      have hE207 := hE206.sub (L' := [(4, .slice b201 ((F_l02Pre (gS 2 0 ap 0) (self (slI 2 ap 1 (((ap).length / 2 : Nat) : Int)) positive)).length / 2 : Nat) c202)]) ⟨rfl, trivial⟩; clear hE206
      refine p_tn ?_
      refine wp_ret ?_
      refine p_br ?_
      refine p_tr ?_
      have hF : F_l03Normal_b self ap positive = F_l02Pre (gS 2 0 ap 0) (self (slI 2 ap 1 (((ap).length / 2 : Nat) : Int)) positive) := by unfold F_l03Normal_b; rw [ht126, ht107, ht65, ht19]; first | done | rfl
      refine c_ret1 hE207 rfl rfl ?_
      exact ⟨b201, c202, (by rw [hF]; first | done | (dsimp only; done) | rfl), (by rw [hF]; (try dsimp only); exact hS199.ok 0 _ rfl), hS199.ext⟩
    ·
     have hp208 := of_decide_eq_false ht107
     have hE209 := hE106; rw [ht107] at hE209; clear hE106
     refine c_reg ?_
     refine q_step (v := .bool (decide ((gS 2 0 ap 0) = 6))) hE209 (y_eql rfl rfl) rfl rfl rfl ?_; intro a210 hE211; clear hE209
     refine q_step (v := .bool (decide ((gS 2 0 ap 0) = 6))) hE211 (y_assign rfl) rfl rfl rfl ?_; intro a212 hE213; clear hE211
     refine c_nil ?_
     have hE214 := hE213.sub (L' := [(0, .slice apA ((ap).length / 2 : Nat) apC), (1, .bool positive), (12, .int .i64 (gS 2 0 ap 0)), (25, .bool (decide ((gS 2 0 ap 0) = 6)))]) ⟨rfl, rfl, rfl, rfl, trivial⟩; clear hE213
     refine p_tn ?_
     refine c_cond hE214 rfl (fun ht215 => ?_) (fun ht215 => ?_)
     ·
      have hp216 := of_decide_eq_true ht215
      have hE217 := hE214; rw [ht215] at hE217; clear hE214
      refine c_seq ?_
      refine c_reg ?_
      refine q_step (v := .slice apA ((ap).length / 2 : Nat) apC) hE217 (y_move rfl) rfl rfl rfl ?_; intro a218 hE219; clear hE217
      refine q_step (v := .pointer (some (adr apA (Int.toNat 0 * 2)))) hE219 (y_idx (by kernel_rfl) (fun _ => by kernel_rfl) rfl rfl (RdS.isS (m := 0) (St.rdR (i := 0) hS1 rfl) (by omega) (by omega)) (by omega) (by omega) rfl) rfl rfl rfl ?_; intro a220 hE221; clear hE219
      refine q_step (v := .pointer (some (adr apA ((Int.toNat 0 * 2) + 0)))) hE221 (y_fieldE (o := 0) (fun _ _ => by kernel_rfl) rfl) rfl rfl rfl ?_; intro a222 hE223; clear hE221
      refine q_step (v := .int .i64 (gS 2 0 ap 0)) hE223 (y_load (fun _ => by kernel_rfl) rfl (RdS.eltS (j := 0) (St.rdR (i := 0) hS1 rfl) (by omega) (by omega) (by decide))) rfl rfl rfl ?_; intro a224 hE225; clear hE223
      refine q_step (v := .int .i64 (gS 2 0 ap 0)) hE225 (y_assign rfl) rfl rfl rfl ?_; intro a226 hE227; clear hE225
      refine c_nil ?_
      have hE228 := hE227.sub (L' := [(0, .slice apA ((ap).length / 2 : Nat) apC), (1, .bool positive), (5, .int .i64 (gS 2 0 ap 0))]) ⟨rfl, rfl, rfl, trivial⟩; clear hE227
      refine p_tn ?_
      refine c_seq ?_
      refine c_seq ?_
      refine c_reg ?_
      refine q_step (v := .bool positive) hE228 (y_move rfl) rfl rfl rfl ?_; intro a229 hE230; clear hE228
      refine q_step (v := .bool (!positive)) hE230 (y_not rfl) rfl rfl rfl ?_; intro a231 hE232; clear hE230
      refine c_nil ?_
      have hE233 := hE232.sub (L' := [(0, .slice apA ((ap).length / 2 : Nat) apC), (1, .bool positive), (5, .int .i64 (gS 2 0 ap 0)), (33, .bool (!positive))]) ⟨rfl, rfl, rfl, rfl, trivial⟩; clear hE232
      refine p_tn ?_
      refine c_cond hE233 rfl (fun ht234 => ?_) (fun ht234 => ?_)
      ·
       have ht235 := bn_t ht234
       have hE236 := hE233; rw [ht234] at hE236; clear hE233
       refine c_reg ?_
       refine q_step (v := .int .i64 (gS 2 0 ap 0)) hE236 (y_move rfl) rfl rfl rfl ?_; intro a237 hE238; clear hE236
       refine q_step (v := .int .i64 (11 - (gS 2 0 ap 0))) hE238 (y_sub rfl rfl ⟨(by omega), (by omega)⟩) rfl rfl rfl ?_; intro a239 hE240; clear hE238
       refine q_step (v := .int .i64 (11 - (gS 2 0 ap 0))) hE240 (y_assign rfl) rfl rfl rfl ?_; intro a241 hE242; clear hE240
       refine c_nil ?_
       have hE243 := hE242.sub (L' := [(0, .slice apA ((ap).length / 2 : Nat) apC), (1, .bool positive), (5, .int .i64 (11 - (gS 2 0 ap 0)))]) ⟨rfl, rfl, rfl, trivial⟩; clear hE242
       refine p_tn ?_
       refine c_seq ?_
       refine c_reg ?_
       refine q_step (v := .int .i64 (11 - (gS 2 0 ap 0))) hE243 (y_move rfl) rfl rfl rfl ?_; intro a244 hE245; clear hE243
       refine q_step (v := .slice apA ((ap).length / 2 : Nat) apC) hE245 (y_move rfl) rfl rfl rfl ?_; intro a246 hE247; clear hE245
       have hv249 := (St.rdR (i := 0) hS1 rfl).2.1
       have hv248 : (0 : Int) ≤ 1 ∧ 1 ≤ (((ap).length / 2 : Nat) : Int) ∧ (((ap).length / 2 : Nat) : Int) ≤ (((ap).length / 2 : Nat) : Int) := ⟨(by omega), (by omega), (by omega)⟩
       have hv250 : Int.toNat (((ap).length / 2 : Nat) : Int) - Int.toNat 1 = ((slI 2 ap 1 (((ap).length / 2 : Nat) : Int)).length / 2 : Nat) := ((slI_lenD (by decide) (St.rdR (i := 0) hS1 rfl).1 hv248.2.2)).symm
       have hv251 : Int.toNat (((ap).length / 2 : Nat) : Int) ≤ apC ∧ apC ≤ apC := ⟨by omega, Nat.le_refl _⟩
       refine q_step (v := .slice (subA apA (Int.toNat 1) apC 2) ((slI 2 ap 1 (((ap).length / 2 : Nat) : Int)).length / 2 : Nat) (apC - Int.toNat 1)) hE247 (y_sliceL (by kernel_rfl) (fun _ => by kernel_rfl) rfl rfl hv248.1 hv248.2.1 (by have h := hv250; omega) rfl) rfl rfl rfl ?_; intro a252 hE253; clear hE247
       refine q_step (v := .bool positive) hE253 (y_move rfl) rfl rfl rfl ?_; intro a254 hE255; clear hE253
       refine l_step hE255 rfl (l_call (f := 88) (argv := [.slice (subA apA (Int.toNat 1) apC 2) ((slI 2 ap 1 (((ap).length / 2 : Nat) : Int)).length / 2 : Nat) (apC - Int.toNat 1), .bool positive]) hE255 (fun _ => cf_l03Normal _ _) rfl rfl (ih (subA apA (Int.toNat 1) apC 2) ((slI 2 ap 1 (((ap).length / 2 : Nat) : Int)).length / 2 : Nat) (apC - Int.toNat 1) (slI 2 ap 1 (((ap).length / 2 : Nat) : Int)) positive w (RdS.sub (St.rdR (i := 0) hS1 rfl) apC hv248.1 hv248.2.1 hv248.2.2 hv251.1 hv251.2 hv250 rfl) (Nat.le_trans (slI_le 2 _ _ _) hl) (by first | (with_reducible exact hbn.2.1.1) | (with_reducible exact hbn.2.1.2) | exact (IsFm.un hf (by omega)).1) (by first | (have h := hbn.2.2; omega) | (have h := (IsFm.un hf (by omega)).2; omega))) ?_)
       rintro _ w257 ⟨b262, c263, rfl, ho264, he261⟩ a258 hE259; clear hE255
       have hf265 := hpost (slI 2 ap 1 (((ap).length / 2 : Nat) : Int)) positive (Nat.le_trans (slI_le 2 _ _ _) hl) (by first | (with_reducible exact hbn.2.1.1) | (with_reducible exact hbn.2.1.2) | exact (IsFm.un hf (by omega)).1)
       have hS260 := St.own hS1 he261 ho264; clear hS1
       refine l_step hE259 rfl (l_call (f := 150) (argv := [.int .i64 (11 - (gS 2 0 ap 0)), .slice b262 ((self (slI 2 ap 1 (((ap).length / 2 : Nat) : Int)) positive).length / 2 : Nat) c263]) hE259 (fun _ => cf_l02Pre _ _) rfl rfl (c_l02Pre (11 - (gS 2 0 ap 0)) b262 ((self (slI 2 ap 1 (((ap).length / 2 : Nat) : Int)) positive).length / 2 : Nat) c263 (self (slI 2 ap 1 (((ap).length / 2 : Nat) : Int)) positive) w257 (St.rdO (i := 0) hS260 rfl) (by omega)) ?_)
       rintro _ w267 ⟨b272, c273, rfl, ho274, he271⟩ a268 hE269; clear hE259
       have hf275 := l02Pre_len (11 - (gS 2 0 ap 0)) (self (slI 2 ap 1 (((ap).length / 2 : Nat) : Int)) positive)
       have hS270 := St.own hS260 he271 ho274; clear hS260
       refine q_step (v := .slice b272 ((F_l02Pre (11 - (gS 2 0 ap 0)) (self (slI 2 ap 1 (((ap).length / 2 : Nat) : Int)) positive)).length / 2 : Nat) c273) hE269 (y_assign rfl) rfl rfl rfl ?_; intro a276 hE277; clear hE269
       refine c_nil ?_
       have hE278 := hE277.sub (L' := [(4, .slice b272 ((F_l02Pre (11 - (gS 2 0 ap 0)) (self (slI 2 ap 1 (((ap).length / 2 : Nat) : Int)) positive)).length / 2 : Nat) c273)]) ⟨rfl, trivial⟩; clear hE277
       refine p_tn ?_
       refine wp_ret ?_
       refine p_br ?_
       refine p_tr ?_
       have hF : F_l03Normal_b self ap positive = F_l02Pre (11 - (gS 2 0 ap 0)) (self (slI 2 ap 1 (((ap).length / 2 : Nat) : Int)) positive) := by unfold F_l03Normal_b; rw [ht234, ht215, ht107, ht65, ht19]; first | done | rfl
       refine c_ret1 hE278 rfl rfl ?_
       exact ⟨b272, c273, (by rw [hF]; first | done | (dsimp only; done) | rfl), (by rw [hF]; (try dsimp only); exact hS270.ok 0 _ rfl), hS270.ext⟩
      ·
       have ht279 := bn_f ht234
       have hE280 := hE233; rw [ht234] at hE280; clear hE233
       refine wp_skip ?_
       refine p_tn ?_
       refine c_seq ?_
       refine c_reg ?_
       refine q_step (v := .int .i64 (gS 2 0 ap 0)) hE280 (y_move rfl) rfl rfl rfl ?_; intro a281 hE282; clear hE280
       refine q_step (v := .slice apA ((ap).length / 2 : Nat) apC) hE282 (y_move rfl) rfl rfl rfl ?_; intro a283 hE284; clear hE282
       have hv286 := (St.rdR (i := 0) hS1 rfl).2.1
       have hv285 : (0 : Int) ≤ 1 ∧ 1 ≤ (((ap).length / 2 : Nat) : Int) ∧ (((ap).length / 2 : Nat) : Int) ≤ (((ap).length / 2 : Nat) : Int) := ⟨(by omega), (by omega), (by omega)⟩
       have hv287 : Int.toNat (((ap).length / 2 : Nat) : Int) - Int.toNat 1 = ((slI 2 ap 1 (((ap).length / 2 : Nat) : Int)).length / 2 : Nat) := ((slI_lenD (by decide) (St.rdR (i := 0) hS1 rfl).1 hv285.2.2)).symm
       have hv288 : Int.toNat (((ap).length / 2 : Nat) : Int) ≤ apC ∧ apC ≤ apC := ⟨by omega, Nat.le_refl _⟩
       refine q_step (v := .slice (subA apA (Int.toNat 1) apC 2) ((slI 2 ap 1 (((ap).length / 2 : Nat) : Int)).length / 2 : Nat) (apC - Int.toNat 1)) hE284 (y_sliceL (by kernel_rfl) (fun _ => by kernel_rfl) rfl rfl hv285.1 hv285.2.1 (by have h := hv287; omega) rfl) rfl rfl rfl ?_; intro a289 hE290; clear hE284
       refine q_step (v := .bool positive) hE290 (y_move rfl) rfl rfl rfl ?_; intro a291 hE292; clear hE290
       refine l_step hE292 rfl (l_call (f := 88) (argv := [.slice (subA apA (Int.toNat 1) apC 2) ((slI 2 ap 1 (((ap).length / 2 : Nat) : Int)).length / 2 : Nat) (apC - Int.toNat 1), .bool positive]) hE292 (fun _ => cf_l03Normal _ _) rfl rfl (ih (subA apA (Int.toNat 1) apC 2) ((slI 2 ap 1 (((ap).length / 2 : Nat) : Int)).length / 2 : Nat) (apC - Int.toNat 1) (slI 2 ap 1 (((ap).length / 2 : Nat) : Int)) positive w (RdS.sub (St.rdR (i := 0) hS1 rfl) apC hv285.1 hv285.2.1 hv285.2.2 hv288.1 hv288.2 hv287 rfl) (Nat.le_trans (slI_le 2 _ _ _) hl) (by first | (with_reducible exact hbn.2.1.1) | (with_reducible exact hbn.2.1.2) | exact (IsFm.un hf (by omega)).1) (by first | (have h := hbn.2.2; omega) | (have h := (IsFm.un hf (by omega)).2; omega))) ?_)
       rintro _ w294 ⟨b299, c300, rfl, ho301, he298⟩ a295 hE296; clear hE292
       have hf302 := hpost (slI 2 ap 1 (((ap).length / 2 : Nat) : Int)) positive (Nat.le_trans (slI_le 2 _ _ _) hl) (by first | (with_reducible exact hbn.2.1.1) | (with_reducible exact hbn.2.1.2) | exact (IsFm.un hf (by omega)).1)
       have hS297 := St.own hS1 he298 ho301; clear hS1
       refine l_step hE296 rfl (l_call (f := 150) (argv := [.int .i64 (gS 2 0 ap 0), .slice b299 ((self (slI 2 ap 1 (((ap).length / 2 : Nat) : Int)) positive).length / 2 : Nat) c300]) hE296 (fun _ => cf_l02Pre _ _) rfl rfl (c_l02Pre (gS 2 0 ap 0) b299 ((self (slI 2 ap 1 (((ap).length / 2 : Nat) : Int)) positive).length / 2 : Nat) c300 (self (slI 2 ap 1 (((ap).length / 2 : Nat) : Int)) positive) w294 (St.rdO (i := 0) hS297 rfl) (by omega)) ?_)
       rintro _ w304 ⟨b309, c310, rfl, ho311, he308⟩ a305 hE306; clear hE296
       have hf312 := l02Pre_len (gS 2 0 ap 0) (self (slI 2 ap 1 (((ap).length / 2 : Nat) : Int)) positive)
       have hS307 := St.own hS297 he308 ho311; clear hS297
       refine q_step (v := .slice b309 ((F_l02Pre (gS 2 0 ap 0) (self (slI 2 ap 1 (((ap).length / 2 : Nat) : Int)) positive)).length / 2 : Nat) c310) hE306 (y_assign rfl) rfl rfl rfl ?_; intro a313 hE314; clear hE306
       refine c_nil ?_
       have hE315 := hE314.sub (L' := [(4, .slice b309 ((F_l02Pre (gS 2 0 ap 0) (self (slI 2 ap 1 (((ap).length / 2 : Nat) : Int)) positive)).length / 2 : Nat) c310)]) ⟨rfl, trivial⟩; clear hE314
       refine p_tn ?_
       refine wp_ret ?_
       refine p_br ?_
       refine p_tr ?_
       have hF : F_l03Normal_b self ap positive = F_l02Pre (gS 2 0 ap 0) (self (slI 2 ap 1 (((ap).length / 2 : Nat) : Int)) positive) := by unfold F_l03Normal_b; rw [ht234, ht215, ht107, ht65, ht19]; first | done | rfl
       refine c_ret1 hE315 rfl rfl ?_
       exact ⟨b309, c310, (by rw [hF]; first | done | (dsimp only; done) | rfl), (by rw [hF]; (try dsimp only); exact hS307.ok 0 _ rfl), hS307.ext⟩
     ·
      have hp316 := of_decide_eq_false ht215
      have hE317 := hE214; rw [ht215] at hE317; clear hE214
      refine c_seq ?_
      refine c_seq ?_
      refine c_reg ?_
      refine q_step (v := .bool (decide ((gS 2 0 ap 0) = 2))) hE317 (y_eql rfl rfl) rfl rfl rfl ?_; intro a318 hE319; clear hE317
      refine q_step (v := .bool (decide ((gS 2 0 ap 0) = 2))) hE319 (y_assign rfl) rfl rfl rfl ?_; intro a320 hE321; clear hE319
      refine c_nil ?_
      have hE322 := hE321.sub (L' := [(0, .slice apA ((ap).length / 2 : Nat) apC), (1, .bool positive), (12, .int .i64 (gS 2 0 ap 0)), (42, .bool (decide ((gS 2 0 ap 0) = 2)))]) ⟨rfl, rfl, rfl, rfl, trivial⟩; clear hE321
      refine p_tn ?_
      refine c_cond hE322 rfl (fun ht323 => ?_) (fun ht323 => ?_)
      ·
       have hp324 := of_decide_eq_true ht323
       have hE325 := hE322; rw [ht323] at hE325; clear hE322
       refine wp_skip ?_
       refine p_tn ?_
       refine c_true hE325 rfl ?_
       refine c_seq ?_
       refine c_reg ?_
       refine q_step (v := .slice apA ((ap).length / 2 : Nat) apC) hE325 (y_move rfl) rfl rfl rfl ?_; intro a326 hE327; clear hE325
       refine q_step (v := .pointer (some (adr apA (Int.toNat 0 * 2)))) hE327 (y_idx (by kernel_rfl) (fun _ => by kernel_rfl) rfl rfl (RdS.isS (m := 0) (St.rdR (i := 0) hS1 rfl) (by omega) (by omega)) (by omega) (by omega) rfl) rfl rfl rfl ?_; intro a328 hE329; clear hE327
       refine q_step (v := .pointer (some (adr apA ((Int.toNat 0 * 2) + 0)))) hE329 (y_fieldE (o := 0) (fun _ _ => by kernel_rfl) rfl) rfl rfl rfl ?_; intro a330 hE331; clear hE329
       refine q_step (v := .int .i64 (gS 2 0 ap 0)) hE331 (y_load (fun _ => by kernel_rfl) rfl (RdS.eltS (j := 0) (St.rdR (i := 0) hS1 rfl) (by omega) (by omega) (by decide))) rfl rfl rfl ?_; intro a332 hE333; clear hE331
       refine q_step (v := .int .i64 (gS 2 0 ap 0)) hE333 (y_assign rfl) rfl rfl rfl ?_; intro a334 hE335; clear hE333
       refine c_nil ?_
       have hE336 := hE335.sub (L' := [(0, .slice apA ((ap).length / 2 : Nat) apC), (1, .bool positive), (6, .int .i64 (gS 2 0 ap 0))]) ⟨rfl, rfl, rfl, trivial⟩; clear hE335
       refine p_tn ?_
       refine c_seq ?_
       refine c_seq ?_
       refine c_reg ?_
       refine q_step (v := .bool positive) hE336 (y_move rfl) rfl rfl rfl ?_; intro a337 hE338; clear hE336
       refine q_step (v := .bool (!positive)) hE338 (y_not rfl) rfl rfl rfl ?_; intro a339 hE340; clear hE338
       refine c_nil ?_
       have hE341 := hE340.sub (L' := [(0, .slice apA ((ap).length / 2 : Nat) apC), (1, .bool positive), (6, .int .i64 (gS 2 0 ap 0)), (50, .bool (!positive))]) ⟨rfl, rfl, rfl, rfl, trivial⟩; clear hE340
       refine p_tn ?_
       refine c_cond hE341 rfl (fun ht342 => ?_) (fun ht342 => ?_)
       ·
        have ht343 := bn_t ht342
        have hE344 := hE341; rw [ht342] at hE344; clear hE341
        refine c_reg ?_
        refine q_step (v := .int .i64 (gS 2 0 ap 0)) hE344 (y_move rfl) rfl rfl rfl ?_; intro a345 hE346; clear hE344
        refine q_step (v := .int .i64 (5 - (gS 2 0 ap 0))) hE346 (y_sub rfl rfl ⟨(by omega), (by omega)⟩) rfl rfl rfl ?_; intro a347 hE348; clear hE346
        refine q_step (v := .int .i64 (5 - (gS 2 0 ap 0))) hE348 (y_assign rfl) rfl rfl rfl ?_; intro a349 hE350; clear hE348
        refine c_nil ?_
        have hE351 := hE350.sub (L' := [(0, .slice apA ((ap).length / 2 : Nat) apC), (1, .bool positive), (6, .int .i64 (5 - (gS 2 0 ap 0)))]) ⟨rfl, rfl, rfl, trivial⟩; clear hE350
        refine p_tn ?_
        refine c_seq ?_
        refine c_reg ?_
        refine q_step (v := .int .i64 (5 - (gS 2 0 ap 0))) hE351 (y_move rfl) rfl rfl rfl ?_; intro a352 hE353; clear hE351
        refine q_step (v := .slice apA ((ap).length / 2 : Nat) apC) hE353 (y_move rfl) rfl rfl rfl ?_; intro a354 hE355; clear hE353
        refine l_step hE355 rfl (l_call (f := 139) (argv := [.slice apA ((ap).length / 2 : Nat) apC]) hE355 (fun _ => cf_l02Left _ _) rfl rfl (c_l02Left apA ((ap).length / 2 : Nat) apC ap w (St.rdR (i := 0) hS1 rfl) (by omega) (by omega) (IsFm.bin hf (by omega)).1) ?_)
        rintro _ w357 ⟨rfl, he361⟩ a358 hE359; clear hE355
        have hbn := IsFm.bin hf (by omega)
        have hS360 := St.go hS1 he361; clear hS1
        have hv365 := (St.rdR (i := 0) hS360 rfl).2.1
        have hv362 : (0 : Int) ≤ 1 ∧ 1 ≤ (F_l02Part ap 1) ∧ (F_l02Part ap 1) ≤ (((ap).length / 2 : Nat) : Int) := ⟨(by omega), (by omega), (by omega)⟩
        have hv363 : Int.toNat (F_l02Part ap 1) - Int.toNat 1 = ((slI 2 ap 1 (F_l02Part ap 1)).length / 2 : Nat) := ((slI_lenD (by decide) (St.rdR (i := 0) hS360 rfl).1 hv362.2.2)).symm
        have hv364 : Int.toNat (F_l02Part ap 1) ≤ apC ∧ apC ≤ apC := ⟨by omega, by omega⟩
        refine q_step (v := .bool positive) hE359 (y_move rfl) rfl rfl rfl ?_; intro a366 hE367; clear hE359
        refine l_step hE367 rfl (l_call (f := 88) (argv := [.slice (subA apA (Int.toNat 1) apC 2) ((slI 2 ap 1 (F_l02Part ap 1)).length / 2 : Nat) (apC - (Int.toNat 1)), .bool positive]) hE367 (fun _ => cf_l03Normal _ _) rfl rfl (ih (subA apA (Int.toNat 1) apC 2) ((slI 2 ap 1 (F_l02Part ap 1)).length / 2 : Nat) (apC - (Int.toNat 1)) (slI 2 ap 1 (F_l02Part ap 1)) positive w357 (RdS.sub (St.rdR (i := 0) hS360 rfl) apC hv362.1 hv362.2.1 hv362.2.2 hv364.1 hv364.2 hv363 rfl) (Nat.le_trans (slI_le 2 _ _ _) hl) (by first | (with_reducible exact hbn.2.1.1) | (with_reducible exact hbn.2.1.2) | exact (IsFm.un hf (by omega)).1) (by first | (have h := hbn.2.2; omega) | (have h := (IsFm.un hf (by omega)).2; omega))) ?_)
        rintro _ w369 ⟨b374, c375, rfl, ho376, he373⟩ a370 hE371; clear hE367
        have hf377 := hpost (slI 2 ap 1 (F_l02Part ap 1)) positive (Nat.le_trans (slI_le 2 _ _ _) hl) (by first | (with_reducible exact hbn.2.1.1) | (with_reducible exact hbn.2.1.2) | exact (IsFm.un hf (by omega)).1)
        have hS372 := St.own hS360 he373 ho376; clear hS360
        refine q_step (v := .slice apA ((ap).length / 2 : Nat) apC) hE371 (y_move rfl) rfl rfl rfl ?_; intro a378 hE379; clear hE371
        refine l_step hE379 rfl (l_call (f := 140) (argv := [.slice apA ((ap).length / 2 : Nat) apC]) hE379 (fun _ => cf_l02Right _ _) rfl rfl (c_l02Right apA ((ap).length / 2 : Nat) apC ap w369 (St.rdR (i := 1) hS372 rfl) (by omega) (by omega) (IsFm.bin hf (by omega)).1) ?_)
        rintro _ w381 ⟨rfl, he385⟩ a382 hE383; clear hE379
        have hbn := IsFm.bin hf (by omega)
        have hS384 := St.go hS372 he385; clear hS372
        have hv389 := (St.rdR (i := 1) hS384 rfl).2.1
        have hv386 : (0 : Int) ≤ (F_l02Part ap 1) ∧ (F_l02Part ap 1) ≤ ((ap.length / 2 : Nat) : Int) ∧ ((ap.length / 2 : Nat) : Int) ≤ (((ap).length / 2 : Nat) : Int) := ⟨(by omega), (by omega), (by omega)⟩
        have hv387 : Int.toNat ((ap.length / 2 : Nat) : Int) - Int.toNat (F_l02Part ap 1) = ((slI 2 ap (F_l02Part ap 1) ((ap.length / 2 : Nat) : Int)).length / 2 : Nat) := ((slI_lenD (by decide) (St.rdR (i := 1) hS384 rfl).1 hv386.2.2)).symm
        have hv388 : Int.toNat ((ap.length / 2 : Nat) : Int) ≤ apC ∧ apC ≤ apC := ⟨by omega, by omega⟩
        refine q_step (v := .bool positive) hE383 (y_move rfl) rfl rfl rfl ?_; intro a390 hE391; clear hE383
        refine l_step hE391 rfl (l_call (f := 88) (argv := [.slice (subA apA (Int.toNat (F_l02Part ap 1)) apC 2) ((slI 2 ap (F_l02Part ap 1) ((ap.length / 2 : Nat) : Int)).length / 2 : Nat) (apC - (Int.toNat (F_l02Part ap 1))), .bool positive]) hE391 (fun _ => cf_l03Normal _ _) rfl rfl (ih (subA apA (Int.toNat (F_l02Part ap 1)) apC 2) ((slI 2 ap (F_l02Part ap 1) ((ap.length / 2 : Nat) : Int)).length / 2 : Nat) (apC - (Int.toNat (F_l02Part ap 1))) (slI 2 ap (F_l02Part ap 1) ((ap.length / 2 : Nat) : Int)) positive w381 (RdS.sub (St.rdR (i := 1) hS384 rfl) apC hv386.1 hv386.2.1 hv386.2.2 hv388.1 hv388.2 hv387 rfl) (Nat.le_trans (slI_le 2 _ _ _) hl) (by first | (with_reducible exact hbn.2.1.1) | (with_reducible exact hbn.2.1.2) | exact (IsFm.un hf (by omega)).1) (by first | (have h := hbn.2.2; omega) | (have h := (IsFm.un hf (by omega)).2; omega))) ?_)
        rintro _ w393 ⟨b398, c399, rfl, ho400, he397⟩ a394 hE395; clear hE391
        have hf401 := hpost (slI 2 ap (F_l02Part ap 1) ((ap.length / 2 : Nat) : Int)) positive (Nat.le_trans (slI_le 2 _ _ _) hl) (by first | (with_reducible exact hbn.2.1.1) | (with_reducible exact hbn.2.1.2) | exact (IsFm.un hf (by omega)).1)
        have hS396 := St.own hS384 he397 ho400; clear hS384
        refine l_step hE395 rfl (l_call (f := 128) (argv := [.int .i64 (5 - (gS 2 0 ap 0)), .slice b374 ((self (slI 2 ap 1 (F_l02Part ap 1)) positive).length / 2 : Nat) c375, .slice b398 ((self (slI 2 ap (F_l02Part ap 1) ((ap.length / 2 : Nat) : Int)) positive).length / 2 : Nat) c399]) hE395 (fun _ => cf_l02Pair _ _) rfl rfl (c_l02Pair (5 - (gS 2 0 ap 0)) b374 ((self (slI 2 ap 1 (F_l02Part ap 1)) positive).length / 2 : Nat) c375 (self (slI 2 ap 1 (F_l02Part ap 1)) positive) b398 ((self (slI 2 ap (F_l02Part ap 1) ((ap.length / 2 : Nat) : Int)) positive).length / 2 : Nat) c399 (self (slI 2 ap (F_l02Part ap 1) ((ap.length / 2 : Nat) : Int)) positive) w393 (St.rdO (i := 1) hS396 rfl) (St.rdO (i := 0) hS396 rfl) (by omega) (by omega)) ?_)
        rintro _ w403 ⟨b408, c409, rfl, ho410, he407⟩ a404 hE405; clear hE395
        have hf411 := l02Pair_len (5 - (gS 2 0 ap 0)) (self (slI 2 ap 1 (F_l02Part ap 1)) positive) (self (slI 2 ap (F_l02Part ap 1) ((ap.length / 2 : Nat) : Int)) positive)
        have hS406 := St.own hS396 he407 ho410; clear hS396
        refine q_step (v := .slice b408 ((F_l02Pair (5 - (gS 2 0 ap 0)) (self (slI 2 ap 1 (F_l02Part ap 1)) positive) (self (slI 2 ap (F_l02Part ap 1) ((ap.length / 2 : Nat) : Int)) positive)).length / 2 : Nat) c409) hE405 (y_assign rfl) rfl rfl rfl ?_; intro a412 hE413; clear hE405
        refine c_nil ?_
        have hE414 := hE413.sub (L' := [(4, .slice b408 ((F_l02Pair (5 - (gS 2 0 ap 0)) (self (slI 2 ap 1 (F_l02Part ap 1)) positive) (self (slI 2 ap (F_l02Part ap 1) ((ap.length / 2 : Nat) : Int)) positive)).length / 2 : Nat) c409)]) ⟨rfl, trivial⟩; clear hE413
        refine p_tn ?_
        refine wp_ret ?_
        refine p_br ?_
        refine p_tr ?_
        have hF : F_l03Normal_b self ap positive = F_l02Pair (5 - (gS 2 0 ap 0)) (self (slI 2 ap 1 (F_l02Part ap 1)) positive) (self (slI 2 ap (F_l02Part ap 1) ((ap.length / 2 : Nat) : Int)) positive) := by unfold F_l03Normal_b; rw [ht342, ht323, ht215, ht107, ht65, ht19]; first | done | rfl
        refine c_ret1 hE414 rfl rfl ?_
        exact ⟨b408, c409, (by rw [hF]; first | done | (dsimp only; done) | rfl), (by rw [hF]; (try dsimp only); exact hS406.ok 0 _ rfl), hS406.ext⟩
       ·
        have ht415 := bn_f ht342
        have hE416 := hE341; rw [ht342] at hE416; clear hE341
        refine wp_skip ?_
        refine p_tn ?_
        refine c_seq ?_
        refine c_reg ?_
        refine q_step (v := .int .i64 (gS 2 0 ap 0)) hE416 (y_move rfl) rfl rfl rfl ?_; intro a417 hE418; clear hE416
        refine q_step (v := .slice apA ((ap).length / 2 : Nat) apC) hE418 (y_move rfl) rfl rfl rfl ?_; intro a419 hE420; clear hE418
        refine l_step hE420 rfl (l_call (f := 139) (argv := [.slice apA ((ap).length / 2 : Nat) apC]) hE420 (fun _ => cf_l02Left _ _) rfl rfl (c_l02Left apA ((ap).length / 2 : Nat) apC ap w (St.rdR (i := 0) hS1 rfl) (by omega) (by omega) (IsFm.bin hf (by omega)).1) ?_)
        rintro _ w422 ⟨rfl, he426⟩ a423 hE424; clear hE420
        have hbn := IsFm.bin hf (by omega)
        have hS425 := St.go hS1 he426; clear hS1
        have hv430 := (St.rdR (i := 0) hS425 rfl).2.1
        have hv427 : (0 : Int) ≤ 1 ∧ 1 ≤ (F_l02Part ap 1) ∧ (F_l02Part ap 1) ≤ (((ap).length / 2 : Nat) : Int) := ⟨(by omega), (by omega), (by omega)⟩
        have hv428 : Int.toNat (F_l02Part ap 1) - Int.toNat 1 = ((slI 2 ap 1 (F_l02Part ap 1)).length / 2 : Nat) := ((slI_lenD (by decide) (St.rdR (i := 0) hS425 rfl).1 hv427.2.2)).symm
        have hv429 : Int.toNat (F_l02Part ap 1) ≤ apC ∧ apC ≤ apC := ⟨by omega, by omega⟩
        refine q_step (v := .bool positive) hE424 (y_move rfl) rfl rfl rfl ?_; intro a431 hE432; clear hE424
        refine l_step hE432 rfl (l_call (f := 88) (argv := [.slice (subA apA (Int.toNat 1) apC 2) ((slI 2 ap 1 (F_l02Part ap 1)).length / 2 : Nat) (apC - (Int.toNat 1)), .bool positive]) hE432 (fun _ => cf_l03Normal _ _) rfl rfl (ih (subA apA (Int.toNat 1) apC 2) ((slI 2 ap 1 (F_l02Part ap 1)).length / 2 : Nat) (apC - (Int.toNat 1)) (slI 2 ap 1 (F_l02Part ap 1)) positive w422 (RdS.sub (St.rdR (i := 0) hS425 rfl) apC hv427.1 hv427.2.1 hv427.2.2 hv429.1 hv429.2 hv428 rfl) (Nat.le_trans (slI_le 2 _ _ _) hl) (by first | (with_reducible exact hbn.2.1.1) | (with_reducible exact hbn.2.1.2) | exact (IsFm.un hf (by omega)).1) (by first | (have h := hbn.2.2; omega) | (have h := (IsFm.un hf (by omega)).2; omega))) ?_)
        rintro _ w434 ⟨b439, c440, rfl, ho441, he438⟩ a435 hE436; clear hE432
        have hf442 := hpost (slI 2 ap 1 (F_l02Part ap 1)) positive (Nat.le_trans (slI_le 2 _ _ _) hl) (by first | (with_reducible exact hbn.2.1.1) | (with_reducible exact hbn.2.1.2) | exact (IsFm.un hf (by omega)).1)
        have hS437 := St.own hS425 he438 ho441; clear hS425
        refine q_step (v := .slice apA ((ap).length / 2 : Nat) apC) hE436 (y_move rfl) rfl rfl rfl ?_; intro a443 hE444; clear hE436
        refine l_step hE444 rfl (l_call (f := 140) (argv := [.slice apA ((ap).length / 2 : Nat) apC]) hE444 (fun _ => cf_l02Right _ _) rfl rfl (c_l02Right apA ((ap).length / 2 : Nat) apC ap w434 (St.rdR (i := 1) hS437 rfl) (by omega) (by omega) (IsFm.bin hf (by omega)).1) ?_)
        rintro _ w446 ⟨rfl, he450⟩ a447 hE448; clear hE444
        have hbn := IsFm.bin hf (by omega)
        have hS449 := St.go hS437 he450; clear hS437
        have hv454 := (St.rdR (i := 1) hS449 rfl).2.1
        have hv451 : (0 : Int) ≤ (F_l02Part ap 1) ∧ (F_l02Part ap 1) ≤ ((ap.length / 2 : Nat) : Int) ∧ ((ap.length / 2 : Nat) : Int) ≤ (((ap).length / 2 : Nat) : Int) := ⟨(by omega), (by omega), (by omega)⟩
        have hv452 : Int.toNat ((ap.length / 2 : Nat) : Int) - Int.toNat (F_l02Part ap 1) = ((slI 2 ap (F_l02Part ap 1) ((ap.length / 2 : Nat) : Int)).length / 2 : Nat) := ((slI_lenD (by decide) (St.rdR (i := 1) hS449 rfl).1 hv451.2.2)).symm
        have hv453 : Int.toNat ((ap.length / 2 : Nat) : Int) ≤ apC ∧ apC ≤ apC := ⟨by omega, by omega⟩
        refine q_step (v := .bool positive) hE448 (y_move rfl) rfl rfl rfl ?_; intro a455 hE456; clear hE448
        refine l_step hE456 rfl (l_call (f := 88) (argv := [.slice (subA apA (Int.toNat (F_l02Part ap 1)) apC 2) ((slI 2 ap (F_l02Part ap 1) ((ap.length / 2 : Nat) : Int)).length / 2 : Nat) (apC - (Int.toNat (F_l02Part ap 1))), .bool positive]) hE456 (fun _ => cf_l03Normal _ _) rfl rfl (ih (subA apA (Int.toNat (F_l02Part ap 1)) apC 2) ((slI 2 ap (F_l02Part ap 1) ((ap.length / 2 : Nat) : Int)).length / 2 : Nat) (apC - (Int.toNat (F_l02Part ap 1))) (slI 2 ap (F_l02Part ap 1) ((ap.length / 2 : Nat) : Int)) positive w446 (RdS.sub (St.rdR (i := 1) hS449 rfl) apC hv451.1 hv451.2.1 hv451.2.2 hv453.1 hv453.2 hv452 rfl) (Nat.le_trans (slI_le 2 _ _ _) hl) (by first | (with_reducible exact hbn.2.1.1) | (with_reducible exact hbn.2.1.2) | exact (IsFm.un hf (by omega)).1) (by first | (have h := hbn.2.2; omega) | (have h := (IsFm.un hf (by omega)).2; omega))) ?_)
        rintro _ w458 ⟨b463, c464, rfl, ho465, he462⟩ a459 hE460; clear hE456
        have hf466 := hpost (slI 2 ap (F_l02Part ap 1) ((ap.length / 2 : Nat) : Int)) positive (Nat.le_trans (slI_le 2 _ _ _) hl) (by first | (with_reducible exact hbn.2.1.1) | (with_reducible exact hbn.2.1.2) | exact (IsFm.un hf (by omega)).1)
        have hS461 := St.own hS449 he462 ho465; clear hS449
        refine l_step hE460 rfl (l_call (f := 128) (argv := [.int .i64 (gS 2 0 ap 0), .slice b439 ((self (slI 2 ap 1 (F_l02Part ap 1)) positive).length / 2 : Nat) c440, .slice b463 ((self (slI 2 ap (F_l02Part ap 1) ((ap.length / 2 : Nat) : Int)) positive).length / 2 : Nat) c464]) hE460 (fun _ => cf_l02Pair _ _) rfl rfl (c_l02Pair (gS 2 0 ap 0) b439 ((self (slI 2 ap 1 (F_l02Part ap 1)) positive).length / 2 : Nat) c440 (self (slI 2 ap 1 (F_l02Part ap 1)) positive) b463 ((self (slI 2 ap (F_l02Part ap 1) ((ap.length / 2 : Nat) : Int)) positive).length / 2 : Nat) c464 (self (slI 2 ap (F_l02Part ap 1) ((ap.length / 2 : Nat) : Int)) positive) w458 (St.rdO (i := 1) hS461 rfl) (St.rdO (i := 0) hS461 rfl) (by omega) (by omega)) ?_)
        rintro _ w468 ⟨b473, c474, rfl, ho475, he472⟩ a469 hE470; clear hE460
        have hf476 := l02Pair_len (gS 2 0 ap 0) (self (slI 2 ap 1 (F_l02Part ap 1)) positive) (self (slI 2 ap (F_l02Part ap 1) ((ap.length / 2 : Nat) : Int)) positive)
        have hS471 := St.own hS461 he472 ho475; clear hS461
        refine q_step (v := .slice b473 ((F_l02Pair (gS 2 0 ap 0) (self (slI 2 ap 1 (F_l02Part ap 1)) positive) (self (slI 2 ap (F_l02Part ap 1) ((ap.length / 2 : Nat) : Int)) positive)).length / 2 : Nat) c474) hE470 (y_assign rfl) rfl rfl rfl ?_; intro a477 hE478; clear hE470
        refine c_nil ?_
        have hE479 := hE478.sub (L' := [(4, .slice b473 ((F_l02Pair (gS 2 0 ap 0) (self (slI 2 ap 1 (F_l02Part ap 1)) positive) (self (slI 2 ap (F_l02Part ap 1) ((ap.length / 2 : Nat) : Int)) positive)).length / 2 : Nat) c474)]) ⟨rfl, trivial⟩; clear hE478
        refine p_tn ?_
        refine wp_ret ?_
        refine p_br ?_
        refine p_tr ?_
        have hF : F_l03Normal_b self ap positive = F_l02Pair (gS 2 0 ap 0) (self (slI 2 ap 1 (F_l02Part ap 1)) positive) (self (slI 2 ap (F_l02Part ap 1) ((ap.length / 2 : Nat) : Int)) positive) := by unfold F_l03Normal_b; rw [ht342, ht323, ht215, ht107, ht65, ht19]; first | done | rfl
        refine c_ret1 hE479 rfl rfl ?_
        exact ⟨b473, c474, (by rw [hF]; first | done | (dsimp only; done) | rfl), (by rw [hF]; (try dsimp only); exact hS471.ok 0 _ rfl), hS471.ext⟩
      ·
       have hp480 := of_decide_eq_false ht323
       have hE481 := hE322; rw [ht323] at hE481; clear hE322
       refine c_reg ?_
       refine q_step (v := .bool (decide ((gS 2 0 ap 0) = 3))) hE481 (y_eql rfl rfl) rfl rfl rfl ?_; intro a482 hE483; clear hE481
       refine q_step (v := .bool (decide ((gS 2 0 ap 0) = 3))) hE483 (y_assign rfl) rfl rfl rfl ?_; intro a484 hE485; clear hE483
       refine c_nil ?_
       have hE486 := hE485.sub (L' := [(0, .slice apA ((ap).length / 2 : Nat) apC), (1, .bool positive), (42, .bool (decide ((gS 2 0 ap 0) = 3)))]) ⟨rfl, rfl, rfl, trivial⟩; clear hE485
       refine p_tn ?_
       refine c_cond hE486 rfl (fun ht487 => ?_) (fun ht487 => ?_)
       ·
        have hp488 := of_decide_eq_true ht487
        have hE489 := hE486; rw [ht487] at hE489; clear hE486
        refine c_seq ?_
        refine c_reg ?_
        refine q_step (v := .slice apA ((ap).length / 2 : Nat) apC) hE489 (y_move rfl) rfl rfl rfl ?_; intro a490 hE491; clear hE489
        refine q_step (v := .pointer (some (adr apA (Int.toNat 0 * 2)))) hE491 (y_idx (by kernel_rfl) (fun _ => by kernel_rfl) rfl rfl (RdS.isS (m := 0) (St.rdR (i := 0) hS1 rfl) (by omega) (by omega)) (by omega) (by omega) rfl) rfl rfl rfl ?_; intro a492 hE493; clear hE491
        refine q_step (v := .pointer (some (adr apA ((Int.toNat 0 * 2) + 0)))) hE493 (y_fieldE (o := 0) (fun _ _ => by kernel_rfl) rfl) rfl rfl rfl ?_; intro a494 hE495; clear hE493
        refine q_step (v := .int .i64 (gS 2 0 ap 0)) hE495 (y_load (fun _ => by kernel_rfl) rfl (RdS.eltS (j := 0) (St.rdR (i := 0) hS1 rfl) (by omega) (by omega) (by decide))) rfl rfl rfl ?_; intro a496 hE497; clear hE495
        refine q_step (v := .int .i64 (gS 2 0 ap 0)) hE497 (y_assign rfl) rfl rfl rfl ?_; intro a498 hE499; clear hE497
        refine c_nil ?_
        have hE500 := hE499.sub (L' := [(0, .slice apA ((ap).length / 2 : Nat) apC), (1, .bool positive), (6, .int .i64 (gS 2 0 ap 0))]) ⟨rfl, rfl, rfl, trivial⟩; clear hE499
        refine p_tn ?_
        refine c_seq ?_
        refine c_seq ?_
        refine c_reg ?_
        refine q_step (v := .bool positive) hE500 (y_move rfl) rfl rfl rfl ?_; intro a501 hE502; clear hE500
        refine q_step (v := .bool (!positive)) hE502 (y_not rfl) rfl rfl rfl ?_; intro a503 hE504; clear hE502
        refine c_nil ?_
        have hE505 := hE504.sub (L' := [(0, .slice apA ((ap).length / 2 : Nat) apC), (1, .bool positive), (6, .int .i64 (gS 2 0 ap 0)), (50, .bool (!positive))]) ⟨rfl, rfl, rfl, rfl, trivial⟩; clear hE504
        refine p_tn ?_
        refine c_cond hE505 rfl (fun ht506 => ?_) (fun ht506 => ?_)
        ·
         have ht507 := bn_t ht506
         have hE508 := hE505; rw [ht506] at hE508; clear hE505
         refine c_reg ?_
         refine q_step (v := .int .i64 (gS 2 0 ap 0)) hE508 (y_move rfl) rfl rfl rfl ?_; intro a509 hE510; clear hE508
         refine q_step (v := .int .i64 (5 - (gS 2 0 ap 0))) hE510 (y_sub rfl rfl ⟨(by omega), (by omega)⟩) rfl rfl rfl ?_; intro a511 hE512; clear hE510
         refine q_step (v := .int .i64 (5 - (gS 2 0 ap 0))) hE512 (y_assign rfl) rfl rfl rfl ?_; intro a513 hE514; clear hE512
         refine c_nil ?_
         have hE515 := hE514.sub (L' := [(0, .slice apA ((ap).length / 2 : Nat) apC), (1, .bool positive), (6, .int .i64 (5 - (gS 2 0 ap 0)))]) ⟨rfl, rfl, rfl, trivial⟩; clear hE514
         refine p_tn ?_
         refine c_seq ?_
         refine c_reg ?_
         refine q_step (v := .int .i64 (5 - (gS 2 0 ap 0))) hE515 (y_move rfl) rfl rfl rfl ?_; intro a516 hE517; clear hE515
         refine q_step (v := .slice apA ((ap).length / 2 : Nat) apC) hE517 (y_move rfl) rfl rfl rfl ?_; intro a518 hE519; clear hE517
         refine l_step hE519 rfl (l_call (f := 139) (argv := [.slice apA ((ap).length / 2 : Nat) apC]) hE519 (fun _ => cf_l02Left _ _) rfl rfl (c_l02Left apA ((ap).length / 2 : Nat) apC ap w (St.rdR (i := 0) hS1 rfl) (by omega) (by omega) (IsFm.bin hf (by omega)).1) ?_)
         rintro _ w521 ⟨rfl, he525⟩ a522 hE523; clear hE519
         have hbn := IsFm.bin hf (by omega)
         have hS524 := St.go hS1 he525; clear hS1
         have hv529 := (St.rdR (i := 0) hS524 rfl).2.1
         have hv526 : (0 : Int) ≤ 1 ∧ 1 ≤ (F_l02Part ap 1) ∧ (F_l02Part ap 1) ≤ (((ap).length / 2 : Nat) : Int) := ⟨(by omega), (by omega), (by omega)⟩
         have hv527 : Int.toNat (F_l02Part ap 1) - Int.toNat 1 = ((slI 2 ap 1 (F_l02Part ap 1)).length / 2 : Nat) := ((slI_lenD (by decide) (St.rdR (i := 0) hS524 rfl).1 hv526.2.2)).symm
         have hv528 : Int.toNat (F_l02Part ap 1) ≤ apC ∧ apC ≤ apC := ⟨by omega, by omega⟩
         refine q_step (v := .bool positive) hE523 (y_move rfl) rfl rfl rfl ?_; intro a530 hE531; clear hE523
         refine l_step hE531 rfl (l_call (f := 88) (argv := [.slice (subA apA (Int.toNat 1) apC 2) ((slI 2 ap 1 (F_l02Part ap 1)).length / 2 : Nat) (apC - (Int.toNat 1)), .bool positive]) hE531 (fun _ => cf_l03Normal _ _) rfl rfl (ih (subA apA (Int.toNat 1) apC 2) ((slI 2 ap 1 (F_l02Part ap 1)).length / 2 : Nat) (apC - (Int.toNat 1)) (slI 2 ap 1 (F_l02Part ap 1)) positive w521 (RdS.sub (St.rdR (i := 0) hS524 rfl) apC hv526.1 hv526.2.1 hv526.2.2 hv528.1 hv528.2 hv527 rfl) (Nat.le_trans (slI_le 2 _ _ _) hl) (by first | (with_reducible exact hbn.2.1.1) | (with_reducible exact hbn.2.1.2) | exact (IsFm.un hf (by omega)).1) (by first | (have h := hbn.2.2; omega) | (have h := (IsFm.un hf (by omega)).2; omega))) ?_)
         rintro _ w533 ⟨b538, c539, rfl, ho540, he537⟩ a534 hE535; clear hE531
         have hf541 := hpost (slI 2 ap 1 (F_l02Part ap 1)) positive (Nat.le_trans (slI_le 2 _ _ _) hl) (by first | (with_reducible exact hbn.2.1.1) | (with_reducible exact hbn.2.1.2) | exact (IsFm.un hf (by omega)).1)
         have hS536 := St.own hS524 he537 ho540; clear hS524
         refine q_step (v := .slice apA ((ap).length / 2 : Nat) apC) hE535 (y_move rfl) rfl rfl rfl ?_; intro a542 hE543; clear hE535
         refine l_step hE543 rfl (l_call (f := 140) (argv := [.slice apA ((ap).length / 2 : Nat) apC]) hE543 (fun _ => cf_l02Right _ _) rfl rfl (c_l02Right apA ((ap).length / 2 : Nat) apC ap w533 (St.rdR (i := 1) hS536 rfl) (by omega) (by omega) (IsFm.bin hf (by omega)).1) ?_)
         rintro _ w545 ⟨rfl, he549⟩ a546 hE547; clear hE543
         have hbn := IsFm.bin hf (by omega)
         have hS548 := St.go hS536 he549; clear hS536
         have hv553 := (St.rdR (i := 1) hS548 rfl).2.1
         have hv550 : (0 : Int) ≤ (F_l02Part ap 1) ∧ (F_l02Part ap 1) ≤ ((ap.length / 2 : Nat) : Int) ∧ ((ap.length / 2 : Nat) : Int) ≤ (((ap).length / 2 : Nat) : Int) := ⟨(by omega), (by omega), (by omega)⟩
         have hv551 : Int.toNat ((ap.length / 2 : Nat) : Int) - Int.toNat (F_l02Part ap 1) = ((slI 2 ap (F_l02Part ap 1) ((ap.length / 2 : Nat) : Int)).length / 2 : Nat) := ((slI_lenD (by decide) (St.rdR (i := 1) hS548 rfl).1 hv550.2.2)).symm
         have hv552 : Int.toNat ((ap.length / 2 : Nat) : Int) ≤ apC ∧ apC ≤ apC := ⟨by omega, by omega⟩
         refine q_step (v := .bool positive) hE547 (y_move rfl) rfl rfl rfl ?_; intro a554 hE555; clear hE547
         refine l_step hE555 rfl (l_call (f := 88) (argv := [.slice (subA apA (Int.toNat (F_l02Part ap 1)) apC 2) ((slI 2 ap (F_l02Part ap 1) ((ap.length / 2 : Nat) : Int)).length / 2 : Nat) (apC - (Int.toNat (F_l02Part ap 1))), .bool positive]) hE555 (fun _ => cf_l03Normal _ _) rfl rfl (ih (subA apA (Int.toNat (F_l02Part ap 1)) apC 2) ((slI 2 ap (F_l02Part ap 1) ((ap.length / 2 : Nat) : Int)).length / 2 : Nat) (apC - (Int.toNat (F_l02Part ap 1))) (slI 2 ap (F_l02Part ap 1) ((ap.length / 2 : Nat) : Int)) positive w545 (RdS.sub (St.rdR (i := 1) hS548 rfl) apC hv550.1 hv550.2.1 hv550.2.2 hv552.1 hv552.2 hv551 rfl) (Nat.le_trans (slI_le 2 _ _ _) hl) (by first | (with_reducible exact hbn.2.1.1) | (with_reducible exact hbn.2.1.2) | exact (IsFm.un hf (by omega)).1) (by first | (have h := hbn.2.2; omega) | (have h := (IsFm.un hf (by omega)).2; omega))) ?_)
         rintro _ w557 ⟨b562, c563, rfl, ho564, he561⟩ a558 hE559; clear hE555
         have hf565 := hpost (slI 2 ap (F_l02Part ap 1) ((ap.length / 2 : Nat) : Int)) positive (Nat.le_trans (slI_le 2 _ _ _) hl) (by first | (with_reducible exact hbn.2.1.1) | (with_reducible exact hbn.2.1.2) | exact (IsFm.un hf (by omega)).1)
         have hS560 := St.own hS548 he561 ho564; clear hS548
         refine l_step hE559 rfl (l_call (f := 128) (argv := [.int .i64 (5 - (gS 2 0 ap 0)), .slice b538 ((self (slI 2 ap 1 (F_l02Part ap 1)) positive).length / 2 : Nat) c539, .slice b562 ((self (slI 2 ap (F_l02Part ap 1) ((ap.length / 2 : Nat) : Int)) positive).length / 2 : Nat) c563]) hE559 (fun _ => cf_l02Pair _ _) rfl rfl (c_l02Pair (5 - (gS 2 0 ap 0)) b538 ((self (slI 2 ap 1 (F_l02Part ap 1)) positive).length / 2 : Nat) c539 (self (slI 2 ap 1 (F_l02Part ap 1)) positive) b562 ((self (slI 2 ap (F_l02Part ap 1) ((ap.length / 2 : Nat) : Int)) positive).length / 2 : Nat) c563 (self (slI 2 ap (F_l02Part ap 1) ((ap.length / 2 : Nat) : Int)) positive) w557 (St.rdO (i := 1) hS560 rfl) (St.rdO (i := 0) hS560 rfl) (by omega) (by omega)) ?_)
         rintro _ w567 ⟨b572, c573, rfl, ho574, he571⟩ a568 hE569; clear hE559
         have hf575 := l02Pair_len (5 - (gS 2 0 ap 0)) (self (slI 2 ap 1 (F_l02Part ap 1)) positive) (self (slI 2 ap (F_l02Part ap 1) ((ap.length / 2 : Nat) : Int)) positive)
         have hS570 := St.own hS560 he571 ho574; clear hS560
         refine q_step (v := .slice b572 ((F_l02Pair (5 - (gS 2 0 ap 0)) (self (slI 2 ap 1 (F_l02Part ap 1)) positive) (self (slI 2 ap (F_l02Part ap 1) ((ap.length / 2 : Nat) : Int)) positive)).length / 2 : Nat) c573) hE569 (y_assign rfl) rfl rfl rfl ?_; intro a576 hE577; clear hE569
         refine c_nil ?_
         have hE578 := hE577.sub (L' := [(4, .slice b572 ((F_l02Pair (5 - (gS 2 0 ap 0)) (self (slI 2 ap 1 (F_l02Part ap 1)) positive) (self (slI 2 ap (F_l02Part ap 1) ((ap.length / 2 : Nat) : Int)) positive)).length / 2 : Nat) c573)]) ⟨rfl, trivial⟩; clear hE577
         refine p_tn ?_
         refine wp_ret ?_
         refine p_br ?_
         refine p_tr ?_
         have hF : F_l03Normal_b self ap positive = F_l02Pair (5 - (gS 2 0 ap 0)) (self (slI 2 ap 1 (F_l02Part ap 1)) positive) (self (slI 2 ap (F_l02Part ap 1) ((ap.length / 2 : Nat) : Int)) positive) := by unfold F_l03Normal_b; rw [ht506, ht487, ht323, ht215, ht107, ht65, ht19]; first | done | rfl
         refine c_ret1 hE578 rfl rfl ?_
         exact ⟨b572, c573, (by rw [hF]; first | done | (dsimp only; done) | rfl), (by rw [hF]; (try dsimp only); exact hS570.ok 0 _ rfl), hS570.ext⟩
        ·
         have ht579 := bn_f ht506
         have hE580 := hE505; rw [ht506] at hE580; clear hE505
         refine wp_skip ?_
         refine p_tn ?_
         refine c_seq ?_
         refine c_reg ?_
         refine q_step (v := .int .i64 (gS 2 0 ap 0)) hE580 (y_move rfl) rfl rfl rfl ?_; intro a581 hE582; clear hE580
         refine q_step (v := .slice apA ((ap).length / 2 : Nat) apC) hE582 (y_move rfl) rfl rfl rfl ?_; intro a583 hE584; clear hE582
         refine l_step hE584 rfl (l_call (f := 139) (argv := [.slice apA ((ap).length / 2 : Nat) apC]) hE584 (fun _ => cf_l02Left _ _) rfl rfl (c_l02Left apA ((ap).length / 2 : Nat) apC ap w (St.rdR (i := 0) hS1 rfl) (by omega) (by omega) (IsFm.bin hf (by omega)).1) ?_)
         rintro _ w586 ⟨rfl, he590⟩ a587 hE588; clear hE584
         have hbn := IsFm.bin hf (by omega)
         have hS589 := St.go hS1 he590; clear hS1
         have hv594 := (St.rdR (i := 0) hS589 rfl).2.1
         have hv591 : (0 : Int) ≤ 1 ∧ 1 ≤ (F_l02Part ap 1) ∧ (F_l02Part ap 1) ≤ (((ap).length / 2 : Nat) : Int) := ⟨(by omega), (by omega), (by omega)⟩
         have hv592 : Int.toNat (F_l02Part ap 1) - Int.toNat 1 = ((slI 2 ap 1 (F_l02Part ap 1)).length / 2 : Nat) := ((slI_lenD (by decide) (St.rdR (i := 0) hS589 rfl).1 hv591.2.2)).symm
         have hv593 : Int.toNat (F_l02Part ap 1) ≤ apC ∧ apC ≤ apC := ⟨by omega, by omega⟩
         refine q_step (v := .bool positive) hE588 (y_move rfl) rfl rfl rfl ?_; intro a595 hE596; clear hE588
         refine l_step hE596 rfl (l_call (f := 88) (argv := [.slice (subA apA (Int.toNat 1) apC 2) ((slI 2 ap 1 (F_l02Part ap 1)).length / 2 : Nat) (apC - (Int.toNat 1)), .bool positive]) hE596 (fun _ => cf_l03Normal _ _) rfl rfl (ih (subA apA (Int.toNat 1) apC 2) ((slI 2 ap 1 (F_l02Part ap 1)).length / 2 : Nat) (apC - (Int.toNat 1)) (slI 2 ap 1 (F_l02Part ap 1)) positive w586 (RdS.sub (St.rdR (i := 0) hS589 rfl) apC hv591.1 hv591.2.1 hv591.2.2 hv593.1 hv593.2 hv592 rfl) (Nat.le_trans (slI_le 2 _ _ _) hl) (by first | (with_reducible exact hbn.2.1.1) | (with_reducible exact hbn.2.1.2) | exact (IsFm.un hf (by omega)).1) (by first | (have h := hbn.2.2; omega) | (have h := (IsFm.un hf (by omega)).2; omega))) ?_)
         rintro _ w598 ⟨b603, c604, rfl, ho605, he602⟩ a599 hE600; clear hE596
         have hf606 := hpost (slI 2 ap 1 (F_l02Part ap 1)) positive (Nat.le_trans (slI_le 2 _ _ _) hl) (by first | (with_reducible exact hbn.2.1.1) | (with_reducible exact hbn.2.1.2) | exact (IsFm.un hf (by omega)).1)
         have hS601 := St.own hS589 he602 ho605; clear hS589
         refine q_step (v := .slice apA ((ap).length / 2 : Nat) apC) hE600 (y_move rfl) rfl rfl rfl ?_; intro a607 hE608; clear hE600
         refine l_step hE608 rfl (l_call (f := 140) (argv := [.slice apA ((ap).length / 2 : Nat) apC]) hE608 (fun _ => cf_l02Right _ _) rfl rfl (c_l02Right apA ((ap).length / 2 : Nat) apC ap w598 (St.rdR (i := 1) hS601 rfl) (by omega) (by omega) (IsFm.bin hf (by omega)).1) ?_)
         rintro _ w610 ⟨rfl, he614⟩ a611 hE612; clear hE608
         have hbn := IsFm.bin hf (by omega)
         have hS613 := St.go hS601 he614; clear hS601
         have hv618 := (St.rdR (i := 1) hS613 rfl).2.1
         have hv615 : (0 : Int) ≤ (F_l02Part ap 1) ∧ (F_l02Part ap 1) ≤ ((ap.length / 2 : Nat) : Int) ∧ ((ap.length / 2 : Nat) : Int) ≤ (((ap).length / 2 : Nat) : Int) := ⟨(by omega), (by omega), (by omega)⟩
         have hv616 : Int.toNat ((ap.length / 2 : Nat) : Int) - Int.toNat (F_l02Part ap 1) = ((slI 2 ap (F_l02Part ap 1) ((ap.length / 2 : Nat) : Int)).length / 2 : Nat) := ((slI_lenD (by decide) (St.rdR (i := 1) hS613 rfl).1 hv615.2.2)).symm
         have hv617 : Int.toNat ((ap.length / 2 : Nat) : Int) ≤ apC ∧ apC ≤ apC := ⟨by omega, by omega⟩
         refine q_step (v := .bool positive) hE612 (y_move rfl) rfl rfl rfl ?_; intro a619 hE620; clear hE612
         refine l_step hE620 rfl (l_call (f := 88) (argv := [.slice (subA apA (Int.toNat (F_l02Part ap 1)) apC 2) ((slI 2 ap (F_l02Part ap 1) ((ap.length / 2 : Nat) : Int)).length / 2 : Nat) (apC - (Int.toNat (F_l02Part ap 1))), .bool positive]) hE620 (fun _ => cf_l03Normal _ _) rfl rfl (ih (subA apA (Int.toNat (F_l02Part ap 1)) apC 2) ((slI 2 ap (F_l02Part ap 1) ((ap.length / 2 : Nat) : Int)).length / 2 : Nat) (apC - (Int.toNat (F_l02Part ap 1))) (slI 2 ap (F_l02Part ap 1) ((ap.length / 2 : Nat) : Int)) positive w610 (RdS.sub (St.rdR (i := 1) hS613 rfl) apC hv615.1 hv615.2.1 hv615.2.2 hv617.1 hv617.2 hv616 rfl) (Nat.le_trans (slI_le 2 _ _ _) hl) (by first | (with_reducible exact hbn.2.1.1) | (with_reducible exact hbn.2.1.2) | exact (IsFm.un hf (by omega)).1) (by first | (have h := hbn.2.2; omega) | (have h := (IsFm.un hf (by omega)).2; omega))) ?_)
         rintro _ w622 ⟨b627, c628, rfl, ho629, he626⟩ a623 hE624; clear hE620
         have hf630 := hpost (slI 2 ap (F_l02Part ap 1) ((ap.length / 2 : Nat) : Int)) positive (Nat.le_trans (slI_le 2 _ _ _) hl) (by first | (with_reducible exact hbn.2.1.1) | (with_reducible exact hbn.2.1.2) | exact (IsFm.un hf (by omega)).1)
         have hS625 := St.own hS613 he626 ho629; clear hS613
         refine l_step hE624 rfl (l_call (f := 128) (argv := [.int .i64 (gS 2 0 ap 0), .slice b603 ((self (slI 2 ap 1 (F_l02Part ap 1)) positive).length / 2 : Nat) c604, .slice b627 ((self (slI 2 ap (F_l02Part ap 1) ((ap.length / 2 : Nat) : Int)) positive).length / 2 : Nat) c628]) hE624 (fun _ => cf_l02Pair _ _) rfl rfl (c_l02Pair (gS 2 0 ap 0) b603 ((self (slI 2 ap 1 (F_l02Part ap 1)) positive).length / 2 : Nat) c604 (self (slI 2 ap 1 (F_l02Part ap 1)) positive) b627 ((self (slI 2 ap (F_l02Part ap 1) ((ap.length / 2 : Nat) : Int)) positive).length / 2 : Nat) c628 (self (slI 2 ap (F_l02Part ap 1) ((ap.length / 2 : Nat) : Int)) positive) w622 (St.rdO (i := 1) hS625 rfl) (St.rdO (i := 0) hS625 rfl) (by omega) (by omega)) ?_)
         rintro _ w632 ⟨b637, c638, rfl, ho639, he636⟩ a633 hE634; clear hE624
         have hf640 := l02Pair_len (gS 2 0 ap 0) (self (slI 2 ap 1 (F_l02Part ap 1)) positive) (self (slI 2 ap (F_l02Part ap 1) ((ap.length / 2 : Nat) : Int)) positive)
         have hS635 := St.own hS625 he636 ho639; clear hS625
         refine q_step (v := .slice b637 ((F_l02Pair (gS 2 0 ap 0) (self (slI 2 ap 1 (F_l02Part ap 1)) positive) (self (slI 2 ap (F_l02Part ap 1) ((ap.length / 2 : Nat) : Int)) positive)).length / 2 : Nat) c638) hE634 (y_assign rfl) rfl rfl rfl ?_; intro a641 hE642; clear hE634
         refine c_nil ?_
         have hE643 := hE642.sub (L' := [(4, .slice b637 ((F_l02Pair (gS 2 0 ap 0) (self (slI 2 ap 1 (F_l02Part ap 1)) positive) (self (slI 2 ap (F_l02Part ap 1) ((ap.length / 2 : Nat) : Int)) positive)).length / 2 : Nat) c638)]) ⟨rfl, trivial⟩; clear hE642
         refine p_tn ?_
         refine wp_ret ?_
         refine p_br ?_
         refine p_tr ?_
         have hF : F_l03Normal_b self ap positive = F_l02Pair (gS 2 0 ap 0) (self (slI 2 ap 1 (F_l02Part ap 1)) positive) (self (slI 2 ap (F_l02Part ap 1) ((ap.length / 2 : Nat) : Int)) positive) := by unfold F_l03Normal_b; rw [ht506, ht487, ht323, ht215, ht107, ht65, ht19]; first | done | rfl
         refine c_ret1 hE643 rfl rfl ?_
         exact ⟨b637, c638, (by rw [hF]; first | done | (dsimp only; done) | rfl), (by rw [hF]; (try dsimp only); exact hS635.ok 0 _ rfl), hS635.ext⟩
       ·
        have hp644 := of_decide_eq_false ht487
        have hE645 := hE486; rw [ht487] at hE645; clear hE486
        refine wp_skip ?_
        refine p_bn ?_
        refine p_tn ?_
        refine c_seq ?_
        refine c_reg ?_
        refine q_step (v := .slice apA ((ap).length / 2 : Nat) apC) hE645 (y_move rfl) rfl rfl rfl ?_; intro a646 hE647; clear hE645
        refine l_step hE647 rfl (l_call (f := 139) (argv := [.slice apA ((ap).length / 2 : Nat) apC]) hE647 (fun _ => cf_l02Left _ _) rfl rfl (c_l02Left apA ((ap).length / 2 : Nat) apC ap w (St.rdR (i := 0) hS1 rfl) (by omega) (by omega) (IsFm.bin hf (by omega)).1) ?_)
        rintro _ w649 ⟨rfl, he653⟩ a650 hE651; clear hE647
        have hbn := IsFm.bin hf (by omega)
        have hS652 := St.go hS1 he653; clear hS1
        have hv657 := (St.rdR (i := 0) hS652 rfl).2.1
        have hv654 : (0 : Int) ≤ 1 ∧ 1 ≤ (F_l02Part ap 1) ∧ (F_l02Part ap 1) ≤ (((ap).length / 2 : Nat) : Int) := ⟨(by omega), (by omega), (by omega)⟩
        have hv655 : Int.toNat (F_l02Part ap 1) - Int.toNat 1 = ((slI 2 ap 1 (F_l02Part ap 1)).length / 2 : Nat) := ((slI_lenD (by decide) (St.rdR (i := 0) hS652 rfl).1 hv654.2.2)).symm
        have hv656 : Int.toNat (F_l02Part ap 1) ≤ apC ∧ apC ≤ apC := ⟨by omega, by omega⟩
        refine q_step (v := .slice apA ((ap).length / 2 : Nat) apC) hE651 (y_move rfl) rfl rfl rfl ?_; intro a658 hE659; clear hE651
        refine l_step hE659 rfl (l_call (f := 140) (argv := [.slice apA ((ap).length / 2 : Nat) apC]) hE659 (fun _ => cf_l02Right _ _) rfl rfl (c_l02Right apA ((ap).length / 2 : Nat) apC ap w649 (St.rdR (i := 0) hS652 rfl) (by omega) (by omega) (IsFm.bin hf (by omega)).1) ?_)
        rintro _ w661 ⟨rfl, he665⟩ a662 hE663; clear hE659
        have hbn := IsFm.bin hf (by omega)
        have hS664 := St.go hS652 he665; clear hS652
        have hv669 := (St.rdR (i := 0) hS664 rfl).2.1
        have hv666 : (0 : Int) ≤ (F_l02Part ap 1) ∧ (F_l02Part ap 1) ≤ ((ap.length / 2 : Nat) : Int) ∧ ((ap.length / 2 : Nat) : Int) ≤ (((ap).length / 2 : Nat) : Int) := ⟨(by omega), (by omega), (by omega)⟩
        have hv667 : Int.toNat ((ap.length / 2 : Nat) : Int) - Int.toNat (F_l02Part ap 1) = ((slI 2 ap (F_l02Part ap 1) ((ap.length / 2 : Nat) : Int)).length / 2 : Nat) := ((slI_lenD (by decide) (St.rdR (i := 0) hS664 rfl).1 hv666.2.2)).symm
        have hv668 : Int.toNat ((ap.length / 2 : Nat) : Int) ≤ apC ∧ apC ≤ apC := ⟨by omega, by omega⟩
        refine q_step (v := .slice (subA apA (Int.toNat 1) apC 2) ((slI 2 ap 1 (F_l02Part ap 1)).length / 2 : Nat) (apC - (Int.toNat 1))) hE663 (y_assign rfl) rfl rfl rfl ?_; intro a670 hE671; clear hE663
        refine q_step (v := .slice (subA apA (Int.toNat (F_l02Part ap 1)) apC 2) ((slI 2 ap (F_l02Part ap 1) ((ap.length / 2 : Nat) : Int)).length / 2 : Nat) (apC - (Int.toNat (F_l02Part ap 1)))) hE671 (y_assign rfl) rfl rfl rfl ?_; intro a672 hE673; clear hE671
        refine c_nil ?_
        have hE674 := hE673.sub (L' := [(1, .bool positive), (7, .slice (subA apA (Int.toNat 1) apC 2) ((slI 2 ap 1 (F_l02Part ap 1)).length / 2 : Nat) (apC - (Int.toNat 1))), (8, .slice (subA apA (Int.toNat (F_l02Part ap 1)) apC 2) ((slI 2 ap (F_l02Part ap 1) ((ap.length / 2 : Nat) : Int)).length / 2 : Nat) (apC - (Int.toNat (F_l02Part ap 1))))]) ⟨rfl, rfl, rfl, trivial⟩; clear hE673
        refine p_tn ?_
        refine c_seq ?_
        refine wp_block ?_
        refine c_seq ?_
        refine c_reg ?_
        refine q_step (v := .slice (subA apA (Int.toNat 1) apC 2) ((slI 2 ap 1 (F_l02Part ap 1)).length / 2 : Nat) (apC - (Int.toNat 1))) hE674 (y_move rfl) rfl rfl rfl ?_; intro a675 hE676; clear hE674
        refine q_step (v := .pointer (some (adr (subA apA (Int.toNat 1) apC 2) (Int.toNat 0 * 2)))) hE676 (y_idx (by kernel_rfl) (fun _ => by kernel_rfl) rfl rfl (RdS.isS (m := 0) (RdS.sub (St.rdR (i := 0) hS664 rfl) apC hv654.1 hv654.2.1 hv654.2.2 hv656.1 hv656.2 hv655 rfl) (by omega) (by omega)) (by omega) (by omega) rfl) rfl rfl rfl ?_; intro a677 hE678; clear hE676
        refine q_step (v := .pointer (some (adr (subA apA (Int.toNat 1) apC 2) ((Int.toNat 0 * 2) + 0)))) hE678 (y_fieldE (o := 0) (fun _ _ => by kernel_rfl) rfl) rfl rfl rfl ?_; intro a679 hE680; clear hE678
        refine q_step (v := .int .i64 (gS 2 0 (slI 2 ap 1 (F_l02Part ap 1)) 0)) hE680 (y_load (fun _ => by kernel_rfl) rfl (RdS.eltS (j := 0) (RdS.sub (St.rdR (i := 0) hS664 rfl) apC hv654.1 hv654.2.1 hv654.2.2 hv656.1 hv656.2 hv655 rfl) (by omega) (by omega) (by decide))) rfl rfl rfl ?_; intro a681 hE682; clear hE680
        refine q_step (v := .bool (decide ((gS 2 0 (slI 2 ap 1 (F_l02Part ap 1)) 0) = 1))) hE682 (y_eql rfl rfl) rfl rfl rfl ?_; intro a683 hE684; clear hE682
        refine q_step (v := .bool (decide ((gS 2 0 (slI 2 ap 1 (F_l02Part ap 1)) 0) = 1))) hE684 (y_move rfl) rfl rfl rfl ?_; intro a685 hE686; clear hE684
        rcases Bool.eq_false_or_eq_true (decide ((gS 2 0 (slI 2 ap 1 (F_l02Part ap 1)) 0) = 1)) with hb687 | hb687
        ·
         have hE688 := hE686; (try rw [hb687] at hE688); clear hE686
         have hp689 := of_decide_eq_true hb687
         refine q_step (v := .slice (subA apA (Int.toNat (F_l02Part ap 1)) apC 2) ((slI 2 ap (F_l02Part ap 1) ((ap.length / 2 : Nat) : Int)).length / 2 : Nat) (apC - (Int.toNat (F_l02Part ap 1)))) hE688 (y_move rfl) rfl rfl rfl ?_; intro a690 hE691; clear hE688
         refine q_step (v := .pointer (some (adr (subA apA (Int.toNat (F_l02Part ap 1)) apC 2) (Int.toNat 0 * 2)))) hE691 (y_idx (by kernel_rfl) (fun _ => by kernel_rfl) rfl rfl (RdS.isS (m := 0) (RdS.sub (St.rdR (i := 0) hS664 rfl) apC hv666.1 hv666.2.1 hv666.2.2 hv668.1 hv668.2 hv667 rfl) (by omega) (by omega)) (by omega) (by omega) rfl) rfl rfl rfl ?_; intro a692 hE693; clear hE691
         refine q_step (v := .pointer (some (adr (subA apA (Int.toNat (F_l02Part ap 1)) apC 2) ((Int.toNat 0 * 2) + 0)))) hE693 (y_fieldE (o := 0) (fun _ _ => by kernel_rfl) rfl) rfl rfl rfl ?_; intro a694 hE695; clear hE693
         refine q_step (v := .int .i64 (gS 2 0 (slI 2 ap (F_l02Part ap 1) ((ap.length / 2 : Nat) : Int)) 0)) hE695 (y_load (fun _ => by kernel_rfl) rfl (RdS.eltS (j := 0) (RdS.sub (St.rdR (i := 0) hS664 rfl) apC hv666.1 hv666.2.1 hv666.2.2 hv668.1 hv668.2 hv667 rfl) (by omega) (by omega) (by decide))) rfl rfl rfl ?_; intro a696 hE697; clear hE695
         refine q_step (v := .bool (decide ((gS 2 0 (slI 2 ap (F_l02Part ap 1) ((ap.length / 2 : Nat) : Int)) 0) = 1))) hE697 (y_eql rfl rfl) rfl rfl rfl ?_; intro a698 hE699; clear hE697
         refine q_step (v := .bool (decide ((gS 2 0 (slI 2 ap (F_l02Part ap 1) ((ap.length / 2 : Nat) : Int)) 0) = 1))) hE699 (y_pick (b := true) rfl rfl) rfl rfl rfl ?_; intro a700 hE701; clear hE699
         refine q_step (v := .bool (decide ((gS 2 0 (slI 2 ap (F_l02Part ap 1) ((ap.length / 2 : Nat) : Int)) 0) = 1))) hE701 (y_move rfl) rfl rfl rfl ?_; intro a702 hE703; clear hE701
         rcases Bool.eq_false_or_eq_true (decide ((gS 2 0 (slI 2 ap (F_l02Part ap 1) ((ap.length / 2 : Nat) : Int)) 0) = 1)) with hb704 | hb704
         ·
          have hE705 := hE703; (try rw [hb704] at hE705); clear hE703
          have hp706 := of_decide_eq_true hb704
          refine q_step (v := .bool positive) hE705 (y_move rfl) rfl rfl rfl ?_; intro a707 hE708; clear hE705
          refine q_step (v := .bool positive) hE708 (y_pick (b := true) rfl rfl) rfl rfl rfl ?_; intro a709 hE710; clear hE708
          refine q_step (v := .bool positive) hE710 (y_assign rfl) rfl rfl rfl ?_; intro a711 hE712; clear hE710
          refine c_nil ?_
          have hE713 := hE712.sub (L' := [(1, .bool positive), (7, .slice (subA apA (Int.toNat 1) apC 2) ((slI 2 ap 1 (F_l02Part ap 1)).length / 2 : Nat) (apC - (Int.toNat 1))), (8, .slice (subA apA (Int.toNat (F_l02Part ap 1)) apC 2) ((slI 2 ap (F_l02Part ap 1) ((ap.length / 2 : Nat) : Int)).length / 2 : Nat) (apC - (Int.toNat (F_l02Part ap 1)))), (67, .bool positive)]) ⟨rfl, rfl, rfl, rfl, trivial⟩; clear hE712
          refine p_tn ?_
          refine c_cond hE713 rfl (fun ht714 => ?_) (fun ht714 => ?_)
          ·
           have hE715 := hE713; rw [ht714] at hE715; clear hE713
           refine c_seq ?_
           refine c_reg ?_
           refine l_step hE715 rfl (l_call (f := 149) (argv := []) hE715 (fun _ => cf_l02True _ _) rfl rfl (c_l02True w661) ?_)
           rintro _ w717 ⟨b722, c723, rfl, ho724, he721⟩ a718 hE719; clear hE715
           have hf725 := l02True_len
           have hS720 := St.own hS664 he721 ho724; clear hS664
           refine q_step (v := .slice b722 ((F_l02True).length / 2 : Nat) c723) hE719 (y_assign rfl) rfl rfl rfl ?_; intro a726 hE727; clear hE719
           refine c_nil ?_
           have hE728 := hE727.sub (L' := [(4, .slice b722 ((F_l02True).length / 2 : Nat) c723)]) ⟨rfl, trivial⟩; clear hE727
           refine p_tn ?_
           refine wp_ret ?_
           refine p_br ?_
           refine p_tr ?_
           have hF : F_l03Normal_b self ap positive = F_l02True := by unfold F_l03Normal_b; rw [ht714, hb704, hb687, ht487, ht323, ht215, ht107, ht65, ht19]; first | done | rfl
           refine c_ret1 hE728 rfl rfl ?_
           exact ⟨b722, c723, (by rw [hF]; first | done | (dsimp only; done) | rfl), (by rw [hF]; (try dsimp only); exact hS720.ok 0 _ rfl), hS720.ext⟩
          ·
           have hE729 := hE713; rw [ht714] at hE729; clear hE713
           refine c_seq ?_
           refine c_reg ?_
           refine q_step (v := .slice (subA apA (Int.toNat 1) apC 2) ((slI 2 ap 1 (F_l02Part ap 1)).length / 2 : Nat) (apC - (Int.toNat 1))) hE729 (y_move rfl) rfl rfl rfl ?_; intro a730 hE731; clear hE729
           refine q_step (v := .pointer (some (adr (subA apA (Int.toNat 1) apC 2) (Int.toNat 0 * 2)))) hE731 (y_idx (by kernel_rfl) (fun _ => by kernel_rfl) rfl rfl (RdS.isS (m := 0) (RdS.sub (St.rdR (i := 0) hS664 rfl) apC hv654.1 hv654.2.1 hv654.2.2 hv656.1 hv656.2 hv655 rfl) (by omega) (by omega)) (by omega) (by omega) rfl) rfl rfl rfl ?_; intro a732 hE733; clear hE731
           refine q_step (v := .pointer (some (adr (subA apA (Int.toNat 1) apC 2) ((Int.toNat 0 * 2) + 0)))) hE733 (y_fieldE (o := 0) (fun _ _ => by kernel_rfl) rfl) rfl rfl rfl ?_; intro a734 hE735; clear hE733
           refine q_step (v := .int .i64 (gS 2 0 (slI 2 ap 1 (F_l02Part ap 1)) 0)) hE735 (y_load (fun _ => by kernel_rfl) rfl (RdS.eltS (j := 0) (RdS.sub (St.rdR (i := 0) hS664 rfl) apC hv654.1 hv654.2.1 hv654.2.2 hv656.1 hv656.2 hv655 rfl) (by omega) (by omega) (by decide))) rfl rfl rfl ?_; intro a736 hE737; clear hE735
           refine q_step (v := .bool (decide ((gS 2 0 (slI 2 ap 1 (F_l02Part ap 1)) 0) = 1))) hE737 (y_eql rfl rfl) rfl rfl rfl ?_; intro a738 hE739; clear hE737
           refine q_step (v := .bool (decide ((gS 2 0 (slI 2 ap 1 (F_l02Part ap 1)) 0) = 1))) hE739 (y_move rfl) rfl rfl rfl ?_; intro a740 hE741; clear hE739
           have hE742 := hE741; rw [hb687] at hE742; clear hE741
           refine q_step (v := .slice (subA apA (Int.toNat (F_l02Part ap 1)) apC 2) ((slI 2 ap (F_l02Part ap 1) ((ap.length / 2 : Nat) : Int)).length / 2 : Nat) (apC - (Int.toNat (F_l02Part ap 1)))) hE742 (y_move rfl) rfl rfl rfl ?_; intro a743 hE744; clear hE742
           refine q_step (v := .pointer (some (adr (subA apA (Int.toNat (F_l02Part ap 1)) apC 2) (Int.toNat 0 * 2)))) hE744 (y_idx (by kernel_rfl) (fun _ => by kernel_rfl) rfl rfl (RdS.isS (m := 0) (RdS.sub (St.rdR (i := 0) hS664 rfl) apC hv666.1 hv666.2.1 hv666.2.2 hv668.1 hv668.2 hv667 rfl) (by omega) (by omega)) (by omega) (by omega) rfl) rfl rfl rfl ?_; intro a745 hE746; clear hE744
           refine q_step (v := .pointer (some (adr (subA apA (Int.toNat (F_l02Part ap 1)) apC 2) ((Int.toNat 0 * 2) + 0)))) hE746 (y_fieldE (o := 0) (fun _ _ => by kernel_rfl) rfl) rfl rfl rfl ?_; intro a747 hE748; clear hE746
           refine q_step (v := .int .i64 (gS 2 0 (slI 2 ap (F_l02Part ap 1) ((ap.length / 2 : Nat) : Int)) 0)) hE748 (y_load (fun _ => by kernel_rfl) rfl (RdS.eltS (j := 0) (RdS.sub (St.rdR (i := 0) hS664 rfl) apC hv666.1 hv666.2.1 hv666.2.2 hv668.1 hv668.2 hv667 rfl) (by omega) (by omega) (by decide))) rfl rfl rfl ?_; intro a749 hE750; clear hE748
           refine q_step (v := .bool (decide ((gS 2 0 (slI 2 ap (F_l02Part ap 1) ((ap.length / 2 : Nat) : Int)) 0) = 1))) hE750 (y_eql rfl rfl) rfl rfl rfl ?_; intro a751 hE752; clear hE750
           refine q_step (v := .bool (decide ((gS 2 0 (slI 2 ap (F_l02Part ap 1) ((ap.length / 2 : Nat) : Int)) 0) = 1))) hE752 (y_pick (b := true) rfl rfl) rfl rfl rfl ?_; intro a753 hE754; clear hE752
           refine q_step (v := .bool (decide ((gS 2 0 (slI 2 ap (F_l02Part ap 1) ((ap.length / 2 : Nat) : Int)) 0) = 1))) hE754 (y_assign rfl) rfl rfl rfl ?_; intro a755 hE756; clear hE754
           refine c_nil ?_
           have hE757 := hE756.sub (L' := [(1, .bool false), (7, .slice (subA apA (Int.toNat 1) apC 2) ((slI 2 ap 1 (F_l02Part ap 1)).length / 2 : Nat) (apC - (Int.toNat 1))), (8, .slice (subA apA (Int.toNat (F_l02Part ap 1)) apC 2) ((slI 2 ap (F_l02Part ap 1) ((ap.length / 2 : Nat) : Int)).length / 2 : Nat) (apC - (Int.toNat (F_l02Part ap 1)))), (84, .bool (decide ((gS 2 0 (slI 2 ap (F_l02Part ap 1) ((ap.length / 2 : Nat) : Int)) 0) = 1)))]) ⟨rfl, rfl, rfl, rfl, trivial⟩; clear hE756
           refine p_tn ?_
           have hE758 := hE757; rw [hb704] at hE758; clear hE757
           refine c_true hE758 rfl ?_
           refine c_seq ?_
           refine c_reg ?_
           refine l_step hE758 rfl (l_call (f := 143) (argv := []) hE758 (fun _ => cf_l02False _ _) rfl rfl (c_l02False w661) ?_)
           rintro _ w760 ⟨b765, c766, rfl, ho767, he764⟩ a761 hE762; clear hE758
           have hf768 := l02False_len
           have hS763 := St.own hS664 he764 ho767; clear hS664
           refine q_step (v := .slice b765 ((F_l02False).length / 2 : Nat) c766) hE762 (y_assign rfl) rfl rfl rfl ?_; intro a769 hE770; clear hE762
           refine c_nil ?_
           have hE771 := hE770.sub (L' := [(4, .slice b765 ((F_l02False).length / 2 : Nat) c766)]) ⟨rfl, trivial⟩; clear hE770
           refine p_tn ?_
           refine wp_ret ?_
           refine p_br ?_
           refine p_tr ?_
           have hF : F_l03Normal_b self ap positive = F_l02False := by unfold F_l03Normal_b; rw [ht714, hb704, hb687, ht487, ht323, ht215, ht107, ht65, ht19]; first | done | rfl
           refine c_ret1 hE771 rfl rfl ?_
           exact ⟨b765, c766, (by rw [hF]; first | done | (dsimp only; done) | rfl), (by rw [hF]; (try dsimp only); exact hS763.ok 0 _ rfl), hS763.ext⟩
         ·
          have hE772 := hE703; (try rw [hb704] at hE772); clear hE703
          have hp773 := of_decide_eq_false hb704
          refine q_skip hE772 rfl rfl rfl ?_; intro a774 hE775; clear hE772
          refine q_step (v := .bool false) hE775 (y_pick (b := false) rfl rfl) rfl rfl rfl ?_; intro a776 hE777; clear hE775
          refine q_step (v := .bool false) hE777 (y_assign rfl) rfl rfl rfl ?_; intro a778 hE779; clear hE777
          refine c_nil ?_
          have hE780 := hE779.sub (L' := [(1, .bool positive), (7, .slice (subA apA (Int.toNat 1) apC 2) ((slI 2 ap 1 (F_l02Part ap 1)).length / 2 : Nat) (apC - (Int.toNat 1))), (8, .slice (subA apA (Int.toNat (F_l02Part ap 1)) apC 2) ((slI 2 ap (F_l02Part ap 1) ((ap.length / 2 : Nat) : Int)).length / 2 : Nat) (apC - (Int.toNat (F_l02Part ap 1)))), (67, .bool false)]) ⟨rfl, rfl, rfl, rfl, trivial⟩; clear hE779
          refine p_tn ?_
          refine c_false hE780 rfl ?_
          refine c_seq ?_
          refine c_reg ?_
          refine q_step (v := .slice (subA apA (Int.toNat 1) apC 2) ((slI 2 ap 1 (F_l02Part ap 1)).length / 2 : Nat) (apC - (Int.toNat 1))) hE780 (y_move rfl) rfl rfl rfl ?_; intro a781 hE782; clear hE780
          refine q_step (v := .pointer (some (adr (subA apA (Int.toNat 1) apC 2) (Int.toNat 0 * 2)))) hE782 (y_idx (by kernel_rfl) (fun _ => by kernel_rfl) rfl rfl (RdS.isS (m := 0) (RdS.sub (St.rdR (i := 0) hS664 rfl) apC hv654.1 hv654.2.1 hv654.2.2 hv656.1 hv656.2 hv655 rfl) (by omega) (by omega)) (by omega) (by omega) rfl) rfl rfl rfl ?_; intro a783 hE784; clear hE782
          refine q_step (v := .pointer (some (adr (subA apA (Int.toNat 1) apC 2) ((Int.toNat 0 * 2) + 0)))) hE784 (y_fieldE (o := 0) (fun _ _ => by kernel_rfl) rfl) rfl rfl rfl ?_; intro a785 hE786; clear hE784
          refine q_step (v := .int .i64 (gS 2 0 (slI 2 ap 1 (F_l02Part ap 1)) 0)) hE786 (y_load (fun _ => by kernel_rfl) rfl (RdS.eltS (j := 0) (RdS.sub (St.rdR (i := 0) hS664 rfl) apC hv654.1 hv654.2.1 hv654.2.2 hv656.1 hv656.2 hv655 rfl) (by omega) (by omega) (by decide))) rfl rfl rfl ?_; intro a787 hE788; clear hE786
          refine q_step (v := .bool (decide ((gS 2 0 (slI 2 ap 1 (F_l02Part ap 1)) 0) = 1))) hE788 (y_eql rfl rfl) rfl rfl rfl ?_; intro a789 hE790; clear hE788
          refine q_step (v := .bool (decide ((gS 2 0 (slI 2 ap 1 (F_l02Part ap 1)) 0) = 1))) hE790 (y_move rfl) rfl rfl rfl ?_; intro a791 hE792; clear hE790
          have hE793 := hE792; rw [hb687] at hE793; clear hE792
          refine q_step (v := .slice (subA apA (Int.toNat (F_l02Part ap 1)) apC 2) ((slI 2 ap (F_l02Part ap 1) ((ap.length / 2 : Nat) : Int)).length / 2 : Nat) (apC - (Int.toNat (F_l02Part ap 1)))) hE793 (y_move rfl) rfl rfl rfl ?_; intro a794 hE795; clear hE793
          refine q_step (v := .pointer (some (adr (subA apA (Int.toNat (F_l02Part ap 1)) apC 2) (Int.toNat 0 * 2)))) hE795 (y_idx (by kernel_rfl) (fun _ => by kernel_rfl) rfl rfl (RdS.isS (m := 0) (RdS.sub (St.rdR (i := 0) hS664 rfl) apC hv666.1 hv666.2.1 hv666.2.2 hv668.1 hv668.2 hv667 rfl) (by omega) (by omega)) (by omega) (by omega) rfl) rfl rfl rfl ?_; intro a796 hE797; clear hE795
          refine q_step (v := .pointer (some (adr (subA apA (Int.toNat (F_l02Part ap 1)) apC 2) ((Int.toNat 0 * 2) + 0)))) hE797 (y_fieldE (o := 0) (fun _ _ => by kernel_rfl) rfl) rfl rfl rfl ?_; intro a798 hE799; clear hE797
          refine q_step (v := .int .i64 (gS 2 0 (slI 2 ap (F_l02Part ap 1) ((ap.length / 2 : Nat) : Int)) 0)) hE799 (y_load (fun _ => by kernel_rfl) rfl (RdS.eltS (j := 0) (RdS.sub (St.rdR (i := 0) hS664 rfl) apC hv666.1 hv666.2.1 hv666.2.2 hv668.1 hv668.2 hv667 rfl) (by omega) (by omega) (by decide))) rfl rfl rfl ?_; intro a800 hE801; clear hE799
          refine q_step (v := .bool (decide ((gS 2 0 (slI 2 ap (F_l02Part ap 1) ((ap.length / 2 : Nat) : Int)) 0) = 1))) hE801 (y_eql rfl rfl) rfl rfl rfl ?_; intro a802 hE803; clear hE801
          refine q_step (v := .bool (decide ((gS 2 0 (slI 2 ap (F_l02Part ap 1) ((ap.length / 2 : Nat) : Int)) 0) = 1))) hE803 (y_pick (b := true) rfl rfl) rfl rfl rfl ?_; intro a804 hE805; clear hE803
          refine q_step (v := .bool (decide ((gS 2 0 (slI 2 ap (F_l02Part ap 1) ((ap.length / 2 : Nat) : Int)) 0) = 1))) hE805 (y_assign rfl) rfl rfl rfl ?_; intro a806 hE807; clear hE805
          refine c_nil ?_
          have hE808 := hE807.sub (L' := [(1, .bool positive), (7, .slice (subA apA (Int.toNat 1) apC 2) ((slI 2 ap 1 (F_l02Part ap 1)).length / 2 : Nat) (apC - (Int.toNat 1))), (8, .slice (subA apA (Int.toNat (F_l02Part ap 1)) apC 2) ((slI 2 ap (F_l02Part ap 1) ((ap.length / 2 : Nat) : Int)).length / 2 : Nat) (apC - (Int.toNat (F_l02Part ap 1)))), (84, .bool (decide ((gS 2 0 (slI 2 ap (F_l02Part ap 1) ((ap.length / 2 : Nat) : Int)) 0) = 1)))]) ⟨rfl, rfl, rfl, rfl, trivial⟩; clear hE807
          refine p_tn ?_
          have hE809 := hE808; rw [hb704] at hE809; clear hE808
          refine c_false hE809 rfl ?_
          refine c_seq ?_
          refine c_reg ?_
          refine q_step (v := .slice (subA apA (Int.toNat (F_l02Part ap 1)) apC 2) ((slI 2 ap (F_l02Part ap 1) ((ap.length / 2 : Nat) : Int)).length / 2 : Nat) (apC - (Int.toNat (F_l02Part ap 1)))) hE809 (y_move rfl) rfl rfl rfl ?_; intro a810 hE811; clear hE809
          refine q_step (v := .pointer (some (adr (subA apA (Int.toNat (F_l02Part ap 1)) apC 2) (Int.toNat 0 * 2)))) hE811 (y_idx (by kernel_rfl) (fun _ => by kernel_rfl) rfl rfl (RdS.isS (m := 0) (RdS.sub (St.rdR (i := 0) hS664 rfl) apC hv666.1 hv666.2.1 hv666.2.2 hv668.1 hv668.2 hv667 rfl) (by omega) (by omega)) (by omega) (by omega) rfl) rfl rfl rfl ?_; intro a812 hE813; clear hE811
          refine q_step (v := .pointer (some (adr (subA apA (Int.toNat (F_l02Part ap 1)) apC 2) ((Int.toNat 0 * 2) + 0)))) hE813 (y_fieldE (o := 0) (fun _ _ => by kernel_rfl) rfl) rfl rfl rfl ?_; intro a814 hE815; clear hE813
          refine q_step (v := .int .i64 (gS 2 0 (slI 2 ap (F_l02Part ap 1) ((ap.length / 2 : Nat) : Int)) 0)) hE815 (y_load (fun _ => by kernel_rfl) rfl (RdS.eltS (j := 0) (RdS.sub (St.rdR (i := 0) hS664 rfl) apC hv666.1 hv666.2.1 hv666.2.2 hv668.1 hv668.2 hv667 rfl) (by omega) (by omega) (by decide))) rfl rfl rfl ?_; intro a816 hE817; clear hE815
          refine q_step (v := .bool (decide ((gS 2 0 (slI 2 ap (F_l02Part ap 1) ((ap.length / 2 : Nat) : Int)) 0) = 1))) hE817 (y_eql rfl rfl) rfl rfl rfl ?_; intro a818 hE819; clear hE817
          refine q_step (v := .bool (decide ((gS 2 0 (slI 2 ap (F_l02Part ap 1) ((ap.length / 2 : Nat) : Int)) 0) = 1))) hE819 (y_assign rfl) rfl rfl rfl ?_; intro a820 hE821; clear hE819
          refine c_nil ?_
          have hE822 := hE821.sub (L' := [(1, .bool positive), (7, .slice (subA apA (Int.toNat 1) apC 2) ((slI 2 ap 1 (F_l02Part ap 1)).length / 2 : Nat) (apC - (Int.toNat 1))), (8, .slice (subA apA (Int.toNat (F_l02Part ap 1)) apC 2) ((slI 2 ap (F_l02Part ap 1) ((ap.length / 2 : Nat) : Int)).length / 2 : Nat) (apC - (Int.toNat (F_l02Part ap 1)))), (98, .bool (decide ((gS 2 0 (slI 2 ap (F_l02Part ap 1) ((ap.length / 2 : Nat) : Int)) 0) = 1)))]) ⟨rfl, rfl, rfl, rfl, trivial⟩; clear hE821
          refine p_tn ?_
          have hE823 := hE822; rw [hb704] at hE823; clear hE822
          refine c_false hE823 rfl ?_
          refine c_seq ?_
          refine c_reg ?_
          refine q_step (v := .bool positive) hE823 (y_move rfl) rfl rfl rfl ?_; intro a824 hE825; clear hE823
          refine q_step (v := .bool positive) hE825 (y_assign rfl) rfl rfl rfl ?_; intro a826 hE827; clear hE825
          refine c_nil ?_
          have hE828 := hE827.sub (L' := [(7, .slice (subA apA (Int.toNat 1) apC 2) ((slI 2 ap 1 (F_l02Part ap 1)).length / 2 : Nat) (apC - (Int.toNat 1))), (8, .slice (subA apA (Int.toNat (F_l02Part ap 1)) apC 2) ((slI 2 ap (F_l02Part ap 1) ((ap.length / 2 : Nat) : Int)).length / 2 : Nat) (apC - (Int.toNat (F_l02Part ap 1)))), (108, .bool positive)]) ⟨rfl, rfl, rfl, trivial⟩; clear hE827
          refine p_tn ?_
          refine c_cond hE828 rfl (fun ht829 => ?_) (fun ht829 => ?_)
          ·
           have hE830 := hE828; rw [ht829] at hE830; clear hE828
           refine c_seq ?_
           refine c_reg ?_
           refine q_step (v := .slice (subA apA (Int.toNat 1) apC 2) ((slI 2 ap 1 (F_l02Part ap 1)).length / 2 : Nat) (apC - (Int.toNat 1))) hE830 (y_move rfl) rfl rfl rfl ?_; intro a831 hE832; clear hE830
           refine l_step hE832 rfl (l_call (f := 88) (argv := [.slice (subA apA (Int.toNat 1) apC 2) ((slI 2 ap 1 (F_l02Part ap 1)).length / 2 : Nat) (apC - (Int.toNat 1)), .bool false]) hE832 (fun _ => cf_l03Normal _ _) rfl rfl (ih (subA apA (Int.toNat 1) apC 2) ((slI 2 ap 1 (F_l02Part ap 1)).length / 2 : Nat) (apC - (Int.toNat 1)) (slI 2 ap 1 (F_l02Part ap 1)) false w661 (RdS.sub (St.rdR (i := 0) hS664 rfl) apC hv654.1 hv654.2.1 hv654.2.2 hv656.1 hv656.2 hv655 rfl) (Nat.le_trans (slI_le 2 _ _ _) hl) (by first | (with_reducible exact hbn.2.1.1) | (with_reducible exact hbn.2.1.2) | exact (IsFm.un hf (by omega)).1) (by first | (have h := hbn.2.2; omega) | (have h := (IsFm.un hf (by omega)).2; omega))) ?_)
           rintro _ w834 ⟨b839, c840, rfl, ho841, he838⟩ a835 hE836; clear hE832
           have hf842 := hpost (slI 2 ap 1 (F_l02Part ap 1)) false (Nat.le_trans (slI_le 2 _ _ _) hl) (by first | (with_reducible exact hbn.2.1.1) | (with_reducible exact hbn.2.1.2) | exact (IsFm.un hf (by omega)).1)
           have hS837 := St.own hS664 he838 ho841; clear hS664
           refine q_step (v := .slice (subA apA (Int.toNat (F_l02Part ap 1)) apC 2) ((slI 2 ap (F_l02Part ap 1) ((ap.length / 2 : Nat) : Int)).length / 2 : Nat) (apC - (Int.toNat (F_l02Part ap 1)))) hE836 (y_move rfl) rfl rfl rfl ?_; intro a843 hE844; clear hE836
           refine l_step hE844 rfl (l_call (f := 88) (argv := [.slice (subA apA (Int.toNat (F_l02Part ap 1)) apC 2) ((slI 2 ap (F_l02Part ap 1) ((ap.length / 2 : Nat) : Int)).length / 2 : Nat) (apC - (Int.toNat (F_l02Part ap 1))), .bool true]) hE844 (fun _ => cf_l03Normal _ _) rfl rfl (ih (subA apA (Int.toNat (F_l02Part ap 1)) apC 2) ((slI 2 ap (F_l02Part ap 1) ((ap.length / 2 : Nat) : Int)).length / 2 : Nat) (apC - (Int.toNat (F_l02Part ap 1))) (slI 2 ap (F_l02Part ap 1) ((ap.length / 2 : Nat) : Int)) true w834 (RdS.sub (St.rdR (i := 1) hS837 rfl) apC hv666.1 hv666.2.1 hv666.2.2 hv668.1 hv668.2 hv667 rfl) (Nat.le_trans (slI_le 2 _ _ _) hl) (by first | (with_reducible exact hbn.2.1.1) | (with_reducible exact hbn.2.1.2) | exact (IsFm.un hf (by omega)).1) (by first | (have h := hbn.2.2; omega) | (have h := (IsFm.un hf (by omega)).2; omega))) ?_)
           rintro _ w846 ⟨b851, c852, rfl, ho853, he850⟩ a847 hE848; clear hE844
           have hf854 := hpost (slI 2 ap (F_l02Part ap 1) ((ap.length / 2 : Nat) : Int)) true (Nat.le_trans (slI_le 2 _ _ _) hl) (by first | (with_reducible exact hbn.2.1.1) | (with_reducible exact hbn.2.1.2) | exact (IsFm.un hf (by omega)).1)
           have hS849 := St.own hS837 he850 ho853; clear hS837
           refine l_step hE848 rfl (l_call (f := 128) (argv := [.int .i64 3, .slice b839 ((self (slI 2 ap 1 (F_l02Part ap 1)) false).length / 2 : Nat) c840, .slice b851 ((self (slI 2 ap (F_l02Part ap 1) ((ap.length / 2 : Nat) : Int)) true).length / 2 : Nat) c852]) hE848 (fun _ => cf_l02Pair _ _) rfl rfl (c_l02Pair 3 b839 ((self (slI 2 ap 1 (F_l02Part ap 1)) false).length / 2 : Nat) c840 (self (slI 2 ap 1 (F_l02Part ap 1)) false) b851 ((self (slI 2 ap (F_l02Part ap 1) ((ap.length / 2 : Nat) : Int)) true).length / 2 : Nat) c852 (self (slI 2 ap (F_l02Part ap 1) ((ap.length / 2 : Nat) : Int)) true) w846 (St.rdO (i := 1) hS849 rfl) (St.rdO (i := 0) hS849 rfl) (by omega) (by omega)) ?_)
           rintro _ w856 ⟨b861, c862, rfl, ho863, he860⟩ a857 hE858; clear hE848
           have hf864 := l02Pair_len 3 (self (slI 2 ap 1 (F_l02Part ap 1)) false) (self (slI 2 ap (F_l02Part ap 1) ((ap.length / 2 : Nat) : Int)) true)
           have hS859 := St.own hS849 he860 ho863; clear hS849
           refine q_step (v := .slice b861 ((F_l02Pair 3 (self (slI 2 ap 1 (F_l02Part ap 1)) false) (self (slI 2 ap (F_l02Part ap 1) ((ap.length / 2 : Nat) : Int)) true)).length / 2 : Nat) c862) hE858 (y_assign rfl) rfl rfl rfl ?_; intro a865 hE866; clear hE858
           refine c_nil ?_
           have hE867 := hE866.sub (L' := [(4, .slice b861 ((F_l02Pair 3 (self (slI 2 ap 1 (F_l02Part ap 1)) false) (self (slI 2 ap (F_l02Part ap 1) ((ap.length / 2 : Nat) : Int)) true)).length / 2 : Nat) c862)]) ⟨rfl, trivial⟩; clear hE866
           refine p_tn ?_
           refine wp_ret ?_
           refine p_br ?_
           refine p_tr ?_
           have hF : F_l03Normal_b self ap positive = F_l02Pair 3 (self (slI 2 ap 1 (F_l02Part ap 1)) false) (self (slI 2 ap (F_l02Part ap 1) ((ap.length / 2 : Nat) : Int)) true) := by unfold F_l03Normal_b; rw [ht829, hb704, hb687, ht487, ht323, ht215, ht107, ht65, ht19]; first | done | rfl
           refine c_ret1 hE867 rfl rfl ?_
           exact ⟨b861, c862, (by rw [hF]; first | done | (dsimp only; done) | rfl), (by rw [hF]; (try dsimp only); exact hS859.ok 0 _ rfl), hS859.ext⟩
          ·
           have hE868 := hE828; rw [ht829] at hE868; clear hE828
           refine wp_skip ?_
           refine p_bn ?_
           refine p_tn ?_
           refine c_seq ?_
           refine c_reg ?_
           refine q_step (v := .slice (subA apA (Int.toNat 1) apC 2) ((slI 2 ap 1 (F_l02Part ap 1)).length / 2 : Nat) (apC - (Int.toNat 1))) hE868 (y_move rfl) rfl rfl rfl ?_; intro a869 hE870; clear hE868
           refine l_step hE870 rfl (l_call (f := 88) (argv := [.slice (subA apA (Int.toNat 1) apC 2) ((slI 2 ap 1 (F_l02Part ap 1)).length / 2 : Nat) (apC - (Int.toNat 1)), .bool true]) hE870 (fun _ => cf_l03Normal _ _) rfl rfl (ih (subA apA (Int.toNat 1) apC 2) ((slI 2 ap 1 (F_l02Part ap 1)).length / 2 : Nat) (apC - (Int.toNat 1)) (slI 2 ap 1 (F_l02Part ap 1)) true w661 (RdS.sub (St.rdR (i := 0) hS664 rfl) apC hv654.1 hv654.2.1 hv654.2.2 hv656.1 hv656.2 hv655 rfl) (Nat.le_trans (slI_le 2 _ _ _) hl) (by first | (with_reducible exact hbn.2.1.1) | (with_reducible exact hbn.2.1.2) | exact (IsFm.un hf (by omega)).1) (by first | (have h := hbn.2.2; omega) | (have h := (IsFm.un hf (by omega)).2; omega))) ?_)
           rintro _ w872 ⟨b877, c878, rfl, ho879, he876⟩ a873 hE874; clear hE870
           have hf880 := hpost (slI 2 ap 1 (F_l02Part ap 1)) true (Nat.le_trans (slI_le 2 _ _ _) hl) (by first | (with_reducible exact hbn.2.1.1) | (with_reducible exact hbn.2.1.2) | exact (IsFm.un hf (by omega)).1)
           have hS875 := St.own hS664 he876 ho879; clear hS664
           refine q_step (v := .slice (subA apA (Int.toNat (F_l02Part ap 1)) apC 2) ((slI 2 ap (F_l02Part ap 1) ((ap.length / 2 : Nat) : Int)).length / 2 : Nat) (apC - (Int.toNat (F_l02Part ap 1)))) hE874 (y_move rfl) rfl rfl rfl ?_; intro a881 hE882; clear hE874
           refine l_step hE882 rfl (l_call (f := 88) (argv := [.slice (subA apA (Int.toNat (F_l02Part ap 1)) apC 2) ((slI 2 ap (F_l02Part ap 1) ((ap.length / 2 : Nat) : Int)).length / 2 : Nat) (apC - (Int.toNat (F_l02Part ap 1))), .bool false]) hE882 (fun _ => cf_l03Normal _ _) rfl rfl (ih (subA apA (Int.toNat (F_l02Part ap 1)) apC 2) ((slI 2 ap (F_l02Part ap 1) ((ap.length / 2 : Nat) : Int)).length / 2 : Nat) (apC - (Int.toNat (F_l02Part ap 1))) (slI 2 ap (F_l02Part ap 1) ((ap.length / 2 : Nat) : Int)) false w872 (RdS.sub (St.rdR (i := 1) hS875 rfl) apC hv666.1 hv666.2.1 hv666.2.2 hv668.1 hv668.2 hv667 rfl) (Nat.le_trans (slI_le 2 _ _ _) hl) (by first | (with_reducible exact hbn.2.1.1) | (with_reducible exact hbn.2.1.2) | exact (IsFm.un hf (by omega)).1) (by first | (have h := hbn.2.2; omega) | (have h := (IsFm.un hf (by omega)).2; omega))) ?_)
           rintro _ w884 ⟨b889, c890, rfl, ho891, he888⟩ a885 hE886; clear hE882
           have hf892 := hpost (slI 2 ap (F_l02Part ap 1) ((ap.length / 2 : Nat) : Int)) false (Nat.le_trans (slI_le 2 _ _ _) hl) (by first | (with_reducible exact hbn.2.1.1) | (with_reducible exact hbn.2.1.2) | exact (IsFm.un hf (by omega)).1)
           have hS887 := St.own hS875 he888 ho891; clear hS875
           refine l_step hE886 rfl (l_call (f := 128) (argv := [.int .i64 2, .slice b877 ((self (slI 2 ap 1 (F_l02Part ap 1)) true).length / 2 : Nat) c878, .slice b889 ((self (slI 2 ap (F_l02Part ap 1) ((ap.length / 2 : Nat) : Int)) false).length / 2 : Nat) c890]) hE886 (fun _ => cf_l02Pair _ _) rfl rfl (c_l02Pair 2 b877 ((self (slI 2 ap 1 (F_l02Part ap 1)) true).length / 2 : Nat) c878 (self (slI 2 ap 1 (F_l02Part ap 1)) true) b889 ((self (slI 2 ap (F_l02Part ap 1) ((ap.length / 2 : Nat) : Int)) false).length / 2 : Nat) c890 (self (slI 2 ap (F_l02Part ap 1) ((ap.length / 2 : Nat) : Int)) false) w884 (St.rdO (i := 1) hS887 rfl) (St.rdO (i := 0) hS887 rfl) (by omega) (by omega)) ?_)
           rintro _ w894 ⟨b899, c900, rfl, ho901, he898⟩ a895 hE896; clear hE886
           have hf902 := l02Pair_len 2 (self (slI 2 ap 1 (F_l02Part ap 1)) true) (self (slI 2 ap (F_l02Part ap 1) ((ap.length / 2 : Nat) : Int)) false)
           have hS897 := St.own hS887 he898 ho901; clear hS887
           refine q_step (v := .slice b899 ((F_l02Pair 2 (self (slI 2 ap 1 (F_l02Part ap 1)) true) (self (slI 2 ap (F_l02Part ap 1) ((ap.length / 2 : Nat) : Int)) false)).length / 2 : Nat) c900) hE896 (y_assign rfl) rfl rfl rfl ?_; intro a903 hE904; clear hE896
           refine c_nil ?_
           have hE905 := hE904.sub (L' := [(4, .slice b899 ((F_l02Pair 2 (self (slI 2 ap 1 (F_l02Part ap 1)) true) (self (slI 2 ap (F_l02Part ap 1) ((ap.length / 2 : Nat) : Int)) false)).length / 2 : Nat) c900)]) ⟨rfl, trivial⟩; clear hE904
           refine p_tn ?_
           refine wp_ret ?_
           have hF : F_l03Normal_b self ap positive = F_l02Pair 2 (self (slI 2 ap 1 (F_l02Part ap 1)) true) (self (slI 2 ap (F_l02Part ap 1) ((ap.length / 2 : Nat) : Int)) false) := by unfold F_l03Normal_b; rw [ht829, hb704, hb687, ht487, ht323, ht215, ht107, ht65, ht19]; first | done | rfl
           refine c_ret1 hE905 rfl rfl ?_
           exact ⟨b899, c900, (by rw [hF]; first | done | (dsimp only; done) | rfl), (by rw [hF]; (try dsimp only); exact hS897.ok 0 _ rfl), hS897.ext⟩
        ·
         have hE906 := hE686; (try rw [hb687] at hE906); clear hE686
         have hp907 := of_decide_eq_false hb687
         refine q_skip hE906 rfl rfl rfl ?_; intro a908 hE909; clear hE906
         refine q_skip hE909 rfl rfl rfl ?_; intro a910 hE911; clear hE909
         refine q_skip hE911 rfl rfl rfl ?_; intro a912 hE913; clear hE911
         refine q_skip hE913 rfl rfl rfl ?_; intro a914 hE915; clear hE913
         refine q_skip hE915 rfl rfl rfl ?_; intro a916 hE917; clear hE915
         refine q_step (v := .bool false) hE917 (y_pick (b := false) rfl rfl) rfl rfl rfl ?_; intro a918 hE919; clear hE917
         refine q_step (v := .bool false) hE919 (y_move rfl) rfl rfl rfl ?_; intro a920 hE921; clear hE919
         refine q_skip hE921 rfl rfl rfl ?_; intro a922 hE923; clear hE921
         refine q_step (v := .bool false) hE923 (y_pick (b := false) rfl rfl) rfl rfl rfl ?_; intro a924 hE925; clear hE923
         refine q_step (v := .bool false) hE925 (y_assign rfl) rfl rfl rfl ?_; intro a926 hE927; clear hE925
         refine c_nil ?_
         have hE928 := hE927.sub (L' := [(1, .bool positive), (7, .slice (subA apA (Int.toNat 1) apC 2) ((slI 2 ap 1 (F_l02Part ap 1)).length / 2 : Nat) (apC - (Int.toNat 1))), (8, .slice (subA apA (Int.toNat (F_l02Part ap 1)) apC 2) ((slI 2 ap (F_l02Part ap 1) ((ap.length / 2 : Nat) : Int)).length / 2 : Nat) (apC - (Int.toNat (F_l02Part ap 1)))), (67, .bool false)]) ⟨rfl, rfl, rfl, rfl, trivial⟩; clear hE927
         refine p_tn ?_
         refine c_false hE928 rfl ?_
         refine c_seq ?_
         refine c_reg ?_
         refine q_step (v := .slice (subA apA (Int.toNat 1) apC 2) ((slI 2 ap 1 (F_l02Part ap 1)).length / 2 : Nat) (apC - (Int.toNat 1))) hE928 (y_move rfl) rfl rfl rfl ?_; intro a929 hE930; clear hE928
         refine q_step (v := .pointer (some (adr (subA apA (Int.toNat 1) apC 2) (Int.toNat 0 * 2)))) hE930 (y_idx (by kernel_rfl) (fun _ => by kernel_rfl) rfl rfl (RdS.isS (m := 0) (RdS.sub (St.rdR (i := 0) hS664 rfl) apC hv654.1 hv654.2.1 hv654.2.2 hv656.1 hv656.2 hv655 rfl) (by omega) (by omega)) (by omega) (by omega) rfl) rfl rfl rfl ?_; intro a931 hE932; clear hE930
         refine q_step (v := .pointer (some (adr (subA apA (Int.toNat 1) apC 2) ((Int.toNat 0 * 2) + 0)))) hE932 (y_fieldE (o := 0) (fun _ _ => by kernel_rfl) rfl) rfl rfl rfl ?_; intro a933 hE934; clear hE932
         refine q_step (v := .int .i64 (gS 2 0 (slI 2 ap 1 (F_l02Part ap 1)) 0)) hE934 (y_load (fun _ => by kernel_rfl) rfl (RdS.eltS (j := 0) (RdS.sub (St.rdR (i := 0) hS664 rfl) apC hv654.1 hv654.2.1 hv654.2.2 hv656.1 hv656.2 hv655 rfl) (by omega) (by omega) (by decide))) rfl rfl rfl ?_; intro a935 hE936; clear hE934
         refine q_step (v := .bool (decide ((gS 2 0 (slI 2 ap 1 (F_l02Part ap 1)) 0) = 1))) hE936 (y_eql rfl rfl) rfl rfl rfl ?_; intro a937 hE938; clear hE936
         refine q_step (v := .bool (decide ((gS 2 0 (slI 2 ap 1 (F_l02Part ap 1)) 0) = 1))) hE938 (y_move rfl) rfl rfl rfl ?_; intro a939 hE940; clear hE938
         have hE941 := hE940; rw [hb687] at hE941; clear hE940
         refine q_skip hE941 rfl rfl rfl ?_; intro a942 hE943; clear hE941
         refine q_skip hE943 rfl rfl rfl ?_; intro a944 hE945; clear hE943
         refine q_skip hE945 rfl rfl rfl ?_; intro a946 hE947; clear hE945
         refine q_skip hE947 rfl rfl rfl ?_; intro a948 hE949; clear hE947
         refine q_skip hE949 rfl rfl rfl ?_; intro a950 hE951; clear hE949
         refine q_step (v := .bool false) hE951 (y_pick (b := false) rfl rfl) rfl rfl rfl ?_; intro a952 hE953; clear hE951
         refine q_step (v := .bool false) hE953 (y_assign rfl) rfl rfl rfl ?_; intro a954 hE955; clear hE953
         refine c_nil ?_
         have hE956 := hE955.sub (L' := [(1, .bool positive), (7, .slice (subA apA (Int.toNat 1) apC 2) ((slI 2 ap 1 (F_l02Part ap 1)).length / 2 : Nat) (apC - (Int.toNat 1))), (8, .slice (subA apA (Int.toNat (F_l02Part ap 1)) apC 2) ((slI 2 ap (F_l02Part ap 1) ((ap.length / 2 : Nat) : Int)).length / 2 : Nat) (apC - (Int.toNat (F_l02Part ap 1)))), (84, .bool false)]) ⟨rfl, rfl, rfl, rfl, trivial⟩; clear hE955
         refine p_tn ?_
         refine c_false hE956 rfl ?_
         refine c_seq ?_
         refine c_reg ?_
         refine q_step (v := .slice (subA apA (Int.toNat (F_l02Part ap 1)) apC 2) ((slI 2 ap (F_l02Part ap 1) ((ap.length / 2 : Nat) : Int)).length / 2 : Nat) (apC - (Int.toNat (F_l02Part ap 1)))) hE956 (y_move rfl) rfl rfl rfl ?_; intro a957 hE958; clear hE956
         refine q_step (v := .pointer (some (adr (subA apA (Int.toNat (F_l02Part ap 1)) apC 2) (Int.toNat 0 * 2)))) hE958 (y_idx (by kernel_rfl) (fun _ => by kernel_rfl) rfl rfl (RdS.isS (m := 0) (RdS.sub (St.rdR (i := 0) hS664 rfl) apC hv666.1 hv666.2.1 hv666.2.2 hv668.1 hv668.2 hv667 rfl) (by omega) (by omega)) (by omega) (by omega) rfl) rfl rfl rfl ?_; intro a959 hE960; clear hE958
         refine q_step (v := .pointer (some (adr (subA apA (Int.toNat (F_l02Part ap 1)) apC 2) ((Int.toNat 0 * 2) + 0)))) hE960 (y_fieldE (o := 0) (fun _ _ => by kernel_rfl) rfl) rfl rfl rfl ?_; intro a961 hE962; clear hE960
         refine q_step (v := .int .i64 (gS 2 0 (slI 2 ap (F_l02Part ap 1) ((ap.length / 2 : Nat) : Int)) 0)) hE962 (y_load (fun _ => by kernel_rfl) rfl (RdS.eltS (j := 0) (RdS.sub (St.rdR (i := 0) hS664 rfl) apC hv666.1 hv666.2.1 hv666.2.2 hv668.1 hv668.2 hv667 rfl) (by omega) (by omega) (by decide))) rfl rfl rfl ?_; intro a963 hE964; clear hE962
         refine q_step (v := .bool (decide ((gS 2 0 (slI 2 ap (F_l02Part ap 1) ((ap.length / 2 : Nat) : Int)) 0) = 1))) hE964 (y_eql rfl rfl) rfl rfl rfl ?_; intro a965 hE966; clear hE964
         refine q_step (v := .bool (decide ((gS 2 0 (slI 2 ap (F_l02Part ap 1) ((ap.length / 2 : Nat) : Int)) 0) = 1))) hE966 (y_assign rfl) rfl rfl rfl ?_; intro a967 hE968; clear hE966
         refine c_nil ?_
         have hE969 := hE968.sub (L' := [(1, .bool positive), (7, .slice (subA apA (Int.toNat 1) apC 2) ((slI 2 ap 1 (F_l02Part ap 1)).length / 2 : Nat) (apC - (Int.toNat 1))), (8, .slice (subA apA (Int.toNat (F_l02Part ap 1)) apC 2) ((slI 2 ap (F_l02Part ap 1) ((ap.length / 2 : Nat) : Int)).length / 2 : Nat) (apC - (Int.toNat (F_l02Part ap 1)))), (98, .bool (decide ((gS 2 0 (slI 2 ap (F_l02Part ap 1) ((ap.length / 2 : Nat) : Int)) 0) = 1)))]) ⟨rfl, rfl, rfl, rfl, trivial⟩; clear hE968
         refine p_tn ?_
         refine c_cond hE969 rfl (fun ht970 => ?_) (fun ht970 => ?_)
         ·
          have hp971 := of_decide_eq_true ht970
          have hE972 := hE969; rw [ht970] at hE972; clear hE969
          refine c_seq ?_
          refine c_reg ?_
          refine q_step (v := .slice (subA apA (Int.toNat 1) apC 2) ((slI 2 ap 1 (F_l02Part ap 1)).length / 2 : Nat) (apC - (Int.toNat 1))) hE972 (y_move rfl) rfl rfl rfl ?_; intro a973 hE974; clear hE972
          refine q_step (v := .bool positive) hE974 (y_move rfl) rfl rfl rfl ?_; intro a975 hE976; clear hE974
          refine q_step (v := .bool (!positive)) hE976 (y_not rfl) rfl rfl rfl ?_; intro a977 hE978; clear hE976
          refine l_step hE978 rfl (l_call (f := 88) (argv := [.slice (subA apA (Int.toNat 1) apC 2) ((slI 2 ap 1 (F_l02Part ap 1)).length / 2 : Nat) (apC - (Int.toNat 1)), .bool (!positive)]) hE978 (fun _ => cf_l03Normal _ _) rfl rfl (ih (subA apA (Int.toNat 1) apC 2) ((slI 2 ap 1 (F_l02Part ap 1)).length / 2 : Nat) (apC - (Int.toNat 1)) (slI 2 ap 1 (F_l02Part ap 1)) (!positive) w661 (RdS.sub (St.rdR (i := 0) hS664 rfl) apC hv654.1 hv654.2.1 hv654.2.2 hv656.1 hv656.2 hv655 rfl) (Nat.le_trans (slI_le 2 _ _ _) hl) (by first | (with_reducible exact hbn.2.1.1) | (with_reducible exact hbn.2.1.2) | exact (IsFm.un hf (by omega)).1) (by first | (have h := hbn.2.2; omega) | (have h := (IsFm.un hf (by omega)).2; omega))) ?_)
          rintro _ w980 ⟨b985, c986, rfl, ho987, he984⟩ a981 hE982; clear hE978
          have hf988 := hpost (slI 2 ap 1 (F_l02Part ap 1)) (!positive) (Nat.le_trans (slI_le 2 _ _ _) hl) (by first | (with_reducible exact hbn.2.1.1) | (with_reducible exact hbn.2.1.2) | exact (IsFm.un hf (by omega)).1)
          have hS983 := St.own hS664 he984 ho987; clear hS664
          refine q_step (v := .slice b985 ((self (slI 2 ap 1 (F_l02Part ap 1)) (!positive)).length / 2 : Nat) c986) hE982 (y_assign rfl) rfl rfl rfl ?_; intro a989 hE990; clear hE982
          refine c_nil ?_
          have hE991 := hE990.sub (L' := [(4, .slice b985 ((self (slI 2 ap 1 (F_l02Part ap 1)) (!positive)).length / 2 : Nat) c986)]) ⟨rfl, trivial⟩; clear hE990
          refine p_tn ?_
          refine wp_ret ?_
          refine p_br ?_
          refine p_tr ?_
          have hF : F_l03Normal_b self ap positive = self (slI 2 ap 1 (F_l02Part ap 1)) (!positive) := by unfold F_l03Normal_b; rw [ht970, hb687, ht487, ht323, ht215, ht107, ht65, ht19]; first | done | rfl
          refine c_ret1 hE991 rfl rfl ?_
          exact ⟨b985, c986, (by rw [hF]; first | done | (dsimp only; done) | rfl), (by rw [hF]; (try dsimp only); exact hS983.ok 0 _ rfl), hS983.ext⟩
         ·
          have hp992 := of_decide_eq_false ht970
          have hE993 := hE969; rw [ht970] at hE993; clear hE969
          refine c_seq ?_
          refine c_reg ?_
          refine q_step (v := .bool positive) hE993 (y_move rfl) rfl rfl rfl ?_; intro a994 hE995; clear hE993
          refine q_step (v := .bool positive) hE995 (y_assign rfl) rfl rfl rfl ?_; intro a996 hE997; clear hE995
          refine c_nil ?_
          have hE998 := hE997.sub (L' := [(7, .slice (subA apA (Int.toNat 1) apC 2) ((slI 2 ap 1 (F_l02Part ap 1)).length / 2 : Nat) (apC - (Int.toNat 1))), (8, .slice (subA apA (Int.toNat (F_l02Part ap 1)) apC 2) ((slI 2 ap (F_l02Part ap 1) ((ap.length / 2 : Nat) : Int)).length / 2 : Nat) (apC - (Int.toNat (F_l02Part ap 1)))), (108, .bool positive)]) ⟨rfl, rfl, rfl, trivial⟩; clear hE997
          refine p_tn ?_
          refine c_cond hE998 rfl (fun ht999 => ?_) (fun ht999 => ?_)
          ·
           have hE1000 := hE998; rw [ht999] at hE1000; clear hE998
           refine c_seq ?_
           refine c_reg ?_
           refine q_step (v := .slice (subA apA (Int.toNat 1) apC 2) ((slI 2 ap 1 (F_l02Part ap 1)).length / 2 : Nat) (apC - (Int.toNat 1))) hE1000 (y_move rfl) rfl rfl rfl ?_; intro a1001 hE1002; clear hE1000
           refine l_step hE1002 rfl (l_call (f := 88) (argv := [.slice (subA apA (Int.toNat 1) apC 2) ((slI 2 ap 1 (F_l02Part ap 1)).length / 2 : Nat) (apC - (Int.toNat 1)), .bool false]) hE1002 (fun _ => cf_l03Normal _ _) rfl rfl (ih (subA apA (Int.toNat 1) apC 2) ((slI 2 ap 1 (F_l02Part ap 1)).length / 2 : Nat) (apC - (Int.toNat 1)) (slI 2 ap 1 (F_l02Part ap 1)) false w661 (RdS.sub (St.rdR (i := 0) hS664 rfl) apC hv654.1 hv654.2.1 hv654.2.2 hv656.1 hv656.2 hv655 rfl) (Nat.le_trans (slI_le 2 _ _ _) hl) (by first | (with_reducible exact hbn.2.1.1) | (with_reducible exact hbn.2.1.2) | exact (IsFm.un hf (by omega)).1) (by first | (have h := hbn.2.2; omega) | (have h := (IsFm.un hf (by omega)).2; omega))) ?_)
           rintro _ w1004 ⟨b1009, c1010, rfl, ho1011, he1008⟩ a1005 hE1006; clear hE1002
           have hf1012 := hpost (slI 2 ap 1 (F_l02Part ap 1)) false (Nat.le_trans (slI_le 2 _ _ _) hl) (by first | (with_reducible exact hbn.2.1.1) | (with_reducible exact hbn.2.1.2) | exact (IsFm.un hf (by omega)).1)
           have hS1007 := St.own hS664 he1008 ho1011; clear hS664
           refine q_step (v := .slice (subA apA (Int.toNat (F_l02Part ap 1)) apC 2) ((slI 2 ap (F_l02Part ap 1) ((ap.length / 2 : Nat) : Int)).length / 2 : Nat) (apC - (Int.toNat (F_l02Part ap 1)))) hE1006 (y_move rfl) rfl rfl rfl ?_; intro a1013 hE1014; clear hE1006
           refine l_step hE1014 rfl (l_call (f := 88) (argv := [.slice (subA apA (Int.toNat (F_l02Part ap 1)) apC 2) ((slI 2 ap (F_l02Part ap 1) ((ap.length / 2 : Nat) : Int)).length / 2 : Nat) (apC - (Int.toNat (F_l02Part ap 1))), .bool true]) hE1014 (fun _ => cf_l03Normal _ _) rfl rfl (ih (subA apA (Int.toNat (F_l02Part ap 1)) apC 2) ((slI 2 ap (F_l02Part ap 1) ((ap.length / 2 : Nat) : Int)).length / 2 : Nat) (apC - (Int.toNat (F_l02Part ap 1))) (slI 2 ap (F_l02Part ap 1) ((ap.length / 2 : Nat) : Int)) true w1004 (RdS.sub (St.rdR (i := 1) hS1007 rfl) apC hv666.1 hv666.2.1 hv666.2.2 hv668.1 hv668.2 hv667 rfl) (Nat.le_trans (slI_le 2 _ _ _) hl) (by first | (with_reducible exact hbn.2.1.1) | (with_reducible exact hbn.2.1.2) | exact (IsFm.un hf (by omega)).1) (by first | (have h := hbn.2.2; omega) | (have h := (IsFm.un hf (by omega)).2; omega))) ?_)
           rintro _ w1016 ⟨b1021, c1022, rfl, ho1023, he1020⟩ a1017 hE1018; clear hE1014
           have hf1024 := hpost (slI 2 ap (F_l02Part ap 1) ((ap.length / 2 : Nat) : Int)) true (Nat.le_trans (slI_le 2 _ _ _) hl) (by first | (with_reducible exact hbn.2.1.1) | (with_reducible exact hbn.2.1.2) | exact (IsFm.un hf (by omega)).1)
           have hS1019 := St.own hS1007 he1020 ho1023; clear hS1007
           refine l_step hE1018 rfl (l_call (f := 128) (argv := [.int .i64 3, .slice b1009 ((self (slI 2 ap 1 (F_l02Part ap 1)) false).length / 2 : Nat) c1010, .slice b1021 ((self (slI 2 ap (F_l02Part ap 1) ((ap.length / 2 : Nat) : Int)) true).length / 2 : Nat) c1022]) hE1018 (fun _ => cf_l02Pair _ _) rfl rfl (c_l02Pair 3 b1009 ((self (slI 2 ap 1 (F_l02Part ap 1)) false).length / 2 : Nat) c1010 (self (slI 2 ap 1 (F_l02Part ap 1)) false) b1021 ((self (slI 2 ap (F_l02Part ap 1) ((ap.length / 2 : Nat) : Int)) true).length / 2 : Nat) c1022 (self (slI 2 ap (F_l02Part ap 1) ((ap.length / 2 : Nat) : Int)) true) w1016 (St.rdO (i := 1) hS1019 rfl) (St.rdO (i := 0) hS1019 rfl) (by omega) (by omega)) ?_)
           rintro _ w1026 ⟨b1031, c1032, rfl, ho1033, he1030⟩ a1027 hE1028; clear hE1018
           have hf1034 := l02Pair_len 3 (self (slI 2 ap 1 (F_l02Part ap 1)) false) (self (slI 2 ap (F_l02Part ap 1) ((ap.length / 2 : Nat) : Int)) true)
           have hS1029 := St.own hS1019 he1030 ho1033; clear hS1019
           refine q_step (v := .slice b1031 ((F_l02Pair 3 (self (slI 2 ap 1 (F_l02Part ap 1)) false) (self (slI 2 ap (F_l02Part ap 1) ((ap.length / 2 : Nat) : Int)) true)).length / 2 : Nat) c1032) hE1028 (y_assign rfl) rfl rfl rfl ?_; intro a1035 hE1036; clear hE1028
           refine c_nil ?_
           have hE1037 := hE1036.sub (L' := [(4, .slice b1031 ((F_l02Pair 3 (self (slI 2 ap 1 (F_l02Part ap 1)) false) (self (slI 2 ap (F_l02Part ap 1) ((ap.length / 2 : Nat) : Int)) true)).length / 2 : Nat) c1032)]) ⟨rfl, trivial⟩; clear hE1036
           refine p_tn ?_
           refine wp_ret ?_
           refine p_br ?_
           refine p_tr ?_
           have hF : F_l03Normal_b self ap positive = F_l02Pair 3 (self (slI 2 ap 1 (F_l02Part ap 1)) false) (self (slI 2 ap (F_l02Part ap 1) ((ap.length / 2 : Nat) : Int)) true) := by unfold F_l03Normal_b; rw [ht999, ht970, hb687, ht487, ht323, ht215, ht107, ht65, ht19]; first | done | rfl
           refine c_ret1 hE1037 rfl rfl ?_
           exact ⟨b1031, c1032, (by rw [hF]; first | done | (dsimp only; done) | rfl), (by rw [hF]; (try dsimp only); exact hS1029.ok 0 _ rfl), hS1029.ext⟩
          ·
           have hE1038 := hE998; rw [ht999] at hE1038; clear hE998
           refine wp_skip ?_
           refine p_bn ?_
           refine p_tn ?_
           refine c_seq ?_
           refine c_reg ?_
           refine q_step (v := .slice (subA apA (Int.toNat 1) apC 2) ((slI 2 ap 1 (F_l02Part ap 1)).length / 2 : Nat) (apC - (Int.toNat 1))) hE1038 (y_move rfl) rfl rfl rfl ?_; intro a1039 hE1040; clear hE1038
           refine l_step hE1040 rfl (l_call (f := 88) (argv := [.slice (subA apA (Int.toNat 1) apC 2) ((slI 2 ap 1 (F_l02Part ap 1)).length / 2 : Nat) (apC - (Int.toNat 1)), .bool true]) hE1040 (fun _ => cf_l03Normal _ _) rfl rfl (ih (subA apA (Int.toNat 1) apC 2) ((slI 2 ap 1 (F_l02Part ap 1)).length / 2 : Nat) (apC - (Int.toNat 1)) (slI 2 ap 1 (F_l02Part ap 1)) true w661 (RdS.sub (St.rdR (i := 0) hS664 rfl) apC hv654.1 hv654.2.1 hv654.2.2 hv656.1 hv656.2 hv655 rfl) (Nat.le_trans (slI_le 2 _ _ _) hl) (by first | (with_reducible exact hbn.2.1.1) | (with_reducible exact hbn.2.1.2) | exact (IsFm.un hf (by omega)).1) (by first | (have h := hbn.2.2; omega) | (have h := (IsFm.un hf (by omega)).2; omega))) ?_)
           rintro _ w1042 ⟨b1047, c1048, rfl, ho1049, he1046⟩ a1043 hE1044; clear hE1040
           have hf1050 := hpost (slI 2 ap 1 (F_l02Part ap 1)) true (Nat.le_trans (slI_le 2 _ _ _) hl) (by first | (with_reducible exact hbn.2.1.1) | (with_reducible exact hbn.2.1.2) | exact (IsFm.un hf (by omega)).1)
           have hS1045 := St.own hS664 he1046 ho1049; clear hS664
           refine q_step (v := .slice (subA apA (Int.toNat (F_l02Part ap 1)) apC 2) ((slI 2 ap (F_l02Part ap 1) ((ap.length / 2 : Nat) : Int)).length / 2 : Nat) (apC - (Int.toNat (F_l02Part ap 1)))) hE1044 (y_move rfl) rfl rfl rfl ?_; intro a1051 hE1052; clear hE1044
           refine l_step hE1052 rfl (l_call (f := 88) (argv := [.slice (subA apA (Int.toNat (F_l02Part ap 1)) apC 2) ((slI 2 ap (F_l02Part ap 1) ((ap.length / 2 : Nat) : Int)).length / 2 : Nat) (apC - (Int.toNat (F_l02Part ap 1))), .bool false]) hE1052 (fun _ => cf_l03Normal _ _) rfl rfl (ih (subA apA (Int.toNat (F_l02Part ap 1)) apC 2) ((slI 2 ap (F_l02Part ap 1) ((ap.length / 2 : Nat) : Int)).length / 2 : Nat) (apC - (Int.toNat (F_l02Part ap 1))) (slI 2 ap (F_l02Part ap 1) ((ap.length / 2 : Nat) : Int)) false w1042 (RdS.sub (St.rdR (i := 1) hS1045 rfl) apC hv666.1 hv666.2.1 hv666.2.2 hv668.1 hv668.2 hv667 rfl) (Nat.le_trans (slI_le 2 _ _ _) hl) (by first | (with_reducible exact hbn.2.1.1) | (with_reducible exact hbn.2.1.2) | exact (IsFm.un hf (by omega)).1) (by first | (have h := hbn.2.2; omega) | (have h := (IsFm.un hf (by omega)).2; omega))) ?_)
           rintro _ w1054 ⟨b1059, c1060, rfl, ho1061, he1058⟩ a1055 hE1056; clear hE1052
           have hf1062 := hpost (slI 2 ap (F_l02Part ap 1) ((ap.length / 2 : Nat) : Int)) false (Nat.le_trans (slI_le 2 _ _ _) hl) (by first | (with_reducible exact hbn.2.1.1) | (with_reducible exact hbn.2.1.2) | exact (IsFm.un hf (by omega)).1)
           have hS1057 := St.own hS1045 he1058 ho1061; clear hS1045
           refine l_step hE1056 rfl (l_call (f := 128) (argv := [.int .i64 2, .slice b1047 ((self (slI 2 ap 1 (F_l02Part ap 1)) true).length / 2 : Nat) c1048, .slice b1059 ((self (slI 2 ap (F_l02Part ap 1) ((ap.length / 2 : Nat) : Int)) false).length / 2 : Nat) c1060]) hE1056 (fun _ => cf_l02Pair _ _) rfl rfl (c_l02Pair 2 b1047 ((self (slI 2 ap 1 (F_l02Part ap 1)) true).length / 2 : Nat) c1048 (self (slI 2 ap 1 (F_l02Part ap 1)) true) b1059 ((self (slI 2 ap (F_l02Part ap 1) ((ap.length / 2 : Nat) : Int)) false).length / 2 : Nat) c1060 (self (slI 2 ap (F_l02Part ap 1) ((ap.length / 2 : Nat) : Int)) false) w1054 (St.rdO (i := 1) hS1057 rfl) (St.rdO (i := 0) hS1057 rfl) (by omega) (by omega)) ?_)
           rintro _ w1064 ⟨b1069, c1070, rfl, ho1071, he1068⟩ a1065 hE1066; clear hE1056
           have hf1072 := l02Pair_len 2 (self (slI 2 ap 1 (F_l02Part ap 1)) true) (self (slI 2 ap (F_l02Part ap 1) ((ap.length / 2 : Nat) : Int)) false)
           have hS1067 := St.own hS1057 he1068 ho1071; clear hS1057
           refine q_step (v := .slice b1069 ((F_l02Pair 2 (self (slI 2 ap 1 (F_l02Part ap 1)) true) (self (slI 2 ap (F_l02Part ap 1) ((ap.length / 2 : Nat) : Int)) false)).length / 2 : Nat) c1070) hE1066 (y_assign rfl) rfl rfl rfl ?_; intro a1073 hE1074; clear hE1066
           refine c_nil ?_
           have hE1075 := hE1074.sub (L' := [(4, .slice b1069 ((F_l02Pair 2 (self (slI 2 ap 1 (F_l02Part ap 1)) true) (self (slI 2 ap (F_l02Part ap 1) ((ap.length / 2 : Nat) : Int)) false)).length / 2 : Nat) c1070)]) ⟨rfl, trivial⟩; clear hE1074
           refine p_tn ?_
           refine wp_ret ?_
           have hF : F_l03Normal_b self ap positive = F_l02Pair 2 (self (slI 2 ap 1 (F_l02Part ap 1)) true) (self (slI 2 ap (F_l02Part ap 1) ((ap.length / 2 : Nat) : Int)) false) := by unfold F_l03Normal_b; rw [ht999, ht970, hb687, ht487, ht323, ht215, ht107, ht65, ht19]; first | done | rfl
           refine c_ret1 hE1075 rfl rfl ?_
           exact ⟨b1069, c1070, (by rw [hF]; first | done | (dsimp only; done) | rfl), (by rw [hF]; (try dsimp only); exact hS1067.ok 0 _ rfl), hS1067.ext⟩
theorem c_l03Normal_r : ∀ (r : Nat) (apA : Option Addr) (apN apC : Nat) (ap : List Int) (positive : Bool) (w : World) (apR : RdS w 2 apA apN apC ap) (hl : ap.length ≤ 100) (hf : IsFm ap) (hlt : ap.length < r), Calls Try.prog 88 #[.slice apA apN apC, .bool positive] w (Ret fun v w' => ∃ b1 : Option Addr, ∃ c1 : Nat, v = .slice b1 (((F_l03Normal_r r) ap positive).length / 2 : Nat) c1 ∧ OwnS w' w.heap.size 94 2 b1 (((F_l03Normal_r r) ap positive).length / 2 : Nat) c1 ((F_l03Normal_r r) ap positive) ∧ Ext w w') := by
  intro r
  induction r with
  | zero => intros; omega
  | succ r ih =>
    intro apA apN apC ap positive w apR hl hf hlt
    exact cb_l03Normal (F_l03Normal_r r) (norLen r) apA apN apC ap positive w apR hl hf ap.length rfl (fun apA apN apC ap positive w apR hl hf hdec => ih apA apN apC ap positive w apR hl hf (by omega))
theorem c_l03Normal (apA : Option Addr) (apN apC : Nat) (ap : List Int) (positive : Bool) (w : World) (apR : RdS w 2 apA apN apC ap) (hl : ap.length ≤ 100) (hf : IsFm ap) :
    Calls Try.prog 88 #[.slice apA apN apC, .bool positive] w (Ret fun v w' => ∃ b1 : Option Addr, ∃ c1 : Nat, v = .slice b1 ((F_l03Normal ap positive).length / 2 : Nat) c1 ∧ OwnS w' w.heap.size 94 2 b1 ((F_l03Normal ap positive).length / 2 : Nat) c1 (F_l03Normal ap positive) ∧ Ext w w') := c_l03Normal_r (ap.length + 1) apA apN apC ap positive w apR hl hf (Nat.lt_succ_self _)

end Go.Proofs.Ytkilkfhjfobcdaa
