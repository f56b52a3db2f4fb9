/- GW: models and contracts, printed by wip/gen/gen.py -/
import Derived.Test.YtlbonhloeefnmaaKDWGQ
set_option linter.unusedVariables false
set_option linter.unusedSimpArgs false
namespace Go.Proofs.Ytlbonhloeefnmaa
open Go.RowKit
theorem tr2_len (ap : List Int) (k : Int) (r : Nat) (i : Int) (b : List Int) : (F_transitive_L2 ap k r i b).2.length = b.length := by
  induction r generalizing i b with
  | zero => rfl
  | succ r ih =>
    show (F_transitive_L2b ap k _ i b).2.length = _
    unfold F_transitive_L2b
    cases decide (i < (ap.length : Int))
    · rfl
    · rw [cond_true, ih]
      cases F_has (gI b i) k
      · rfl
      · rw [cond_true, sI_len]
theorem tr1_len (ap : List Int) (r : Nat) (i : Int) (b : List Int) : (F_transitive_L1 ap r i b).2.length = b.length := by
  induction r generalizing i b with
  | zero => rfl
  | succ r ih =>
    show (F_transitive_L1b ap _ i b).2.length = _
    unfold F_transitive_L1b
    cases decide (i < (ap.length : Int))
    · rfl
    · rw [cond_true, ih, tr2_len]
theorem transitive_len (ap : List Int) : (F_transitive ap).length = ap.length := tr1_len ap _ _ ap
theorem rf_len (ap : List Int) (r : Nat) (i : Int) (b : List Int) : (F_reflexive_L1 ap r i b).2.length = b.length := by
  induction r generalizing i b with
  | zero => rfl
  | succ r ih =>
    show (F_reflexive_L1b ap _ i b).2.length = _
    unfold F_reflexive_L1b
    cases decide (i < (ap.length : Int))
    · rfl
    · rw [cond_true, ih, sI_len]
theorem reflexive_len (ap : List Int) : (F_reflexive ap).length = ap.length := rf_len ap _ _ ap
theorem gI_sI {xs : List Int} {i : Nat} {v : Int} (h : i < xs.length) (j : Nat) : gI (sI xs (i : Int) v) (j : Int) = if i = j then v else gI xs (j : Int) := by
  unfold sI gI
  rw [Int.toNat_natCast, Int.toNat_natCast, gi_set h]
theorem Rl.set {n : Nat} {a : List Int} (h : Rl n a) {i : Nat} (hi : i < n) {v : Int} (hv : Mk n v) : Rl n (sI a (i : Int) v) := by
  refine ⟨by rw [sI_len]; exact h.1, fun j hj => ?_⟩
  rw [gI_sI (by rw [h.1]; exact hi)]
  by_cases e : i = j
  · rw [if_pos e]; exact hv
  · rw [if_neg e]; exact h.2 j hj
theorem rb_set {n : Nat} {a : List Int} (h : Rl n a) {i : Nat} (hi : i < n) (v : Int) (j k : Nat) : rb (sI a (i : Int) v) j k = if i = j then tb v k else rb a j k := by
  unfold rb
  rw [gI_sI (by rw [h.1]; exact hi)]
  by_cases e : i = j
  · rw [if_pos e, if_pos e]
  · rw [if_neg e, if_neg e]
theorem tr2_key {n : Nat} (hn : n ≤ 30) (ap : List Int) (hap : ap.length = n) (k : Nat) (hk : k < n) (a : List Int) (ha : Rl n a) : ∀ (d i : Nat) (b : List Int), i + d = n → Rl n b →
    (∀ x j, x < i → rb b x j = (rb a x j || (rb a x k && rb a k j))) → (∀ x j, i ≤ x → rb b x j = rb a x j) →
    Rl n (F_transitive_L2 ap (k : Int) (d + 1) (i : Int) b).2 ∧ ∀ x j, x < n → rb (F_transitive_L2 ap (k : Int) (d + 1) (i : Int) b).2 x j = (rb a x j || (rb a x k && rb a k j)) := by
  intro d
  induction d with
  | zero =>
    intro i b hi hb h1 h2
    show Rl n (F_transitive_L2b ap _ _ _ b).2 ∧ ∀ x j, x < n → rb (F_transitive_L2b ap _ _ _ b).2 x j = _
    unfold F_transitive_L2b
    rw [decide_eq_false (by omega), cond_false]
    exact ⟨hb, fun x j hx => h1 x j (by omega)⟩
  | succ d ih =>
    intro i b hi hb h1 h2
    show Rl n (F_transitive_L2b ap _ _ _ b).2 ∧ ∀ x j, x < n → rb (F_transitive_L2b ap _ _ _ b).2 x j = _
    unfold F_transitive_L2b
    rw [decide_eq_true (by omega), cond_true, show (i : Int) + 1 = ((i + 1 : Nat) : Int) by omega]
    have hbk : ∀ j, rb b k j = rb a k j := fun j => by
      by_cases e : i ≤ k
      · exact h2 k j e
      · rw [h1 k j (by omega)]
        cases rb a k k <;> cases rb a k j <;> rfl
    have hbi : rb b i k = rb a i k := h2 i k (by omega)
    have hh : F_has (gI b (i : Int)) (k : Int) = rb a i k := by rw [tb_has (by omega) (hb.2 i (by omega)) (by omega)]; exact hbi
    rw [hh]
    cases hc : rb a i k
    · rw [cond_false]
      refine ih (i + 1) b (by omega) hb (fun x j hx => ?_) (fun x j hx => h2 x j (by omega))
      by_cases e : x = i
      · subst e; rw [h2 x j (by omega), hc]; simp
      · exact h1 x j (by omega)
    · rw [cond_true]
      obtain ⟨hm, ht⟩ := Mk.or (by omega) (hb.2 i (by omega)) (hb.2 k hk)
      refine ih (i + 1) _ (by omega) (hb.set (by omega) hm) (fun x j hx => ?_) (fun x j hx => ?_)
      · rw [rb_set hb (by omega)]
        by_cases e : i = x
        · subst e
          rw [if_pos rfl, ht j, hc, Bool.true_and]
          show (rb b i j || rb b k j) = _
          rw [h2 i j (by omega), hbk j]
        · rw [if_neg e]; exact h1 x j (by omega)
      · rw [rb_set hb (by omega), if_neg (by omega)]; exact h2 x j (by omega)
/-- What a transitive closure is: it holds a, is closed, and lies in every set that a keeps. -/
structure Tc (n : Nat) (a c : List Int) : Prop where
  rel : Rl n c
  sup : ∀ i j, i < n → rb a i j = true → rb c i j = true
  tra : ∀ i k j, i < n → rb c i k = true → rb c k j = true → rb c i j = true
  sub : ∀ S : Nat → Prop, (∀ i j, i < n → S i → rb a i j = true → S j) → ∀ i j, i < n → S i → rb c i j = true → S j
theorem tr1_key {n : Nat} (hn : n ≤ 30) (a : List Int) (hl : a.length = n) : ∀ (d k : Nat) (b : List Int), k + d = n → Rl n b → (∀ i j, i < n → rb a i j = true → rb b i j = true) →
    (∀ i m j, i < n → m < k → rb b i m = true → rb b m j = true → rb b i j = true) →
    (∀ S : Nat → Prop, (∀ i j, i < n → S i → rb a i j = true → S j) → ∀ i j, i < n → S i → rb b i j = true → S j) →
    Tc n a (F_transitive_L1 a (d + 1) (k : Int) b).2 := by
  intro d
  induction d with
  | zero =>
    intro k b hk hb h1 h2 h3
    show Tc n a (F_transitive_L1b a _ _ b).2
    unfold F_transitive_L1b
    rw [decide_eq_false (by omega), cond_false]
    refine ⟨hb, h1, fun i m j hi him hmj => ?_, h3⟩
    have hm : m < n := tb_lt (hb.2 i hi) him
    exact h2 i m j hi (by omega) him hmj
  | succ d ih =>
    intro k b hk hb h1 h2 h3
    show Tc n a (F_transitive_L1b a _ _ b).2
    unfold F_transitive_L1b
    rw [decide_eq_true (by omega), cond_true, show (k : Int) + 1 = ((k + 1 : Nat) : Int) by omega, show Int.toNat ((a.length : Int) - 0) = n by omega]
    obtain ⟨h4, h5⟩ := tr2_key hn a hl k (by omega) b hb n 0 b (by omega) hb (fun x j hx => by omega) (fun x j _ => rfl)
    have hkn : k < n := by omega
    refine ih (k + 1) _ (by omega) h4 (fun i j hi hij => ?_) (fun i m j hi hm him hmj => ?_) (fun S hS i j hi hSi hij => ?_)
    · have := h5 i j hi
      rw [h1 i j hi hij, Bool.true_or] at this
      exact this
    · have hmn : m < n := by omega
      have e1 := (h5 i m hi).symm.trans him
      have e2 := (h5 m j hmn).symm.trans hmj
      refine (h5 i j hi).trans ?_
      rw [Bool.or_eq_true, Bool.and_eq_true] at e1 e2 ⊢
      by_cases e : m = k
      · subst e
        have a1 : rb b i m = true := e1.elim id fun h => h.1
        have a2 : rb b m j = true := e2.elim id fun h => h.2
        exact .inr ⟨a1, a2⟩
      · have hmk : m < k := by omega
        rcases e1 with a1 | ⟨a1, a2⟩
        · rcases e2 with b1 | ⟨b1, b2⟩
          · exact .inl (h2 i m j hi hmk a1 b1)
          · exact .inr ⟨h2 i m k hi hmk a1 b1, b2⟩
        · rcases e2 with b1 | ⟨b1, b2⟩
          · exact .inr ⟨a1, h2 k m j hkn hmk a2 b1⟩
          · exact .inr ⟨a1, b2⟩
    · have e := (h5 i j hi).symm.trans hij
      rw [Bool.or_eq_true, Bool.and_eq_true] at e
      rcases e with e | ⟨e1, e2⟩
      · exact h3 S hS i j hi hSi e
      · exact h3 S hS k j hkn (h3 S hS i k hi hSi e1) e2
theorem transitive_tc {n : Nat} (hn : n ≤ 30) {a : List Int} (ha : Rl n a) : Tc n a (F_transitive a) := by
  unfold F_transitive
  have hl := ha.1
  rw [show Int.toNat ((a.length : Int) - 0) = n by omega]
  exact tr1_key hn a hl n 0 a (by omega) ha (fun _ _ _ h => h) (fun _ m _ _ hm => by omega) (fun S hS i j hi h1 h2 => hS i j hi h1 h2)
theorem rf_key {n : Nat} (hn : n ≤ 30) (ap : List Int) (hap : ap.length = n) (a : List Int) (ha : Rl n a) : ∀ (d i : Nat) (b : List Int), i + d = n → Rl n b →
    (∀ x j, x < i → rb b x j = (rb a x j || decide (x = j))) → (∀ x j, i ≤ x → rb b x j = rb a x j) →
    Rl n (F_reflexive_L1 ap (d + 1) (i : Int) b).2 ∧ ∀ x j, x < n → rb (F_reflexive_L1 ap (d + 1) (i : Int) b).2 x j = (rb a x j || decide (x = j)) := by
  intro d
  induction d with
  | zero =>
    intro i b hi hb h1 h2
    show Rl n (F_reflexive_L1b ap _ _ b).2 ∧ ∀ x j, x < n → rb (F_reflexive_L1b ap _ _ b).2 x j = _
    unfold F_reflexive_L1b
    rw [decide_eq_false (by omega), cond_false]
    exact ⟨hb, fun x j hx => h1 x j (by omega)⟩
  | succ d ih =>
    intro i b hi hb h1 h2
    show Rl n (F_reflexive_L1b ap _ _ b).2 ∧ ∀ x j, x < n → rb (F_reflexive_L1b ap _ _ b).2 x j = _
    unfold F_reflexive_L1b
    rw [decide_eq_true (by omega), cond_true, show (i : Int) + 1 = ((i + 1 : Nat) : Int) by omega, pow_shl (i := (i : Int)) (by omega) (by omega)]
    obtain ⟨hm, ht⟩ := Mk.or (by omega) (hb.2 i (by omega)) (Mk.pow (n := n) (t := i) (by omega))
    refine ih (i + 1) _ (by omega) (hb.set (by omega) hm) (fun x j hx => ?_) (fun x j hx => ?_)
    · rw [rb_set hb (by omega)]
      by_cases e : i = x
      · subst e
        rw [if_pos rfl, ht j, tb_pow]
        show (rb b i j || _) = _
        rw [h2 i j (by omega)]
      · rw [if_neg e]; exact h1 x j (by omega)
    · rw [rb_set hb (by omega), if_neg (by omega)]; exact h2 x j (by omega)
theorem reflexive_bits {n : Nat} (hn : n ≤ 30) {a : List Int} (ha : Rl n a) : Rl n (F_reflexive a) ∧ ∀ x j, x < n → rb (F_reflexive a) x j = (rb a x j || decide (x = j)) := by
  unfold F_reflexive
  have hl := ha.1
  rw [show Int.toNat ((a.length : Int) - 0) = n by omega]
  exact rf_key hn a hl a ha n 0 a (by omega) ha (fun _ _ hx => by omega) (fun _ _ _ => rfl)
/-- The least set over a mask that a relation keeps. -/
def Rc (n : Nat) (a : List Int) (mask r : Int) : Prop := Mk n r ∧ (∀ j, tb mask j = true → tb r j = true) ∧ (∀ i j, tb r i = true → rb a i j = true → tb r j = true) ∧ ∀ S : Nat → Prop, (∀ j, tb mask j = true → S j) → (∀ i j, i < n → S i → rb a i j = true → S j) → ∀ j, tb r j = true → S j
theorem Rc.uniq {n : Nat} {a : List Int} {mask r s : Int} (h : Rc n a mask r) (h' : Rc n a mask s) : r = s := by
  apply tb_ext h.1.1 h'.1.1
  intro j
  have e1 := h.2.2.2 (fun j => tb s j = true) h'.2.1 (fun i j _ => h'.2.2.1 i j) j
  have e2 := h'.2.2.2 (fun j => tb r j = true) h.2.1 (fun i j _ => h.2.2.1 i j) j
  cases hr : tb r j
  · cases hs : tb s j
    · rfl
    · rw [e2 hs] at hr; cases hr
  · exact (e1 hr).symm
theorem reachable_rc {n : Nat} (hn : n ≤ 30) {a : List Int} {mask : Int} (ha : Rl n a) (hm : Mk n mask) : Rc n a mask (F_l01Image (F_reflexive (F_transitive a)) mask) := by
  have T := transitive_tc hn ha
  obtain ⟨h1, h2⟩ := reflexive_bits hn T.rel
  obtain ⟨h3, h4⟩ := l01Image_bits (by omega) h1 hm
  have key : ∀ j, (tb (F_l01Image (F_reflexive (F_transitive a)) mask) j = true ↔ (tb mask j = true ∨ ∃ i, tb mask i = true ∧ rb (F_transitive a) i j = true)) := by
    intro j
    refine (h4 j).trans ⟨?_, ?_⟩
    · rintro ⟨i, hi, hj⟩
      rw [h2 i j (tb_lt hm hi), Bool.or_eq_true] at hj
      rcases hj with hj | hj
      · exact .inr ⟨i, hi, hj⟩
      · have := of_decide_eq_true hj; subst this; exact .inl hi
    · rintro (h | ⟨i, hi, hj⟩)
      · exact ⟨j, h, by rw [h2 j j (tb_lt hm h)]; simp⟩
      · exact ⟨i, hi, by rw [h2 i j (tb_lt hm hi), hj]; rfl⟩
  refine ⟨h3, fun j hj => (key j).2 (.inl hj), fun i j hi hij => ?_, fun S hS hc j hj => ?_⟩
  · have hin := tb_lt h3 hi
    refine (key j).2 (.inr ?_)
    rcases (key i).1 hi with h | ⟨x, hx, hxi⟩
    · exact ⟨i, h, T.sup i j hin hij⟩
    · exact ⟨x, hx, T.tra x i j (tb_lt hm hx) hxi (T.sup i j hin hij)⟩
  · rcases (key j).1 hj with h | ⟨x, hx, hxj⟩
    · exact hS j h
    · exact T.sub S hc x j (tb_lt hm hx) (hS x hx) hxj
theorem mk_mono {n : Nat} {a b : Int} (ha : Mk n a) (hb : Mk n b) (h : ∀ j, tb a j = true → tb b j = true) (h2 : ∃ j, tb b j = true ∧ tb a j = false) : a < b := by
  have : a.toNat ≤ b.toNat := by
    have e : a.toNat = a.toNat &&& b.toNat := by
      apply Nat.eq_of_testBit_eq; intro j
      rw [Nat.testBit_and]
      cases e : a.toNat.testBit j
      · rfl
      · exact (h j e).symm
    rw [e]; exact Nat.and_le_right
  have hne : a ≠ b := fun e => by
    obtain ⟨j, h3, h4⟩ := h2
    rw [e, h3] at h4; cases h4
  have := ha.1; have := hb.1; omega
theorem reach_step {n : Nat} (hn : n ≤ 30) {a : List Int} {mask : Int} (ha : Rl n a) (hm : Mk n mask) : Mk n (orI mask (F_l01Image a mask)) ∧ (¬ anI (F_l01Image a mask) mask = 0 → mask < orI mask (F_l01Image a mask)) := by
  obtain ⟨h3, h4⟩ := l01Image_bits (by omega) ha hm
  obtain ⟨h5, h6⟩ := Mk.or (by omega) hm h3
  refine ⟨h5, fun h => ?_⟩
  rw [Mk.anz (by omega) h3 hm] at h
  refine mk_mono hm h5 (fun j hj => by rw [h6, hj]; rfl) ?_
  apply Classical.byContradiction
  intro hno
  apply h
  intro j hj
  cases e : tb mask j
  · exact absurd ⟨j, by rw [h6, hj]; simp, e⟩ hno
  · rfl
end Go.Proofs.Ytlbonhloeefnmaa
