/- GCX: models and contracts, printed by wip/gen/gen.py -/
import Derived.Test.YtlbonhloeefnmaaKCXGFGS
import Derived.Test.YtlbonhloeefnmaaKCXGCF2
set_option linter.unusedVariables false
set_option linter.unusedSimpArgs false
namespace Go.Proofs.Ytlbonhloeefnmaa
open Go.RowKit
theorem closeFrame_cases {f0 : Int} {f1 : List Int} {flag : Int} (h : (F_CloseFrame f0 f1 flag).2 = 0) : F_l05Is f0 f1 = true ∧ (flag = 0 ∨ flag = 2 ∨ flag = 3 ∨ flag = 4) := by
  unfold F_CloseFrame at h
  rw [isFrame_eq] at h
  cases h0 : F_l05Is f0 f1
  · rw [h0] at h; simp at h
  · rw [h0] at h
    refine ⟨rfl, ?_⟩
    by_cases h1 : flag = 0
    · exact .inl h1
    · by_cases h2 : flag = 2
      · exact .inr (.inl h2)
      · by_cases h3 : flag = 3
        · exact .inr (.inr (.inl h3))
        · by_cases h4 : flag = 4
          · exact .inr (.inr (.inr h4))
          · rw [decide_eq_false h1, decide_eq_false h2, decide_eq_false h3, decide_eq_false h4] at h
            simp at h
theorem rb_lt {n : Nat} {a : List Int} (ha : Rl n a) {i j : Nat} (h : rb a i j = true) : i < n ∧ j < n := by
  have hi : i < n := by
    apply Decidable.byContradiction; intro hn
    have : gI a (i : Int) = 0 := gi_out (by have := ha.1; omega)
    unfold rb at h
    rw [this, tb_zero] at h
    cases h
  exact ⟨hi, tb_lt (ha.2 i hi) h⟩
theorem masks_of {n : Nat} {a : List Int} (ha : Rl n a) : F_l01Masks (n : Int) a = true := by
  have hl := ha.1
  rw [masks_eq, List.all_eq_true]
  intro x hx
  obtain ⟨k, hk, rfl⟩ := List.getElem_of_mem hx
  have h1 := ha.2 k (by omega)
  have e : gI a (k : Int) = a[k] := by unfold gI; rw [Int.toNat_natCast]; exact gi_get hk
  rw [e] at h1
  unfold F_l01In
  rw [decide_eq_true h1.1, decide_eq_true h1.2]; rfl
theorem frame_of {n : Nat} {a : List Int} (hn : n ≤ 8) (ha : Rl n a) : F_l05Is (n : Int) a = true := by
  unfold F_l05Is F_l01In
  rw [masks_of ha, ha.1, decide_eq_true (by omega), decide_eq_true (by omega), decide_eq_true rfl]; rfl
/-- The least relation over a with P. -/
structure ClP (n : Nat) (P : List Int → Prop) (a g : List Int) : Prop where
  rel : Rl n g
  sup : ∀ i j, rb a i j = true → rb g i j = true
  has : P g
  least : ∀ c, Rl n c → (∀ i j, rb a i j = true → rb c i j = true) → P c → ∀ i j, rb g i j = true → rb c i j = true
theorem ClP.fix {n : Nat} {P : List Int → Prop} {a g : List Int} (h : ClP n P a g) (ha : Rl n a) (hp : P a) : a = g :=
  rl_ext ha h.rel fun i j _ => by
    rw [Bool.eq_iff_iff]
    exact ⟨h.sup i j, h.least a ha (fun _ _ h => h) hp i j⟩
def P0 (n : Nat) (c : List Int) : Prop := ∀ i, i < n → rb c i i = true
def P2 (c : List Int) : Prop := ∀ i k j, rb c i k = true → rb c k j = true → rb c i j = true
def P3 (c : List Int) : Prop := ∀ i j, rb c i j = true → rb c j i = true
def P4 (c : List Int) : Prop := ∀ x y, rb c x y = true → ∀ z, rb c x z = true → rb c y z = true
theorem refl_cl {n : Nat} (hn : n ≤ 8) {a : List Int} (ha : Rl n a) : ClP n (P0 n) a (F_l01Reflexive a) := by
  have hl := ha.1
  have row : ∀ i : Nat, i < n → Mk n (gI (F_l01Reflexive a) (i : Int)) ∧ ∀ j, rb (F_l01Reflexive a) i j = (rb a i j || decide (i = j)) := fun i hi => by
    have e : gI (F_l01Reflexive a) (i : Int) = orI (gI a (i : Int)) (powI (i : Int)) := by
      rw [l01Reflexive_map]
      unfold gI
      rw [Int.toNat_natCast, gi_map (by simp; omega)]
      simp [gI]
    obtain ⟨o1, o2⟩ := Mk.or (n := n) (by omega) (ha.2 i hi) (Mk.pow hi)
    unfold rb
    rw [e]
    exact ⟨o1, fun j => by rw [o2 j, tb_pow]⟩
  have hr : Rl n (F_l01Reflexive a) := ⟨by rw [l01Reflexive_len]; omega, fun i hi => (row i hi).1⟩
  refine ⟨hr, fun i j h => ?_, fun i hi => ?_, fun c hc hs hp i j h => ?_⟩
  · rw [(row i (rb_lt ha h).1).2 j, h]; rfl
  · rw [(row i hi).2 i]; simp
  · have hi := (rb_lt hr h).1
    rw [(row i hi).2 j, Bool.or_eq_true, decide_eq_true_iff] at h
    rcases h with h | h
    · exact hs i j h
    · subst h; exact hp i hi
theorem trans_cl {n : Nat} (hn : n ≤ 8) {a : List Int} (ha : Rl n a) : ClP n P2 a (F_transitive a) := by
  have tc := transitive_tc (show n ≤ 30 by omega) ha
  refine ⟨tc.rel, fun i j h => tc.sup i j (rb_lt ha h).1 h, fun i k j h1 h2 => tc.tra i k j (rb_lt tc.rel h1).1 h1 h2, fun c hc hs hp i j h => ?_⟩
  exact transitive_least (show n ≤ 30 by omega) ha (fun i j => rb c i j = true) (fun i k j h1 h2 => hp i k j h1 h2) (fun i j _ h => hs i j h) i j (rb_lt tc.rel h).1 h
theorem sym_cl {n : Nat} (hn : n ≤ 8) {a : List Int} (ha : Rl n a) : ClP n P3 a (F_CloseFrame_L1 a (Int.toNat (((F_inverse a).length : Int) - 0) + 1) 0 (F_inverse a)).2 := by
  have hl := ha.1
  have hil : (F_inverse a).length = a.length := inverse_len a
  obtain ⟨v1, v2⟩ := inverse_bits (show n ≤ 30 by omega) ha
  obtain ⟨m1, m2⟩ := mapLoop ((F_inverse a).length : Int) (fun x o => orI o (gI a x)) (F_CloseFrame_L1 a) (fun r t xs _ _ => rfl) (F_inverse a) rfl
  generalize (F_CloseFrame_L1 a (Int.toNat (((F_inverse a).length : Int) - 0) + 1) 0 (F_inverse a)).2 = g at *
  have row : ∀ i : Nat, i < n → Mk n (gI g (i : Int)) ∧ ∀ j, rb g i j = (rb a j i || rb a i j) := fun i hi => by
    obtain ⟨o1, o2⟩ := Mk.or (n := n) (by omega) (v1.2 i hi) (ha.2 i hi)
    unfold rb
    rw [m2 i (by omega)]
    refine ⟨o1, fun j => ?_⟩
    rw [o2 j]
    congr 1
    have := v2 i j hi
    unfold rb at this
    rw [this]
    by_cases hj : j < n
    · rw [decide_eq_true hj, Bool.true_and]
    · rw [decide_eq_false hj, Bool.false_and]
      have e : gI a (j : Int) = 0 := gi_out (by omega)
      rw [e, tb_zero]
  have hr : Rl n g := ⟨by omega, fun i hi => (row i hi).1⟩
  have all : ∀ i j, rb g i j = (rb a j i || rb a i j) := fun i j => by
    by_cases hi : i < n
    · exact (row i hi).2 j
    · have e1 : rb g i j = false := by
        cases h : rb g i j
        · rfl
        · exact absurd (rb_lt hr h).1 hi
      have e2 : rb a i j = false := by
        cases h : rb a i j
        · rfl
        · exact absurd (rb_lt ha h).1 hi
      have e3 : rb a j i = false := by
        cases h : rb a j i
        · rfl
        · exact absurd (rb_lt ha h).2 hi
      rw [e1, e2, e3]; rfl
  refine ⟨hr, fun i j h => by rw [all, h, Bool.or_true], fun i j h => by rw [all] at h ⊢; rw [Bool.or_comm]; exact h, fun c hc hs hp i j h => ?_⟩
  rw [all, Bool.or_eq_true] at h
  rcases h with h | h
  · exact hp j i (hs j i h)
  · exact hs i j h
theorem eu_cl {n : Nat} (hn : n ≤ 8) {a : List Int} (ha : Rl n a) : ClP n P4 a (F_euclidean a) := by
  have hl := ha.1
  have a1 := eu_i1 (n := n) hn a (2 * (ecap (a.length : Int) - sumN a) + (bif true then 1 else 0) + 1) true a (by rw [hl]; omega) (EuI.start ha) (fun h => by cases h)
  have a1 : EuI n a (F_euclidean a) ∧ EuC n (F_euclidean a) := a1
  refine ⟨a1.1.rel, fun i j h => a1.1.sup i j (rb_lt ha h).1 h, fun x y h z hz => a1.2 x y (rb_lt a1.1.rel h).1 h z hz, fun c hc hs hp i j h => ?_⟩
  exact a1.1.least (fun i j => rb c i j = true) (fun i j _ h => hs i j h) (fun x y z h1 h2 => hp x y h1 z h2) i j (rb_lt a1.1.rel h).1 h
theorem l01Bit_rb {n : Nat} (hn : n ≤ 8) {c : List Int} (hc : Rl n c) {i j : Nat} (hi : i < n) (hj : j < n) : F_l01Bit (gI c (i : Int)) (j : Int) = rb c i j := tb_has (n := n) (by omega) (hc.2 i hi) (by omega)
theorem flagP_01 {n : Nat} (c : List Int) (flag : Int) (h2 : ∀ x y : Nat, fc2 c flag (x : Int) (y : Int) = false) (h3 : ∀ y z : Nat, fc3 c flag (y : Int) (z : Int) = false) : F_l05Flag (n : Int) c flag = (List.range n).all fun (x : Nat) => !(fc1 c flag (x : Int)) := by
  rw [l05Flag_form (by omega), Int.toNat_natCast]
  congr 1
  funext x
  have inner : ∀ y : Nat, ((List.range n).all fun (z : Nat) => !(F_l01Bit (gI c (x : Int)) (z : Int) && fc3 c flag (y : Int) (z : Int))) = true := fun y => by
    rw [List.all_eq_true]; intro z _; rw [h3, Bool.and_false]; rfl
  have mid : ((List.range n).all fun (y : Nat) => !(F_l01Bit (gI c (x : Int)) (y : Int) && (fc2 c flag (x : Int) (y : Int) || !((List.range n).all fun (z : Nat) => !(F_l01Bit (gI c (x : Int)) (z : Int) && fc3 c flag (y : Int) (z : Int)))))) = true := by
    rw [List.all_eq_true]; intro y _; rw [h2, inner]; simp
  rw [mid, Bool.not_true, Bool.or_false]
theorem flagP_2 {n : Nat} (c : List Int) (flag : Int) (h1 : ∀ x : Nat, fc1 c flag (x : Int) = false) (h3 : ∀ y z : Nat, fc3 c flag (y : Int) (z : Int) = false) : F_l05Flag (n : Int) c flag = (List.range n).all fun (x : Nat) => (List.range n).all fun (y : Nat) => !(F_l01Bit (gI c (x : Int)) (y : Int) && fc2 c flag (x : Int) (y : Int)) := by
  rw [l05Flag_form (by omega), Int.toNat_natCast]
  congr 1
  funext x
  have inner : ∀ y : Nat, ((List.range n).all fun (z : Nat) => !(F_l01Bit (gI c (x : Int)) (z : Int) && fc3 c flag (y : Int) (z : Int))) = true := fun y => by
    rw [List.all_eq_true]; intro z _; rw [h3, Bool.and_false]; rfl
  rw [h1, Bool.false_or, Bool.not_not]
  congr 1
  funext y
  rw [inner, Bool.not_true, Bool.or_false]
theorem flagP0 {n : Nat} (hn : n ≤ 8) {c : List Int} (hc : Rl n c) : F_l05Flag (n : Int) c 0 = true ↔ P0 n c := by
  rw [flagP_01 c 0 (fun _ _ => rfl) (fun _ _ => rfl), List.all_eq_true]
  constructor
  · intro h i hi
    have := h i (List.mem_range.2 hi)
    have e : fc1 c 0 (i : Int) = !(F_l01Bit (gI c (i : Int)) (i : Int)) := rfl
    rw [e, Bool.not_not, l01Bit_rb hn hc hi hi] at this
    exact this
  · intro h i hi
    have hi := List.mem_range.1 hi
    have e : fc1 c 0 (i : Int) = !(F_l01Bit (gI c (i : Int)) (i : Int)) := rfl
    rw [e, Bool.not_not, l01Bit_rb hn hc hi hi]
    exact h i hi
theorem flagP2 {n : Nat} (hn : n ≤ 8) {c : List Int} (hc : Rl n c) : F_l05Flag (n : Int) c 2 = true ↔ P2 c := by
  rw [flagP_01 c 2 (fun _ _ => rfl) (fun _ _ => rfl), List.all_eq_true]
  have key : ∀ x : Nat, x < n → ((!(fc1 c 2 (x : Int))) = true ↔ ∀ k j, rb c x k = true → rb c k j = true → rb c x j = true) := fun x hx => by
    have e : fc1 c 2 (x : Int) = !decide (anI (F_l01Image c (gI c (x : Int))) (gI c (x : Int)) = 0) := rfl
    obtain ⟨i1, i2⟩ := l01Image_bits (n := n) (by omega) hc (hc.2 x hx)
    rw [e, Bool.not_not, decide_eq_true_iff, Mk.anz (n := n) (by omega) i1 (hc.2 x hx)]
    constructor
    · intro h k j h1 h2
      exact h j ((i2 j).2 ⟨k, h1, h2⟩)
    · intro h j hj
      obtain ⟨k, h1, h2⟩ := (i2 j).1 hj
      exact h k j h1 h2
  constructor
  · intro h i k j h1 h2
    have hi := (rb_lt hc h1).1
    exact (key i hi).1 (h i (List.mem_range.2 hi)) k j h1 h2
  · intro h x hx
    exact (key x (List.mem_range.1 hx)).2 fun k j => h x k j
theorem flagP3 {n : Nat} (hn : n ≤ 8) {c : List Int} (hc : Rl n c) : F_l05Flag (n : Int) c 3 = true ↔ P3 c := by
  rw [flagP_2 c 3 (fun _ => rfl) (fun _ _ => rfl), List.all_eq_true]
  have e : ∀ x y : Nat, fc2 c 3 (x : Int) (y : Int) = !(F_l01Bit (gI c (y : Int)) (x : Int)) := fun _ _ => rfl
  constructor
  · intro h i j hij
    have hb := rb_lt hc hij
    have := List.all_eq_true.1 (h i (List.mem_range.2 hb.1)) j (List.mem_range.2 hb.2)
    rw [e, l01Bit_rb hn hc hb.1 hb.2, l01Bit_rb hn hc hb.2 hb.1, hij, Bool.true_and, Bool.not_not] at this
    exact this
  · intro h x hx
    have hx := List.mem_range.1 hx
    rw [List.all_eq_true]
    intro y hy
    have hy := List.mem_range.1 hy
    rw [e, l01Bit_rb hn hc hx hy, l01Bit_rb hn hc hy hx]
    cases h1 : rb c x y
    · rfl
    · rw [h x y h1]; rfl
theorem flagP4 {n : Nat} (hn : n ≤ 8) {c : List Int} (hc : Rl n c) : F_l05Flag (n : Int) c 4 = true ↔ P4 c := by
  rw [flagP_2 c 4 (fun _ => rfl) (fun _ _ => rfl), List.all_eq_true]
  have e : ∀ x y : Nat, fc2 c 4 (x : Int) (y : Int) = !decide (anI (gI c (x : Int)) (gI c (y : Int)) = 0) := fun _ _ => rfl
  constructor
  · intro h x y hxy z hz
    have hb := rb_lt hc hxy
    have := List.all_eq_true.1 (h x (List.mem_range.2 hb.1)) y (List.mem_range.2 hb.2)
    rw [e, l01Bit_rb hn hc hb.1 hb.2, hxy, Bool.true_and, Bool.not_not, decide_eq_true_iff] at this
    exact (Mk.anz (n := n) (by omega) (hc.2 x hb.1) (hc.2 y hb.2)).1 this z hz
  · intro h x hx
    have hx := List.mem_range.1 hx
    rw [List.all_eq_true]
    intro y hy
    have hy := List.mem_range.1 hy
    rw [e, l01Bit_rb hn hc hx hy]
    cases h1 : rb c x y
    · rfl
    · rw [decide_eq_true ((Mk.anz (n := n) (by omega) (hc.2 x hx) (hc.2 y hy)).2 fun z hz => h x y h1 z hz)]; rfl
theorem closed_core {n : Nat} (hn : n ≤ 8) {flag : Int} {P : List Int → Prop} (hP : ∀ c, Rl n c → (F_l05Flag (n : Int) c flag = true ↔ P c)) (hC : ∀ a, Rl n a → ∃ g, F_CloseFrame (n : Int) a flag = (((n : Int), g), 0) ∧ ClP n P a g) {a : List Int} (ha : Rl n a) :
    ∃ g, F_CloseFrame (n : Int) a flag = (((n : Int), g), 0) ∧ Rl n g ∧ F_l05Flag (n : Int) g flag = true ∧ F_CloseFrame (n : Int) g flag = (((n : Int), g), 0) ∧ F_l05Flag (n : Int) a flag = decide (a = g) ∧ ∀ i j, rb a i j = true → rb g i j = true := by
  obtain ⟨g, h1, h2⟩ := hC a ha
  obtain ⟨g', h3, h4⟩ := hC g h2.rel
  have e := h4.fix h2.rel h2.has
  rw [← e] at h3
  refine ⟨g, h1, h2.rel, (hP g h2.rel).2 h2.has, h3, ?_, h2.sup⟩
  rw [Bool.eq_iff_iff, decide_eq_true_iff, hP a ha]
  exact ⟨fun h => h2.fix ha h, fun h => by rw [h]; exact h2.has⟩
theorem closed_all {n : Nat} (hn : n ≤ 8) {flag : Int} (hf : flag = 0 ∨ flag = 2 ∨ flag = 3 ∨ flag = 4) {a : List Int} (ha : Rl n a) :
    ∃ g, F_CloseFrame (n : Int) a flag = (((n : Int), g), 0) ∧ Rl n g ∧ F_l05Flag (n : Int) g flag = true ∧ F_CloseFrame (n : Int) g flag = (((n : Int), g), 0) ∧ F_l05Flag (n : Int) a flag = decide (a = g) ∧ ∀ i j, rb a i j = true → rb g i j = true := by
  have fr : ∀ c, Rl n c → F_isFrame (n : Int) c = true := fun c hc => by rw [isFrame_eq]; exact frame_of hn hc
  rcases hf with rfl | rfl | rfl | rfl
  · refine closed_core hn (fun c hc => flagP0 hn hc) (fun a ha => ⟨F_l01Reflexive a, ?_, refl_cl hn ha⟩) ha
    unfold F_CloseFrame F_frameOf
    rw [fr a ha, reflexive_eq (by have := ha.1; omega), decide_eq_true rfl]
    show (((((F_l01Reflexive a).length : Nat) : Int), F_l01Reflexive a), (0 : Int)) = _
    rw [(refl_cl hn ha).rel.1]
  · refine closed_core hn (fun c hc => flagP2 hn hc) (fun a ha => ⟨F_transitive a, ?_, trans_cl hn ha⟩) ha
    unfold F_CloseFrame F_frameOf
    rw [fr a ha, decide_eq_false (by decide), decide_eq_true rfl]
    show (((((F_transitive a).length : Nat) : Int), F_transitive a), (0 : Int)) = _
    rw [(trans_cl hn ha).rel.1]
  · refine closed_core hn (fun c hc => flagP3 hn hc) (fun a ha => ⟨_, ?_, sym_cl hn ha⟩) ha
    unfold F_CloseFrame F_frameOf
    rw [fr a ha, decide_eq_false (by decide), decide_eq_false (by decide), decide_eq_true rfl, (sym_cl hn ha).rel.1]
    rfl
  · refine closed_core hn (fun c hc => flagP4 hn hc) (fun a ha => ⟨F_euclidean a, ?_, eu_cl hn ha⟩) ha
    unfold F_CloseFrame F_frameOf
    rw [fr a ha, decide_eq_false (by decide), decide_eq_false (by decide), decide_eq_false (by decide), decide_eq_true rfl]
    show (((((F_euclidean a).length : Nat) : Int), F_euclidean a), (0 : Int)) = _
    rw [(eu_cl hn ha).rel.1]
theorem closeFrame_ok {f0 : Int} {f1 : List Int} {flag : Int} (h : (F_CloseFrame f0 f1 flag).2 = 0) : (F_CloseFrame f0 f1 flag).1.2.length = f1.length ∧ 0 ≤ flag ∧ flag ≤ 4 := by
  obtain ⟨hf, hfl⟩ := closeFrame_cases h
  have ht := l05Is_t hf
  obtain ⟨n, rfl⟩ : ∃ n : Nat, f0 = (n : Int) := ⟨f0.toNat, by omega⟩
  have ha : Rl n f1 := by
    have := rl_of ht.1.1 ht.2 (l05Is_m hf)
    rwa [Int.toNat_natCast] at this
  obtain ⟨g, c1, c2, _⟩ := closed_all (show n ≤ 8 by omega) hfl ha
  rw [c1]
  refine ⟨?_, by omega⟩
  show g.length = f1.length
  rw [c2.1, ha.1]
end Go.Proofs.Ytlbonhloeefnmaa
