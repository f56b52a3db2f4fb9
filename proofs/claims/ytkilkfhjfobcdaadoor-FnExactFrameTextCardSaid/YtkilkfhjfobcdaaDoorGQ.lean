/- GQ: models and contracts, printed by wip/gen/gen.py -/
import Derived.Test.YtkilkfhjfobcdaaDoorGD
set_option linter.unusedVariables false
set_option linter.unusedSimpArgs false
namespace Go.Proofs.YtkilkfhjfobcdaaDoor
open Go.RowKit

theorem has_eq {mask : Int} (h0 : 0 ≤ mask) (h1 : mask < 4611686018427387904) {j : Nat} (hj : j ≤ 62) : F_has mask (j : Int) = mask.toNat.testBit j := by
  unfold F_has
  rw [bit_eq h0 (by omega) (by omega) (by omega), Int.toNat_natCast]
theorem shr_small {mask : Int} {i : Nat} (h0 : 0 ≤ mask) (hi : i ≤ 62) (h : ¬ 0 < shrI mask (i : Int)) : mask.toNat < 2 ^ i := by
  rw [shrI_nat h0 (by omega) (by omega), Int.toNat_natCast] at h
  have : mask.toNat / 2 ^ i = 0 := by
    have h' : ¬ 0 < mask.toNat / 2 ^ i := fun h2 => h (by exact_mod_cast h2)
    exact Nat.eq_zero_of_not_pos h'
  exact (Nat.div_eq_zero_iff_lt (Nat.pow_pos (by decide))).1 this
theorem bit_small {mask : Int} {i j : Nat} (h : mask.toNat < 2 ^ i) (hj : i ≤ j) : mask.toNat.testBit j = false :=
  Nat.testBit_lt_two_pow (Nat.lt_of_lt_of_le h (Nat.pow_le_pow_right (by decide) hj))
theorem members_key {mask : Int} {n : Nat} (h0 : 0 ≤ mask) (h1 : mask < 4611686018427387904) (hn : n ≤ 62) (hm : mask.toNat < 2 ^ n) : ∀ (k i : Nat) (out : List Int) (r : Nat), i + k = n → k + 1 ≤ r →
    (F_membersOf_L1 mask r out (i : Int)).1 = out ++ ((List.range' i k).filter (fun (j : Nat) => F_has mask (j : Int))).map (fun (j : Nat) => (j : Int)) := by
  intro k
  induction k with
  | zero =>
    intro i out r hi hr
    obtain ⟨r, rfl⟩ : ∃ r', r = r' + 1 := ⟨r - 1, by omega⟩
    show (F_membersOf_L1b mask _ out _).1 = _
    unfold F_membersOf_L1b
    have : ¬ 0 < shrI mask (i : Int) := by
      rw [shrI_nat h0 (by omega) (by omega), Int.toNat_natCast, Nat.div_eq_of_lt (by rw [show i = n by omega]; exact hm)]; decide
    rw [decide_eq_false this, cond_false]; simp
  | succ k ih =>
    intro i out r hi hr
    obtain ⟨r, rfl⟩ : ∃ r', r = r' + 1 := ⟨r - 1, by omega⟩
    show (F_membersOf_L1b mask _ out _).1 = _
    unfold F_membersOf_L1b
    by_cases h : 0 < shrI mask (i : Int)
    · rw [decide_eq_true h, cond_true, show (i : Int) + 1 = ((i + 1 : Nat) : Int) by omega, ih (i + 1) _ r (by omega) (by omega), List.range'_succ, List.filter_cons]
      cases F_has mask (i : Int)
      · rfl
      · rw [if_pos rfl, List.map_cons, cond_true, List.append_assoc]; rfl
    · rw [decide_eq_false h, cond_false]
      have hz := shr_small h0 (by omega) h
      have : (List.range' i (k + 1)).filter (fun (j : Nat) => F_has mask (j : Int)) = [] := by
        rw [List.filter_eq_nil_iff]
        intro j hj
        rw [List.mem_range'_1] at hj
        rw [has_eq h0 h1 (by omega), bit_small hz (by omega)]; decide
      rw [this]; simp
theorem full_toNat {n : Nat} {mask : Int} (h0 : 0 ≤ mask) (h : mask ≤ fullI (n : Int)) : mask.toNat < 2 ^ n := by
  unfold fullI at h
  rw [Int.toNat_natCast] at h
  have : ((2 : Int) ^ n) = ((2 ^ n : Nat) : Int) := by norm_cast
  have h2 : 0 < 2 ^ n := Nat.pow_pos (by decide)
  rw [this] at h; omega
theorem members_eq {mask : Int} {n : Nat} (hn : n ≤ 62) (h0 : 0 ≤ mask) (hm : mask ≤ fullI (n : Int)) : F_membersOf mask = ((List.range n).filter (fun (j : Nat) => F_has mask (j : Int))).map (fun (j : Nat) => (j : Int)) := by
  unfold F_membersOf
  have := fullI_bd (n := (n : Int)) (by omega) (by omega)
  rw [show (0 : Int) = ((0 : Nat) : Int) from rfl, members_key (n := n) h0 (by omega) hn (full_toNat h0 hm) n 0 [] _ (by omega) (by omega), List.nil_append, List.range_eq_range']
theorem members_lt {mask : Int} {n : Nat} (hn : n ≤ 62) (h0 : 0 ≤ mask) (hm : mask ≤ fullI (n : Int)) (t : Int) (ht : 0 ≤ t) (ht1 : t < ((F_membersOf mask).length : Int)) : 0 ≤ gI (F_membersOf mask) t ∧ gI (F_membersOf mask) t < (n : Int) := by
  unfold gI
  rw [gi_get (by omega)]
  have hmem : (F_membersOf mask)[t.toNat]'(by omega) ∈ F_membersOf mask := List.getElem_mem _
  generalize (F_membersOf mask)[t.toNat]'(by omega) = x at hmem
  rw [members_eq hn h0 hm, List.mem_map] at hmem
  obtain ⟨j, hj, rfl⟩ := hmem
  have := List.mem_range.1 (List.mem_filter.1 hj).1
  omega
theorem members_len {mask : Int} {n : Nat} (hn : n ≤ 62) (h0 : 0 ≤ mask) (hm : mask ≤ fullI (n : Int)) : (F_membersOf mask).length ≤ n := by
  rw [members_eq hn h0 hm, List.length_map]
  exact Nat.le_trans (List.length_filter_le _ _) (by simp)
/-- A loop over a range is a fold. -/
theorem rangeLoop {α : Type} (n : Int) (g : α → Int → α) (L : Nat → α → Int → α × Int) (hL : ∀ r o t, L (r + 1) o t = bif decide (t < n) then L r (g o t) (t + 1) else (o, t)) :
    ∀ (k : Nat) (i : Int) (o : α), n - i = (k : Int) → (L (k + 1) o i).1 = (List.range k).foldl (fun o (j : Nat) => g o (i + (j : Int))) o := by
  intro k
  induction k with
  | zero => intro i o h; rw [hL, decide_eq_false (by omega)]; rfl
  | succ k ih =>
    intro i o h
    rw [hL, decide_eq_true (by omega), cond_true, ih (i + 1) _ (by omega), List.range_succ_eq_map, List.foldl_cons, List.foldl_map, show i + ((0 : Nat) : Int) = i by omega]
    congr 1; funext o j; congr 1; rw [Int.natCast_succ]; omega
theorem foldl_ext' {α β : Type} (f g : α → β → α) : ∀ (l : List β) (o : α), (∀ b ∈ l, ∀ o, f o b = g o b) → l.foldl f o = l.foldl g o := by
  intro l
  induction l with
  | nil => intro o _; rfl
  | cons b l ih => intro o h; rw [List.foldl_cons, List.foldl_cons, h b (List.mem_cons_self ..), ih _ fun b' hb' => h b' (List.mem_cons_of_mem _ hb')]
theorem map_gI (xs : List Int) : (List.range xs.length).map (fun (j : Nat) => gI xs (j : Int)) = xs := by
  apply List.ext_getElem
  · simp
  · intro i h1 h2
    simp only [List.getElem_map, List.getElem_range]
    unfold gI
    rw [Int.toNat_natCast, gi_get h2]
theorem listLoop {α : Type} (xs : List Int) (g : α → Int → α) (L : Nat → α → Int → α × Int) (hL : ∀ r o t, L (r + 1) o t = bif decide (t < (xs.length : Int)) then L r (g o (gI xs t)) (t + 1) else (o, t)) (o : α) :
    (L (Int.toNat ((xs.length : Int) - 0) + 1) o 0).1 = xs.foldl g o := by
  rw [show Int.toNat ((xs.length : Int) - 0) = xs.length by omega, rangeLoop (xs.length : Int) (fun o t => g o (gI xs t)) L hL xs.length 0 o (by omega)]
  conv => rhs; rw [← map_gI xs]
  rw [List.foldl_map]
  congr 1; funext o j; rw [Int.zero_add]
theorem rangeLoop0 {α : Type} (n : Int) (h0 : 0 ≤ n) (g : α → Int → α) (L : Nat → α → Int → α × Int) (hL : ∀ r o t, L (r + 1) o t = bif decide (t < n) then L r (g o t) (t + 1) else (o, t)) (o : α) :
    (L (Int.toNat (n - 0) + 1) o 0).1 = (List.range n.toNat).foldl (fun o (j : Nat) => g o (j : Int)) o := by
  rw [show Int.toNat (n - 0) = n.toNat by omega, rangeLoop n g L hL n.toNat 0 o (by omega)]
  congr 1; funext o j; rw [Int.zero_add]
theorem members_fold {α : Type} {mask : Int} {n : Nat} (hn : n ≤ 62) (h0 : 0 ≤ mask) (hm : mask ≤ fullI (n : Int)) (g : α → Int → α) (o : α) : (F_membersOf mask).foldl g o = (List.range n).foldl (fun o (j : Nat) => bif F_has mask (j : Int) then g o (j : Int) else o) o := by
  rw [members_eq hn h0 hm, List.foldl_map, List.foldl_filter]
  congr 1; funext o j
  cases F_has mask (j : Int) <;> rfl

theorem gI_mem {xs : List Int} {t : Int} (h0 : 0 ≤ t) (h1 : t < (xs.length : Int)) : gI xs t ∈ xs := by
  unfold gI; rw [gi_get (by omega)]; exact List.getElem_mem _
theorem members_all {mask : Int} {n : Nat} (hn : n ≤ 62) (h0 : 0 ≤ mask) (hm : mask ≤ fullI (n : Int)) (q : Int → Bool) : (F_membersOf mask).all q = (List.range n).all (fun (j : Nat) => !F_has mask (j : Int) || q (j : Int)) := by
  rw [members_eq hn h0 hm, List.all_map, List.all_filter]; rfl
theorem members_mem {mask : Int} {n : Nat} (hn : n ≤ 62) (h0 : 0 ≤ mask) (hm : mask ≤ fullI (n : Int)) {y : Int} (h : y ∈ F_membersOf mask) : 0 ≤ y ∧ y < (n : Int) := by
  rw [members_eq hn h0 hm, List.mem_map] at h
  obtain ⟨j, hj, rfl⟩ := h
  have := List.mem_range.1 (List.mem_filter.1 hj).1
  omega
theorem members_len62 {mask : Int} (h0 : 0 ≤ mask) (h1 : mask < 4611686018427387904) : (F_membersOf mask).length ≤ 62 := members_len (n := 62) (by omega) h0 (by show mask ≤ fullI ((62 : Nat) : Int); exact Int.le_sub_one_of_lt h1)
theorem members_lt62 {mask : Int} (h0 : 0 ≤ mask) (h1 : mask < 4611686018427387904) (t : Int) (ht : 0 ≤ t) (ht1 : t < ((F_membersOf mask).length : Int)) : 0 ≤ gI (F_membersOf mask) t ∧ gI (F_membersOf mask) t < 62 := members_lt (n := 62) (by omega) h0 (by show mask ≤ fullI ((62 : Nat) : Int); exact Int.le_sub_one_of_lt h1) t ht ht1
theorem gI_map {f : Nat → Int} {n j : Nat} (h : j < n) : gI ((List.range n).map f) (j : Int) = f j := by
  unfold gI
  rw [Int.toNat_natCast, gi_map (by simpa using h)]; simp
theorem foldl_app2 {β : Type} (f : β → Int) (l : List β) (o : List Int) : l.foldl (fun o j => o ++ [f j]) o = o ++ l.map f := by
  induction l generalizing o with
  | nil => simp
  | cons a l ih => rw [List.foldl_cons, ih]; simp
theorem mapLoop0 (n : Int) (h0 : 0 ≤ n) (f : Int → Int) (L : Nat → List Int → Int → List Int × Int) (hL : ∀ r o t, L (r + 1) o t = bif decide (t < n) then L r (o ++ [f t]) (t + 1) else (o, t)) : (L (Int.toNat (n - 0) + 1) [] 0).1 = (List.range n.toNat).map (fun (j : Nat) => f (j : Int)) := by
  rw [rangeLoop0 n h0 (fun o t => o ++ [f t]) L hL, foldl_app2]; rfl
theorem foldl_and {β : Type} (c : β → Bool) (l : List β) (o : Bool) : l.foldl (fun o j => o && c j) o = (o && l.all c) := by
  induction l generalizing o with
  | nil => simp
  | cons a l ih => rw [List.foldl_cons, ih, List.all_cons, Bool.and_assoc]

theorem gI_replicate {n : Nat} {j : Nat} (h : j < n) : gI (List.replicate n 0) (j : Int) = 0 := by
  unfold gI
  rw [Int.toNat_natCast, gi_get (by simpa using h)]; simp
theorem rangeLoopR {α : Type} (n : Int) (g : α → Int → α) (L : Nat → Int → α → Int × α) (hL : ∀ r t o, L (r + 1) t o = bif decide (t < n) then L r (t + 1) (g o t) else (t, o)) :
    ∀ (k : Nat) (i : Int) (o : α), n - i = (k : Int) → (L (k + 1) i o).2 = (List.range k).foldl (fun o (j : Nat) => g o (i + (j : Int))) o := by
  intro k
  induction k with
  | zero => intro i o h; rw [hL, decide_eq_false (by omega)]; rfl
  | succ k ih =>
    intro i o h
    rw [hL, decide_eq_true (by omega), cond_true, ih (i + 1) _ (by omega), List.range_succ_eq_map, List.foldl_cons, List.foldl_map, show i + ((0 : Nat) : Int) = i by omega]
    congr 1; funext o j; congr 1; rw [Int.natCast_succ]; omega
theorem rangeLoopR0 {α : Type} (n : Int) (h0 : 0 ≤ n) (g : α → Int → α) (L : Nat → Int → α → Int × α) (hL : ∀ r t o, L (r + 1) t o = bif decide (t < n) then L r (t + 1) (g o t) else (t, o)) (o : α) :
    (L (Int.toNat (n - 0) + 1) 0 o).2 = (List.range n.toNat).foldl (fun o (j : Nat) => g o (j : Int)) o := by
  rw [show Int.toNat (n - 0) = n.toNat by omega, rangeLoopR n g L hL n.toNat 0 o (by omega)]
  congr 1; funext o j; rw [Int.zero_add]
theorem mapLoopR0 (n : Int) (h0 : 0 ≤ n) (f : Int → Int) (L : Nat → Int → List Int → Int × List Int) (hL : ∀ r t o, L (r + 1) t o = bif decide (t < n) then L r (t + 1) (o ++ [f t]) else (t, o)) : (L (Int.toNat (n - 0) + 1) 0 []).2 = (List.range n.toNat).map (fun (j : Nat) => f (j : Int)) := by
  rw [rangeLoopR0 n h0 (fun o t => o ++ [f t]) L hL, foldl_app2]; rfl

/-- Bit j of a mask. -/
def tb (m : Int) (j : Nat) : Bool := m.toNat.testBit j
/-- A mask of n bits. -/
def Mk (n : Nat) (m : Int) : Prop := 0 ≤ m ∧ m ≤ fullI (n : Int)
theorem le_full {m n : Nat} (h : m < 2 ^ n) : (m : Int) ≤ fullI (n : Int) := by
  unfold fullI
  rw [Int.toNat_natCast]
  have : ((2 : Int) ^ n) = ((2 ^ n : Nat) : Int) := by norm_cast
  rw [this]; omega
theorem Mk.lt {n : Nat} {m : Int} (h : Mk n m) : m.toNat < 2 ^ n := full_toNat h.1 h.2
theorem Mk.sm {n : Nat} {m : Int} (h : Mk n m) (hn : n ≤ 62) : m < 4611686018427387904 := by
  have := fullI_bd (n := (n : Int)) (by omega) (by omega)
  have := h.2; omega
theorem Mk.of {n : Nat} {m : Int} (h0 : 0 ≤ m) (h : m.toNat < 2 ^ n) : Mk n m := by
  refine ⟨h0, ?_⟩
  have := le_full h
  omega
theorem Mk.zero (n : Nat) : Mk n 0 := Mk.of (by omega) (Nat.pow_pos (by decide))
theorem tb_zero (j : Nat) : tb 0 j = false := Nat.zero_testBit j
theorem tb_big {n : Nat} {m : Int} (h : Mk n m) {j : Nat} (hj : n ≤ j) : tb m j = false := bit_small h.lt hj
theorem tb_lt {n : Nat} {m : Int} (h : Mk n m) {j : Nat} (hj : tb m j = true) : j < n := by
  apply Decidable.byContradiction; intro h'
  rw [tb_big h (by omega)] at hj; cases hj
theorem tb_ext {a b : Int} (ha : 0 ≤ a) (hb : 0 ≤ b) (h : ∀ j, tb a j = tb b j) : a = b := by
  have : a.toNat = b.toNat := Nat.eq_of_testBit_eq h
  omega
theorem Mk.ofBits {n : Nat} {m : Int} (h0 : 0 ≤ m) (h : ∀ j, tb m j = true → j < n) : Mk n m :=
  Mk.of h0 (Nat.lt_pow_two_of_testBit _ fun j hj => by
    cases e : m.toNat.testBit j
    · rfl
    · have := h j e; omega)
theorem Mk.or {n : Nat} (hn : n ≤ 62) {a b : Int} (ha : Mk n a) (hb : Mk n b) : Mk n (orI a b) ∧ ∀ j, tb (orI a b) j = (tb a j || tb b j) := by
  have h1 := ha.sm hn
  have h2 := hb.sm hn
  obtain ⟨h3, h4, h5⟩ := orI_testBit ha.1 (by omega) hb.1 (by omega)
  refine ⟨Mk.ofBits h3 fun j hj => ?_, h5⟩
  have e : tb (orI a b) j = (tb a j || tb b j) := h5 j
  rw [e, Bool.or_eq_true] at hj
  rcases hj with h | h
  · exact tb_lt ha h
  · exact tb_lt hb h
theorem Mk.anz {n : Nat} (hn : n ≤ 62) {a b : Int} (ha : Mk n a) (hb : Mk n b) : anI a b = 0 ↔ ∀ j, tb a j = true → tb b j = true := by
  have h1 := ha.sm hn
  have h2 := hb.sm hn
  obtain ⟨h3, h4, h5⟩ := anI_testBit ha.1 (by omega) hb.1 (by omega)
  constructor
  · intro h j hj
    have := h5 j
    rw [h] at this
    have e : (0 : Int).toNat.testBit j = false := Nat.zero_testBit j
    rw [e] at this
    unfold tb at hj ⊢
    rw [hj] at this
    cases hb' : b.toNat.testBit j
    · rw [hb'] at this; cases this
    · rfl
  · intro h
    apply tb_ext h3 (by omega)
    intro j
    rw [tb_zero]
    show (anI a b).toNat.testBit j = false
    rw [h5 j]
    cases ha' : a.toNat.testBit j
    · rfl
    · have := h j ha'
      unfold tb at this
      rw [this]; rfl
theorem tb_has {n : Nat} (hn : n ≤ 62) {m : Int} (h : Mk n m) {j : Nat} (hj : j ≤ 62) : F_has m (j : Int) = tb m j := has_eq h.1 (h.sm hn) hj
theorem tb_pow (t j : Nat) : tb (powI (t : Int)) j = decide (t = j) := by
  unfold tb powI
  have e : ((2 : Int) ^ (t : Int).toNat).toNat = 2 ^ t := by
    rw [Int.toNat_natCast]
    have : ((2 : Int) ^ t) = ((2 ^ t : Nat) : Int) := by norm_cast
    rw [this, Int.toNat_natCast]
  rw [e, Nat.testBit_two_pow]
theorem Mk.pow {n t : Nat} (ht : t < n) : Mk n (powI (t : Int)) :=
  Mk.ofBits (by unfold powI; exact Int.pow_nonneg (by decide)) fun j hj => by
    rw [tb_pow] at hj
    have := of_decide_eq_true hj; omega
theorem fold_or {n : Nat} (hn : n ≤ 62) (p : Nat → Bool) (f : Nat → Int) : ∀ (l : List Nat) (o : Int), Mk n o → (∀ i ∈ l, p i = true → Mk n (f i)) →
    Mk n (l.foldl (fun o i => bif p i then orI o (f i) else o) o) ∧ ∀ j, (tb (l.foldl (fun o i => bif p i then orI o (f i) else o) o) j = true ↔ (tb o j = true ∨ ∃ i, i ∈ l ∧ p i = true ∧ tb (f i) j = true)) := by
  intro l
  induction l with
  | nil => intro o ho _; exact ⟨ho, fun j => ⟨fun h => .inl h, fun h => h.elim id fun ⟨i, hi, _⟩ => by cases hi⟩⟩
  | cons a l ih =>
    intro o ho hf
    rw [List.foldl_cons]
    cases hp : p a
    · obtain ⟨h1, h2⟩ := ih o ho fun i hi => hf i (List.mem_cons_of_mem _ hi)
      refine ⟨h1, fun j => (h2 j).trans ⟨fun h => h.elim .inl fun ⟨i, hi, h⟩ => .inr ⟨i, List.mem_cons_of_mem _ hi, h⟩, fun h => h.elim .inl fun ⟨i, hi, hq⟩ => ?_⟩⟩
      rcases List.mem_cons.1 hi with rfl | hi
      · rw [hp] at hq; cases hq.1
      · exact .inr ⟨i, hi, hq⟩
    · obtain ⟨h3, h4⟩ := Mk.or hn ho (hf a (List.mem_cons_self ..) hp)
      obtain ⟨h1, h2⟩ := ih _ h3 fun i hi => hf i (List.mem_cons_of_mem _ hi)
      refine ⟨h1, fun j => (h2 j).trans ?_⟩
      rw [h4 j, Bool.or_eq_true]
      constructor
      · rintro ((h | h) | ⟨i, hi, h⟩)
        · exact .inl h
        · exact .inr ⟨a, List.mem_cons_self .., hp, h⟩
        · exact .inr ⟨i, List.mem_cons_of_mem _ hi, h⟩
      · rintro (h | ⟨i, hi, h⟩)
        · exact .inl (.inl h)
        · rcases List.mem_cons.1 hi with rfl | hi
          · exact .inl (.inr h.2)
          · exact .inr ⟨i, hi, h⟩
/-- A relation: a list of n masks of n bits. -/
def Rl (n : Nat) (a : List Int) : Prop := a.length = n ∧ ∀ i : Nat, i < n → Mk n (gI a (i : Int))
/-- i sees j. -/
def rb (a : List Int) (i j : Nat) : Bool := tb (gI a (i : Int)) j

theorem pow_fold {n : Nat} (hn : n ≤ 62) (p : Nat → Bool) : Mk n ((List.range n).foldl (fun o i => bif p i then orI o (powI (i : Int)) else o) 0) ∧ ∀ j, tb ((List.range n).foldl (fun o i => bif p i then orI o (powI (i : Int)) else o) 0) j = (decide (j < n) && p j) := by
  obtain ⟨h1, h2⟩ := fold_or hn p (fun i => powI (i : Int)) (List.range n) 0 (Mk.zero n) (fun i hi _ => Mk.pow (List.mem_range.1 hi))
  refine ⟨h1, fun j => ?_⟩
  rw [Bool.eq_iff_iff, h2 j, Bool.and_eq_true, decide_eq_true_iff]
  constructor
  · rintro (h | ⟨i, hi, h3, h4⟩)
    · rw [tb_zero] at h; cases h
    · rw [tb_pow] at h4
      have := of_decide_eq_true h4
      subst this
      exact ⟨List.mem_range.1 hi, h3⟩
  · rintro ⟨h3, h4⟩
    exact .inr ⟨j, List.mem_range.2 h3, h4, by rw [tb_pow]; simp⟩
theorem Mk.mk' {n : Nat} {m : Int} (h0 : 0 ≤ m) (h : m ≤ fullI (n : Int)) : Mk n m := ⟨h0, h⟩

end Go.Proofs.YtkilkfhjfobcdaaDoor
