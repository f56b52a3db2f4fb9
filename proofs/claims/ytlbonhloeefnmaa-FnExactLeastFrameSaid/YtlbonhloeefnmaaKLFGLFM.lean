/- GLFM: models and contracts, printed by wip/gen/gen.py -/
import Derived.Test.YtlbonhloeefnmaaKLFGLFS
import Derived.Test.YtlbonhloeefnmaaKLFGLFI
set_option linter.unusedVariables false
set_option linter.unusedSimpArgs false
namespace Go.Proofs.Ytlbonhloeefnmaa
open Go.RowKit
theorem listLoopR {α : Type} (xs : List Int) (g : α → Int → α) (L : Nat → Int → α → Int × α) (hL : ∀ r t o, L (r + 1) t o = bif decide (t < (xs.length : Int)) then L r (t + 1) (g o (gI xs t)) else (t, o)) (o : α) :
    (L (Int.toNat ((xs.length : Int) - 0) + 1) 0 o).2 = xs.foldl g o := by
  rw [rangeLoopR0 (xs.length : Int) (by omega) (fun o t => g o (gI xs t)) L hL, Int.toNat_natCast]
  conv => rhs; rw [← map_gI xs]
  rw [List.foldl_map]
theorem renumber_bits {n : Nat} (hn : n ≤ 8) {a o : List Int} (ha : Rl n a) (ho : OkP n o) (hl : o.length = n) : Rl n (F_l05Renumber a o) ∧ ∀ i j, i < n → rb (F_l05Renumber a o) i j = (decide (j < n) && tb (gI a (gI o (i : Int))) (gI o (j : Int)).toNat) := by
  have row : ∀ i : Nat, i < n → Mk n (gI (F_l05Renumber a o) (i : Int)) ∧ ∀ j, rb (F_l05Renumber a o) i j = (decide (j < n) && tb (gI a (gI o (i : Int))) (gI o (j : Int)).toNat) := fun i hi => by
    have e : gI (F_l05Renumber a o) (i : Int) = F_l05Squeeze o (gI a (gI o (i : Int))) := by rw [renumber_map, gI_map (by omega)]
    have hx := ho.rng (i : Int) (by omega) (by omega)
    have hm : Mk n (gI a (gI o (i : Int))) := by
      have := ha.2 (gI o (i : Int)).toNat (by omega)
      rwa [Int.toNat_of_nonneg hx.1] at this
    generalize gI a (gI o (i : Int)) = m at *
    have e2 : F_l05Squeeze o m = (List.range n).foldl (fun out (k : Nat) => bif F_l01Bit m (gI o (k : Int)) then orI out (powI (k : Int)) else out) 0 := by
      unfold F_l05Squeeze
      rw [rangeLoop0 (o.length : Int) (by omega) (fun out k => bif F_l01Bit m (gI o k) then orI out (powI k) else out) (F_l05Squeeze_L1 o m) (fun _ _ _ => rfl), hl, Int.toNat_natCast]
    obtain ⟨p1, p2⟩ := pow_fold (n := n) (by omega) (fun k => F_l01Bit m (gI o (k : Int)))
    rw [← e2] at p1 p2
    unfold rb
    rw [e]
    refine ⟨p1, fun j => ?_⟩
    rw [p2 j]
    by_cases hj : j < n
    · have hy := ho.rng (j : Int) (by omega) (by omega)
      have := tb_has (n := n) (by omega) hm (j := (gI o (j : Int)).toNat) (by omega)
      rw [Int.toNat_of_nonneg hy.1] at this
      rw [show F_l01Bit m (gI o (j : Int)) = F_has m (gI o (j : Int)) from rfl, this]
    · rw [decide_eq_false hj, Bool.false_and, Bool.false_and]
  refine ⟨⟨by rw [renumber_len, hl], fun i hi => (row i hi).1⟩, fun i j hi => (row i hi).2 j⟩
theorem to_key (o : List Int) (hx : ∀ m : Int, 0 ≤ m → m < (o.length : Int) → 0 ≤ gI o m ∧ gI o m < (o.length : Int)) (hinj : ∀ i j : Nat, i < o.length → j < o.length → gI o (i : Int) = gI o (j : Int) → i = j) : ∀ (k t : Nat) (xs : List Int), t + k = o.length → xs.length = o.length → (∀ i : Nat, i < t → gI xs (gI o (i : Int)) = (i : Int)) →
    ∀ i : Nat, i < o.length → gI (F_reordered_L1 o (k + 1) (t : Int) xs).2 (gI o (i : Int)) = (i : Int) := by
  intro k
  induction k with
  | zero =>
    intro t xs ht hl h i hi
    show gI (F_reordered_L1b o _ (t : Int) xs).2 _ = _
    unfold F_reordered_L1b
    rw [decide_eq_false (by omega), cond_false]
    exact h i (by omega)
  | succ k ih =>
    intro t xs ht hl h i hi
    show gI (F_reordered_L1b o (F_reordered_L1 o (k + 1)) (t : Int) xs).2 _ = _
    unfold F_reordered_L1b
    rw [decide_eq_true (by omega), cond_true, show (t : Int) + 1 = ((t + 1 : Nat) : Int) by omega]
    refine ih (t + 1) _ (by omega) (by rw [sI_len, hl]) (fun j hj => ?_) i hi
    have h1 := hx (t : Int) (by omega) (by omega)
    have h2 := hx (j : Int) (by omega) (by omega)
    have e : gI (sI xs (gI o (t : Int)) (t : Int)) (gI o (j : Int)) = if (gI o (t : Int)).toNat = (gI o (j : Int)).toNat then (t : Int) else gI xs (gI o (j : Int)) := by
      unfold sI
      show gi _ _ = _
      rw [gi_set (by omega)]; rfl
    rw [e]
    by_cases hq : (gI o (t : Int)).toNat = (gI o (j : Int)).toNat
    · rw [if_pos hq]
      have := hinj t j (by omega) (by omega) (by omega)
      rw [this]
    · rw [if_neg hq]
      have : j ≠ t := fun e => hq (by rw [e])
      exact h j (by omega)
theorem fold_sI (g : Int → Int → Int) (i : Int) (h0 : 0 ≤ i) : ∀ (l : List Int) (out : List Int), i < (out.length : Int) → l.foldl (fun o y => sI o i (g (gI o i) y)) out = sI out i (l.foldl g (gI out i)) := by
  intro l
  induction l with
  | nil => intro out h; exact (sI_self h0 h).symm
  | cons y l ih =>
    intro out h
    have hg : ∀ a : Int, gI (sI out i a) i = a := fun a => by
      unfold sI; show gi _ _ = _; rw [gi_set (by omega), if_pos rfl]
    rw [List.foldl_cons, ih _ (by rw [sI_len]; exact h), List.foldl_cons, hg]
    unfold sI
    rw [List.set_set]
theorem reordered_bits {n : Nat} (hn : n ≤ 8) {a o : List Int} (ha : Rl n a) (ho : OkP n o) (hl : o.length = n) : Rl n (F_reordered a o) ∧ ∀ i j, i < n → rb (F_reordered a o) i j = (decide (j < n) && tb (gI a (gI o (i : Int))) (gI o (j : Int)).toNat) := by
  have hx := ho.rng
  rw [← hl] at hx
  have hto := to_key o hx (fun i j hi hj => ho.inj hi hj) o.length 0 (List.replicate (Int.toNat (o.length : Int)) 0) (by omega) (by simp) (fun i hi => by omega)
  unfold F_reordered
  rw [show Int.toNat ((o.length : Int) - 0) = o.length by omega]
  rw [show ((0 : Nat) : Int) = 0 from rfl] at hto
  have e3 : ∀ t : Int, 0 ≤ t → ∀ out : List Int, t < (out.length : Int) → (F_reordered_L3 a o t (Int.toNat (((F_membersOf (gI a (gI o t))).length : Int) - 0) + 1) 0 out).2 = sI out t ((F_membersOf (gI a (gI o t))).foldl (fun x y => orI x (shlI 1 (gI (F_reordered_L1 o (o.length + 1) 0 (List.replicate (Int.toNat (o.length : Int)) 0)).2 y))) (gI out t)) := fun t ht out hlt => by
    rw [listLoopR (F_membersOf (gI a (gI o t))) (fun out y => sI out t (orI (gI out t) (shlI 1 (gI (F_reordered_L1 o (o.length + 1) 0 (List.replicate (Int.toNat (o.length : Int)) 0)).2 y)))) (F_reordered_L3 a o t) (fun r k out => by
      show F_reordered_L3b a o t _ k out = _
      unfold F_reordered_L3b
      rw [show Int.toNat ((o.length : Int) - 0) = o.length by omega])]
    exact fold_sI (fun x y => orI x (shlI 1 (gI (F_reordered_L1 o (o.length + 1) 0 (List.replicate (Int.toNat (o.length : Int)) 0)).2 y))) t ht _ out hlt
  generalize (F_reordered_L1 o (o.length + 1) 0 (List.replicate (Int.toNat (o.length : Int)) 0)).2 = to at *
  obtain ⟨m1, m2⟩ := mapLoop (o.length : Int) (fun t x => (F_membersOf (gI a (gI o t))).foldl (fun x y => orI x (shlI 1 (gI to y))) x) (F_reordered_L2 a o) (fun r t out ht hlo => by
    show F_reordered_L2b a o _ t out = _
    unfold F_reordered_L2b
    by_cases h : t < (o.length : Int)
    · rw [decide_eq_true h, cond_true, cond_true, e3 t ht out (by omega)]
    · rw [decide_eq_false h, cond_false, cond_false]) (List.replicate (Int.toNat (o.length : Int)) 0) (by simp)
  rw [show Int.toNat ((o.length : Int) - 0) = o.length by omega] at m1 m2
  generalize (F_reordered_L2 a o (o.length + 1) 0 (List.replicate (Int.toNat (o.length : Int)) 0)).2 = res at *
  have row : ∀ i : Nat, i < n → Mk n (gI res (i : Int)) ∧ ∀ j, rb res i j = (decide (j < n) && tb (gI a (gI o (i : Int))) (gI o (j : Int)).toNat) := fun i hi => by
    have hxi := ho.rng (i : Int) (by omega) (by omega)
    have hm : Mk n (gI a (gI o (i : Int))) := by
      have := ha.2 (gI o (i : Int)).toNat (by omega)
      rwa [Int.toNat_of_nonneg hxi.1] at this
    have e := m2 i (by omega)
    generalize gI a (gI o (i : Int)) = m at *
    rw [members_fold (n := n) (by omega) hm.1 hm.2, gI_replicate (by omega)] at e
    have toY : ∀ y : Nat, y < n → ∃ j : Nat, j < n ∧ gI o (j : Int) = (y : Int) ∧ gI to (y : Int) = (j : Int) := fun y hy => by
      obtain ⟨j, hj, ej⟩ := ho.all hl hy
      refine ⟨j, hj, ej, ?_⟩
      rw [← ej]; exact hto j (by omega)
    have mkT : ∀ y ∈ List.range n, F_has m (y : Int) = true → Mk n (shlI 1 (gI to (y : Int))) := fun y hy _ => by
      obtain ⟨j, hj, _, e2⟩ := toY y (List.mem_range.1 hy)
      rw [e2, pow_shl (by omega) (by omega)]
      exact Mk.pow hj
    obtain ⟨f1, f2⟩ := fold_or (n := n) (by omega) (fun y => F_has m (y : Int)) (fun y => shlI 1 (gI to (y : Int))) (List.range n) 0 (Mk.zero n) mkT
    rw [← e] at f1 f2
    refine ⟨f1, fun j => ?_⟩
    show tb (gI res (i : Int)) j = _
    rw [Bool.eq_iff_iff, f2 j, Bool.and_eq_true, decide_eq_true_iff]
    constructor
    · rintro (h | ⟨y, hy, h1, h2⟩)
      · rw [tb_zero] at h; cases h
      · obtain ⟨k, hk, k1, k2⟩ := toY y (List.mem_range.1 hy)
        rw [k2, pow_shl (by omega) (by omega), tb_pow] at h2
        have := of_decide_eq_true h2
        subst this
        rw [tb_has (n := n) (by omega) hm (by have := List.mem_range.1 hy; omega)] at h1
        rw [k1, Int.toNat_natCast]
        exact ⟨hk, h1⟩
    · rintro ⟨hj, h⟩
      have hy := ho.rng (j : Int) (by omega) (by omega)
      refine .inr ⟨(gI o (j : Int)).toNat, List.mem_range.2 (by omega), ?_, ?_⟩
      · rw [tb_has (n := n) (by omega) hm (by omega)]; exact h
      · rw [Int.toNat_of_nonneg hy.1, hto j (by omega), pow_shl (by omega) (by omega), tb_pow]
        exact decide_eq_true rfl
  exact ⟨⟨by omega, fun i hi => (row i hi).1⟩, fun i j hi => (row i hi).2 j⟩
theorem rl_ext9 {n : Nat} {a b : List Int} (ha : Rl n a) (hb : Rl n b) (h : ∀ i j, i < n → rb a i j = rb b i j) : a = b := by
  have l1 := ha.1; have l2 := hb.1
  apply ext_gi (by omega)
  intro k hk
  have e : gI a (k : Int) = gI b (k : Int) := tb_ext (ha.2 k (by omega)).1 (hb.2 k (by omega)).1 fun j => h k j (by omega)
  unfold gI at e
  rwa [Int.toNat_natCast] at e
theorem reordered_eq {n : Nat} (hn : n ≤ 8) {a o : List Int} (ha : Rl n a) (ho : OkP n o) (hl : o.length = n) : F_reordered a o = F_l05Renumber a o := by
  obtain ⟨r1, r2⟩ := reordered_bits hn ha ho hl
  obtain ⟨s1, s2⟩ := renumber_bits hn ha ho hl
  exact rl_ext9 r1 s1 fun i j hi => by rw [r2 i j hi, s2 i j hi]
theorem cmp_eq (x y : Int) : F_cmp_Compare x y = bif decide (x < y) then (-1) else (bif decide (y < x) then 1 else 0) := by
  unfold F_cmp_Compare F_cmp_isNaN
  rw [decide_eq_true (rfl : x = x), decide_eq_true (rfl : y = y)]; rfl
theorem compare_less (s1 s2 : List Int) : decide (F_z_Compare s1 s2 < 0) = F_l01Less s1 s2 := by
  have key : ∀ (k : Nat) (i : Int), 0 ≤ i → (s1.length : Int) - i = (k : Int) → decide ((bif isOk (F_z_Compare_L1 s1 s2 (k + 1) i) then (bif (decide ((s1.length : Int) < (s2.length : Int))) then (-1) else 0) else errD (F_z_Compare_L1 s1 s2 (k + 1) i) : Int) < 0) = (bif isOk (F_l01Less_L1 s1 s2 (k + 1) i) then (decide ((s1.length : Int) < (s2.length : Int))) else errD (F_l01Less_L1 s1 s2 (k + 1) i)) := by
    intro k
    induction k with
    | zero =>
      intro i h0 hk
      have e1 : F_z_Compare_L1 s1 s2 (0 + 1) i = .ok i := by
        show F_z_Compare_L1b s1 s2 _ i = _
        unfold F_z_Compare_L1b
        rw [decide_eq_false (by omega), cond_false]
      have e2 : F_l01Less_L1 s1 s2 (0 + 1) i = .ok i := by
        show F_l01Less_L1b s1 s2 _ i = _
        unfold F_l01Less_L1b
        rw [decide_eq_false (show ¬ i < (s1.length : Int) by omega), Bool.false_and, cond_false]
      rw [e1, e2]
      cases h : decide ((s1.length : Int) < (s2.length : Int)) <;> rfl
    | succ k ih =>
      intro i h0 hk
      have e1 : F_z_Compare_L1 s1 s2 (k + 1 + 1) i = (bif (decide ((s2.length : Int) ≤ i)) then (.error 1) else (bif (!decide ((F_cmp_Compare (gI s1 i) (gI s2 i)) = 0)) then (.error (F_cmp_Compare (gI s1 i) (gI s2 i))) else (F_z_Compare_L1 s1 s2 (k + 1) (i + 1)))) := by
        show F_z_Compare_L1b s1 s2 _ i = _
        unfold F_z_Compare_L1b
        rw [decide_eq_true (show i < (s1.length : Int) by omega), cond_true]
      have e2 : F_l01Less_L1 s1 s2 (k + 1 + 1) i = F_l01Less_L1b s1 s2 (F_l01Less_L1 s1 s2 (k + 1)) i := rfl
      rw [e1, e2]
      unfold F_l01Less_L1b
      rw [decide_eq_true (show i < (s1.length : Int) by omega), Bool.true_and]
      by_cases h2 : (s2.length : Int) ≤ i
      · rw [decide_eq_true h2, cond_true, decide_eq_false (show ¬ i < (s2.length : Int) by omega), cond_false]
        show decide ((1 : Int) < 0) = decide ((s1.length : Int) < (s2.length : Int))
        rw [decide_eq_false (show ¬ (s1.length : Int) < (s2.length : Int) by omega)]; rfl
      · rw [decide_eq_false h2, cond_false, decide_eq_true (show i < (s2.length : Int) by omega), cond_true, cmp_eq]
        by_cases h3 : gI s1 i < gI s2 i
        · rw [decide_eq_true h3, cond_true, decide_eq_false (show ¬ gI s1 i = gI s2 i by omega)]; rfl
        · by_cases h4 : gI s2 i < gI s1 i
          · rw [decide_eq_false h3, cond_false, decide_eq_true h4, cond_true, decide_eq_false (show ¬ gI s1 i = gI s2 i by omega)]; rfl
          · rw [decide_eq_false h3, cond_false, decide_eq_false h4, cond_false, decide_eq_true (show gI s1 i = gI s2 i by omega)]
            exact ih (i + 1) (by omega) (by omega)
  unfold F_z_Compare F_l01Less
  rw [show Int.toNat ((s1.length : Int) - 0) = s1.length by omega]
  exact key s1.length 0 (by omega) (by omega)
theorem perm_dfs {n : Nat} (hn : n ≤ 8) (rel : List Int) : ∀ (d r : Nat) (used : Int) (order best : List Int), order.length + d = n → Mk n used → (∀ j : Nat, j < n → tb used j = decide ((j : Int) ∈ order)) → d < r →
    F_permutations_k1_r r used order (n : Int) rel best = (order, (PD n d order).foldl (fun b o => F_leastRelation_k1 o rel b) best) := by
  intro d
  induction d with
  | zero =>
    intro r used order best hd hu hb hr
    obtain ⟨r, rfl⟩ : ∃ r', r = r' + 1 := ⟨r - 1, by omega⟩
    show F_permutations_k1_b (F_permutations_k1_r r) used order (n : Int) rel best = _
    unfold F_permutations_k1_b
    rw [decide_eq_true (by omega)]; rfl
  | succ d ih =>
    intro r used order best hd hu hb hr
    obtain ⟨r, rfl⟩ : ∃ r', r = r' + 1 := ⟨r - 1, by omega⟩
    have key : ∀ (k : Nat) (i : Nat) (b : List Int), i + k = n → (F_permutations_k1_L1 used (n : Int) rel (F_permutations_k1_r r) (k + 1) (i : Int) order b).2 = (order, (List.range k).foldl (fun b (j : Nat) => bif !decide (((i + j : Nat) : Int) ∈ order) then (PD n d (order ++ [((i + j : Nat) : Int)])).foldl (fun b o => F_leastRelation_k1 o rel b) b else b) b) := by
      intro k
      induction k with
      | zero =>
        intro i b hk
        show (F_permutations_k1_L1b used (n : Int) rel (F_permutations_k1_r r) _ (i : Int) order b).2 = _
        unfold F_permutations_k1_L1b
        rw [decide_eq_false (by omega)]; rfl
      | succ k ihk =>
        intro i b hk
        show (F_permutations_k1_L1b used (n : Int) rel (F_permutations_k1_r r) (F_permutations_k1_L1 used (n : Int) rel (F_permutations_k1_r r) (k + 1)) (i : Int) order b).2 = _
        unfold F_permutations_k1_L1b
        rw [decide_eq_true (by omega), cond_true, tb_has (n := n) (by omega) hu (by omega), hb i (by omega), List.range_succ_eq_map, List.foldl_cons, List.foldl_map, show (i : Int) + 1 = ((i + 1 : Nat) : Int) by omega]
        have ef : (fun b (j : Nat) => bif !decide (((i + j.succ : Nat) : Int) ∈ order) then (PD n d (order ++ [((i + j.succ : Nat) : Int)])).foldl (fun b o => F_leastRelation_k1 o rel b) b else b) = (fun b (j : Nat) => bif !decide (((i + 1 + j : Nat) : Int) ∈ order) then (PD n d (order ++ [((i + 1 + j : Nat) : Int)])).foldl (fun b o => F_leastRelation_k1 o rel b) b else b) := by
          funext b j
          rw [show i + j.succ = i + 1 + j by omega]
        rw [ef, Nat.add_zero i]
        by_cases hm : (i : Int) ∈ order
        · rw [decide_eq_true hm, Bool.not_true, cond_false, cond_false]
          exact ihk (i + 1) b (by omega)
        · rw [decide_eq_false hm, Bool.not_false, cond_true, cond_true]
          obtain ⟨o1, o2⟩ := Mk.or (n := n) (by omega) hu (Mk.pow (n := n) (t := i) (by omega))
          rw [pow_shl (by omega) (by omega), ih r _ (order ++ [(i : Int)]) b (by rw [len_app1]; omega) o1 (fun j hj => by
            rw [o2 j, hb j hj, tb_pow, Bool.eq_iff_iff, Bool.or_eq_true, decide_eq_true_iff, decide_eq_true_iff, decide_eq_true_iff, List.mem_append, List.mem_singleton]
            refine or_congr Iff.rfl ?_
            omega) (by omega)]
          dsimp only
          rw [slI_pop2]
          exact ihk (i + 1) _ (by omega)
    show F_permutations_k1_b (F_permutations_k1_r r) used order (n : Int) rel best = _
    unfold F_permutations_k1_b
    have := key n 0 best (by omega)
    rw [decide_eq_false (by omega), cond_false, show Int.toNat ((n : Int) - 0) = n by omega, show (0 : Int) = ((0 : Nat) : Int) from rfl, this]
    show (order, _) = (order, ((extv n order).flatMap (PD n d)).foldl _ best)
    unfold extv
    rw [List.foldl_flatMap, List.foldl_map, List.foldl_filter]
    refine congrArg (Prod.mk order) ?_
    apply foldl_ext'
    intro j _ b
    rw [Nat.zero_add]
    cases decide ((j : Int) ∈ order) <;> rfl
theorem least_eq {n : Nat} (hn : n ≤ 6) {a : List Int} (ha : Rl n a) : F_leastRelation a = F_l05Least a := by
  have hl := ha.1
  have e1 : F_leastRelation a = (F_permutations_k1_r (((a.length : Int) - (([] : List Int).length : Int)).toNat + 1) 0 [] (a.length : Int) a a).2 := rfl
  have e2 := perm_dfs (n := n) (by omega) a n (n + 1) 0 [] a (by simp) (Mk.zero n) (fun j hj => by rw [tb_zero]; simp) (Nat.lt_succ_self n)
  rw [e1, hl, show ((n : Int) - (([] : List Int).length : Int)).toNat + 1 = n + 1 by simp, e2]
  unfold F_l05Least
  rw [hl, rangeLoop0 ((F_l05Orders (n : Int)).length : Int) (by omega) (fun b i => bif F_l01Less (F_l05Renumber a (gL (F_l05Orders (n : Int)) i)) b then F_l05Renumber a (gL (F_l05Orders (n : Int)) i) else b) (F_l05Least_L1 a) (fun r o t => by
    show F_l05Least_L1b a _ o t = _
    unfold F_l05Least_L1b
    rw [hl]
    cases F_l01Less (F_l05Renumber a (gL (F_l05Orders (n : Int)) t)) o
    · rw [cond_false, cond_false]
    · rw [cond_true, cond_true]), Int.toNat_natCast]
  have e3 := List.foldl_map (f := fun (j : Nat) => gL (F_l05Orders (n : Int)) (j : Int)) (g := fun b x => bif F_l01Less (F_l05Renumber a x) b then F_l05Renumber a x else b) (l := List.range (F_l05Orders (n : Int)).length) (init := a)
  rw [map_gL2] at e3
  rw [← e3, orders_eq]
  show (PD n n []).foldl _ a = _
  apply foldl_ext'
  intro o hO b
  obtain ⟨k1, k2⟩ := PD_ok n n [] o (OkP.nil n) hO
  unfold F_leastRelation_k1
  rw [compare_less, reordered_eq (n := n) (by omega) ha k1 (by simpa using k2)]
theorem LeastFrame_eq (f0 : Int) (f1 : List Int) : F_LeastFrame f0 f1 = F_s_LeastFrame f0 f1 := by
  unfold F_LeastFrame F_s_LeastFrame
  rw [isFrame_eq]
  cases h : F_l05Is f0 f1
  · rfl
  · rw [Bool.not_true, cond_false, cond_false]
    by_cases h6 : 6 < f0
    · rw [decide_eq_true h6]; rfl
    · have ht := l05Is_t h
      obtain ⟨n, rfl⟩ : ∃ n : Nat, f0 = (n : Int) := ⟨f0.toNat, by omega⟩
      have ha : Rl n f1 := ⟨by omega, fun i hi => l05Is_m h (i : Int) (by omega) (by omega)⟩
      rw [decide_eq_false h6, cond_false, cond_false, least_eq (n := n) (by omega) ha]
      rfl
theorem LeastFrame_len (f0 : Int) (f1 : List Int) : (F_LeastFrame f0 f1).1.2.length ≤ 8 := by
  rw [LeastFrame_eq]
  unfold F_s_LeastFrame
  cases h : F_l05Is f0 f1
  · exact Nat.zero_le _
  · by_cases h6 : 6 < f0
    · rw [decide_eq_true h6]; exact Nat.zero_le _
    · have ht := l05Is_t h
      obtain ⟨n, rfl⟩ : ∃ n : Nat, f0 = (n : Int) := ⟨f0.toNat, by omega⟩
      have ha : Rl n f1 := ⟨by omega, fun i hi => l05Is_m h (i : Int) (by omega) (by omega)⟩
      rw [Bool.not_true, cond_false, decide_eq_false h6, cond_false]
      show (F_l05Least f1).length ≤ 8
      rw [least_len ha.1]; omega
end Go.Proofs.Ytlbonhloeefnmaa
