/- GCHM: models and contracts, printed by wip/gen/gen.py -/
import Derived.Test.YtkilkfhjfobcdaaKCHGHS2
import Derived.Test.YtkilkfhjfobcdaaKCHGHI2
set_option linter.unusedVariables false
set_option linter.unusedSimpArgs false
namespace Go.Proofs.Ytkilkfhjfobcdaa
open Go.RowKit
theorem gr_low {mask : Int} {A : List Int} (h0 : 0 ≤ mask) (h1 : mask ≤ fullI (A.length : Int)) (hl : A.length ≤ 30) : F_greatest mask A = bif decide (F_l18Low A mask < 0) then (0, false) else (F_l18Low A mask, true) := by
  rw [greatest_val h0 h1 hl, l18Low_val]
  show (match (List.range A.length).find? (fun (j : Nat) => F_l01Bit mask (j : Int) && decide (anI mask (gI A (j : Int)) = 0)) with | some j => ((j : Int), true) | none => (0, false)) = _
  cases (List.range A.length).find? (fun (j : Nat) => F_l01Bit mask (j : Int) && decide (anI mask (gI A (j : Int)) = 0)) with
  | none => rfl
  | some j =>
    show ((j : Int), true) = bif decide ((j : Int) < 0) then (0, false) else ((j : Int), true)
    rw [decide_eq_false (by omega), cond_false]
theorem rep9 {a : List Int} {k : Nat} {y v : Int} (hl : (a.length : Int) = y) : sI (a ++ List.replicate (k + 1) 0) y v = (a ++ [v]) ++ List.replicate k 0 := by
  unfold sI
  rw [List.set_append_right _ _ (by omega), show y.toNat - a.length = 0 by omega, List.replicate_succ, List.set_cons_zero, List.append_assoc]; rfl
theorem and9_bd {A : List Int} (hn : A.length ≤ 30) (h : ∀ m : Int, 0 ≤ m → m < (A.length : Int) → 0 ≤ gI A m ∧ gI A m ≤ fullI (A.length : Int)) {x y : Int} (hx : 0 ≤ x ∧ x < (A.length : Int)) (hy : 0 ≤ y ∧ y < (A.length : Int)) : 0 ≤ andI (gI A x) (gI A y) ∧ andI (gI A x) (gI A y) ≤ fullI (A.length : Int) := by
  have h1 := h x hx.1 hx.2
  have h2 := h y hy.1 hy.2
  have h3 := fullI_bd (n := (A.length : Int)) (by omega) (by omega)
  have := andI_le (m := gI A x) (k := gI A y) (by omega) (by omega) (by omega) (by omega)
  omega
section
variable {A : List Int} (hn : A.length ≤ 30) (hA : ∀ m : Int, 0 ≤ m → m < (A.length : Int) → 0 ≤ gI A m ∧ gI A m ≤ fullI (A.length : Int))
include hn hA
theorem inv9_eq : F_inverse A = F_l01Inverse A := inverse_eq hn (rl_ofL hA)
theorem inv9_len : (F_l01Inverse A).length = A.length := by rw [← inv9_eq hn hA, inverse_len]
theorem inv9_bd : ∀ m : Int, 0 ≤ m → m < ((F_l01Inverse A).length : Int) → 0 ≤ gI (F_l01Inverse A) m ∧ gI (F_l01Inverse A) m ≤ fullI ((F_l01Inverse A).length : Int) := fun m h0 h1 => by
  rw [inv9_len hn hA] at h1 ⊢
  rw [← inv9_eq hn hA]
  exact inv9_mk hA hn m h0 h1
theorem L2_eq9 {x : Int} (hx : 0 ≤ x ∧ x < (A.length : Int)) : ∀ (k : Nat) (y : Int) (a o : List Int), 0 ≤ y → (A.length : Int) - y = (k : Int) → (a.length : Int) = y → (o.length : Int) = y →
    F_heytingOf_L2 A x (k + 1) y (a ++ List.replicate k 0) (o ++ List.replicate k 0) = (match F_l18Build_L2 A x (k + 1) a o y with | .error e => .error e | .ok q => .ok (q.2.2, q.1, q.2.1)) := by
  intro k
  induction k with
  | zero =>
    intro y a o h0 h1 ha ho
    show F_heytingOf_L2b A x (F_heytingOf_L2 A x 0) y _ _ = (match F_l18Build_L2b A x (F_l18Build_L2 A x 0) a o y with | .error e => .error e | .ok q => .ok (q.2.2, q.1, q.2.1))
    unfold F_heytingOf_L2b F_l18Build_L2b
    rw [decide_eq_false (show ¬ y < (A.length : Int) by omega), cond_false, cond_false, List.replicate_zero, List.append_nil, List.append_nil]
  | succ k ih =>
    intro y a o h0 h1 ha ho
    show F_heytingOf_L2b A x (F_heytingOf_L2 A x (k + 1)) y _ _ = (match F_l18Build_L2b A x (F_l18Build_L2 A x (k + 1)) a o y with | .error e => .error e | .ok q => .ok (q.2.2, q.1, q.2.1))
    unfold F_heytingOf_L2b F_l18Build_L2b
    have hy : 0 ≤ y ∧ y < (A.length : Int) := by omega
    have b1 := and9_bd hn hA hx hy
    have b2 := and9_bd (A := F_l01Inverse A) (by rw [inv9_len hn hA]; exact hn) (inv9_bd hn hA) (x := x) (y := y) (by rw [inv9_len hn hA]; exact hx) (by rw [inv9_len hn hA]; exact hy)
    rw [decide_eq_true hy.2, cond_true, cond_true, inv9_eq hn hA, gr_low b1.1 b1.2 hn, gr_low b2.1 b2.2 (by rw [inv9_len hn hA]; exact hn), gI_last9 ha, gI_last9 ho]
    generalize F_l18Low (F_l01Inverse A) (andI (gI (F_l01Inverse A) x) (gI (F_l01Inverse A) y)) = v1
    generalize F_l18Low A (andI (gI A x) (gI A y)) = v2
    by_cases c1 : v1 < 0
    · rw [decide_eq_true c1]; rfl
    · rw [decide_eq_false c1]
      by_cases c2 : v2 < 0
      · rw [decide_eq_true c2]; rfl
      · rw [decide_eq_false c2]
        show F_heytingOf_L2 A x (k + 1) (y + 1) (sI (a ++ List.replicate (k + 1) 0) y v1) (sI (o ++ List.replicate (k + 1) 0) y v2) = _
        rw [rep9 ha, rep9 ho]
        exact ih (y + 1) (a ++ [v1]) (o ++ [v2]) (by omega) (by omega) (by rw [List.length_append]; simp only [List.length_cons, List.length_nil]; omega) (by rw [List.length_append]; simp only [List.length_cons, List.length_nil]; omega)
theorem L1_eq9 : ∀ (r : Nat) (x : Int) (a o : List (List Int)), 0 ≤ x → F_heytingOf_L1 A r x a o = F_l18Build_L1 A r x a o := by
  intro r
  induction r with
  | zero => intro x a o _; rfl
  | succ r ih =>
    intro x a o h0
    show F_heytingOf_L1b A (F_heytingOf_L1 A r) x a o = F_l18Build_L1b A (F_l18Build_L1 A r) x a o
    unfold F_heytingOf_L1b F_l18Build_L1b
    by_cases hx : x < (A.length : Int)
    · rw [decide_eq_true hx, cond_true, cond_true]
      have e := L2_eq9 hn hA ⟨h0, hx⟩ A.length 0 [] [] (Int.le_refl _) (by omega) rfl rfl
      rw [List.nil_append] at e
      rw [show Int.toNat ((A.length : Int) - 0) = A.length by omega, show Int.toNat (A.length : Int) = A.length by omega, e]
      cases F_l18Build_L2 A x (A.length + 1) [] [] 0 with
      | error e => rfl
      | ok q => exact ih (x + 1) (a ++ [q.1]) (o ++ [q.2.1]) (by omega)
    · rw [decide_eq_false hx, cond_false, cond_false]
omit hn hA in
theorem l18L2_rk (x : Int) (h1 : 1 ≤ (A.length : Int)) (hil : (F_l01Inverse A).length = A.length) : ∀ (r : Nat) (a o : List Int) (y : Int), (a.length : Int) = y → (∀ k : Int, 0 ≤ gI a k ∧ gI a k < (A.length : Int)) → (match F_l18Build_L2 A x r a o y with | .error _ => True | .ok q => ∀ k : Int, 0 ≤ gI q.1 k ∧ gI q.1 k < (A.length : Int)) := by
  intro r
  induction r with
  | zero => intro a o y _ h; exact h
  | succ r ih =>
    intro a o y hl h
    show (match F_l18Build_L2b A x (F_l18Build_L2 A x r) a o y with | .error _ => True | .ok q => ∀ k : Int, 0 ≤ gI q.1 k ∧ gI q.1 k < (A.length : Int))
    unfold F_l18Build_L2b
    cases decide (y < (A.length : Int))
    · exact h
    · rw [cond_true, gI_last9 hl]
      have hb := l18Low_bd (F_l01Inverse A) (andI (gI (F_l01Inverse A) x) (gI (F_l01Inverse A) y))
      rw [hil] at hb
      generalize F_l18Low (F_l01Inverse A) (andI (gI (F_l01Inverse A) x) (gI (F_l01Inverse A) y)) = v1 at hb ⊢
      generalize decide (gI (o ++ _) y < 0) = c2
      by_cases c1 : v1 < 0
      · rw [decide_eq_true c1]; trivial
      · rw [decide_eq_false c1]
        cases c2
        · exact ih _ _ _ (by rw [List.length_append]; simp only [List.length_cons, List.length_nil]; omega) (rk9_app h (by omega) (by omega))
        · trivial
omit hn hA in
theorem l18L1_rv (h1 : 1 ≤ (A.length : Int)) (hil : (F_l01Inverse A).length = A.length) : ∀ (r : Nat) (x : Int) (a o : List (List Int)), (∀ m k : Int, 0 ≤ gI (gL a m) k ∧ gI (gL a m) k < (A.length : Int)) → (match F_l18Build_L1 A r x a o with | .error _ => True | .ok q => ∀ m k : Int, 0 ≤ gI (gL q.2.1 m) k ∧ gI (gL q.2.1 m) k < (A.length : Int)) := by
  intro r
  induction r with
  | zero => intro x a o h; exact h
  | succ r ih =>
    intro x a o h
    show (match F_l18Build_L1b A (F_l18Build_L1 A r) x a o with | .error _ => True | .ok q => ∀ m k : Int, 0 ≤ gI (gL q.2.1 m) k ∧ gI (gL q.2.1 m) k < (A.length : Int))
    unfold F_l18Build_L1b
    cases decide (x < (A.length : Int))
    · exact h
    · rw [cond_true]
      have hp := l18L2_rk x h1 hil (Int.toNat ((A.length : Int) - 0) + 1) [] [] 0 rfl (rk9_nil h1)
      generalize F_l18Build_L2 A x (Int.toNat ((A.length : Int) - 0) + 1) [] [] 0 = q at hp ⊢
      cases q with
      | error e => trivial
      | ok q => exact ih (x + 1) (a ++ [q.1]) (o ++ [q.2.1]) (rv9_app h hp)
theorem has9 {N : List (List Int)} (hN : ∀ m k : Int, 0 ≤ gI (gL N m) k ∧ gI (gL N m) k < (A.length : Int)) {x y z : Int} (hy : 0 ≤ y ∧ y < (A.length : Int)) : F_has (gI (F_inverse A) y) (gI (gL N z) x) = F_l01Bit (gI A (gI (gL N z) x)) y := by
  have he := hN z x
  generalize gI (gL N z) x = e at he
  obtain ⟨j, rfl⟩ : ∃ j : Nat, e = (j : Int) := ⟨e.toNat, by omega⟩
  obtain ⟨i, rfl⟩ : ∃ i : Nat, y = (i : Int) := ⟨y.toNat, by omega⟩
  have hR := rl_ofL hA
  obtain ⟨r1, r2⟩ := inverse_bits hn hR
  show F_has (gI (F_inverse A) (i : Int)) (j : Int) = F_has (gI A (j : Int)) (i : Int)
  rw [tb_has (n := A.length) (by omega) (r1.2 i (by omega)) (by omega), tb_has (n := A.length) (by omega) (hR.2 j (by omega)) (by omega)]
  have := r2 i j (by omega)
  rw [decide_eq_true (show j < A.length by omega), Bool.true_and] at this
  exact this
theorem L5_eq9 (hN : ∀ m k : Int, 0 ≤ gI (gL ((okD (F_l18Build_L1 A (Int.toNat ((A.length : Int) - 0) + 1) 0 ([]) ([]))).2.1) m) k ∧ gI (gL ((okD (F_l18Build_L1 A (Int.toNat ((A.length : Int) - 0) + 1) 0 ([]) ([]))).2.1) m) k < (A.length : Int)) {x y : Int} (hy : 0 ≤ y ∧ y < (A.length : Int)) : ∀ (r : Nat) (c z : Int), 0 ≤ z → 0 ≤ c → c ≤ fullI (A.length : Int) → F_heytingOf_L5 A x y r c z = F_l18Build_L5 A x y r c z ∧ 0 ≤ (F_heytingOf_L5 A x y r c z).1 ∧ (F_heytingOf_L5 A x y r c z).1 ≤ fullI (A.length : Int) := by
  intro r
  induction r with
  | zero => intro c z _ h1 h2; exact ⟨rfl, h1, h2⟩
  | succ r ih =>
    intro c z h0 h1 h2
    show F_heytingOf_L5b A x y (F_heytingOf_L5 A x y r) c z = F_l18Build_L5b A x y (F_l18Build_L5 A x y r) c z ∧ 0 ≤ (F_heytingOf_L5b A x y (F_heytingOf_L5 A x y r) c z).1 ∧ (F_heytingOf_L5b A x y (F_heytingOf_L5 A x y r) c z).1 ≤ fullI (A.length : Int)
    unfold F_heytingOf_L5b F_l18Build_L5b
    rw [L1_eq9 hn hA _ _ _ _ (Int.le_refl _), has9 hn hA hN hy]
    by_cases hz : z < (A.length : Int)
    · rw [decide_eq_true hz, cond_true, cond_true]
      have e : shlI 1 z = powI z := shlI_one h0 (by omega)
      have b := or9_full (n := (A.length : Int)) (by omega) (by omega) h1 h2 h0 hz
      cases F_l01Bit (gI A (gI (gL ((okD (F_l18Build_L1 A (Int.toNat ((A.length : Int) - 0) + 1) 0 ([]) ([]))).2.1) z) x)) y
      · rw [cond_false, cond_false]
        exact ih c (z + 1) (by omega) h1 h2
      · rw [cond_true, cond_true]
        rw [e] at b ⊢
        exact ih _ (z + 1) (by omega) b.1 b.2
    · rw [decide_eq_false hz, cond_false, cond_false]; exact ⟨rfl, h1, h2⟩
theorem L4_eq9 (hN : ∀ m k : Int, 0 ≤ gI (gL ((okD (F_l18Build_L1 A (Int.toNat ((A.length : Int) - 0) + 1) 0 ([]) ([]))).2.1) m) k ∧ gI (gL ((okD (F_l18Build_L1 A (Int.toNat ((A.length : Int) - 0) + 1) 0 ([]) ([]))).2.1) m) k < (A.length : Int)) (x : Int) : ∀ (k : Nat) (y : Int) (a : List Int), 0 ≤ y → (A.length : Int) - y = (k : Int) → (a.length : Int) = y →
    F_heytingOf_L4 A x (k + 1) y (a ++ List.replicate k 0) = (match F_l18Build_L4 A x (k + 1) a y with | .error e => .error e | .ok q => .ok (q.2, q.1)) := by
  intro k
  induction k with
  | zero =>
    intro y a h0 h1 ha
    show F_heytingOf_L4b A x (F_heytingOf_L4 A x 0) y _ = (match F_l18Build_L4b A x (F_l18Build_L4 A x 0) a y with | .error e => .error e | .ok q => .ok (q.2, q.1))
    unfold F_heytingOf_L4b F_l18Build_L4b
    rw [decide_eq_false (show ¬ y < (A.length : Int) by omega), cond_false, cond_false, List.replicate_zero, List.append_nil]
  | succ k ih =>
    intro y a h0 h1 ha
    show F_heytingOf_L4b A x (F_heytingOf_L4 A x (k + 1)) y _ = (match F_l18Build_L4b A x (F_l18Build_L4 A x (k + 1)) a y with | .error e => .error e | .ok q => .ok (q.2, q.1))
    unfold F_heytingOf_L4b F_l18Build_L4b
    have hy : 0 ≤ y ∧ y < (A.length : Int) := by omega
    have hf := fullI_bd (n := (A.length : Int)) (by omega) (by omega)
    obtain ⟨e5, b1, b2⟩ := L5_eq9 hn hA hN (x := x) hy (Int.toNat ((A.length : Int) - 0) + 1) 0 0 (Int.le_refl _) (Int.le_refl _) hf.1
    rw [decide_eq_true hy.2, cond_true, cond_true, inv9_eq hn hA, gr_low b1 (by rw [inv9_len hn hA]; exact b2) (by rw [inv9_len hn hA]; exact hn), e5]
    generalize F_l18Low (F_l01Inverse A) (F_l18Build_L5 A x y (Int.toNat ((A.length : Int) - 0) + 1) 0 0).1 = v1
    by_cases c1 : v1 < 0
    · rw [decide_eq_true c1]; rfl
    · rw [decide_eq_false c1]
      show F_heytingOf_L4 A x (k + 1) (y + 1) (sI (a ++ List.replicate (k + 1) 0) y v1) = _
      rw [rep9 ha]
      exact ih (y + 1) (a ++ [v1]) (by omega) (by omega) (by rw [List.length_append]; simp only [List.length_cons, List.length_nil]; omega)
theorem L3_eq9 (hN : ∀ m k : Int, 0 ≤ gI (gL ((okD (F_l18Build_L1 A (Int.toNat ((A.length : Int) - 0) + 1) 0 ([]) ([]))).2.1) m) k ∧ gI (gL ((okD (F_l18Build_L1 A (Int.toNat ((A.length : Int) - 0) + 1) 0 ([]) ([]))).2.1) m) k < (A.length : Int)) : ∀ (r : Nat) (x : Int) (a : List (List Int)), 0 ≤ x → F_heytingOf_L3 A r x a = F_l18Build_L3 A r x a := by
  intro r
  induction r with
  | zero => intro x a _; rfl
  | succ r ih =>
    intro x a h0
    show F_heytingOf_L3b A (F_heytingOf_L3 A r) x a = F_l18Build_L3b A (F_l18Build_L3 A r) x a
    unfold F_heytingOf_L3b F_l18Build_L3b
    by_cases hx : x < (A.length : Int)
    · rw [decide_eq_true hx, cond_true, cond_true]
      have e := L4_eq9 hn hA hN x A.length 0 [] (Int.le_refl _) (by omega) rfl
      rw [List.nil_append] at e
      rw [show Int.toNat ((A.length : Int) - 0) = A.length by omega, show Int.toNat (A.length : Int) = A.length by omega, e]
      cases F_l18Build_L4 A x (A.length + 1) [] 0 with
      | error e => rfl
      | ok q => exact ih (x + 1) (a ++ [q.1]) (by omega)
    · rw [decide_eq_false hx, cond_false, cond_false]
theorem hey_eq9 (h1 : 1 ≤ (A.length : Int)) (f0 : F_Frame_hasFlag (A.length : Int) A 0 = true) (f2 : F_Frame_hasFlag (A.length : Int) A 2 = true) (f8 : F_Frame_hasFlag (A.length : Int) A 8 = true) (fp : F_l18Partial A = true) (l1 : 0 ≤ F_l18Low A (fullI (A.length : Int))) (l2 : 0 ≤ F_l18Low (F_l01Inverse A) (fullI (A.length : Int))) : F_heytingOf A = F_l18Build A := by
  have hfr : (F_frameOf A).1 = (A.length : Int) := rfl
  have hf := fullI_bd (n := (A.length : Int)) (by omega) (by omega)
  have hil := inv9_len hn hA
  have g1 := gr_low (mask := fullI (A.length : Int)) (A := A) hf.1 (Int.le_refl _) hn
  have g2 := gr_low (mask := fullI (A.length : Int)) (A := F_l01Inverse A) hf.1 (by rw [hil]; exact Int.le_refl _) (by rw [hil]; exact hn)
  rw [decide_eq_false (show ¬ F_l18Low A (fullI (A.length : Int)) < 0 by omega), cond_false] at g1
  rw [decide_eq_false (show ¬ F_l18Low (F_l01Inverse A) (fullI (A.length : Int)) < 0 by omega), cond_false] at g2
  unfold F_heytingOf F_l18Build
  rw [hfr, f0, f2, f8, fp, decide_eq_false (show ¬ (A.length : Int) = 0 by omega), decide_eq_false (show ¬ F_l18Low A (fullI (A.length : Int)) < 0 by omega), decide_eq_false (show ¬ F_l18Low (F_l01Inverse A) (fullI (A.length : Int)) < 0 by omega)]
  simp only [Bool.not_true, cond_false]
  rw [full9 (by omega) (by omega), inv9_eq hn hA, g1, g2, L1_eq9 hn hA _ _ _ _ (Int.le_refl _)]
  have hp := l18L1_rv h1 hil (Int.toNat ((A.length : Int) - 0) + 1) 0 [] [] (rv9_nil h1)
  cases hq : F_l18Build_L1 A (Int.toNat ((A.length : Int) - 0) + 1) 0 [] [] with
  | error e => rfl
  | ok q =>
    rw [hq] at hp
    have hN : ∀ m k : Int, 0 ≤ gI (gL ((okD (F_l18Build_L1 A (Int.toNat ((A.length : Int) - 0) + 1) 0 ([]) ([]))).2.1) m) k ∧ gI (gL ((okD (F_l18Build_L1 A (Int.toNat ((A.length : Int) - 0) + 1) 0 ([]) ([]))).2.1) m) k < (A.length : Int) := by rw [hq]; exact hp
    rw [L3_eq9 hn hA hN _ _ _ (Int.le_refl _)]
end
end Go.Proofs.Ytkilkfhjfobcdaa
