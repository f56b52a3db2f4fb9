/- GHA0: models and contracts, printed by wip/gen/gen.py -/
import Derived.Test.YtkilkfhjfobcdaaKCHGCF
import Derived.Test.YtkilkfhjfobcdaaKCHNest
set_option linter.unusedVariables false
set_option linter.unusedSimpArgs false
namespace Go.Proofs.Ytkilkfhjfobcdaa
open Go.RowKit
/-- Loops that leave at the first hit. -/
theorem findR {ε : Type} (L : Nat → Int → Except ε Int) (e : Int → ε) (n : Int) (p : Int → Bool) (hL : ∀ r i, L (r + 1) i = bif decide (i < n) then (bif p i then .error (e i) else L r (i + 1)) else .ok i) :
    L (Int.toNat (n - 0) + 1) 0 = (match (List.range n.toNat).find? (fun (j : Nat) => p (j : Int)) with | some j => .error (e (j : Int)) | none => L 1 (((n.toNat : Nat) : Int))) := by
  have key : ∀ (k i : Nat), i + k = n.toNat → L (k + 1) (i : Int) = (match (List.range' i k).find? (fun (j : Nat) => p (j : Int)) with | some j => .error (e (j : Int)) | none => L 1 (((n.toNat : Nat) : Int))) := by
    intro k
    induction k with
    | zero =>
      intro i h
      obtain rfl : i = n.toNat := by omega
      rfl
    | succ k ih =>
      intro i h
      rw [hL, decide_eq_true (by omega), cond_true, List.range'_succ, List.find?_cons]
      cases hp : p (i : Int)
      · rw [cond_false, show (i : Int) + 1 = ((i + 1 : Nat) : Int) by omega, ih (i + 1) (by omega)]
      · rw [cond_true]
  have := key n.toNat 0 (by omega)
  rw [show Int.toNat (n - 0) = n.toNat by omega, List.range_eq_range']
  exact this
theorem findL {ε : Type} (L : Nat → Int → Except ε Int) (e : Int → ε) (ms : List Int) (q : Int → Bool) (hL : ∀ r i, L (r + 1) i = bif decide (i < (ms.length : Int)) then (bif q (gI ms i) then .error (e (gI ms i)) else L r (i + 1)) else .ok i) :
    L (Int.toNat ((ms.length : Int) - 0) + 1) 0 = (match ms.find? q with | some x => .error (e x) | none => .ok (ms.length : Int)) := by
  have key : ∀ (k i : Nat), i + k = ms.length → L (k + 1) (i : Int) = (match (ms.drop i).find? q with | some x => .error (e x) | none => .ok (ms.length : Int)) := by
    intro k
    induction k with
    | zero =>
      intro i h
      obtain rfl : i = ms.length := by omega
      rw [List.drop_length, hL, decide_eq_false (by omega), cond_false]; rfl
    | succ k ih =>
      intro i h
      have hi : i < ms.length := by omega
      rw [hL, decide_eq_true (by omega), cond_true, List.drop_eq_getElem_cons hi, List.find?_cons]
      have hg : gI ms (i : Int) = ms[i] := by unfold gI; rw [Int.toNat_natCast, gi_get hi]
      rw [hg]
      cases hp : q ms[i]
      · rw [cond_false, show (i : Int) + 1 = ((i + 1 : Nat) : Int) by omega, ih (i + 1) (by omega)]
      · rw [cond_true]
  have := key ms.length 0 (by omega)
  rw [show Int.toNat ((ms.length : Int) - 0) = ms.length by omega]
  exact this
theorem gI9_nil (k : Int) : gI [] k = 0 := by unfold gI gi; simp
theorem gI9_app {xs : List Int} {v : Int} (k : Int) : gI (xs ++ [v]) k = gI xs k ∨ gI (xs ++ [v]) k = v := by
  unfold gI gi
  rw [List.getD_eq_getElem?_getD, List.getD_eq_getElem?_getD]
  by_cases h : k.toNat < xs.length
  · left; rw [List.getElem?_append_left h]
  · rw [List.getElem?_append_right (by omega)]
    by_cases h2 : k.toNat - xs.length = 0
    · right; rw [h2]; rfl
    · left; rw [List.getElem?_eq_none (by simp; omega), List.getElem?_eq_none (by omega)]
theorem gL9_app {xs : List (List Int)} {v : List Int} (k : Int) : gL (xs ++ [v]) k = (if k.toNat < xs.length then gL xs k else if k.toNat = xs.length then v else gL xs k) := by
  unfold gL
  rw [List.getD_eq_getElem?_getD, List.getD_eq_getElem?_getD]
  by_cases h : k.toNat < xs.length
  · rw [if_pos h, List.getElem?_append_left h]
  · rw [if_neg h, List.getElem?_append_right (by omega)]
    by_cases h2 : k.toNat = xs.length
    · rw [if_pos h2, h2, Nat.sub_self]; rfl
    · rw [if_neg h2, List.getElem?_eq_none (by simp; omega), List.getElem?_eq_none (by omega)]
theorem gL9_nil (k : Int) : gL [] k = [] := by unfold gL; simp
theorem rw9_nil {n : List Int} : ∀ m : Int, 0 ≤ m → m < (([] : List (List Int)).length : Int) → (gL [] m).length = n.length := fun m h0 h1 => by simp at h1; omega
theorem rv9_nil {n : List Int} (h : 1 ≤ (n.length : Int)) : ∀ m k : Int, 0 ≤ gI (gL [] m) k ∧ gI (gL [] m) k < (n.length : Int) := fun m k => by rw [gL9_nil, gI9_nil]; omega
theorem rk9_nil {n : List Int} (h : 1 ≤ (n.length : Int)) : ∀ k : Int, 0 ≤ gI [] k ∧ gI [] k < (n.length : Int) := fun k => by rw [gI9_nil]; omega
theorem rk9_app {a n : List Int} {v : Int} (h : ∀ k : Int, 0 ≤ gI a k ∧ gI a k < (n.length : Int)) (h0 : 0 ≤ v) (h1 : v < (n.length : Int)) : ∀ k : Int, 0 ≤ gI (a ++ [v]) k ∧ gI (a ++ [v]) k < (n.length : Int) := fun k => by
  have := h k
  rcases gI9_app (xs := a) (v := v) k with e | e <;> rw [e] <;> omega
theorem rw9_app {q : List (List Int)} {n r : List Int} (h : ∀ m : Int, 0 ≤ m → m < (q.length : Int) → (gL q m).length = n.length) (hr : r.length = n.length) : ∀ m : Int, 0 ≤ m → m < ((q ++ [r]).length : Int) → (gL (q ++ [r]) m).length = n.length := fun m h0 h1 => by
  rw [List.length_append] at h1; simp only [List.length_cons, List.length_nil] at h1
  rw [gL9_app]
  by_cases hm : m.toNat < q.length
  · rw [if_pos hm]; exact h m h0 (by omega)
  · rw [if_neg hm, if_pos (by omega)]; exact hr
theorem rv9_app {q : List (List Int)} {n r : List Int} (h : ∀ m k : Int, 0 ≤ gI (gL q m) k ∧ gI (gL q m) k < (n.length : Int)) (hr : ∀ k : Int, 0 ≤ gI r k ∧ gI r k < (n.length : Int)) : ∀ m k : Int, 0 ≤ gI (gL (q ++ [r]) m) k ∧ gI (gL (q ++ [r]) m) k < (n.length : Int) := fun m k => by
  rw [gL9_app]
  split
  · exact h m k
  · split
    · exact hr k
    · exact h m k
theorem gI_last9 {a : List Int} {v y : Int} (hl : (a.length : Int) = y) : gI (a ++ [v]) y = v := by
  unfold gI gi
  rw [List.getD_eq_getElem?_getD, List.getElem?_append_right (by omega), show y.toNat - a.length = 0 by omega]; rfl
/-- The order of a chain. -/
def chainL (n : Nat) : List Int := (List.range n).map (fun (x : Nat) => anI (fullI (n : Int)) (fullI (x : Int)))
theorem chainL_len (n : Nat) : (chainL n).length = n := by unfold chainL; simp
theorem chainL_rl {n : Nat} (hn : n ≤ 30) : Rl n (chainL n) := by
  refine ⟨chainL_len n, fun i hi => ?_⟩
  have h1 := fullI_bd (n := (n : Int)) (by omega) (by omega)
  have h2 := fullI_bd (n := (i : Int)) (by omega) (by omega)
  have e : gI (chainL n) (i : Int) = anI (fullI (n : Int)) (fullI (i : Int)) := by
    unfold chainL
    exact gI_map hi
  rw [e]
  exact anI_le (by omega) (by omega) (by omega) (by omega)
theorem chainL_mm {np : Int} (h0 : 1 ≤ np) (h1 : np ≤ 30) : (chainL np.toNat).length ≤ 30 ∧ ∀ m : Int, 0 ≤ m → m < ((chainL np.toNat).length : Int) → 0 ≤ gI (chainL np.toNat) m ∧ gI (chainL np.toNat) m ≤ fullI ((chainL np.toNat).length : Int) := by
  have hR := chainL_rl (n := np.toNat) (by omega)
  refine ⟨by rw [chainL_len]; omega, fun m hm hm2 => ?_⟩
  have := hR.2 m.toNat (by rw [chainL_len] at hm2; omega)
  rw [show ((m.toNat : Nat) : Int) = m by omega] at this
  rw [chainL_len]; exact this
theorem full9 {n : Int} (h0 : 0 ≤ n) (h1 : n ≤ 30) : shlI 1 n - 1 = fullI n := by rw [shlI_one h0 (by omega)]; rfl
end Go.Proofs.Ytkilkfhjfobcdaa
