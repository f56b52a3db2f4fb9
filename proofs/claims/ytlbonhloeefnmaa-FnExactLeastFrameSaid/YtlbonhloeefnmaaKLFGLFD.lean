/- GLFD: models and contracts, printed by wip/gen/gen.py -/
import Derived.Test.YtlbonhloeefnmaaKLFGP
import Derived.Test.YtlbonhloeefnmaaKLFGQ
import Derived.Test.YtlbonhloeefnmaaKLFShare
set_option linter.unusedVariables false
set_option linter.unusedSimpArgs false
namespace Go.Proofs.Ytlbonhloeefnmaa
open Go.RowKit
theorem sI_self {xs : List Int} {t : Int} (h0 : 0 ≤ t) (h : t < (xs.length : Int)) : sI xs t (gI xs t) = xs := by
  apply ext_gi (by rw [sI_len])
  intro j hj
  unfold sI gI
  rw [gi_set (by omega)]
  by_cases e : t.toNat = j
  · rw [if_pos e, e]
  · rw [if_neg e]
theorem mapLoop_key (n : Int) (h : Int → Int → Int) (L : Nat → Int → List Int → Int × List Int) (hL : ∀ r t xs, 0 ≤ t → (xs.length : Int) = n → L (r + 1) t xs = bif decide (t < n) then L r (t + 1) (sI xs t (h t (gI xs t))) else (t, xs)) (xs : List Int) :
    ∀ (k : Nat) (t : Int) (ys : List Int), 0 ≤ t → n - t = (k : Int) → (ys.length : Int) = n → (∀ j : Nat, (j : Int) < t → gI ys j = h j (gI xs j)) → (∀ j : Nat, t ≤ (j : Int) → gI ys j = gI xs j) →
    ((L (k + 1) t ys).2.length : Int) = n ∧ ∀ j : Nat, (j : Int) < n → gI (L (k + 1) t ys).2 j = h j (gI xs j) := by
  intro k
  induction k with
  | zero =>
    intro t ys h0 hk hl h1 h2
    rw [hL _ _ _ h0 hl, decide_eq_false (by omega), cond_false]
    exact ⟨hl, fun j hj => h1 j (by omega)⟩
  | succ k ih =>
    intro t ys h0 hk hl h1 h2
    rw [hL _ _ _ h0 hl, decide_eq_true (by omega), cond_true]
    have hs : ∀ j : Nat, gI (sI ys t (h t (gI ys t))) j = if t.toNat = j then h t (gI ys t) else gI ys j := fun j => by
      unfold sI
      show gi _ _ = _
      rw [gi_set (by omega), Int.toNat_natCast]; rfl
    refine ih (t + 1) _ (by omega) (by omega) (by rw [sI_len]; exact hl) (fun j hj => ?_) (fun j hj => ?_)
    · rw [hs]
      by_cases e : t.toNat = j
      · rw [if_pos e]
        have e2 : t = (j : Int) := by omega
        rw [e2, h2 j (by omega)]
      · rw [if_neg e]; exact h1 j (by omega)
    · rw [hs, if_neg (by omega)]; exact h2 j (by omega)
theorem mapLoop (n : Int) (h : Int → Int → Int) (L : Nat → Int → List Int → Int × List Int) (hL : ∀ r t xs, 0 ≤ t → (xs.length : Int) = n → L (r + 1) t xs = bif decide (t < n) then L r (t + 1) (sI xs t (h t (gI xs t))) else (t, xs)) (xs : List Int) (hl : (xs.length : Int) = n) :
    ((L (Int.toNat (n - 0) + 1) 0 xs).2.length : Int) = n ∧ ∀ j : Nat, (j : Int) < n → gI (L (Int.toNat (n - 0) + 1) 0 xs).2 j = h j (gI xs j) :=
  mapLoop_key n h L hL xs (Int.toNat (n - 0)) 0 xs (by omega) (by omega) hl (fun j hj => by omega) (fun _ _ => rfl)
theorem frame_mm {f0 : Int} {f1 : List Int} (h : F_isFrame f0 f1 = true) : ∀ m : Int, 0 ≤ m → m < (f1.length : Int) → 0 ≤ gI f1 m ∧ gI f1 m ≤ fullI (f1.length : Int) := by
  rw [isFrame_eq] at h
  intro m h0 h1
  rw [(l05Is_t h).2]; exact l05Is_m h m h0 h1
/-- All rows have this length. -/
def RowsN (n : Int) (xss : List (List Int)) : Prop := ∀ r : Int, 0 ≤ r → r < (xss.length : Int) → ((gL xss r).length : Int) = n
theorem gL_app {xss yss : List (List Int)} {r : Int} (h0 : 0 ≤ r) : gL (xss ++ yss) r = if r < (xss.length : Int) then gL xss r else gL yss (r - (xss.length : Int)) := by
  unfold gL
  rw [List.getD_eq_getElem?_getD, List.getD_eq_getElem?_getD, List.getD_eq_getElem?_getD]
  by_cases h : r < (xss.length : Int)
  · rw [if_pos h, List.getElem?_append_left (by omega)]
  · rw [if_neg h, List.getElem?_append_right (by omega), show (r - (xss.length : Int)).toNat = r.toNat - xss.length by omega]
theorem RowsN.one {n : Int} {xs : List Int} (h : (xs.length : Int) = n) : RowsN n [xs] := fun r h0 h1 => by
  have h2 : r < 1 := h1
  have : r = 0 := by omega
  subst this; exact h
theorem RowsN.app {n : Int} {xss : List (List Int)} {xs : List Int} (h : RowsN n xss) (hx : (xs.length : Int) = n) : RowsN n (xss ++ [xs]) := fun r h0 h1 => by
  rw [gL_app h0]
  by_cases hr : r < (xss.length : Int)
  · rw [if_pos hr]; exact h r h0 hr
  · rw [if_neg hr]
    rw [List.length_append] at h1
    have h2 : ((xss.length + 1 : Nat) : Int) = (xss.length : Int) + 1 := by omega
    have h3 : r < ((xss.length + 1 : Nat) : Int) := h1
    have : r - (xss.length : Int) = 0 := by omega
    rw [this]; exact hx
theorem len_app1 (cs : List Int) (k : Int) : (cs ++ [k]).length = cs.length + 1 := by simp
/-- 6 to the k. -/
def P6 (k : Int) : Nat := 6 ^ k.toNat
theorem P6_zero : P6 0 = 1 := rfl
theorem P6_succ {k : Int} (h : 0 ≤ k) : P6 (k + 1) = 6 * P6 k := by
  unfold P6
  rw [show (k + 1).toNat = k.toNat + 1 by omega, Nat.pow_succ, Nat.mul_comm]
theorem P6_le {k : Int} (h : k ≤ 6) : P6 k ≤ 46656 := by
  unfold P6
  exact Nat.le_trans (Nat.pow_le_pow_right (by decide) (show k.toNat ≤ 6 by omega)) (Nat.le_refl _)
theorem rng_app {o : List Int} {n x : Int} (h : ∀ m : Int, 0 ≤ m → m < (o.length : Int) → 0 ≤ gI o m ∧ gI o m < n) (h0 : 0 ≤ x) (h1 : x < n) : ∀ m : Int, 0 ≤ m → m < ((o ++ [x]).length : Int) → 0 ≤ gI (o ++ [x]) m ∧ gI (o ++ [x]) m < n := fun m hm hm1 => by
  rw [len_app1] at hm1
  by_cases e : m = (o.length : Int)
  · have : gI (o ++ [x]) m = x := by
      unfold gI; rw [gi_get (by rw [len_app1]; omega)]
      rw [List.getElem_append_right (by omega)]; simp
    rw [this]; exact ⟨h0, h1⟩
  · have : gI (o ++ [x]) m = gI o m := by
      unfold gI; rw [gi_get (by rw [len_app1]; omega), gi_get (by omega)]
      rw [List.getElem_append_left (by omega)]
    rw [this]; exact h m hm (by omega)
theorem rng_sI {o : List Int} {n x i : Int} (h : ∀ m : Int, 0 ≤ m → m < (o.length : Int) → 0 ≤ gI o m ∧ gI o m ≤ n) (h0 : 0 ≤ x) (h1 : x ≤ n) : ∀ m : Int, 0 ≤ m → m < ((sI o i x).length : Int) → 0 ≤ gI (sI o i x) m ∧ gI (sI o i x) m ≤ n := fun m hm hm1 => by
  rw [sI_len] at hm1
  have := h m hm hm1
  unfold sI gI
  by_cases hi : i.toNat < o.length
  · rw [gi_set hi]
    by_cases e : i.toNat = m.toNat
    · rw [if_pos e]; exact ⟨h0, h1⟩
    · rw [if_neg e]; exact this
  · rw [List.set_eq_of_length_le (by omega)]; exact this
theorem rng_rep (k : Nat) (n : Int) (hn : 0 ≤ n) : ∀ m : Int, 0 ≤ m → m < ((List.replicate k (0 : Int)).length : Int) → 0 ≤ gI (List.replicate k (0 : Int)) m ∧ gI (List.replicate k (0 : Int)) m ≤ n := fun m hm hm1 => by
  have : gI (List.replicate k (0 : Int)) m = 0 := by
    unfold gI
    rw [gi_get (by omega), List.getElem_replicate]
  rw [this]; exact ⟨Int.le_refl _, hn⟩
theorem or_bit {n u i : Int} (h0 : 0 ≤ n) (h1 : n ≤ 62) (hu : 0 ≤ u ∧ u ≤ fullI n) (hi : 0 ≤ i) (hi1 : i < n) : 0 ≤ orI u (shlI 1 i) ∧ orI u (shlI 1 i) ≤ fullI n := by
  obtain ⟨k, rfl⟩ : ∃ k : Nat, n = (k : Int) := ⟨n.toNat, by omega⟩
  obtain ⟨j, rfl⟩ : ∃ j : Nat, i = (j : Int) := ⟨i.toNat, by omega⟩
  rw [pow_shl (by omega) (by omega)]
  exact (Mk.or (n := k) (by omega) hu (Mk.pow (by omega))).1
/-- The lists with one more, in order. -/
def extv (n : Nat) (p : List Int) : List (List Int) := ((List.range n).filter fun (v : Nat) => !decide ((v : Int) ∈ p)).map fun (v : Nat) => p ++ [(v : Int)]
def PD (n : Nat) : Nat → List Int → List (List Int)
  | 0, p => [p]
  | d + 1, p => (extv n p).flatMap (PD n d)
/-- A list of numbers below n, each once. -/
def OkP (n : Nat) (p : List Int) : Prop := p.Nodup ∧ ∀ y, y ∈ p → 0 ≤ y ∧ y < (n : Int)
theorem OkP.app {n : Nat} {p : List Int} (h : OkP n p) {v : Nat} (hv : v < n) (hn : ¬ (v : Int) ∈ p) : OkP n (p ++ [(v : Int)]) := by
  refine ⟨?_, fun y hy => ?_⟩
  · rw [List.nodup_append]
    refine ⟨h.1, by simp, fun a ha b hb => ?_⟩
    rw [List.mem_singleton] at hb
    subst hb
    intro e; subst e; exact hn ha
  · rcases List.mem_append.1 hy with hy | hy
    · exact h.2 y hy
    · rw [List.mem_singleton] at hy; omega
theorem PD_ok (n : Nat) : ∀ (d : Nat) (p x : List Int), OkP n p → x ∈ PD n d p → OkP n x ∧ x.length = p.length + d := by
  intro d
  induction d with
  | zero =>
    intro p x hp hx
    rw [show PD n 0 p = [p] from rfl, List.mem_singleton] at hx
    subst hx
    exact ⟨hp, rfl⟩
  | succ d ih =>
    intro p x hp hx
    rw [show PD n (d + 1) p = (extv n p).flatMap (PD n d) from rfl, List.mem_flatMap] at hx
    obtain ⟨q, hq, hx⟩ := hx
    unfold extv at hq
    rw [List.mem_map] at hq
    obtain ⟨v, hv, rfl⟩ := hq
    rw [List.mem_filter] at hv
    have h1 := List.mem_range.1 hv.1
    have h2 : ¬ (v : Int) ∈ p := by have := hv.2; simpa using this
    obtain ⟨a, b⟩ := ih _ _ (hp.app h1 h2) hx
    refine ⟨a, ?_⟩
    rw [b, len_app1]; omega
theorem OkP.rng {n : Nat} {p : List Int} (h : OkP n p) : ∀ m : Int, 0 ≤ m → m < (p.length : Int) → 0 ≤ gI p m ∧ gI p m < (n : Int) := fun m h0 h1 => h.2 _ (gI_mem h0 h1)
theorem OkP.inj {n : Nat} {p : List Int} (h : OkP n p) {i j : Nat} (hi : i < p.length) (hj : j < p.length) (e : gI p (i : Int) = gI p (j : Int)) : i = j := by
  have key : ∀ i j : Nat, i < p.length → j < p.length → i < j → gI p (i : Int) ≠ gI p (j : Int) := fun i j hi hj hij => by
    have := (List.pairwise_iff_getElem.1 h.1) i j hi hj hij
    unfold gI
    rw [Int.toNat_natCast, Int.toNat_natCast, gi_get hi, gi_get hj]
    exact this
  rcases Nat.lt_trichotomy i j with h1 | h1 | h1
  · exact absurd e (key i j hi hj h1)
  · exact h1
  · exact absurd e.symm (key j i hj hi h1)
theorem pigeon : ∀ (n : Nat) (l : List Int), l.Nodup → (∀ x, x ∈ l → 0 ≤ x ∧ x < (n : Int)) → l.length ≤ n := by
  intro n
  induction n with
  | zero =>
    intro l _ h
    cases l with
    | nil => exact Nat.le_refl _
    | cons x l => have := h x (List.mem_cons_self ..); omega
  | succ n ih =>
    intro l hn h
    have h1 := ih (l.erase (n : Int)) (hn.erase _) (fun x hx => by
      have h2 := (List.Nodup.mem_erase_iff hn).1 hx
      have h3 := h x h2.2
      have h4 := h2.1
      omega)
    have h2 := List.length_erase (a := (n : Int)) (l := l)
    split at h2 <;> omega
theorem OkP.all {n : Nat} {p : List Int} (h : OkP n p) (hl : p.length = n) {y : Nat} (hy : y < n) : ∃ j : Nat, j < n ∧ gI p (j : Int) = (y : Int) := by
  have hm : (y : Int) ∈ p := by
    apply Decidable.byContradiction
    intro hn
    have := pigeon n ((y : Int) :: p) (List.nodup_cons.2 ⟨hn, h.1⟩) (fun x hx => by
      rcases List.mem_cons.1 hx with rfl | hx
      · omega
      · exact h.2 x hx)
    rw [List.length_cons] at this; omega
  obtain ⟨j, hj, e⟩ := List.getElem_of_mem hm
  refine ⟨j, by omega, ?_⟩
  unfold gI
  rw [Int.toNat_natCast, gi_get hj, e]
end Go.Proofs.Ytlbonhloeefnmaa
