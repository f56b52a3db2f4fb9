/- GDW0: models and contracts, printed by wip/gen/gen.py -/
import Derived.Test.YtlbonhloeefnmaaKDWGCL
set_option linter.unusedVariables false
set_option linter.unusedSimpArgs false
namespace Go.Proofs.Ytlbonhloeefnmaa
open Go.RowKit
def cntN : Nat → (Nat → Bool) → Nat
  | 0, _ => 0
  | k + 1, p => cntN k p + (bif p k then 1 else 0)
theorem cntN_le (p : Nat → Bool) : ∀ k, cntN k p ≤ k := by
  intro k
  induction k with
  | zero => exact Nat.le_refl _
  | succ k ih => unfold cntN; cases p k <;> simp only [cond_true, cond_false] <;> omega
theorem cntN_mono {p q : Nat → Bool} : ∀ k, (∀ j, j < k → p j = true → q j = true) → cntN k p ≤ cntN k q := by
  intro k
  induction k with
  | zero => intro _; exact Nat.le_refl _
  | succ k ih =>
    intro h
    have h1 := ih fun j hj => h j (by omega)
    have h2 := h k (by omega)
    unfold cntN
    cases hp : p k
    · cases q k <;> simp only [cond_true, cond_false] <;> omega
    · rw [h2 hp]; simp only [cond_true]; omega
theorem cntN_lt {p q : Nat → Bool} : ∀ k, (∀ j, j < k → p j = true → q j = true) → ∀ x, x < k → p x = false → q x = true → cntN k p < cntN k q := by
  intro k
  induction k with
  | zero => intro _ x hx; omega
  | succ k ih =>
    intro h x hx hp hq
    unfold cntN
    by_cases e : x = k
    · subst e
      have h1 := cntN_mono x fun j hj => h j (by omega)
      rw [hp, hq]; simp only [cond_true, cond_false]; omega
    · have h1 := ih (fun j hj => h j (by omega)) x (by omega) hp hq
      have h2 := h k (by omega)
      cases hp' : p k
      · cases q k <;> simp only [cond_true, cond_false] <;> omega
      · rw [h2 hp']; simp only [cond_true]; omega
def cntR (f0 : Int) (f1 : List Int) (w : Int) : Nat := cntN f0.toNat (fun j => tb (F_l05Reach f0 f1 (powI w)) j)
/-- A frame as the depths want it. -/
structure FrP (f0 : Int) (f1 : List Int) : Prop where
  h0 : 0 ≤ f0 ∧ f0 ≤ 8
  hl : (f1.length : Int) = f0
  hx : ∀ m : Int, 0 ≤ m → m < (f1.length : Int) → 0 ≤ gI f1 m ∧ gI f1 m ≤ fullI f0
/-- World y is reached from x. -/
def rch (f0 : Int) (f1 : List Int) (x y : Nat) : Bool := tb (F_l05Reach f0 f1 (powI (x : Int))) y
theorem rch_rc {f0 : Int} {f1 : List Int} (h : FrP f0 f1) {x : Nat} (hx : (x : Int) < f0) : Rc f0.toNat f1 (powI (x : Int)) (F_l05Reach f0 f1 (powI (x : Int))) := by
  have h8 := h.h0
  have e : ((f0.toNat : Nat) : Int) = f0 := by omega
  have hM : Mk f0.toNat (powI (x : Int)) := Mk.pow (by omega)
  exact l05Reach_rc h.h0 h.hl h.hx ⟨hM.1, by have := hM.2; rwa [e] at this⟩
theorem rch_refl {f0 : Int} {f1 : List Int} (h : FrP f0 f1) {x : Nat} (hx : (x : Int) < f0) : rch f0 f1 x x = true := (rch_rc h hx).2.1 x (by rw [tb_pow]; simp)
theorem rch_trans {f0 : Int} {f1 : List Int} (h : FrP f0 f1) {x y z : Nat} (hx : (x : Int) < f0) (hy : (y : Int) < f0) (h1 : rch f0 f1 x y = true) (h2 : rch f0 f1 y z = true) : rch f0 f1 x z = true :=
  (rch_rc h hy).2.2.2 (fun j => rch f0 f1 x j = true) (fun j hj => by rw [tb_pow] at hj; rw [← of_decide_eq_true hj]; exact h1) (fun i j _ hi hij => (rch_rc h hx).2.2.1 i j hi hij) z h2
theorem rch_bit {f0 : Int} {f1 : List Int} (h : FrP f0 f1) {x : Nat} (hx : (x : Int) < f0) {y : Nat} (hy : y ≤ 62) : F_l01Bit (F_l05Reach f0 f1 (powI (x : Int))) (y : Int) = rch f0 f1 x y := by
  have h8 := h.h0
  exact tb_has (n := f0.toNat) (by omega) (rch_rc h hx).1 hy
def mut2 (f0 : Int) (f1 : List Int) (x y : Nat) : Bool := rch f0 f1 x y && rch f0 f1 y x
theorem mut2_comm (f0 : Int) (f1 : List Int) (x y : Nat) : mut2 f0 f1 x y = mut2 f0 f1 y x := Bool.and_comm _ _
theorem mut2_trans {f0 : Int} {f1 : List Int} (h : FrP f0 f1) {x y z : Nat} (hx : (x : Int) < f0) (hy : (y : Int) < f0) (hz : (z : Int) < f0) (h1 : mut2 f0 f1 x y = true) (h2 : mut2 f0 f1 y z = true) : mut2 f0 f1 x z = true := by
  unfold mut2 at *
  rw [Bool.and_eq_true] at *
  exact ⟨rch_trans h hx hy h1.1 h2.1, rch_trans h hz hy h2.2 h1.2⟩
theorem clm_inner {f0 : Int} {f1 : List Int} (h : FrP f0 f1) {w : Nat} (hw : (w : Int) < f0) (out : List Int) (hp : ∀ j : Nat, j < w → 0 ≤ gI out (j : Int)) : ∀ (k v : Nat), v + k = w →
    ((F_l05Clusters_L2 f0 f1 out (w : Int) (k + 1) (-1) (v : Int)).1 = -1 ∧ ∀ j : Nat, v ≤ j → j < w → mut2 f0 f1 w j = false) ∨ ∃ j : Nat, j < w ∧ mut2 f0 f1 w j = true ∧ (F_l05Clusters_L2 f0 f1 out (w : Int) (k + 1) (-1) (v : Int)).1 = gI out (j : Int) := by
  intro k
  have h8 := h.h0
  induction k with
  | zero =>
    intro v hv
    left
    refine ⟨?_, fun j h1 h2 => by omega⟩
    show (F_l05Clusters_L2b f0 f1 out _ _ _ _).1 = -1
    unfold F_l05Clusters_L2b
    rw [decide_eq_false (by omega)]; rfl
  | succ k ih =>
    intro v hv
    have e1 : F_l05Clusters_L2 f0 f1 out (w : Int) (k + 1 + 1) (-1) (v : Int) = F_l05Clusters_L2 f0 f1 out (w : Int) (k + 1) (bif mut2 f0 f1 w v then gI out (v : Int) else (-1)) ((v + 1 : Nat) : Int) := by
      show F_l05Clusters_L2b f0 f1 out _ _ _ _ = _
      unfold F_l05Clusters_L2b
      rw [decide_eq_true (by omega), cond_true, decide_eq_true (show (-1 : Int) < 0 by omega), Bool.true_and, show (v : Int) + 1 = ((v + 1 : Nat) : Int) by omega, rch_bit h hw (by omega), rch_bit h (show (v : Int) < f0 by omega) (by omega)]; rfl
    rw [e1]
    cases hm : mut2 f0 f1 w v
    · rw [cond_false]
      rcases ih (v + 1) (by omega) with ⟨a1, a2⟩ | ⟨j, a1, a2, a3⟩
      · left
        refine ⟨a1, fun j h1 h2 => ?_⟩
        by_cases e : j = v
        · rw [e]; exact hm
        · exact a2 j (by omega) h2
      · exact .inr ⟨j, a1, a2, a3⟩
    · rw [cond_true, cl_stay _ _ _ _ _ _ _ (hp v (by omega))]
      exact .inr ⟨v, by omega, hm, rfl⟩
theorem clm_outer {f0 : Int} {f1 : List Int} (h : FrP f0 f1) : ∀ (k w : Nat) (out : List Int) (c : Int), (w : Int) + k = f0 → out.length = w → 0 ≤ c → (∀ j : Nat, j < w → 0 ≤ gI out (j : Int)) → (∀ i j : Nat, i < w → j < w → mut2 f0 f1 i j = true → gI out (i : Int) = gI out (j : Int)) →
    ∀ i j : Nat, (i : Int) < f0 → (j : Int) < f0 → mut2 f0 f1 i j = true → gI (F_l05Clusters_L1 f0 f1 (k + 1) out c (w : Int)).1 (i : Int) = gI (F_l05Clusters_L1 f0 f1 (k + 1) out c (w : Int)).1 (j : Int) := by
  intro k
  induction k with
  | zero =>
    intro w out c hw hl hc hp hm i j hi hj hij
    have e : (F_l05Clusters_L1 f0 f1 (0 + 1) out c (w : Int)).1 = out := by
      show (F_l05Clusters_L1b f0 f1 _ out c _).1 = out
      unfold F_l05Clusters_L1b
      rw [decide_eq_false (by omega)]; rfl
    rw [e]
    exact hm i j (by omega) (by omega) hij
  | succ k ih =>
    intro w out c hw hl hc hp hm
    have hin := clm_inner h (w := w) (by omega) out hp w 0 (by omega)
    have hin' : ((F_l05Clusters_L2 f0 f1 out (w : Int) (w + 1) (-1) 0).1 = -1 ∧ ∀ j : Nat, 0 ≤ j → j < w → mut2 f0 f1 w j = false) ∨ ∃ j : Nat, j < w ∧ mut2 f0 f1 w j = true ∧ (F_l05Clusters_L2 f0 f1 out (w : Int) (w + 1) (-1) 0).1 = gI out (j : Int) := hin
    have step : ∀ (y : Int) (c' : Int), 0 ≤ y → 0 ≤ c' → (∀ j : Nat, j < w → mut2 f0 f1 w j = true → y = gI out (j : Int)) → ∀ i j : Nat, (i : Int) < f0 → (j : Int) < f0 → mut2 f0 f1 i j = true → gI (F_l05Clusters_L1 f0 f1 (k + 1) (out ++ [y]) c' ((w + 1 : Nat) : Int)).1 (i : Int) = gI (F_l05Clusters_L1 f0 f1 (k + 1) (out ++ [y]) c' ((w + 1 : Nat) : Int)).1 (j : Int) := fun y c' hy hc' hyj => by
      refine ih (w + 1) (out ++ [y]) c' (by omega) (by simp; omega) hc' (fun j hj => ?_) (fun i j hi hj hij => ?_)
      · rw [gI_app, hl]
        by_cases e : j < w
        · rw [if_pos e]; exact hp j e
        · rw [if_neg e, if_pos (by omega)]; exact hy
      · rw [gI_app, gI_app, hl]
        by_cases ei : i < w
        · rw [if_pos ei]
          by_cases ej : j < w
          · rw [if_pos ej]; exact hm i j ei ej hij
          · rw [if_neg ej, if_pos (by omega)]
            have : j = w := by omega
            subst this
            exact (hyj i ei (by rw [mut2_comm]; exact hij)).symm
        · rw [if_neg ei, if_pos (by omega)]
          have : i = w := by omega
          subst this
          by_cases ej : j < i
          · rw [if_pos ej]; exact hyj j ej hij
          · rw [if_neg ej, if_pos (by omega)]
    show ∀ i j : Nat, (i : Int) < f0 → (j : Int) < f0 → mut2 f0 f1 i j = true → gI (F_l05Clusters_L1b f0 f1 _ out c (w : Int)).1 (i : Int) = gI (F_l05Clusters_L1b f0 f1 _ out c (w : Int)).1 (j : Int)
    unfold F_l05Clusters_L1b
    rw [decide_eq_true (show (w : Int) < f0 by omega), cond_true, show Int.toNat ((w : Int) - 0) = w by omega, show (w : Int) + 1 = ((w + 1 : Nat) : Int) by omega]
    rcases hin' with ⟨a1, a2⟩ | ⟨j0, a1, a2, a3⟩
    · rw [a1, decide_eq_true (show (-1 : Int) < 0 by omega)]
      exact step c (c + 1) hc (by omega) fun j hj hm => absurd hm (by rw [a2 j (by omega) hj]; decide)
    · have h0 := hp j0 a1
      rw [a3, decide_eq_false (by omega)]
      refine step (gI out (j0 : Int)) c h0 hc fun j hj hm' => hm j0 j a1 hj ?_
      exact mut2_trans h (by omega) (show (w : Int) < f0 by omega) (by omega) (by rw [mut2_comm]; exact a2) hm'
theorem clm_len (f0 : Int) (f1 : List Int) : ∀ (k w : Nat) (out : List Int) (c : Int), (w : Int) + k = f0 → out.length = w → ((F_l05Clusters_L1 f0 f1 (k + 1) out c (w : Int)).1.length : Int) = f0 := by
  intro k
  induction k with
  | zero =>
    intro w out c hw hl
    show ((F_l05Clusters_L1b f0 f1 _ out c (w : Int)).1.length : Int) = f0
    unfold F_l05Clusters_L1b
    rw [decide_eq_false (by omega), cond_false]
    show (out.length : Int) = f0
    omega
  | succ k ih =>
    intro w out c hw hl
    show ((F_l05Clusters_L1b f0 f1 _ out c (w : Int)).1.length : Int) = f0
    unfold F_l05Clusters_L1b
    rw [decide_eq_true (show (w : Int) < f0 by omega), cond_true, show (w : Int) + 1 = ((w + 1 : Nat) : Int) by omega]
    exact ih (w + 1) _ _ (by omega) (by simp; omega)
theorem clus_len {f0 : Int} {f1 : List Int} (h0 : 0 ≤ f0) : ((F_l05Clusters f0 f1).length : Int) = f0 := by
  unfold F_l05Clusters
  rw [show Int.toNat (f0 - 0) = f0.toNat by omega]
  exact clm_len f0 f1 f0.toNat 0 [] 0 (by omega) rfl
theorem clus_mut {f0 : Int} {f1 : List Int} (h : FrP f0 f1) {i j : Nat} (hi : (i : Int) < f0) (hj : (j : Int) < f0) (hm : mut2 f0 f1 i j = true) : gI (F_l05Clusters f0 f1) (i : Int) = gI (F_l05Clusters f0 f1) (j : Int) := by
  have h8 := h.h0
  unfold F_l05Clusters
  rw [show Int.toNat (f0 - 0) = f0.toNat by omega]
  exact clm_outer h f0.toNat 0 [] 0 (by omega) rfl (by omega) (fun j hj => by omega) (fun i j hi => by omega) i j hi hj hm
/-- From w one goes down to v. -/
def edg (f0 : Int) (f1 : List Int) (w v : Nat) : Bool := (!decide (gI (F_l05Clusters f0 f1) (v : Int) = gI (F_l05Clusters f0 f1) (w : Int))) && rch f0 f1 w v
theorem edg_cnt {f0 : Int} {f1 : List Int} (h : FrP f0 f1) {w v : Nat} (hw : (w : Int) < f0) (hv : (v : Int) < f0) (he : edg f0 f1 w v = true) : cntR f0 f1 (v : Int) < cntR f0 f1 (w : Int) := by
  have h8 := h.h0
  unfold edg at he
  rw [Bool.and_eq_true, Bool.not_eq_true'] at he
  have hne := of_decide_eq_false he.1
  refine cntN_lt (p := rch f0 f1 v) (q := rch f0 f1 w) f0.toNat (fun j _ hj => rch_trans h hw hv he.2 hj) w (by omega) ?_ (rch_refl h hw)
  cases hr : rch f0 f1 v w
  · rfl
  · exact absurd (clus_mut h hv hw (by unfold mut2; rw [hr, he.2]; rfl)) hne
theorem cnt_pos {f0 : Int} {f1 : List Int} (h : FrP f0 f1) {w : Nat} (hw : (w : Int) < f0) : 1 ≤ cntR f0 f1 (w : Int) := by
  have := cntN_lt (p := fun _ => false) (q := rch f0 f1 w) f0.toNat (fun _ _ h => by cases h) w (by omega) rfl (rch_refl h hw)
  show 1 ≤ cntN f0.toNat (rch f0 f1 w)
  omega
theorem dep_dec {f0 : Int} {f1 clusters : List Int} {w v : Int} (hf : 0 ≤ f0 ∧ f0 ≤ 8) (hfl : (f1.length : Int) = f0) (hfm : ∀ m : Int, 0 ≤ m → m < (f1.length : Int) → 0 ≤ gI f1 m ∧ gI f1 m ≤ fullI f0) (hcl : clusters = F_l05Clusters f0 f1) (hw : 0 ≤ w ∧ w < f0) (hv : 0 ≤ v ∧ v < f0) (h1 : ¬ gI clusters v = gI clusters w) (h2 : F_l01Bit (F_l05Reach f0 f1 (powI w)) v = true) : cntR f0 f1 v < cntR f0 f1 w := by
  obtain ⟨w', rfl⟩ : ∃ n : Nat, w = (n : Int) := ⟨w.toNat, by omega⟩
  obtain ⟨v', rfl⟩ : ∃ n : Nat, v = (n : Int) := ⟨v.toNat, by omega⟩
  subst hcl
  have h : FrP f0 f1 := ⟨hf, hfl, hfm⟩
  refine edg_cnt h hw.2 hv.2 ?_
  rw [rch_bit h hw.2 (by omega)] at h2
  unfold edg
  rw [h2, decide_eq_false h1]; rfl
theorem dep_dec2 {f0 : Int} {f1 clusters : List Int} {w v : Int} (hf : 0 ≤ f0 ∧ f0 ≤ 8) (hfl : (f1.length : Int) = f0) (hfm : ∀ m : Int, 0 ≤ m → m < (f1.length : Int) → 0 ≤ gI f1 m ∧ gI f1 m ≤ fullI f0) (hcl : clusters = F_l05Clusters f0 f1) (hw : 0 ≤ w ∧ w < f0) (hv : 0 ≤ v ∧ v < f0) (h : ((!decide (gI clusters v = gI clusters w)) && F_l01Bit (F_l05Reach f0 f1 (powI w)) v) = true) : cntR f0 f1 v < cntR f0 f1 w := by
  rw [Bool.and_eq_true, Bool.not_eq_true'] at h
  exact dep_dec hf hfl hfm hcl hw hv (of_decide_eq_false h.1) h.2
theorem dep_keep {best s : Int} {c : Bool} (h0 : 0 ≤ best ∧ best ≤ 8) (hs : c = true → 1 ≤ s ∧ s ≤ 8) : 0 ≤ (bif c then max best s else best) ∧ (bif c then max best s else best) ≤ 8 := by
  cases c
  · exact h0
  · have := hs rfl
    rw [cond_true]; omega
theorem foldl_cg {α β : Type} {f g : α → β → α} : ∀ (l : List β) (o : α), (∀ j ∈ l, ∀ o, f o j = g o j) → l.foldl f o = l.foldl g o := by
  intro l
  induction l with
  | nil => intro o _; rfl
  | cons a l ih =>
    intro o h
    rw [List.foldl_cons, List.foldl_cons, h a (by simp)]
    exact ih _ fun j hj => h j (by simp [hj])
theorem maxf {β : Type} (e : β → Bool) (d : β → Int) : ∀ (l : List β) (o : Int), o ≤ l.foldl (fun o v => bif e v then max o (d v) else o) o ∧ (∀ v ∈ l, e v = true → d v ≤ l.foldl (fun o v => bif e v then max o (d v) else o) o) ∧ (l.foldl (fun o v => bif e v then max o (d v) else o) o = o ∨ ∃ v ∈ l, e v = true ∧ l.foldl (fun o v => bif e v then max o (d v) else o) o = d v) := by
  intro l
  induction l with
  | nil => intro o; exact ⟨Int.le_refl _, fun v hv => absurd hv (by simp), Or.inl rfl⟩
  | cons a l ih =>
    intro o
    rw [List.foldl_cons]
    cases ha : e a
    · obtain ⟨a1, a2, a3⟩ := ih o
      rw [cond_false]
      refine ⟨a1, fun v hv he => ?_, ?_⟩
      · rcases List.mem_cons.1 hv with rfl | hv
        · rw [ha] at he; cases he
        · exact a2 v hv he
      · rcases a3 with a3 | ⟨v, b1, b2, b3⟩
        · exact .inl a3
        · exact .inr ⟨v, List.mem_cons_of_mem _ b1, b2, b3⟩
    · obtain ⟨a1, a2, a3⟩ := ih (max o (d a))
      rw [cond_true]
      refine ⟨by omega, fun v hv he => ?_, ?_⟩
      · rcases List.mem_cons.1 hv with rfl | hv
        · omega
        · exact a2 v hv he
      · rcases a3 with a3 | ⟨v, b1, b2, b3⟩
        · rcases (show max o (d a) = o ∨ max o (d a) = d a by omega) with e | e
          · exact .inl (a3.trans e)
          · exact .inr ⟨a, List.mem_cons_self, ha, a3.trans e⟩
        · exact .inr ⟨v, List.mem_cons_of_mem _ b1, b2, b3⟩
end Go.Proofs.Ytlbonhloeefnmaa
