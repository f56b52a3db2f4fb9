/- GBM: models and contracts, printed by wip/gen/gen.py -/
import Derived.Test.YtkilkfhjfobcdaaKFBGBJ
set_option linter.unusedVariables false
set_option linter.unusedSimpArgs false
namespace Go.Proofs.Ytkilkfhjfobcdaa
open Go.RowKit
/-- How often a kind stands in a code. -/
def cntK (m : Int) : List Int → Int
  | [] => 0
  | [_] => 0
  | k :: _ :: xs => (if k = m then 1 else 0) + cntK m xs
theorem cntK_tree (m : Int) : ∀ (t : Fm) (ys : List Int), cntK m (t.code ++ ys) = cntK m t.code + cntK m ys := by
  intro t
  induction t with
  | leaf k v =>
    intro ys
    show (if k = m then 1 else 0) + cntK m ys = ((if k = m then 1 else 0) + 0) + cntK m ys
    omega
  | un k v a ih =>
    intro ys
    show (if k = m then 1 else 0) + cntK m (a.code ++ ys) = ((if k = m then 1 else 0) + cntK m a.code) + cntK m ys
    rw [ih]; omega
  | bin k v a b iha ihb =>
    intro ys
    show (if k = m then 1 else 0) + cntK m ((a.code ++ b.code) ++ ys) = ((if k = m then 1 else 0) + cntK m (a.code ++ b.code)) + cntK m ys
    rw [List.append_assoc, iha, ihb, iha]; omega
theorem gI_sI_at {xs : List Int} {t v m : Int} (h0 : 0 ≤ t) (h1 : t < (xs.length : Int)) (h2 : 0 ≤ m) : gI (sI xs t v) m = if t = m then v else gI xs m := by
  unfold gI gi sI
  rw [List.getD_eq_getElem?_getD, List.getD_eq_getElem?_getD, List.getElem?_set]
  by_cases h : t = m
  · subst h
    rw [if_pos rfl, if_pos rfl, if_pos (by omega)]; rfl
  · rw [if_neg (by omega), if_neg h]
theorem kc_loop (ap : List Int) (he : ap.length = ap.length / 2 * 2) (hq : ∀ i : Int, 0 ≤ i → i < ((ap.length / 2 : Nat) : Int) → 0 ≤ gS 2 0 ap i ∧ gS 2 0 ap i ≤ 6) : ∀ (r : Nat) (t : Int) (out : List Int), 0 ≤ t → t ≤ ((ap.length / 2 : Nat) : Int) → ((ap.length / 2 : Nat) : Int) - t < (r : Int) → out.length = 7 →
    (F_KindCounts_L1 ap r t out).2.length = 7 ∧ ∀ m : Int, 0 ≤ m → gI (F_KindCounts_L1 ap r t out).2 m = gI out m + cntK m (slI 2 ap t ((ap.length / 2 : Nat) : Int)) := by
  intro r
  induction r with
  | zero => intros; omega
  | succ r ih =>
    intro t out h0 h1 h2 h3
    show (F_KindCounts_L1b ap (F_KindCounts_L1 ap r) t out).2.length = 7 ∧ ∀ m : Int, 0 ≤ m → gI (F_KindCounts_L1b ap (F_KindCounts_L1 ap r) t out).2 m = _
    unfold F_KindCounts_L1b
    by_cases ht : t < ((ap.length / 2 : Nat) : Int)
    · rw [decide_eq_true ht, cond_true]
      have hk := hq t h0 ht
      obtain ⟨g1, g2⟩ := ih (t + 1) (sI out (gS 2 0 ap t) (gI out (gS 2 0 ap t) + 1)) (by omega) (by omega) (by omega) (by rw [sI_len]; exact h3)
      refine ⟨g1, fun m hm => ?_⟩
      rw [g2 m hm, slI_cons he h0 ht (by omega), gI_sI_at hk.1 (by omega) hm]
      show _ = gI out m + ((if gS 2 0 ap t = m then 1 else 0) + cntK m (slI 2 ap (t + 1) ((ap.length / 2 : Nat) : Int)))
      by_cases h : gS 2 0 ap t = m
      · rw [if_pos h, if_pos h, h]; omega
      · rw [if_neg h, if_neg h]; omega
    · rw [decide_eq_false ht, cond_false]
      refine ⟨h3, fun m _ => ?_⟩
      obtain rfl : t = ((ap.length / 2 : Nat) : Int) := by omega
      have : slI 2 ap ((ap.length / 2 : Nat) : Int) ((ap.length / 2 : Nat) : Int) = [] := by unfold slI; rw [Nat.sub_self, Nat.zero_mul, List.take_zero]
      rw [this]
      show gI out m = gI out m + 0
      omega
theorem KindCounts_val {ap : List Int} (he : ap.length = ap.length / 2 * 2) (h : F_isFormula ap = true) : (F_KindCounts ap).2 = 0 ∧ (F_KindCounts ap).1.length = 7 ∧ ∀ m : Int, 0 ≤ m → gI (F_KindCounts ap).1 m = cntK m ap := by
  unfold F_KindCounts
  rw [h]
  obtain ⟨g1, g2⟩ := kc_loop ap he (isFm_q he h) (Int.toNat (((ap.length / 2 : Nat) : Int) - 0) + 1) 0 (List.replicate (Int.toNat 7) 0) (by omega) (by omega) (by omega) (by simp)
  refine ⟨rfl, g1, fun m hm => ?_⟩
  show gI (F_KindCounts_L1 ap (Int.toNat (((ap.length / 2 : Nat) : Int) - 0) + 1) 0 (List.replicate (Int.toNat 7) 0)).2 m = _
  rw [g2 m hm, slI_all he]
  have := kc_init m
  omega
/-- Height and modal depth of a tree. -/
def Fm.dep : Fm → Int × Int
  | .leaf k _ => (0, bif F_isModal k then 1 else 0)
  | .un k _ a => (max 0 (a.dep.1 + 1), bif F_isModal k then max 0 a.dep.2 + 1 else max 0 a.dep.2)
  | .bin k _ a b => (max (max 0 (a.dep.1 + 1)) (b.dep.1 + 1), bif F_isModal k then max (max 0 a.dep.2) b.dep.2 + 1 else max (max 0 a.dep.2) b.dep.2)
theorem Fm.dep_pos (t : Fm) : 0 ≤ t.dep.1 ∧ 0 ≤ t.dep.2 := by
  cases t with
  | leaf k v => unfold Fm.dep; cases F_isModal k <;> simp only [cond_true, cond_false] <;> omega
  | un k v a => unfold Fm.dep; cases F_isModal k <;> simp only [cond_true, cond_false] <;> omega
  | bin k v a b => unfold Fm.dep; cases F_isModal k <;> simp only [cond_true, cond_false] <;> omega
theorem dep_L0 (ap : List Int) (self : List Int → (Int × Int)) (h : F_parts ap = []) : F_depths_L1 ap self (Int.toNat (((F_parts ap).length : Int) - 0) + 1) 0 0 0 = (0, 0, 0) := by
  rw [show Int.toNat (((F_parts ap).length : Int) - 0) + 1 = 1 by rw [h]; simp]
  show F_depths_L1b ap self (F_depths_L1 ap self 0) 0 0 0 = _
  unfold F_depths_L1b
  rw [h]
  simp only [List.length_nil]
  rfl
theorem dep_La (ap : List Int) (self : List Int → (Int × Int)) (x : List Int) (h : F_parts ap = [x]) : F_depths_L1 ap self (Int.toNat (((F_parts ap).length : Int) - 0) + 1) 0 0 0 = (max 0 ((self x).1 + 1), max 0 (self x).2, 1) := by
  rw [show Int.toNat (((F_parts ap).length : Int) - 0) + 1 = 2 by rw [h]; simp]
  show F_depths_L1b ap self (F_depths_L1b ap self (F_depths_L1 ap self 0)) 0 0 0 = _
  unfold F_depths_L1b
  rw [h]
  simp only [List.length_cons, List.length_nil]
  rfl
theorem dep_Lb (ap : List Int) (self : List Int → (Int × Int)) (x y : List Int) (h : F_parts ap = [x, y]) : F_depths_L1 ap self (Int.toNat (((F_parts ap).length : Int) - 0) + 1) 0 0 0 = (max (max 0 ((self x).1 + 1)) ((self y).1 + 1), max (max 0 (self x).2) (self y).2, 2) := by
  rw [show Int.toNat (((F_parts ap).length : Int) - 0) + 1 = 3 by rw [h]; simp]
  show F_depths_L1b ap self (F_depths_L1b ap self (F_depths_L1b ap self (F_depths_L1 ap self 0))) 0 0 0 = _
  unfold F_depths_L1b
  rw [h]
  simp only [List.length_cons, List.length_nil]
  rfl
theorem dep_tree : ∀ (t : Fm) (r : Nat), t.Ok → t.code.length < r → F_depths_r r t.code = t.dep := by
  intro t
  induction t with
  | leaf k v =>
    intro r h hr
    obtain ⟨r, rfl⟩ : ∃ r', r = r' + 1 := ⟨r - 1, by omega⟩
    show F_depths_b (F_depths_r r) (Fm.leaf k v).code = _
    unfold F_depths_b
    rw [dep_L0 _ _ (parts_leaf h), show gS 2 0 (Fm.leaf k v).code 0 = k from rfl]
    unfold Fm.dep
    cases F_isModal k <;> rfl
  | un k v a ih =>
    intro r h hr
    obtain ⟨r, rfl⟩ : ∃ r', r = r' + 1 := ⟨r - 1, by omega⟩
    have hl : a.code.length < r := by
      have e : (Fm.un k v a).code = k :: v :: a.code := rfl
      rw [e, List.length_cons, List.length_cons] at hr; omega
    show F_depths_b (F_depths_r r) (Fm.un k v a).code = _
    unfold F_depths_b
    rw [dep_La _ _ _ (parts_un h), show gS 2 0 (Fm.un k v a).code 0 = k from rfl, ih r h.2 hl]
    rw [Fm.dep]
    cases F_isModal k <;> rfl
  | bin k v a b iha ihb =>
    intro r h hr
    obtain ⟨r, rfl⟩ : ∃ r', r = r' + 1 := ⟨r - 1, by omega⟩
    have e : (Fm.bin k v a b).code = k :: v :: (a.code ++ b.code) := rfl
    have hla : a.code.length < r := by rw [e, List.length_cons, List.length_cons, List.length_append] at hr; omega
    have hlb : b.code.length < r := by rw [e, List.length_cons, List.length_cons, List.length_append] at hr; omega
    show F_depths_b (F_depths_r r) (Fm.bin k v a b).code = _
    unfold F_depths_b
    rw [dep_Lb _ _ _ _ (parts_bin h), show gS 2 0 (Fm.bin k v a b).code 0 = k from rfl, iha r h.2.1 hla, ihb r h.2.2 hlb]
    rw [Fm.dep]
    cases F_isModal k <;> rfl
theorem DepthsOf_tree {t : Fm} (h : t.Ok) (hf : F_isFormula t.code = true) : F_DepthsOf t.code = (t.dep.1, t.dep.2, 0) := by
  unfold F_DepthsOf
  rw [hf]
  have : F_depths t.code = t.dep := dep_tree t _ h (Nat.lt_succ_self _)
  rw [this]; rfl
/-- Every node of a good tree is good. -/
def ndAll (xs : List Int) : Prop := ∀ i : Int, 0 ≤ i → i < ((xs.length / 2 : Nat) : Int) → (0 ≤ gS 2 0 xs i ∧ gS 2 0 xs i ≤ 6) ∧ (0 ≤ gS 2 1 xs i ∧ gS 2 1 xs i ≤ 5) ∧ (gS 2 0 xs i = 0 ∨ gS 2 1 xs i = 0)
theorem gi_consN (a b : Int) (xs : List Int) (k : Nat) : gi (a :: b :: xs) (k + 2) = gi xs k := rfl
theorem gi_appL {xs ys : List Int} {k : Nat} (h : k < xs.length) : gi (xs ++ ys) k = gi xs k := by
  unfold gi
  rw [List.getD_eq_getElem?_getD, List.getD_eq_getElem?_getD, List.getElem?_append_left h]
theorem gi_appR {xs ys : List Int} {k : Nat} (h : xs.length ≤ k) : gi (xs ++ ys) k = gi ys (k - xs.length) := by
  unfold gi
  rw [List.getD_eq_getElem?_getD, List.getD_eq_getElem?_getD, List.getElem?_append_right h]
theorem ndAll_cons {k v : Int} {xs : List Int} (h1 : (0 ≤ k ∧ k ≤ 6) ∧ (0 ≤ v ∧ v ≤ 5) ∧ (k = 0 ∨ v = 0)) (h2 : ndAll xs) : ndAll (k :: v :: xs) := fun i h0 hi => by
  simp only [List.length_cons] at hi
  by_cases hz : i = 0
  · subst hz; exact h1
  · have h := h2 (i - 1) (by omega) (by omega)
    unfold gS at h ⊢
    rw [show i.toNat * 2 + 0 = (i - 1).toNat * 2 + 0 + 2 by omega, show i.toNat * 2 + 1 = (i - 1).toNat * 2 + 1 + 2 by omega, gi_consN, gi_consN]
    exact h
theorem ndAll_app {xs ys : List Int} (he : xs.length = xs.length / 2 * 2) (h1 : ndAll xs) (h2 : ndAll ys) : ndAll (xs ++ ys) := fun i h0 hi => by
  rw [List.length_append] at hi
  by_cases hz : i < ((xs.length / 2 : Nat) : Int)
  · have h := h1 i h0 hz
    unfold gS at h ⊢
    rw [gi_appL (by omega), gi_appL (by omega)]; exact h
  · have h := h2 (i - ((xs.length / 2 : Nat) : Int)) (by omega) (by omega)
    unfold gS at h ⊢
    rw [gi_appR (by omega), gi_appR (by omega), show i.toNat * 2 + 0 - xs.length = (i - ((xs.length / 2 : Nat) : Int)).toNat * 2 + 0 by omega, show i.toNat * 2 + 1 - xs.length = (i - ((xs.length / 2 : Nat) : Int)).toNat * 2 + 1 by omega]; exact h
theorem ndAll_tree : ∀ (t : Fm), t.Ok → ndAll t.code := by
  intro t
  induction t with
  | leaf k v => intro h; exact ndAll_cons h.2 (fun i h0 h1 => by simp at h1; omega)
  | un k v a ih => intro h; exact ndAll_cons h.1.2 (ih h.2)
  | bin k v a b iha ihb => intro h; exact ndAll_cons h.1.2 (ndAll_app a.code_ev (iha h.2.1) (ihb h.2.2))
theorem isFormula_tree {t : Fm} (h : t.Ok) (hs : t.size ≤ 40) : F_isFormula t.code = true := by
  rw [isFormula_eq]
  have hl := t.code_half
  have hp := t.size_pos
  have hpart : F_l02Part t.code 0 = t.size := by
    refine l02Part_of ?_
    have e1 : t.code = slI 2 t.code 0 (0 + t.size) := by
      have := slI_all t.code_ev
      rw [hl] at this
      rw [Int.zero_add]; exact this.symm
    rw [hl, show Int.toNat ((t.size : Int) - 0) + 1 = 1 + t.size by omega, part_code _ (Fm.code_ev _) t 1 0 1 h (by omega) (by omega) e1 (by rw [hl]; omega)]
    rw [show (1 : Int) - 1 = 0 by rfl, part_zero, Int.zero_add]
  have ht : F_l02Tree t.code = true := by
    unfold F_l02Tree
    rw [allE (F_l02Tree_L1 t.code) false ((t.code.length / 2 : Nat) : Int) (fun i3 => ((!(F_l01In (gS 2 0 t.code i3) 0 6)) || ((!(F_l01In (gS 2 1 t.code i3) 0 5)) || ((!decide ((gS 2 0 t.code i3) = 0)) && (!decide ((gS 2 1 t.code i3) = 0)))))) (by omega) (fun _ _ _ _ => rfl), isOk_bif]
    rw [show (List.range ((t.code.length / 2 : Nat) : Int).toNat).all (fun (j : Nat) => !((!(F_l01In (gS 2 0 t.code (j : Int)) 0 6)) || ((!(F_l01In (gS 2 1 t.code (j : Int)) 0 5)) || ((!decide ((gS 2 0 t.code (j : Int)) = 0)) && (!decide ((gS 2 1 t.code (j : Int)) = 0)))))) = true by
      rw [List.all_eq_true]
      intro j hj
      have := ndAll_tree t h (j : Int) (by omega) (by have := List.mem_range.1 hj; omega)
      unfold F_l01In
      simp only [Bool.not_or, Bool.not_not, Bool.and_eq_true, decide_eq_true_eq, Bool.not_and, Bool.or_eq_true]
      exact this]
    rw [cond_true, hpart, hl, decide_eq_true (show (0 : Int) < (t.size : Int) by omega), decide_eq_true rfl]; rfl
  unfold F_l02Is
  rw [ht, hl, decide_eq_true (show (t.size : Int) ≤ 40 by omega)]; rfl
end Go.Proofs.Ytkilkfhjfobcdaa
