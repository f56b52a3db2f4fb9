/- GAM2: models and contracts, printed by wip/gen/gen.py -/
import Derived.Test.YtlbonhloeefnmaaKCNGAC
import Derived.Test.YtlbonhloeefnmaaKCNGAI
import Derived.Test.YtlbonhloeefnmaaKCNGSA
set_option linter.unusedVariables false
set_option linter.unusedSimpArgs false
namespace Go.Proofs.Ytlbonhloeefnmaa
open Go.RowKit
theorem map_gL (xs : List (List Int)) : (List.range xs.length).map (fun (j : Nat) => gL xs (j : Int)) = xs := by
  apply List.ext_getElem
  · simp
  · intro i h1 h2
    simp only [List.getElem_map, List.getElem_range]
    unfold gL
    rw [Int.toNat_natCast]
    have := getD_some (d := []) h2
    rw [List.getElem?_eq_getElem h2] at this
    exact (Option.some.inj this).symm
theorem filter_fold (p : List Int → Bool) : ∀ (l o : List (List Int)), l.foldl (fun o c => bif p c then o ++ [c] else o) o = o ++ l.filter p := by
  intro l
  induction l with
  | nil => intro o; simp
  | cons c l ih =>
    intro o
    rw [List.foldl_cons, ih]
    cases h : p c
    · rw [cond_false, List.filter_cons_of_neg (by rw [h]; decide)]
    · rw [cond_true, List.filter_cons_of_pos h, List.append_assoc]; rfl
theorem l08Congruences_eq {f0 : Int} (f1 : List Int) (h0 : 0 ≤ f0) : F_l08Congruences f0 f1 = (Dfs f0.toNat [] 0).filter (F_l08Congruence f0 f1) := by
  unfold F_l08Congruences
  rw [rangeLoop0 ((F_l08Parts f0 [] 0 []).length : Int) (by omega) (fun o i => bif F_l08Congruence f0 f1 (gL (F_l08Parts f0 [] 0 []) i) then o ++ [gL (F_l08Parts f0 [] 0 []) i] else o) (F_l08Congruences_L1 f0 f1) (fun r o t => by
    show F_l08Congruences_L1b f0 f1 _ o t = _
    unfold F_l08Congruences_L1b
    cases F_l08Congruence f0 f1 (gL (F_l08Parts f0 [] 0 []) t)
    · rw [cond_false, cond_false]
    · rw [cond_true, cond_true])]
  rw [l08Parts_eq h0, Int.toNat_natCast]
  have := filter_fold (F_l08Congruence f0 f1) ((List.range (Dfs f0.toNat [] 0).length).map (fun (j : Nat) => gL (Dfs f0.toNat [] 0) (j : Int))) []
  rw [List.foldl_map] at this
  rw [this, map_gL, List.nil_append]
theorem congruences_eq {f0 : Int} {f1 : List Int} (h : F_l05Is f0 f1 = true) : F_congruences f0 f1 = F_l08Congruences f0 f1 := by
  have ht := l05Is_t h
  have e : F_congruences f0 f1 = (F_allClasses_k1_r ((f0 - (([] : List Int).length : Int)).toNat + 1) 0 [] f0 f0 f1 []).2 := rfl
  rw [e, grow_dfs f0 f0 f1 f0.toNat _ 0 [] [] (by simp; omega) (by omega) (by simp)]
  show List.foldl _ [] (Dfs f0.toNat [] 0) = _
  rw [congr_fold, List.nil_append, l08Congruences_eq f1 ht.1.1]
  congr 1
  funext c
  exact isCong_eq h
theorem AllCongruences_eq (f0 : Int) (f1 : List Int) : F_AllCongruences f0 f1 = F_s_AllCongruences f0 f1 := by
  unfold F_AllCongruences F_s_AllCongruences
  rw [isFrame_eq]
  cases h : F_l05Is f0 f1
  · rfl
  · rw [congruences_eq h]
theorem totL_rows (m : Nat) : ∀ l : List (List Int), (∀ x ∈ l, x.length ≤ m) → totL l ≤ l.length * m := by
  intro l
  induction l with
  | nil => intro _; exact Nat.zero_le _
  | cons x l ih =>
    intro h
    have h1 := h x (List.mem_cons_self ..)
    have h2 := ih fun y hy => h y (List.mem_cons_of_mem _ hy)
    show x.length + totL l ≤ (l.length + 1) * m
    rw [Nat.add_mul]
    omega
theorem AllCongruences_tot (f0 : Int) (f1 : List Int) : (F_AllCongruences f0 f1).1.length ≤ 200 ∧ totL (F_AllCongruences f0 f1).1 ≤ 1600 := by
  rw [AllCongruences_eq]
  unfold F_s_AllCongruences
  cases h : F_l05Is f0 f1
  · exact ⟨Nat.zero_le _, Nat.zero_le _⟩
  · have ht := l05Is_t h
    cases h2 : decide (200 < ((F_l08Congruences f0 f1).length : Int))
    · have h3 := of_decide_eq_false h2
      have h4 := totL_rows 8 (F_l08Congruences f0 f1) (fun x hx => by
        rw [l08Congruences_eq f1 ht.1.1] at hx
        have := Dfs_row _ _ _ _ (List.mem_filter.1 hx).1
        simp at this
        omega)
      rw [Bool.not_true, cond_false, cond_false]
      show (F_l08Congruences f0 f1).length ≤ 200 ∧ totL (F_l08Congruences f0 f1) ≤ 1600
      generalize totL (F_l08Congruences f0 f1) = u at *
      omega
    · exact ⟨Nat.zero_le _, Nat.zero_le _⟩
theorem s_AllCong_len (f0 : Int) (f1 : List Int) : (F_s_AllCongruences f0 f1).1.length ≤ 200 := by
  rw [← AllCongruences_eq]; exact (AllCongruences_tot f0 f1).1
end Go.Proofs.Ytlbonhloeefnmaa
