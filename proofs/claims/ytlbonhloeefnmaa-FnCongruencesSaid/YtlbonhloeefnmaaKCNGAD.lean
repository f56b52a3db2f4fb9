/- GAD: models and contracts, printed by wip/gen/gen.py -/
import Derived.Test.YtlbonhloeefnmaaKCNGCG
import Derived.Test.YtlbonhloeefnmaaKCNShare
set_option linter.unusedVariables false
set_option linter.unusedSimpArgs false
namespace Go.Proofs.Ytlbonhloeefnmaa
open Go.RowKit
theorem rangeLoopLe {α : Type} (n : Int) (h0 : -1 ≤ n) (g : α → Int → α) (L : Nat → α → Int → α × Int) (hL : ∀ r o t, L (r + 1) o t = bif decide (t ≤ n) then L r (g o t) (t + 1) else (o, t)) (o : α) :
    (L (Int.toNat (n + 1 - 0) + 1) o 0).1 = (List.range (n + 1).toNat).foldl (fun o (j : Nat) => g o (j : Int)) o :=
  rangeLoop0 (n + 1) (by omega) g L (fun r o t => by rw [hL, show decide (t ≤ n) = decide (t < n + 1) from decide_eq_decide.2 (by omega)]) o
/-- How many lists of classes there are below one with d places open and t classes. -/
def Lf : Nat → Nat → Nat
  | 0, _ => 1
  | d + 1, t => ((List.range (t + 1)).map fun k => Lf d (max t (k + 1))).sum
def LfS (d t k : Nat) : Nat := ((List.range k).map fun j => Lf d (max t (j + 1))).sum
def Dfs : Nat → List Int → Nat → List (List Int)
  | 0, cs, _ => [cs]
  | d + 1, cs, t => (List.range (t + 1)).flatMap fun (k : Nat) => Dfs d (cs ++ [(k : Int)]) (max t (k + 1))
theorem LfS_succ (d t k : Nat) : LfS d t (k + 1) = LfS d t k + Lf d (max t (k + 1)) := by
  unfold LfS
  rw [List.range_succ, List.map_append, List.sum_append]
  simp
theorem LfS_mono (d t : Nat) {k l : Nat} (h : k ≤ l) : LfS d t k ≤ LfS d t l := by
  induction h with
  | refl => exact Nat.le_refl _
  | step _ ih => exact Nat.le_trans ih (by rw [LfS_succ]; omega)
theorem Lf_eq (d t : Nat) : Lf (d + 1) t = LfS d t (t + 1) := rfl
theorem Dfs_len : ∀ (d : Nat) (cs : List Int) (t : Nat), (Dfs d cs t).length = Lf d t := by
  intro d
  induction d with
  | zero => intro cs t; rfl
  | succ d ih =>
    intro cs t
    show ((List.range (t + 1)).flatMap fun (k : Nat) => Dfs d (cs ++ [(k : Int)]) (max t (k + 1))).length = ((List.range (t + 1)).map fun k => Lf d (max t (k + 1))).sum
    rw [List.length_flatMap]
    congr 1
    apply List.map_congr_left
    intro k _
    exact ih _ _
theorem Lf_room {n : Int} {l l' : Nat} {top k : Int} (h0 : 0 ≤ k) (h1 : k ≤ top) (hl : (l : Int) < n) (hc : l' = l + 1) :
    LfS ((n - (l : Int)).toNat - 1) top.toNat k.toNat + Lf (n - (l' : Int)).toNat (max top (k + 1)).toNat = LfS ((n - (l : Int)).toNat - 1) top.toNat (k + 1).toNat ∧ LfS ((n - (l : Int)).toNat - 1) top.toNat (k + 1).toNat ≤ Lf (n - (l : Int)).toNat top.toNat := by
  obtain ⟨d, hd⟩ : ∃ d, (n - (l : Int)).toNat = d + 1 := ⟨(n - (l : Int)).toNat - 1, by omega⟩
  have e1 : (n - (l' : Int)).toNat = d := by omega
  have e2 : (max top (k + 1)).toNat = max top.toNat (k.toNat + 1) := by omega
  have e3 : (k + 1).toNat = k.toNat + 1 := by omega
  rw [hd, e1, e2, e3, Nat.add_sub_cancel, LfS_succ]
  refine ⟨rfl, ?_⟩
  rw [← LfS_succ, Lf_eq]
  exact LfS_mono d _ (by omega)
theorem Lf8 {n : Int} (h0 : 0 ≤ n) (h1 : n ≤ 8) : Lf n.toNat 0 ≤ 4140 := by
  have h : n = 0 ∨ n = 1 ∨ n = 2 ∨ n = 3 ∨ n = 4 ∨ n = 5 ∨ n = 6 ∨ n = 7 ∨ n = 8 := by omega
  rcases h with rfl | rfl | rfl | rfl | rfl | rfl | rfl | rfl | rfl <;> decide +kernel
theorem foldl_fm {α β : Type} (g : β → List α) (l : List β) (o : List α) : l.foldl (fun o k => o ++ g k) o = o ++ l.flatMap g := by
  induction l generalizing o with
  | nil => simp
  | cons a l ih => rw [List.foldl_cons, ih, List.flatMap_cons, List.append_assoc]
theorem app1_len' (cs : List Int) (k : Int) : (cs ++ [k]).length = cs.length + 1 := by simp
end Go.Proofs.Ytlbonhloeefnmaa
