/- Copy into a slice of the call's own, also from itself. -/
import Derived.Test.YtlbonhloeefnmaaKDWStr
import Derived.Laws.CopyRow
import Derived.Laws.IdiomCopy
set_option linter.unusedVariables false
namespace Go.Proofs.Ytlbonhloeefnmaa
open Go.RowKit
/-- The list with the first q numbers of another at place m. -/
def cpL (xs ys : List Int) (m q : Nat) : List Int := xs.take m ++ ys.take q ++ xs.drop (m + q)
theorem cpL_len {xs ys : List Int} {m q : Nat} (h1 : m + q ≤ xs.length) (h2 : q ≤ ys.length) : (cpL xs ys m q).length = xs.length := by
  unfold cpL
  simp only [List.length_append, List.length_take, List.length_drop]; omega
theorem cpL_zero (xs ys : List Int) (m : Nat) : cpL xs ys m 0 = xs := by
  unfold cpL
  rw [List.take_zero, List.append_nil, Nat.add_zero, List.take_append_drop]
section
variable {P : Program} {Q : Exit → Act → World → Prop} {a : Act} {n : Nat} {L : List (Nat × Value)} {w w0 : World} {K : Act → World → Prop} {Γ : List Ent} {i : Nat}
variable {ty : TypeId} {pos : String} {af : Array Edge} {gd : Option (Nat × Bool)} {d : Nat} {x y : Operand} {v : Value} {t : TypeId}
theorem l_copy {e : TypeId} {k n1 c m q dn dc sn sc : Nat} {b A sa : Option Addr} {xs ys : List Int} (hS : St w0 w Γ) (hE : E a n L) (hu : P.underlying t = some (.slice e)) (hs : (P.info? e).map (·.size) = some 1)
    (hx : ev L x = some (.slice A dn dc)) (hA : A = subA b m c 1 ∨ (A = b ∧ m = 0)) (hy : ev L y = some (.slice sa sn sc)) (hk : Γ[k]? = some (.own e 1 b n1 c xs)) (hr : RdS w 1 sa sn sc ys) (hm : m + dn = n1) (hq : Nat.min sn dn = q) (hn : Nat.blt d n = true)
    (hK : ∀ w', St w0 w' (Γ.set k (.own e 1 b n1 c (cpL xs ys m q))) → ∀ a', E a' n ((d, .int .i64 (q : Int)) :: L) → K a' w') : Oper.wp P ⟨some d, .call ⟨.builtin .copy, #[x, y], #[t, t]⟩, ty, pos, af, gd⟩ a w K Q := by
  have ho : OwnS w w0.heap.size e 1 b n1 c xs := hS.ok k _ hk
  by_cases h0 : q = 0
  · have hrun := run_copy_none (P := P) w t t ty e A sa dn dc sn sc hu hs (hq.trans h0)
    refine l_val hE rfl hn (v := goInt 0) (w' := w) (by simp [execOp, resolve, invoke, builtin, hE.eval hx, hE.eval hy, hrun]) ?_
    subst h0
    refine hK w ?_
    have : Γ.set k (.own e 1 b n1 c (cpL xs ys m 0)) = Γ := by
      rw [cpL_zero]
      apply List.ext_getElem?; intro j
      rw [List.getElem?_set]
      split
      · rename_i e; subst e
        split
        · exact hk.symm
        · rename_i h; rw [List.getElem?_eq_none (by omega)]
      · rfl
    rw [this]; exact hS
  · have hqs : q ≤ sn ∧ q ≤ dn := by
      rw [← hq]; exact ⟨Nat.min_le_left _ _, Nat.min_le_right _ _⟩
    obtain ⟨hl, ⟨rfl, rfl, rfl⟩ | ⟨g, cur, rfl, h1, h2, h3, h4, h5, h6⟩⟩ := ho.cases
    · exact absurd hm (by omega)
    · obtain ⟨p, rfl⟩ : ∃ p, sa = some p := by
        cases sa with
        | none => exact absurd (hr.2.2.2.1 rfl).1 (by omega)
        | some p => exact ⟨p, rfl⟩
      have hA' : A = some ⟨g, m, none⟩ := by
        rcases hA with rfl | ⟨rfl, rfl⟩
        · unfold subA
          rw [if_neg (by omega)]
          show some ((⟨g, 0, none⟩ : Addr).add (m * 1)) = _
          rw [Nat.mul_one]
          exact congrArg some (adr_lit g m)
        · rfl
      subst hA'
      have hyl := hr.1
      have hcl : (intV (ys.take q)).length = q := by rw [intV_len, List.length_take]; omega
      have hsrc : ∀ (j : Nat) u, (intV (ys.take q))[j]? = some u → w.cell? (p.add j) = some u := by
        intro j u hju
        have hj : j < q := by
          rcases Nat.lt_or_ge j q with h | h
          · exact h
          · rw [List.getElem?_eq_none (by omega)] at hju; cases hju
        rw [intV_get (by rw [List.length_take]; omega)] at hju
        cases hju
        have e1 : gi (ys.take q) j = gi ys j := by
          rw [gi_get (by rw [List.length_take]; omega), gi_get (by omega), List.getElem_take]
        rw [e1]
        exact hr.2.2.2.2 j (by omega)
      have hrun := run_copy_row (P := P) w t t ty e g m dn dc p sn sc cur e (intV (ys.take q)) hu hs h2 (by rw [hcl]; exact hq.symm) hsrc (by rw [hcl]; omega) (ints_oneCell _ _)
      rw [hcl] at hrun
      have hnew : OwnS (w.setRow g (cur.toList.take m ++ intV (ys.take q) ++ cur.toList.drop (m + q)).toArray) w0.heap.size e 1 (some ⟨g, 0, none⟩) n1 c (cpL xs ys m q) := by
        refine OwnS.mk (by rw [cpL_len (by omega) (by omega)]; exact hl) h1 (setRow_heap w g cur _ e (0, 0) h2) h3 h4 ?_ ?_
        · rw [List.size_toArray, List.length_append, List.length_append, hcl, List.length_take, List.length_drop, Array.length_toList]; omega
        · show List.take (n1 * 1) (cur.toList.take m ++ intV (ys.take q) ++ cur.toList.drop (m + q)) = intV (cpL xs ys m q)
          have hc : cur.toList.length = c * 1 := by rw [Array.length_toList]; exact h5
          have hx1 : cur.toList.take m = intV (xs.take m) := by
            have : (cur.toList.take (n1 * 1)).take m = (intV xs).take m := by rw [h6]
            rw [List.take_take, Nat.min_eq_left (by omega)] at this
            rw [this]; unfold intV; rw [List.map_take]
          have hx2 : (cur.toList.drop (m + q)).take (n1 * 1 - (m + q)) = intV (xs.drop (m + q)) := by
            have : (cur.toList.take (n1 * 1)).drop (m + q) = (intV xs).drop (m + q) := by rw [h6]
            rw [List.drop_take] at this
            rw [this]; unfold intV; rw [List.map_drop]
          unfold cpL
          rw [List.take_append, List.take_of_length_le (by rw [List.length_append, hcl, List.length_take]; omega), List.length_append, hcl, List.length_take, Nat.min_eq_left (by omega), hx2, hx1]
          unfold intV; rw [List.map_append, List.map_append]
      refine l_val hE rfl hn (v := goInt q) (w' := w.setRow g (cur.toList.take m ++ intV (ys.take q) ++ cur.toList.drop (m + q)).toArray) (by simp [execOp, resolve, invoke, builtin, hE.eval hx, hE.eval hy, hrun]) (hK _ (hS.set hk rfl ?_ ?_ hnew fun g' hg => .inl hg))
      · have h0 := hS.ext
        refine ⟨h0.os, h0.tape, h0.output, by rw [setRow_size]; exact h0.size, fun g' hg => ?_⟩
        rw [setRow_other w g g' _ (by omega)]
        exact h0.block hg
      · intro g' _ hg
        exact setRow_other w g g' _ fun e => hg (by simp [Ent.has, e])
end
end Go.Proofs.Ytlbonhloeefnmaa
