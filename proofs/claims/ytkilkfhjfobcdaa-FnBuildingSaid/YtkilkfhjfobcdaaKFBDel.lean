/- Append onto a part of a slice of the call's own, where it fits. -/
import Derived.Test.YtkilkfhjfobcdaaKFBStr
import Derived.Laws.AppendOwn
import Derived.Laws.StructEq
set_option linter.unusedVariables false
set_option linter.unusedSimpArgs false
namespace Go.Proofs.Ytkilkfhjfobcdaa
open Go.RowKit
section
variable {P : Program} {Q : Exit → Act → World → Prop} {a : Act} {n : Nat} {L : List (Nat × Value)} {w w0 : World} {K : Act → World → Prop} {Γ : List Ent} {i : Nat}
variable {ty : TypeId} {pos : String} {af : Array Edge} {gd : Option (Nat × Bool)} {d : Nat} {x y : Operand} {v : Value} {t : TypeId}
theorem l_appendFit {e : TypeId} {i : TypeInfo} {s n2 c2 k nA cA n' c n1 : Nat} {A b b2 : Option Addr} {xs ys : List Int} {h : Int} (hS : St w0 w Γ) (hE : E a n L) (hu : P.underlying t = some (.slice e)) (hi : P.info? e = some i) (hsz : i.size = s) (h0 : 0 < s)
    (hx : ev L x = some (.slice A nA cA)) (hA : A = subA b (Int.toNat (0 : Int)) c s) (hcA : cA = c - Int.toNat (0 : Int)) (hy : ev L y = some (.slice b2 n2 c2)) (hk : Γ[k]? = some (.own e s b n1 c xs)) (hr : RdS w s b2 n2 c2 ys) (hh0 : 0 ≤ h) (hh1 : h ≤ (n1 : Int)) (hnA : h.toNat = nA) (hfit : nA + n2 ≤ n1) (hpos : 1 ≤ n1) (hn' : nA + n2 = n') (hn : Nat.blt d n = true)
    (hK : ∀ w', St w0 w' (Γ.set k (.own e s b n' c (slI s xs 0 h ++ ys))) → ∀ a', E a' n ((d, .slice b n' c) :: L) → K a' w') : Oper.wp P ⟨some d, .call ⟨.builtin .append, #[x, y], #[t, t]⟩, ty, pos, af, gd⟩ a w K Q := by
  subst hsz
  subst hn'
  have ho : OwnS w w0.heap.size e i.size b n1 c xs := hS.ok k _ hk
  have hop : OwnS w w0.heap.size e i.size b nA c (slI i.size xs 0 h) := ho.pre hh0 hh1 hnA
  have hAb : A = b := by
    rw [hA]; unfold subA
    split
    · rfl
    · cases b with
      | none => rfl
      | some p =>
        show some (p.add ((Int.toNat (0 : Int)) * i.size)) = some p
        rw [show (Int.toNat (0 : Int)) * i.size = 0 from Nat.zero_mul _]
        rfl
  have hcc : cA = c := hcA
  subst hAb; subst hcc
  cases b2 with
  | none =>
    obtain ⟨rfl, rfl⟩ := hr.2.2.2.1 rfl
    have hys : ys = [] := by have := hr.1; simp at this; exact this
    subst hys
    have hrun := run_append_owned_none (P := P) (w := w) w0.heap.size t ty e i i.size hu hi _ nA _ hop
    refine l_val hE rfl hn (v := .slice A nA cA) (w' := w) (by simp [execOp, resolve, invoke, builtin, hE.eval hx, hE.eval hy, hrun]) ?_
    refine hK w ?_
    rw [List.append_nil]
    exact hS.set hk rfl hS.ext (fun _ _ _ => rfl) (e' := .own e i.size A nA cA (slI i.size xs 0 h)) hop (fun g hg => .inl hg)
  | some p =>
    obtain ⟨_, ⟨_, h7, _⟩ | ⟨g, cur, rfl, h1, h2, h3, h4, h5, h6⟩⟩ := ho.cases
    · exact absurd h7 (by omega)
    · have hol : (slI i.size xs 0 h).length = nA * i.size := hop.cases.1
      have hyl := hr.1
      have hnews : ∀ (j : Nat) u, (intV ys)[j]? = some u → w.cell? (p.add j) = some u := by
        intro j u hju
        have hj : j < ys.length := by
          rcases Nat.lt_or_ge j ys.length with h | h
          · exact h
          · rw [List.getElem?_eq_none (by rw [intV_len]; exact h)] at hju; cases hju
        rw [intV_get hj] at hju
        cases hju
        exact hr.2.2.2.2 j hj
      have hle : (nA + n2) * i.size ≤ n1 * i.size := Nat.mul_le_mul_right _ hfit
      have hle2 : n1 * i.size ≤ cA * i.size := Nat.mul_le_mul_right _ h3
      rw [Nat.add_mul] at hle
      have hrun := run_append_room (P := P) w t ty e i hu hi g nA cA cur h2 p n2 c2 (intV ys) (by rw [intV_len]; exact hyl) hnews (ints_oneCell _ _) (by omega) (by rw [intV_len, hyl, h5]; omega)
      rw [intV_len] at hrun
      have hnew : OwnS (w.setRow g (cur.toList.take (nA * i.size) ++ intV ys ++ cur.toList.drop (nA * i.size + ys.length)).toArray) w0.heap.size e i.size (some ⟨g, 0, none⟩) (nA + n2) cA (slI i.size xs 0 h ++ ys) := by
        refine OwnS.mk (by rw [List.length_append, hol, hyl, Nat.add_mul]) h1 (setRow_heap w g cur _ e (0, 0) h2) (by omega) h4 ?_ ?_
        · rw [List.size_toArray, List.length_append, List.length_append, intV_len, List.length_take, List.length_drop, Array.length_toList, h5, hyl]; omega
        · show List.take ((nA + n2) * i.size) (cur.toList.take (nA * i.size) ++ intV ys ++ cur.toList.drop (nA * i.size + ys.length)) = intV (slI i.size xs 0 h ++ ys)
          have hc : cur.toList.length = cA * i.size := by rw [Array.length_toList]; exact h5
          have hx1 : cur.toList.take (nA * i.size) = intV (slI i.size xs 0 h) := by
            have : (cur.toList.take (n1 * i.size)).take (nA * i.size) = (intV xs).take (nA * i.size) := by rw [h6]
            rw [List.take_take, Nat.min_eq_left (by omega)] at this
            rw [this]; unfold intV slI
            rw [← List.map_take]
            congr 1
            simp [hnA]
          rw [hx1, List.take_append_of_le_length (by rw [List.length_append, intV_len, intV_len, hol, hyl, Nat.add_mul]; omega)]
          rw [List.take_of_length_le (by rw [List.length_append, intV_len, intV_len, hol, hyl, Nat.add_mul]; omega)]
          unfold intV; rw [List.map_append]
      refine l_val hE rfl hn (v := .slice (some ⟨g, 0, none⟩) (nA + n2) cA) (w' := w.setRow g (cur.toList.take (nA * i.size) ++ intV ys ++ cur.toList.drop (nA * i.size + ys.length)).toArray) (by simp [execOp, resolve, invoke, builtin, hE.eval hx, hE.eval hy, hrun]) (hK _ (hS.set hk rfl ?_ ?_ hnew fun g' hg => .inl hg))
      · have h0 := hS.ext
        refine ⟨h0.os, h0.tape, h0.output, by rw [setRow_size]; exact h0.size, fun g' hg => ?_⟩
        rw [setRow_other w g g' _ (by omega)]
        exact h0.block hg
      · intro g' _ hg
        exact setRow_other w g g' _ fun e => hg (by simp [Ent.has, e])
theorem part_int {t : TypeId} {w : World} {xs : Array Value} {off : Nat} {v : Value} (ht : P.underlying t = some (.int .i64)) (hx : xs[off]? = some v) : (part t xs off).run P w = .ok v w := by
  simp [part, isAgg, run_underlying ht, hx]
/-- Comparison of two structs of two numbers. -/
theorem y_neqN {S : World → Prop} {dst : Option Tmp} {a1 a2 b1 b2 : Int} {t2 : TypeId} (ht : P.underlying t = some (.struct (P.fieldsOf t))) (hp : P.stoodInHeld t = false) (hg : P.eqGuardType P.depth t = false)
    (hf : (P.fieldsOf t).toList.map (fun f => (f.name == "_", P.underlying f.type, f.offset)) = [(false, some (.int .i64), 0), (false, some (.int .i64), 1)])
    (hx : ev L x = some (.agg #[.int .i64 a1, .int .i64 a2])) (hy : ev L y = some (.agg #[.int .i64 b1, .int .i64 b2])) : Yld P S L ⟨dst, .binOp .neq t x y t2, ty, pos, af, gd⟩ (.bool (!(decide (a1 = b1) && decide (a2 = b2)))) := fun a n hE w _ => by
  have hr : (Op.eqFields 9999 #[.int .i64 a1, .int .i64 a2] #[.int .i64 b1, .int .i64 b2] (P.fieldsOf t).toList).run P w = .ok (decide (a1 = b1) && decide (a2 = b2)) w := by
    generalize (P.fieldsOf t).toList = fs at hf
    cases fs with
    | nil => exact absurd (congrArg List.length hf) (by simp)
    | cons f1 fs =>
      cases fs with
      | nil => exact absurd (congrArg List.length hf) (by simp)
      | cons f2 fs =>
        simp only [List.map_cons, List.cons.injEq, Prod.mk.injEq, List.map_eq_nil_iff] at hf
        obtain ⟨⟨n1, u1, o1⟩, ⟨n2, u2, o2⟩, rfl⟩ := hf
        have m1 : f1.name ≠ "_" := by intro h; rw [h] at n1; exact absurd n1 (by decide)
        have m2 : f2.name ≠ "_" := by intro h; rw [h] at n2; exact absurd n2 (by decide)
        have e1 : ∀ w, (Op.equalIn 9999 f1.type (.int .i64 a1) (.int .i64 b1)).run P w = .ok (a1 == b1) w := fun w => run_equalIn_int (P := P) w 9998 f1.type .i64 .i64 a1 b1 u1
        have e2 : ∀ w, (Op.equalIn 9999 f2.type (.int .i64 a2) (.int .i64 b2)).run P w = .ok (a2 == b2) w := fun w => run_equalIn_int (P := P) w 9998 f2.type .i64 .i64 a2 b2 u2
        have p1 : ∀ w, (part f1.type #[.int .i64 a1, .int .i64 a2] 0).run P w = .ok (.int .i64 a1) w := fun w => part_int u1 rfl
        have p2 : ∀ w, (part f1.type #[.int .i64 b1, .int .i64 b2] 0).run P w = .ok (.int .i64 b1) w := fun w => part_int u1 rfl
        have p3 : ∀ w, (part f2.type #[.int .i64 a1, .int .i64 a2] 1).run P w = .ok (.int .i64 a2) w := fun w => part_int u2 rfl
        have p4 : ∀ w, (part f2.type #[.int .i64 b1, .int .i64 b2] 1).run P w = .ok (.int .i64 b2) w := fun w => part_int u2 rfl
        by_cases h1 : a1 = b1 <;> by_cases h2 : a2 = b2 <;> (try subst h1) <;> (try subst h2) <;> simp [Op.eqFields, m1, m2, o1, o2, p1, p2, p3, p4, e1, e2, *]
  have he : (eqGuard .neq t x y (.agg #[.int .i64 a1, .int .i64 a2]) (.agg #[.int .i64 b1, .int .i64 b2])).run P w = .ok () w := run_eqGuard_agg w .neq t x y _ _ hg
  have h3 := run_neq_struct (P := P) w t #[.int .i64 a1, .int .i64 a2] #[.int .i64 b1, .int .i64 b2]
  rw [run_equalIn_struct w 9999 t _ _ ht hp, hr] at h3
  simp [execOp, hE.eval hx, hE.eval hy, he, h3, Result.andThen]
end
end Go.Proofs.Ytkilkfhjfobcdaa
