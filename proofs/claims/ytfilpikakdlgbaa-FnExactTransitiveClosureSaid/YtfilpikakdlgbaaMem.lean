/- Mem: laws for the walk: make and append on slices of int64 that the call owns. -/
import Derived.Test.YtfilpikakdlgbaaBase
import Derived.Laws.AppendOwnNone
namespace Go.Proofs.Ytfilpikakdlgbaa
open Go.RowKit

theorem info64 : (Try.prog.info? 2).map (fun i => (i.zero, i.size, i.bytes)) = some (some (.int .i64 0), 1, 8) := by kernel_rfl
theorem und64s : Try.prog.underlying 30 = some (.slice 2) := by kernel_rfl

theorem Own.grown {w w' : World} {B : Nat} {a : Option Addr} {c : Nat} {xs : List Int} {row : Option Nat} (h : Own w B a c xs) (hg : w.grownBy w' row) (hr : a = none ∨ row ≠ some (blk a)) : Own w' B a c xs := by
  rcases h.cases with ⟨rfl, rfl, rfl⟩ | ⟨g, cur, rfl, h1, h2, h3, h4, h5, h6⟩
  · exact Own.nil _ _
  · refine h.same (hg.block _ (h.lt (by simp)).2 ?_)
    rcases hr with h' | h'
    · cases h'
    · exact fun e => h' e.symm
theorem Ext.grown {w0 w w' : World} {row : Option Nat} (h : Ext w0 w) (hg : w.grownBy w' row) (hr : ∀ k, row = some k → w0.heap.size ≤ k) : Ext w0 w' :=
  Below.grown h hg h.size hr

theorem make_ints {w : World} {ops : Array Oper} {rest : List Oper} {o : Oper} {a : Act} {Q : Exit → Act → World → Prop}
    (hg : o.guard = none) (l c : Operand) (hop : o.op = Op.makeSlice 30 l c) (n : Nat) (hl : a.eval l = .int .i64 (n : Int)) (hc : a.eval c = .int .i64 (n : Int)) (hn : n ≤ 4194304)
    (hK : ∀ b w', Own w' w.heap.size b n (List.replicate n 0) → Ext w w' → wpList Try.prog ops Q rest (a.put o.dst (.slice b n n)) w') :
    wpList Try.prog ops Q (o :: rest) a w := by
  obtain ⟨i, hi, hz, hs, hb⟩ := info_parts info64
  refine wpList_make_full w hg l c 30 hop w.heap.size 2 i (.int .i64 0) 1 und64s hi hz hs .i64 .i64 _ _ n hl hc rfl rfl (by rw [hb]; omega) (by unfold maxLen; omega) (Nat.le_refl _) ?_
  intro w' h1 h2
  refine hK _ w' ?_ (Ext.grown (Ext.refl _) h2 (fun k hk => by cases hk))
  have e : (madeCells (Value.cells (.int .i64 0)) (n * 1)).toList = (List.replicate n 0).map (Value.int .i64) := by
    show (madeCells #[.int .i64 0] (n * 1)).toList = _
    rw [toList_madeCells_one, Nat.mul_one, List.map_replicate]
  unfold Own
  rw [e] at h1
  simpa using h1

/-- 'make([]int64, 0, n)' -/
theorem make_ints0 {w : World} {ops : Array Oper} {rest : List Oper} {o : Oper} {a : Act} {Q : Exit → Act → World → Prop}
    (hg : o.guard = none) (l c : Operand) (hop : o.op = Op.makeSlice 30 l c) (n : Nat) (hl : a.eval l = .int .i64 0) (hc : a.eval c = .int .i64 (n : Int)) (hn : n ≤ 4194304)
    (hK : ∀ b w', Own w' w.heap.size b n [] → Ext w w' → wpList Try.prog ops Q rest (a.put o.dst (.slice b 0 n)) w') :
    wpList Try.prog ops Q (o :: rest) a w := by
  obtain ⟨i, hi, hz, hs, hb⟩ := info_parts info64
  refine wpList_make_own w hg l c 30 hop w.heap.size 2 i (.int .i64 0) 1 und64s hi hz hs .i64 .i64 _ n hl hc rfl (by rw [hb]; omega) (by unfold maxLen; omega) (Nat.le_refl _) ?_
  intro w' h1 h2
  exact hK _ w' h1 (Ext.grown (Ext.refl _) h2 (fun k hk => by cases hk))

/-- 'append(out, ys...)', out the call's own. -/
theorem append_ints {w : World} {ops : Array Oper} {rest : List Oper} {o : Oper} {a : Act} {Q : Exit → Act → World → Prop}
    (hgd : o.guard = none) (s x : Operand) (hop : o.op = .call { callee := .builtin .append, args := #[s, x], argTypes := #[30, 30] })
    {B c c2 : Nat} {b b2 : Option Addr} {xs ys : List Int} (hs : a.eval s = .slice b xs.length c) (hx : a.eval x = .slice b2 ys.length c2) (hn2 : b2 = none → c2 = 0)
    (ho : Own w B b c xs) (hr : Rd w b2 ys) (hlen : xs.length + ys.length ≤ 4194304) (hB : B ≤ w.heap.size)
    (hK : ∀ b' c' w' zs, zs = xs ++ ys → Own w' B b' c' zs → w.grownBy w' (b.map (·.block)) → (b' = none → b = none) → wpList Try.prog ops Q rest (a.put o.dst (.slice b' zs.length c')) w') :
    wpList Try.prog ops Q (o :: rest) a w := by
  obtain ⟨i, hi, hz, hsz, hby⟩ := info_parts info64
  have hob : (Value.slice b xs.length c).ownBlock = b.map (·.block) := by cases b <;> rfl
  cases b2 with
  | none =>
    have : ys = [] := by
      cases ys with
      | nil => rfl
      | cons y ys => exact absurd (hr 0 (by simp)).1 (by simp)
    subst this
    obtain rfl := hn2 rfl
    refine wpList_append_own_none hgd s x 30 hop B 2 i 1 und64s hi _ _ _ hs ho hx ?_
    exact hK b c w xs (by simp) ho (World.grownBy.refl _ _) id
  | some ad =>
    refine wpList_append_own w hgd s x 30 hop B 2 i (.int .i64 0) 1 8 und64s hi hz hsz hby rfl (by decide) _ _ _ hs ho ad ys.length c2 (ys.map (Value.int .i64)) hx (by simp) ?_ ?_ (by unfold maxLen; omega) (by omega) hB ?_
    · intro j u hu
      rw [List.getElem?_map] at hu
      have hj : j < ys.length := by
        rcases Nat.lt_or_ge j ys.length with h | h
        · exact h
        · rw [List.getElem?_eq_none h] at hu; cases hu
      rw [gi_some hj] at hu
      cases hu
      exact (hr j hj).2
    · exact ints_oneCell _ _
    · intro v' w' h1 h2 h3
      rw [hob] at h2
      have hv : ∃ b' c', v' = .slice b' (xs ++ ys).length c' ∧ (b' = none → b = none) := by
        rcases h1.2 with ⟨rfl, h0⟩ | ⟨g, cap, cur, rfl, _⟩
        · refine ⟨none, 0, ?_, fun _ => ?_⟩
          · rw [List.length_append, h0]
          · have := (h3.1 rfl).1
            cases b <;> simp_all
        · exact ⟨_, _, by rw [List.length_append], fun h => by cases h⟩
      obtain ⟨b', c', rfl, hb'⟩ := hv
      refine hK b' c' w' _ rfl ?_ h2 hb'
      unfold Own
      have e : (xs ++ ys).length = xs.length + ys.length := List.length_append
      rw [List.map_append]
      rw [← e] at h1
      exact h1

/-- 'append(out, x)', out the call's own; x lies in the new block that holds it. -/
theorem append_int {w : World} {ops : Array Oper} {rest : List Oper} {o : Oper} {a : Act} {Q : Exit → Act → World → Prop}
    (hgd : o.guard = none) (s x : Operand) (hop : o.op = .call { callee := .builtin .append, args := #[s, x], argTypes := #[30, 30] })
    {B c : Nat} {b : Option Addr} {xs : List Int} {y : Int} (w0 : World) (hs : a.eval s = .slice b xs.length c) (hx : a.eval x = .slice (some ⟨w.heap.size, 0, none⟩) 1 1)
    (ho : Own w B b c xs) (hlen : xs.length ≤ 4194303) (he : Ext w0 w) (hB : w0.heap.size ≤ B) (hB2 : B ≤ w.heap.size) {W : World} (hW : W = w.alloc (.cells #[.int .i64 y] 2))
    (hK : ∀ b' c' w' zs, zs = xs ++ [y] → Own w' B b' c' zs → Ext w0 w' → wpList Try.prog ops Q rest (a.put o.dst (.slice b' zs.length c')) w') :
    wpList Try.prog ops Q (o :: rest) a W := by
  subst hW
  have ho2 : Own (w.alloc (.cells #[.int .i64 y] 2)) B b c xs := ho.ext ((Ext.refl _).alloc _)
  have hx' : a.eval x = .slice (some ⟨w.heap.size, 0, none⟩) [y].length 1 := hx
  refine append_ints (B := B) (c := c) (c2 := 1) (b := b) (b2 := some ⟨w.heap.size, 0, none⟩) (xs := xs) (ys := [y]) hgd s x hop hs hx' (fun h => by cases h) ho2 ?_ (by simp; omega) (by simp; omega) ?_
  · intro k hk
    have hk0 : k = 0 := by simpa using hk
    subst hk0
    refine ⟨rfl, ?_⟩
    show (w.alloc _).cell? ⟨w.heap.size, 0, none⟩ = _
    rw [World.cell?_alloc_at _ _ _ _ rfl]; rfl
  · intro b' c' w' zs hzs h1 h2 _
    refine hK b' c' w' zs hzs h1 (Ext.grown (he.alloc _) h2 ?_)
    intro k hk
    cases b with
    | none => cases hk
    | some ad =>
      simp only [Option.map_some, Option.some.injEq] at hk
      have := (ho.lt (by simp)).1
      have e : blk (some ad) = k := hk
      omega
end Go.Proofs.Ytfilpikakdlgbaa
