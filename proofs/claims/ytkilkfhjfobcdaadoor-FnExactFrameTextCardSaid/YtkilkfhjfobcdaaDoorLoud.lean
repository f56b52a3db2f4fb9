/- Loud: the operations that make or write memory, calls, and regions that draw their order. No statement about the program is made here. -/
import Derived.Test.YtkilkfhjfobcdaaDoorHeap
import Derived.Maps.AppendAt
import Derived.Laws.Cover3
namespace Go.Proofs.YtkilkfhjfobcdaaDoor
open Go.RowKit

def evs (L : List (Nat × Value)) : List Operand → Option (List Value)
  | [] => some []
  | x :: r => match ev L x, evs L r with
    | some v, some vs => some (v :: vs)
    | _, _ => none
theorem E.evals {a : Act} {n : Nat} {L : List (Nat × Value)} (h : E a n L) : ∀ {xs : List Operand} {vs : List Value}, evs L xs = some vs → xs.map a.eval = vs
  | [], vs, hx => by simp [evs] at hx; subst hx; rfl
  | x :: r, vs, hx => by
    simp only [evs] at hx
    split at hx
    · rename_i v vs' h1 h2
      simp at hx
      subst hx
      rw [List.map_cons, h.eval h1, h.evals h2]
    · cases hx

theorem Ret.ext {Φ : Value → Prop} {P : Program} {f : FuncId} {args : Array Value} {w : World} (h : Calls P f args w (Ret fun v w' => Φ v ∧ w = w')) : Calls P f args w (Ret fun v w' => Φ v ∧ Ext w w') :=
  h.mono fun _ _ ⟨v, he, hv, hw⟩ => ⟨v, he, hv, hw ▸ Ext.refl w⟩
section
variable {P : Program} {ops : Array Oper} {Q : Exit → Act → World → Prop} {a : Act} {n : Nat} {L : List (Nat × Value)} {w w0 : World} {K : Act → World → Prop} {Γ : List Ent}
variable {ty : TypeId} {pos : String} {af : Array Edge} {gd : Option (Nat × Bool)} {d : Nat} {x y : Operand} {v : Value} {t : TypeId}

theorem l_call {f : FuncId} {args : List Operand} {ts : Array TypeId} {argv : List Value} {Φ : Value → World → Prop} (hE : E a n L) (hcf : ∀ w, (callFunc f argv.toArray).run P w = .ok (.enter f argv.toArray) w) (hargs : evs L args = some argv)
    (hn : Nat.blt d n = true) (hc : Calls P f argv.toArray w (Ret Φ)) (hK : ∀ v w', Φ v w' → ∀ a', E a' n ((d, v) :: L) → K a' w') : Oper.wp P ⟨some d, .call ⟨.value (.func f), args.toArray, ts⟩, ty, pos, af, gd⟩ a w K Q := by
  have h1 := hE.evals hargs
  unfold Oper.wp
  have hr : (execOp a.eval ⟨some d, .call ⟨.value (.func f), args.toArray, ts⟩, ty, pos, af, gd⟩).run P w = .ok (.enter f argv.toArray) w := by
    simp [execOp, resolve, Act.eval, Deferred.ofValue, invoke, h1, hcf]
  rw [hr]
  refine hc.mono ?_
  rintro e w' ⟨v, rfl, hΦ⟩
  exact hK v w' hΦ _ (hE.put v hn)
theorem l_callv {f : FuncId} {args : List Operand} {ts : Array TypeId} {argv : List Value} {caps : List Value} {Φ : Value → World → Prop} (hE : E a n L) (hx : ev L x = some (.func (.func f) #[] caps.toArray)) (hcf : ∀ w, (callFunc f (argv ++ caps).toArray).run P w = .ok (.enter f (argv ++ caps).toArray) w) (hargs : evs L args = some argv)
    (hn : Nat.blt d n = true) (hc : Calls P f (argv ++ caps).toArray w (Ret Φ)) (hK : ∀ v w', Φ v w' → ∀ a', E a' n ((d, v) :: L) → K a' w') : Oper.wp P ⟨some d, .call ⟨.value x, args.toArray, ts⟩, ty, pos, af, gd⟩ a w K Q := by
  have h1 := hE.evals hargs
  unfold Oper.wp
  have hr : (execOp a.eval ⟨some d, .call ⟨.value x, args.toArray, ts⟩, ty, pos, af, gd⟩).run P w = .ok (.enter f (argv ++ caps).toArray) w := by
    simp [execOp, resolve, hE.eval hx, Deferred.ofValue, invoke, h1]
    simpa using hcf w
  rw [hr]
  refine hc.mono ?_
  rintro e w' ⟨v, rfl, hΦ⟩
  exact hK v w' hΦ _ (hE.put v hn)
theorem y_makeFunc {S : World → Prop} {dst : Option Tmp} {fn : Fn} {caps : List Operand} {vs : List Value} (h : evs L caps = some vs) : Yld P S L ⟨dst, .makeFunc fn #[] caps.toArray, ty, pos, af, gd⟩ (.func fn #[] vs.toArray) := fun a n hE w _ => by
  simp [execOp, Instr.makeFunc, hE.evals h]
theorem y_eqnil {S : World → Prop} {dst : Option Tmp} {p : Addr} {m c : Nat} {e t2 : TypeId} (ht : P.underlying t = some (.slice e)) (hx : ev L x = some (.slice (some p) m c)) (hy : ev L y = some (.slice none 0 0)) : Yld P S L ⟨dst, .binOp .eql t x y t2, ty, pos, af, gd⟩ (.bool false) := fun a n hE w _ => by
  simp [execOp, hE.eval hx, hE.eval hy, eqGuard, binOp, run_equal_slice_nil w t e (some p) m c ht]
theorem y_eqnil0 {S : World → Prop} {dst : Option Tmp} {m c : Nat} {e t2 : TypeId} (ht : P.underlying t = some (.slice e)) (hx : ev L x = some (.slice none m c)) (hy : ev L y = some (.slice none 0 0)) : Yld P S L ⟨dst, .binOp .eql t x y t2, ty, pos, af, gd⟩ (.bool true) := fun a n hE w _ => by
  simp [execOp, hE.eval hx, hE.eval hy, eqGuard, binOp, run_equal_slice_nil w t e none m c ht]
theorem l_val {o : Oper} {w' : World} (hE : E a n L) (hd : o.dst = some d) (hn : Nat.blt d n = true) (hr : (execOp a.eval o).run P w = .ok (.value v) w') (hK : ∀ a', E a' n ((d, v) :: L) → K a' w') : o.wp P a w K Q := by
  unfold Oper.wp
  rw [hr]
  show K (a.put o.dst v) w'
  rw [hd]
  exact hK _ (hE.put v hn)
theorem l_unit {o : Oper} {w' : World} (hE : E a n L) (hd : o.dst = none) (hr : (execOp a.eval o).run P w = .ok .skip w') (hK : ∀ a', E a' n L → K a' w') : o.wp P a w K Q := by
  unfold Oper.wp
  rw [hr]
  show K (a.put o.dst undef) w'
  rw [hd]
  exact hK _ hE
theorem l_box {cs : Array Value} (hS : St w0 w Γ) (hE : E a n L) (hx : ev L x = some v) (hcs : v.cells = cs) (hn : Nat.blt d n = true)
    (hK : ∀ b w', St w0 w' (.blk b cs t :: Γ) → Ext w w' → ∀ a', E a' n ((d, .pointer (some ⟨b, 0, none⟩)) :: L) → K a' w') : Oper.wp P ⟨some d, .box t x, ty, pos, af, gd⟩ a w K Q :=
  l_val hE rfl hn (by simp [execOp, hE.eval hx, Instr.box, newVar, newRow, hcs]) (hK w.heap.size _ (hS.blk cs t) ((Ext.refl w).alloc _))
theorem l_alloc {cs : Array Value} {z : Value} (hS : St w0 w Γ) (hE : E a n L) (hz : ∀ w, (zeroValue t).run P w = .ok z w) (hcs : z.cells = cs) (hn : Nat.blt d n = true)
    (hK : ∀ b w', St w0 w' (.blk b cs t :: Γ) → Ext w w' → ∀ a', E a' n ((d, .pointer (some ⟨b, 0, none⟩)) :: L) → K a' w') : Oper.wp P ⟨some d, .alloc t, ty, pos, af, gd⟩ a w K Q :=
  l_val hE rfl hn (by simp [execOp, Instr.alloc, hz, newVar, newRow, hcs]) (hK w.heap.size _ (hS.blk cs t) ((Ext.refl w).alloc _))
theorem partsOf {parts : List (Nat × Operand)} {vs : List Value} (hE : E a n L) (h : evs L (parts.map (·.2)) = some vs) : parts.map (fun p => (p.1, a.eval p.2)) = (parts.map (·.1)).zip vs := by
  have := hE.evals h
  rw [← this, List.map_map, List.zip_map']
  rfl
theorem St.mkOwn {e s l : Nat} {xs : List Int} (hS : St w0 w Γ) (hl : xs.length = l * s) (hm : l ≤ maxLen) : St w0 (w.alloc (.cells (intV xs).toArray e)) (.own e s (some ⟨w.heap.size, 0, none⟩) l l xs :: Γ) :=
  hS.own ((Ext.refl w).alloc _) (OwnS.mk hl (Nat.le_refl _) (heap_alloc_at _ _) (Nat.le_refl _) hm (by simp [intV, hl]) (by rw [← hl, ← intV_len xs]; simp))
theorem l_lit {parts : List (Nat × Operand)} {vs : List Value} {l e s : Nat} {xs : List Int} (hS : St w0 w Γ) (hE : E a n L) (hp : evs L (parts.map (·.2)) = some vs)
    (hr : ∀ w : World, (Instr.buildSlice t l ((parts.map (·.1)).zip vs).toArray).run P w = .ok (.slice (some ⟨w.heap.size, 0, none⟩) l l) (w.alloc (.cells (intV xs).toArray e))) (hl : xs.length = l * s) (hm : Nat.ble l 1000 = true) (hn : Nat.blt d n = true)
    (hK : ∀ b w', St w0 w' (.own e s (some ⟨b, 0, none⟩) l l xs :: Γ) → Ext w w' → ∀ a', E a' n ((d, .slice (some ⟨b, 0, none⟩) l l) :: L) → K a' w') : Oper.wp P ⟨some d, .buildSlice t l parts.toArray, ty, pos, af, gd⟩ a w K Q := by
  refine l_val hE rfl hn (v := .slice (some ⟨w.heap.size, 0, none⟩) l l) (w' := w.alloc (.cells (intV xs).toArray e)) ?_ (hK w.heap.size _ (hS.mkOwn hl ?_) ((Ext.refl w).alloc _))
  · have h1 := partsOf hE hp
    simp only [execOp, List.map_toArray]
    rw [show (fun (p : Nat × Operand) => match p with | (i, x) => (i, a.eval x)) = fun p => (p.1, a.eval p.2) from rfl, h1]
    simp [hr]
  · have : l ≤ 1000 := by simpa using hm
    unfold maxLen; omega
theorem l_litB {parts : List (Nat × Operand)} {vs : List Value} {l e : Nat} {cs : Array Value} (hS : St w0 w Γ) (hE : E a n L) (hp : evs L (parts.map (·.2)) = some vs)
    (hr : ∀ w : World, (Instr.buildSlice t l ((parts.map (·.1)).zip vs).toArray).run P w = .ok (.slice (some ⟨w.heap.size, 0, none⟩) l l) (w.alloc (.cells cs e))) (hn : Nat.blt d n = true)
    (hK : ∀ b w', St w0 w' (.blk b cs e :: Γ) → Ext w w' → ∀ a', E a' n ((d, .slice (some ⟨b, 0, none⟩) l l) :: L) → K a' w') : Oper.wp P ⟨some d, .buildSlice t l parts.toArray, ty, pos, af, gd⟩ a w K Q := by
  refine l_val hE rfl hn (v := .slice (some ⟨w.heap.size, 0, none⟩) l l) (w' := w.alloc (.cells cs e)) ?_ (hK w.heap.size _ (hS.blk cs e) ((Ext.refl w).alloc _))
  have h1 := partsOf hE hp
  simp only [execOp, List.map_toArray]
  rw [show (fun (p : Nat × Operand) => match p with | (i, x) => (i, a.eval x)) = fun p => (p.1, a.eval p.2) from rfl, h1]
  simp [hr]
/-- 'make([]int64, m)' -/
theorem l_make {e : TypeId} {m : Int} (hS : St w0 w Γ) (hE : E a n L) (hi : (P.info? e).map (fun i => (i.zero, i.size, i.bytes)) = some (some (.int .i64 0), 1, 8)) (hu : P.underlying t = some (.slice e)) (hx : ev L x = some (.int .i64 m)) (hy : ev L y = some (.int .i64 m)) (h0 : 0 ≤ m) (h1 : m ≤ 4294967296) (hn : Nat.blt d n = true)
    (hK : ∀ b w', St w0 w' (.own e 1 b m.toNat m.toNat (List.replicate m.toNat 0) :: Γ) → Ext w w' → ∀ a', E a' n ((d, .slice b m.toNat m.toNat) :: L) → K a' w') : Oper.wp P ⟨some d, .makeSlice t x y, ty, pos, af, gd⟩ a w K Q := by
  obtain ⟨i, hi, hz, hs, hb⟩ := info_parts hi
  have hr := run_make (P := P) w t e i (.int .i64 0) hu hi hz .i64 .i64 m m h0 (Int.le_refl _) (by rw [hb]; omega) (by omega)
  rw [hs, Nat.mul_one] at hr
  have hc : madeCells (Value.int .i64 0).cells m.toNat = (intV (List.replicate m.toNat 0)).toArray := by
    apply Array.toList_inj.1
    show (madeCells #[.int .i64 0] m.toNat).toList = _
    rw [toList_madeCells_one]; simp [intV]
  rw [hc] at hr
  refine l_val hE rfl hn ?_ (hK (some ⟨w.heap.size, 0, none⟩) _ (hS.mkOwn (by simp) (by unfold maxLen; omega)) ((Ext.refl w).alloc _))
  simp [execOp, hE.eval hx, hE.eval hy, hr]
/-- 'make([]T, 0, m)': an empty slice with room. -/
theorem l_make0 {e : TypeId} {i : TypeInfo} {z : Value} {s : Nat} {m : Int} (hS : St w0 w Γ) (hE : E a n L) (hi : P.info? e = some i) (hz : i.zero = some z) (hs : i.size = s) (hb : i.bytes ≤ 64) (hu : P.underlying t = some (.slice e)) (hx : ev L x = some (.int .i64 0)) (hy : ev L y = some (.int .i64 m)) (h0 : 0 ≤ m) (h1 : m ≤ 4294967296) (hn : Nat.blt d n = true)
    (hK : ∀ b w', St w0 w' (.own e s b 0 m.toNat [] :: Γ) → Ext w w' → ∀ a', E a' n ((d, .slice b 0 m.toNat) :: L) → K a' w') : Oper.wp P ⟨some d, .makeSlice t x y, ty, pos, af, gd⟩ a w K Q := by
  have h2 : (i.bytes : Int) * m ≤ 64 * m := Int.mul_le_mul_of_nonneg_right (by omega) h0
  have hr := run_make (P := P) w t e i z hu hi hz .i64 .i64 0 m (Int.le_refl _) h0 (by omega) (by omega)
  refine l_val hE rfl hn (v := .slice (some ⟨w.heap.size, 0, none⟩) 0 m.toNat) ?_ (hK (some ⟨w.heap.size, 0, none⟩) _ (hS.own ((Ext.refl w).alloc _) (OwnS.mk (cur := madeCells z.cells (m.toNat * i.size)) (by simp) (Nat.le_refl _) (heap_alloc_at _ _) (Nat.zero_le _) (by unfold maxLen; omega) ?_ (by simp [intV]))) ((Ext.refl w).alloc _))
  · rw [show (0 : Int).toNat = 0 from rfl] at hr
    simp [execOp, hE.eval hx, hE.eval hy, hr]
  · simp [madeCells, hs]
/-- 'append(out, ys...)', out the call's own. -/
theorem l_append {e : TypeId} {i : TypeInfo} {z : Value} {s n2 c2 k n' c : Nat} {b b2 : Option Addr} {xs ys : List Int} {n1 : Nat} (hS : St w0 w Γ) (hE : E a n L) (hu : P.underlying t = some (.slice e)) (hi : P.info? e = some i) (hz : i.zero = some z) (hsz : i.size = s) (hzs : z.cells.size = s) (h0 : 0 < s) (hby : i.bytes ≤ 64)
    (hx : ev L x = some (.slice b n1 c)) (hy : ev L y = some (.slice b2 n2 c2)) (hk : Γ[k]? = some (.own e s b n1 c xs)) (hr : RdS w s b2 n2 c2 ys) (hlen : n1 + n2 ≤ 1099511627776) (hn' : n1 + n2 = n') (hn : Nat.blt d n = true)
    (hK : ∀ b' c' w', St w0 w' (Γ.set k (.own e s b' n' c' (xs ++ ys))) → ∀ a', E a' n ((d, .slice b' n' c') :: L) → K a' w') : Oper.wp P ⟨some d, .call ⟨.builtin .append, #[x, y], #[t, t]⟩, ty, pos, af, gd⟩ a w K Q := by
  have ho : OwnS w w0.heap.size e s b n1 c xs := hS.ok k _ hk
  cases b2 with
  | none =>
    obtain ⟨rfl, rfl⟩ := hr.2.2.2.1 rfl
    have hys : ys = [] := by have := hr.1; simp at this; exact this
    subst hys
    have hrun := run_append_owned_none (P := P) (w := w) w0.heap.size t ty e i s hu hi _ n1 _ ho
    refine l_val hE rfl hn (v := .slice b n1 c) (w' := w) (by simp [execOp, resolve, invoke, builtin, hE.eval hx, hE.eval hy, hrun]) ?_
    subst hn'
    refine hK b c w ?_
    have : Γ.set k (.own e s b (n1 + 0) c (xs ++ [])) = Γ := by
      rw [List.append_nil, Nat.add_zero]
      apply List.ext_getElem?; intro j
      rw [List.getElem?_set]
      split
      · rename_i e; subst e
        split
        · exact hk.symm
        · rename_i h; rw [List.getElem?_eq_none (by omega)]
      · rfl
    rw [this]; exact hS
  | some p =>
    have hnews : ∀ (j : Nat) u, (intV ys)[j]? = some u → w.cell? (p.add j) = some u := by
      intro j u hju
      have hj : j < ys.length := by
        rcases Nat.lt_or_ge j ys.length with h | h
        · exact h
        · rw [List.getElem?_eq_none (by rw [intV_len]; exact h)] at hju; cases hju
      rw [intV_get hj] at hju
      cases hju
      exact hr.2.2.2.2 j hj
    obtain ⟨v', w', hrun, h1, h2, _, h3⟩ := run_append_own_at (P := P) w w0.heap.size t ty e i z s i.bytes hu hi hz hsz rfl hzs h0 (.slice b n1 c) n1 (intV xs) ho p n2 c2 (intV ys) (by rw [intV_len]; exact hr.1) hnews (ints_oneCell _ _) (by unfold maxLen; omega) (Nat.le_trans (Nat.mul_le_mul hlen hby) (by decide)) hS.ext.size
    have hv : ∃ b' c', v' = .slice b' (n1 + n2) c' := by
      rcases h1.2 with ⟨rfl, h0⟩ | ⟨g, cap, cur, rfl, _⟩
      · exact ⟨none, 0, by rw [h0]⟩
      · exact ⟨_, _, rfl⟩
    obtain ⟨b', c', rfl⟩ := hv
    have hob : ∀ (b : Option Addr) (n1 c k : Nat), (Value.slice b n1 c).ownBlock = some k ↔ b.map (·.block) = some k := by intro b n1 c k; cases b <;> simp [Value.ownBlock]
    subst hn'
    have hnew : OwnS w' w0.heap.size e s b' (n1 + n2) c' (xs ++ ys) := by
      unfold OwnS intV; rw [List.map_append]; exact h1
    refine l_val hE rfl hn (v := .slice b' (n1 + n2) c') (w' := w') (by simp [execOp, resolve, invoke, builtin, hE.eval hx, hE.eval hy, hrun]) (hK b' c' w' (hS.set hk rfl ?_ ?_ hnew ?_))
    · refine Below.grown hS.ext h2 hS.ext.size ?_
      intro g hg
      exact (OwnS.lt ho ((hob _ _ _ g).1 hg)).1
    · intro g hg hno
      exact h2.block g hg (fun h => hno ((hob _ _ _ g).1 h.symm))
    · intro g hg
      have hg' := (hob _ (n1 + n2) c' g).2 hg
      rcases h3 with h3 | h3
      · exact .inl ((hob _ n1 c g).1 (h3.symm.trans hg'))
      · rw [h3] at hg'; cases hg'; exact .inr (Nat.le_refl _)
theorem run_store1 {p : Addr} {u : Value} (hz : ∀ w, (sizeOf t).run P w = .ok 1 w) (h1 : v.oneCell' = true) (hv : v.cells = #[v]) (hc : w.cell? p = some u) (hf : w.frozen? p = false) : (Instr.storeAt t (.pointer (some p)) v).run P w = .ok () (w.setCell p v) := by
  simp [Instr.storeAt, Instr.sureAddr, storeVar, hv, hz, storeCells, Addr.add, run_store P w p v _ h1, hc, hf]
theorem l_store {k n1 c : Nat} {e : TypeId} {b : Option Addr} {xs : List Int} {m z : Int} (hS : St w0 w Γ) (hE : E a n L) (hz : ∀ w, (sizeOf t).run P w = .ok 1 w) (hx : ev L x = some (.pointer (some (adr b m.toNat)))) (hy : ev L y = some (.int .i64 z)) (hk : Γ[k]? = some (.own e 1 b n1 c xs)) (h0 : 0 ≤ m) (h1 : m < n1)
    (hK : ∀ w', St w0 w' (Γ.set k (.own e 1 b n1 c (sI xs m z))) → ∀ a', E a' n L → K a' w') : Oper.wp P ⟨none, .store t x y, ty, pos, af, gd⟩ a w K Q := by
  obtain ⟨hf, hc⟩ := hS.cellOk hk h0 h1
  refine l_unit hE rfl (w' := w.setCell (adr b m.toNat) (.int .i64 z)) ?_ (hK _ (hS.store hk h0 h1 z))
  simp [execOp, hE.eval hx, hE.eval hy, run_store1 (v := .int .i64 z) hz rfl rfl hc hf]
theorem St.setB {k b j : Nat} {cs cs' : Array Value} {t' : TypeId} (hS : St w0 w Γ) (hk : Γ[k]? = some (.blk b cs t')) (hcs : cs.setIfInBounds j v = cs') : St w0 (w.setCell ⟨b, j, none⟩ v) (Γ.set k (.blk b cs' t')) := by
  have ho : Ent.ok w0.heap.size w (.blk b cs t') := hS.ok k _ hk
  have h2 : w.heap[b]? = some (.cells cs t' (0, 0)) := ho.2
  subst hcs
  refine hS.set hk rfl ?_ ?_ (e' := .blk b (cs.setIfInBounds j v) t') ⟨ho.1, by simp [World.setCell, Array.getElem?_modify, h2]⟩ (fun g hg => .inl hg)
  · exact Below.setCell hS.ext ho.1 _
  · intro g _ hg
    exact setCell_block fun e => hg e.symm
theorem l_storeB {k b j : Nat} {cs cs' : Array Value} {t' : TypeId} {u : Value} (hS : St w0 w Γ) (hE : E a n L) (hz : ∀ w, (sizeOf t).run P w = .ok 1 w) (hx : ev L x = some (.pointer (some ⟨b, j, none⟩))) (hy : ev L y = some v) (h1 : v.oneCell' = true) (hv : v.cells = #[v]) (hk : Γ[k]? = some (.blk b cs t')) (hj : cs[j]? = some u) (hcs : cs.setIfInBounds j v = cs')
    (hK : ∀ w', St w0 w' (Γ.set k (.blk b cs' t')) → ∀ a', E a' n L → K a' w') : Oper.wp P ⟨none, .store t x y, ty, pos, af, gd⟩ a w K Q := by
  have hc := hS.cell hk hj w (Ext.refl w)
  have hf : w.frozen? ⟨b, j, none⟩ = false := by have := hS.row hk w (Ext.refl w); simp [World.frozen?, this]
  refine l_unit hE rfl (w' := w.setCell ⟨b, j, none⟩ v) ?_ (hK _ (hS.setB hk hcs))
  simp [execOp, hE.eval hx, hE.eval hy, run_store1 hz h1 hv hc hf]
theorem l_storeS {k b : Nat} {cs cs' : Array Value} {t' : TypeId} (hS : St w0 w Γ) (hE : E a n L) (hi : (P.info? t).map (·.size) = some cs'.size) (hx : ev L x = some (.pointer (some ⟨b, 0, none⟩))) (hy : ev L y = some (.agg cs')) (h1 : cs'.all (·.oneCell') = true) (hk : Γ[k]? = some (.blk b cs t')) (hcs : cs.size = cs'.size)
    (hK : ∀ w', St w0 w' (Γ.set k (.blk b cs' t')) → ∀ a', E a' n L → K a' w') : Oper.wp P ⟨none, .store t x y, ty, pos, af, gd⟩ a w K Q := by
  have hrow := hS.row hk w (Ext.refl w)
  have hr := run_storeVar_row (P := P) w b t' t cs cs' hrow hi hcs h1
  have ho : Ent.ok w0.heap.size w (.blk b cs t') := hS.ok k _ hk
  refine l_unit hE rfl (w' := w.setRow b cs') (by simp [execOp, hE.eval hx, hE.eval hy, Instr.storeAt, Instr.sureAddr, hr]) (hK _ ?_)
  refine hS.set hk rfl ?_ ?_ (e' := .blk b cs' t') ⟨ho.1, setRow_heap w b cs cs' t' (0, 0) hrow⟩ (fun g hg => .inl hg)
  · have h0 := hS.ext
    refine ⟨h0.os, h0.tape, h0.output, by rw [setRow_size]; exact h0.size, fun g hg => ?_⟩
    rw [setRow_other w b g cs' (by have h3 : w0.heap.size ≤ b := ho.1; omega)]
    exact h0.block hg
  · intro g _ hg
    exact setRow_other w b g cs' fun e => hg e.symm
end

/-! regions that draw their order -/
section
variable {P : Program} {ops : Array Oper} {Q : Exit → Act → World → Prop} {R : World → World → Prop} {lo : List Nat}
/-- Does operation j wait for operation i, directly or through others? -/
def dep (ops : Array Oper) : Nat → Nat → Nat → Bool
  | 0, _, _ => false
  | k + 1, j, i => match ops[j]? with
    | some o => o.after.any fun e => Region.binds .any e && (Nat.beq e.on i || dep ops k e.on i)
    | none => false
/-- Does operation j wait for all of these? -/
def exm (lo : List Nat) (ops : Array Oper) (j : Nat) : Bool := lo.all fun i => dep ops 6 j i
/-- What is listed has all that it waits for listed. -/
def Cl (ops : Array Oper) (listed : Array Bool) : Prop := ∀ j oj, ops[j]? = some oj → listed.getD j false = true → ∀ e ∈ oj.after, Region.binds .any e = true → listed.getD e.on false = true
def clB (ops : Array Oper) (listed : Array Bool) : Bool := (List.range ops.size).all fun j => match ops[j]? with
  | some o => !listed.getD j false || o.after.all fun e => !Region.binds .any e || listed.getD e.on false
  | none => true
theorem clB_spec {ops : Array Oper} {listed : Array Bool} (h : clB ops listed = true) : Cl ops listed := by
  intro j oj hj hl e he hb
  have hjs : j < ops.size := by
    rcases Nat.lt_or_ge j ops.size with h | h
    · exact h
    · rw [Array.getElem?_eq_none h] at hj; cases hj
  have h1 := List.all_eq_true.1 h j (List.mem_range.2 hjs)
  simp only [hj, hl, Bool.not_true, Bool.false_or] at h1
  rw [Array.all_eq_true'] at h1
  have h2 := h1 e he
  rw [hb, Bool.not_true, Bool.false_or] at h2
  exact h2
theorem Cl.set {ops : Array Oper} {listed : Array Bool} (h : Cl ops listed) {j : Nat} (hj : j ∈ Region.ready .any ops listed) : Cl ops (listed.setIfInBounds j true) := by
  obtain ⟨_, oj, hoj, hall⟩ := mem_ready.1 hj
  have up : ∀ k, listed.getD k false = true → (listed.setIfInBounds j true).getD k false = true := fun k hk => by
    rw [Array.getD_eq_getD_getElem?] at hk ⊢
    rw [Array.getElem?_setIfInBounds]
    by_cases e : j = k
    · subst e
      rcases Nat.lt_or_ge j listed.size with h' | h'
      · simp [h']
      · simp [Array.getElem?_eq_none h'] at hk
    · simp [e]; exact hk
  intro k ok hok hk e he hb
  refine up _ ?_
  by_cases hkj : j = k
  · subst hkj
    rw [hoj] at hok; cases hok
    exact hall e he hb
  · have : listed.getD k false = true := by
      rw [Array.getD_eq_getD_getElem?] at hk ⊢
      rw [Array.getElem?_setIfInBounds] at hk
      simpa [hkj] using hk
    exact h k ok hok this e he hb
theorem dep_listed {ops : Array Oper} {listed : Array Bool} (h : Cl ops listed) {i : Nat} : ∀ (k j : Nat) (oj : Oper), ops[j]? = some oj → (∀ e ∈ oj.after, Region.binds .any e = true → listed.getD e.on false = true) → dep ops k j i = true → listed.getD i false = true
  | 0, _, _, _, _, hd => by cases hd
  | k + 1, j, oj, hoj, hall, hd => by
    simp only [dep, hoj] at hd
    rw [Array.any_eq_true'] at hd
    obtain ⟨e, he, hb⟩ := hd
    rw [Bool.and_eq_true, Bool.or_eq_true] at hb
    have h1 := hall e he hb.1
    rcases hb.2 with h2 | h2
    · rw [Nat.eq_of_beq_eq_true h2] at h1; exact h1
    · cases hoe : ops[e.on]? with
      | none =>
        cases k with
        | zero => cases h2
        | succ k => simp only [dep, hoe] at h2; cases h2
      | some oe => exact dep_listed h k e.on oe hoe (h e.on oe hoe h1) h2
/-- Whatever order is picked from here on; R holds over every operation that does not wait for all of 'lo'. -/
def wpX (P : Program) (ops : Array Oper) (Q : Exit → Act → World → Prop) (R : World → World → Prop) (lo : List Nat) : Nat → Array Bool → Act → World → Prop
  | 0, listed, a, w => Region.ready .any ops listed = [] ∧ Q .normal a w
  | fuel + 1, listed, a, w => (Region.ready .any ops listed = [] → Q .normal a w) ∧
    ∀ i ∈ Region.ready .any ops listed, wpOp P ops Q i (fun a' w' => (exm lo ops i = false → R w w') ∧ wpX P ops Q R lo fuel (listed.setIfInBounds i true) a' w') a w
theorem wpX_any : ∀ (fuel : Nat) (listed : Array Bool) (a : Act) (w : World), wpX P ops Q R lo fuel listed a w → wpAny P .any ops Q fuel listed a w
  | 0, _, _, _, h => h
  | fuel + 1, _, _, _, h => ⟨h.1, fun i hi => wpOp_mono (fun a' w' h' => wpX_any fuel _ a' w' h'.2) (h.2 i hi)⟩
theorem exm_not {i j : Nat} {listed : Array Bool} (hc : Cl ops listed) (hi : i ∈ lo) (hl : listed.getD i true = false) (hj : j ∈ Region.ready .any ops listed) : exm lo ops j = false := by
  obtain ⟨_, oj, hoj, hall⟩ := mem_ready.1 hj
  cases he : exm lo ops j
  · rfl
  · unfold exm at he
    have h1 := dep_listed hc 6 j oj hoj hall (List.all_eq_true.1 he i hi)
    rcases Nat.lt_or_ge i listed.size with h' | h'
    · simp [h'] at hl h1; rw [hl] at h1; cases h1
    · simp [Array.getElem?_eq_none h'] at h1
theorem wpX_first {S : World → Prop} (hR : ∀ w, R w w) (hRS : ∀ w w', R w w' → S w → S w') {i : Nat} {oi : Oper} {v : Value} (hi : ops[i]? = some oi) (hlo : i ∈ lo) (hsel : ∀ (j : Nat) (o : Oper) cs b, ops[j]? = some o → o.op ≠ .select cs b)
    (hQ : ∀ c a w, Q (.panic c) (a.put oi.dst v) w → Q (.panic c) a w) : ∀ (fuel : Nat) (listed : Array Bool) (a : Act) (w : World),
      (∀ j oj, ops[j]? = some oj → j ≠ i → listed.getD j true = false → (∀ e ∈ oj.after, Region.binds .any e = true → e.on ≠ i) → oi.apart ops oj = true) →
      Cl ops listed → i ∈ Region.ready .any ops listed → YieldsIf P ops S oi v a → S w →
      wpX P ops Q R lo fuel (listed.setIfInBounds i true) (a.put oi.dst v) w → wpX P ops Q R lo (fuel + 1) listed a w := by
  intro fuel
  induction fuel with
  | zero =>
    intro listed a w _ hc hr hy hT H
    refine ⟨fun h => (by rw [h] at hr; cases hr), fun j hj => ?_⟩
    by_cases hji : j = i
    · subst hji; exact hy.wpOp hi hT ⟨fun _ => hR _, H⟩
    · have := ready_mono hj hji
      rw [H.1] at this
      cases this
  | succ fuel ih =>
    intro listed a w hfree hc hr hy hT H
    refine ⟨fun h => (by rw [h] at hr; cases hr), fun j hj => ?_⟩
    by_cases hji : j = i
    · subst hji; exact hy.wpOp hi hT ⟨fun _ => hR _, H⟩
    · have h1 := H.2 j (ready_mono hj hji)
      obtain ⟨hjun, oj, hoj, hall⟩ := mem_ready.1 hj
      have hil : listed.getD i true = false := (mem_ready.1 hr).1
      have hnot : ∀ e ∈ oj.after, Region.binds .any e = true → e.on ≠ i := fun e he hb heq => by
        have h1 := hall e he hb
        rw [heq] at h1
        rcases Nat.lt_or_ge i listed.size with h' | h'
        · simp [h'] at hil h1; rw [hil] at h1; cases h1
        · simp [Array.getElem?_eq_none h'] at h1
      have h2 := wpOp_putIf hoj (hfree j oj hoj hji hjun hnot) (fun cs b => hsel i oi cs b hi) (fun cs b => hsel j oj cs b hoj) hQ hy h1
      have hfree' : ∀ k ok, ops[k]? = some ok → k ≠ i → (listed.setIfInBounds j true).getD k true = false →
          (∀ e ∈ ok.after, Region.binds .any e = true → e.on ≠ i) → oi.apart ops ok = true := fun k ok hk hki hun hno => by
        refine hfree k ok hk hki ?_ hno
        by_cases hjk : j = k
        · subst hjk; exact hjun
        · rw [getD_set_ne true hjk] at hun; exact hun
      have hex := exm_not hc hlo hil hj
      refine wpOp_mono (fun a' w' h3 => ⟨h3.2.1, ih (listed.setIfInBounds j true) a' w' hfree' (hc.set hj) (ready_mono hr (Ne.symm hji)) h3.1 (hRS _ _ (h3.2.1 hex) hT) ?_⟩) h2
      rw [Array.setIfInBounds_comm _ _ hji]
      exact h3.2.2
variable {a : Act} {n : Nat} {L : List (Nat × Value)} {w : World} {fuel : Nat} {listed : Array Bool}
/-- The beginning. -/
theorem d_start {id : Nat} {l : List Oper} (R : World → World → Prop) (lo : List Nat) (k : Nat) (hm : P.follows .mixedOrders = true) (hk : l.length = k)
    (h : ∀ w', Ext w w' → wpX P l.toArray Q R lo k (Array.replicate k false) a w') : (Code.region id l.toArray true).wp P Q a w := by
  refine wp_region_any hm (wpX_any _ _ _ _ (R := R) (lo := lo) ?_)
  have : l.toArray.size = k := by simpa using hk
  rw [this]; exact h w.drew (Ext.refl w).drew
theorem wpX_firstP (hR : ∀ w, R w w) {i : Nat} {oi : Oper} {v : Value} (hi : ops[i]? = some oi) (hsel : ∀ (j : Nat) (o : Oper) cs b, ops[j]? = some o → o.op ≠ .select cs b)
    (hQ : ∀ c a w, Q (.panic c) (a.put oi.dst v) w → Q (.panic c) a w) : ∀ (fuel : Nat) (listed : Array Bool) (a : Act) (w : World),
      (∀ j oj, ops[j]? = some oj → j ≠ i → listed.getD j true = false → (∀ e ∈ oj.after, Region.binds .any e = true → e.on ≠ i) → oi.apart ops oj = true) →
      i ∈ Region.ready .any ops listed → YieldsIf P ops (fun _ => True) oi v a →
      wpX P ops Q R lo fuel (listed.setIfInBounds i true) (a.put oi.dst v) w → wpX P ops Q R lo (fuel + 1) listed a w := by
  intro fuel
  induction fuel with
  | zero =>
    intro listed a w _ hr hy H
    refine ⟨fun h => (by rw [h] at hr; cases hr), fun j hj => ?_⟩
    by_cases hji : j = i
    · subst hji; exact hy.wpOp hi trivial ⟨fun _ => hR _, H⟩
    · have := ready_mono hj hji
      rw [H.1] at this
      cases this
  | succ fuel ih =>
    intro listed a w hfree hr hy H
    refine ⟨fun h => (by rw [h] at hr; cases hr), fun j hj => ?_⟩
    by_cases hji : j = i
    · subst hji; exact hy.wpOp hi trivial ⟨fun _ => hR _, H⟩
    · have h1 := H.2 j (ready_mono hj hji)
      obtain ⟨hjun, oj, hoj, hall⟩ := mem_ready.1 hj
      have hil : listed.getD i true = false := (mem_ready.1 hr).1
      have hnot : ∀ e ∈ oj.after, Region.binds .any e = true → e.on ≠ i := fun e he hb heq => by
        have h1 := hall e he hb
        rw [heq] at h1
        rcases Nat.lt_or_ge i listed.size with h' | h'
        · simp [h'] at hil h1; rw [hil] at h1; cases h1
        · simp [Array.getElem?_eq_none h'] at h1
      have h2 := wpOp_putIf hoj (hfree j oj hoj hji hjun hnot) (fun cs b => hsel i oi cs b hi) (fun cs b => hsel j oj cs b hoj) hQ hy h1
      have hfree' : ∀ k ok, ops[k]? = some ok → k ≠ i → (listed.setIfInBounds j true).getD k true = false →
          (∀ e ∈ ok.after, Region.binds .any e = true → e.on ≠ i) → oi.apart ops ok = true := fun k ok hk hki hun hno => by
        refine hfree k ok hk hki ?_ hno
        by_cases hjk : j = k
        · subst hjk; exact hjun
        · rw [getD_set_ne true hjk] at hun; exact hun
      refine wpOp_mono (fun a' w' h3 => ⟨h3.2.1, ih (listed.setIfInBounds j true) a' w' hfree' (ready_mono hr (Ne.symm hji)) h3.1 ?_⟩) h2
      rw [Array.setIfInBounds_comm _ _ hji]
      exact h3.2.2
/-- A quiet operation is taken first. -/
theorem d_take {S : World → Prop} (hR : ∀ w, R w w) (hRS : ∀ w w', R w w' → S w → S w') {v : Value} {d : Nat} (i : Nat) {oi : Oper} (hi : ops[i]? = some oi) (hE : E a n L) (hT : S w) (hy : Yld P S L oi v) (hg : want L ops oi = some true) (hlo : lo.contains i = true) (hcl : clB ops listed = true) (hs : Region.noSelect ops = true) (hf : Region.free .any ops listed i = true) (hr : (Region.ready .any ops listed).contains i = true)
    (hd : oi.dst = some d) (hn : Nat.blt d n = true) (hQ : ∀ c a w, Q (.panic c) (a.put (some d) v) w → Q (.panic c) a w)
    (h : ∀ a', E a' n ((d, v) :: L) → wpX P ops Q R lo fuel (listed.setIfInBounds i true) a' w) : wpX P ops Q R lo (fuel + 1) listed a w :=
  wpX_first hR hRS hi (by simpa using hlo) (Region.noSelect_spec hs) (by rw [hd]; exact hQ) fuel listed a w (Region.free_spec hi hf) (clB_spec hcl) (by simpa using hr) (.inl ⟨want_spec hE hg, hy a n hE⟩) hT (by rw [hd]; exact h _ (hE.put v hn))
/-- A quiet operation that looks at no memory is taken first. -/
theorem d_pure (hR : ∀ w, R w w) {v : Value} {d : Nat} (i : Nat) {oi : Oper} (hi : ops[i]? = some oi) (hE : E a n L) (hy : Yld P (fun _ => True) L oi v) (hg : want L ops oi = some true) (hs : Region.noSelect ops = true) (hf : Region.free .any ops listed i = true) (hr : (Region.ready .any ops listed).contains i = true)
    (hd : oi.dst = some d) (hn : Nat.blt d n = true) (hQ : ∀ c a w, Q (.panic c) (a.put (some d) v) w → Q (.panic c) a w)
    (h : ∀ a', E a' n ((d, v) :: L) → wpX P ops Q R lo fuel (listed.setIfInBounds i true) a' w) : wpX P ops Q R lo (fuel + 1) listed a w :=
  wpX_firstP hR hi (Region.noSelect_spec hs) (by rw [hd]; exact hQ) fuel listed a w (Region.free_spec hi hf) (by simpa using hr) (.inl ⟨want_spec hE hg, hy a n hE⟩) (by rw [hd]; exact h _ (hE.put v hn))
/-- An operation that is not wanted is taken first. -/
theorem d_skip (hR : ∀ w, R w w) {d : Nat} (i : Nat) {oi : Oper} (hi : ops[i]? = some oi) (hE : E a n L) (hg : want L ops oi = some false) (hs : Region.noSelect ops = true) (hf : Region.free .any ops listed i = true) (hr : (Region.ready .any ops listed).contains i = true)
    (hd : oi.dst = some d) (hn : Nat.blt d n = true) (hQ : ∀ c a w, Q (.panic c) (a.put (some d) undef) w → Q (.panic c) a w)
    (h : ∀ a', E a' n ((d, undef) :: L) → wpX P ops Q R lo fuel (listed.setIfInBounds i true) a' w) : wpX P ops Q R lo (fuel + 1) listed a w :=
  wpX_firstP hR (v := undef) hi (Region.noSelect_spec hs) (by rw [hd]; exact hQ) fuel listed a w (Region.free_spec hi hf) (by simpa using hr) (.inr ⟨want_spec hE hg, rfl⟩) (by rw [hd]; exact h _ (hE.put undef hn))
/-- The only operation that may come up now. -/
theorem d_only (i : Nat) {oi : Oper} (hr : Region.ready .any ops listed = [i]) (hi : ops[i]? = some oi) (hE : E a n L) (hg : want L ops oi = some true)
    (h : oi.wp P a w (fun a' w' => (exm lo ops i = false → R w w') ∧ wpX P ops Q R lo fuel (listed.setIfInBounds i true) a' w') Q) : wpX P ops Q R lo (fuel + 1) listed a w := by
  refine ⟨fun h0 => (by rw [hr] at h0; cases h0), fun j hj => ?_⟩
  rw [hr] at hj
  simp at hj
  subst hj
  unfold wpOp
  rw [hi]
  show (if _ then _ else _)
  rw [if_pos (want_spec hE hg)]
  exact .inl h
/-- One of two operations comes up. -/
theorem d_two (i j : Nat) {oi oj : Oper} (hr : Region.ready .any ops listed = [i, j]) (hi : ops[i]? = some oi) (hj : ops[j]? = some oj) (hE : E a n L) (hgi : want L ops oi = some true) (hgj : want L ops oj = some true)
    (h1 : oi.wp P a w (fun a' w' => (exm lo ops i = false → R w w') ∧ wpX P ops Q R lo fuel (listed.setIfInBounds i true) a' w') Q)
    (h2 : oj.wp P a w (fun a' w' => (exm lo ops j = false → R w w') ∧ wpX P ops Q R lo fuel (listed.setIfInBounds j true) a' w') Q) : wpX P ops Q R lo (fuel + 1) listed a w := by
  refine ⟨fun h0 => (by rw [hr] at h0; cases h0), fun k hk => ?_⟩
  rw [hr] at hk
  simp at hk
  unfold wpOp
  rcases hk with rfl | rfl
  · rw [hi]
    show (if _ then _ else _)
    rw [if_pos (want_spec hE hgi)]
    exact .inl h1
  · rw [hj]
    show (if _ then _ else _)
    rw [if_pos (want_spec hE hgj)]
    exact .inl h2
theorem p_tn {K : Act → World → Prop} (h : K a w) : Exit.then K Q .normal a w := h
theorem p_te {K : Act → World → Prop} {i : Nat} (h : Q (.exit i) a w) : Exit.then K Q (.exit i) a w := h
theorem p_tr {K : Act → World → Prop} (h : Q .ret a w) : Exit.then K Q .ret a w := h
theorem p_bn {i : Nat} (h : Q .normal a w) : Exit.inBlock i Q .normal a w := h
theorem p_be {i : Nat} (h : Q .normal a w) : Exit.inBlock i Q (.exit i) a w := by simp [Exit.inBlock]; exact h
theorem p_bo {i j : Nat} (hne : j ≠ i) (h : Q (.exit j) a w) : Exit.inBlock i Q (.exit j) a w := by simp [Exit.inBlock, hne]; exact h
theorem p_br {i : Nat} (h : Q .ret a w) : Exit.inBlock i Q .ret a w := h
theorem c_reg {id : Nat} {l : List Oper} (h : wpList P l.toArray Q l a w) : (Code.region id l.toArray false).wp P Q a w := wp_region_lit h
theorem c_seq {x y : Code} (h : x.wp P (Exit.then (fun a' w' => y.wp P Q a' w') Q) a w) : (Code.seq x y).wp P Q a w := wp_seq h
/-- Results in memory. -/
theorem c_retC {fn : Func} {Φ : Value → World → Prop} {t : Nat} {ty t' : TypeId} {b : Nat} {cs : Array Value} {ds : TypeDesc} (hE : E a n L) (hr : fn.results = #[.cell t ty]) (hv : lk L t = some (.pointer (some ⟨b, 0, none⟩))) (hu : P.underlying ty = some ds) (hd : (match ds with | .struct _ | .array _ _ => true | _ => false) = true) (hi : (P.info? ty).map (·.size) = some cs.size)
    (hc : w.heap[b]? = some (.cells cs t' (0, 0))) (h : Φ (.agg cs) w) : bodyPost P fn (Ret Φ) .ret a w := by
  refine bodyPost_ret (v := .agg cs) ?_ hE.defers ⟨_, rfl, h⟩
  have h1 := hE.get t _ hv
  simp [results, hr, Array.getD_eq_getD_getElem?, h1, asAddr, run_loadVar_row w b t' ty cs (0, 0) ds hc hu hd hi]
theorem c_retC2 {fn : Func} {Φ : Value → World → Prop} {t u : Nat} {ty t' : TypeId} {b : Nat} {cs : Array Value} {v : Value} {ds : TypeDesc} (hE : E a n L) (hr : fn.results = #[.cell t ty, .tmp u]) (hv : lk L t = some (.pointer (some ⟨b, 0, none⟩))) (hv2 : lk L u = some v) (hu : P.underlying ty = some ds) (hd : (match ds with | .struct _ | .array _ _ => true | _ => false) = true) (hi : (P.info? ty).map (·.size) = some cs.size)
    (hc : w.heap[b]? = some (.cells cs t' (0, 0))) (h : Φ (.tuple #[.agg cs, v]) w) : bodyPost P fn (Ret Φ) .ret a w := by
  refine bodyPost_ret (v := .tuple #[.agg cs, v]) ?_ hE.defers ⟨_, rfl, h⟩
  have h1 := hE.get t _ hv
  have h2 := hE.get u _ hv2
  simp [results, hr, Array.getD_eq_getD_getElem?, h1, h2, asAddr, run_loadVar_row w b t' ty cs (0, 0) ds hc hu hd hi]
theorem c_retC3 {fn : Func} {Φ : Value → World → Prop} {t u s : Nat} {ty t' : TypeId} {b : Nat} {cs : Array Value} {v v2 : Value} {ds : TypeDesc} (hE : E a n L) (hr : fn.results = #[.cell t ty, .tmp u, .tmp s]) (hv : lk L t = some (.pointer (some ⟨b, 0, none⟩))) (hv2 : lk L u = some v) (hv3 : lk L s = some v2) (hu : P.underlying ty = some ds) (hd : (match ds with | .struct _ | .array _ _ => true | _ => false) = true) (hi : (P.info? ty).map (·.size) = some cs.size)
    (hc : w.heap[b]? = some (.cells cs t' (0, 0))) (h : Φ (.tuple #[.agg cs, v, v2]) w) : bodyPost P fn (Ret Φ) .ret a w := by
  refine bodyPost_ret (v := .tuple #[.agg cs, v, v2]) ?_ hE.defers ⟨_, rfl, h⟩
  have h1 := hE.get t _ hv
  have h2 := hE.get u _ hv2
  have h3 := hE.get s _ hv3
  simp [results, hr, Array.getD_eq_getD_getElem?, h1, h2, h3, asAddr, run_loadVar_row w b t' ty cs (0, 0) ds hc hu hd hi]
theorem c_ret3 {fn : Func} {Φ : Value → World → Prop} {t u s : Nat} {v v' v'' : Value} (hE : E a n L) (hr : fn.results = #[.tmp t, .tmp u, .tmp s]) (hv : lk L t = some v) (hv' : lk L u = some v') (hv'' : lk L s = some v'') (h : Φ (.tuple #[v, v', v'']) w) : bodyPost P fn (Ret Φ) .ret a w := by
  refine bodyPost_ret (v := .tuple #[v, v', v'']) ?_ hE.defers ⟨_, rfl, h⟩
  have h1 := hE.get t v hv
  have h2 := hE.get u v' hv'
  have h3 := hE.get s v'' hv''
  simp [results, hr, Array.getD_eq_getD_getElem?, h1, h2, h3]
theorem wU64 {m : Int} (h0 : 0 ≤ m) (h1 : m ≤ 9223372036854775807) : IntKind.u64.wrap m = m := by simp [IntKind.wrap, IntKind.bits, IntKind.signed]; omega
theorem d_done (hr : Region.ready .any ops listed = []) (h : Q .normal a w) : wpX P ops Q R lo fuel listed a w := by
  cases fuel with
  | zero => exact ⟨hr, h⟩
  | succ f => exact ⟨fun _ => h, by rw [hr]; simp⟩
end
end Go.Proofs.YtkilkfhjfobcdaaDoor
