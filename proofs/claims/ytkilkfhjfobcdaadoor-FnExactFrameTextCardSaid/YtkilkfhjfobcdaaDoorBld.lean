/- A strings.Builder that a call has made itself: what WriteString and String do to it, block by block. -/
import Derived.Test.YtkilkfhjfobcdaaDoorNest
import Derived.Lib.Builder
import Derived.Lib.AppendStr
import Derived.Lib.UnsafeStr
import Derived.WalkKit
import Derived.Shelf.Strings.Builder1
set_option linter.unusedVariables false
set_option linter.unusedSimpArgs false
namespace Go.Proofs.YtkilkfhjfobcdaaDoor
open Go.RowKit
section
variable {P : Program} (w : World)
/-- An append of a string to a row of the call's own: the row stays, or a new one is made. -/
theorem append_str_at (base : Nat) (t u ty e : TypeId) (i : TypeInfo) (ht : P.underlying t = some (.slice e)) (hu : P.underlying u = some .string) (hi : P.info? e = some i) (hz : i.zero = some (.int .u8 0))
    (hsize : i.size = 1) (hby : i.bytes = 1) (v : Value) (n : Nat) (xs : List Value) (hown : w.ownsRow base e 1 v n xs) (s : ByteArray)
    (h63 : n + s.size ≤ maxLen) (hbytes : n + s.size ≤ 140737488355328) (hbase : base ≤ w.heap.size) :
    ∃ v' w', (Builtin.append_ #[t, u] ty #[v, .string s]).run P w = .ok v' w' ∧ w'.ownsRow base e 1 v' (n + s.size) (xs ++ Lib.strCells s) ∧ w.grownBy w' v.ownBlock ∧ (v'.ownBlock = v.ownBlock ∨ v'.ownBlock = some w.heap.size) := by
  obtain ⟨v', w', hr, h1, h2, h3⟩ := Lib.run_append_own_string (P := P) w base t u ty e i ht hu hi hz hsize hby v n xs hown s h63 hbytes hbase
  refine ⟨v', w', hr, h1, h2, ?_⟩
  have hxl : xs.length = n := by simpa using hown.1
  rcases hown.2 with ⟨rfl, rfl⟩ | ⟨g, cap, cur, rfl, hbg, hg, hnc, hcm, hcs, htake⟩
  · by_cases hm : s.size = 0
    · exact .inl (by rw [h3.2 ⟨rfl, hm⟩])
    · have hr2 := run_append_nil_string (P := P) w t u ty e i (.int .u8 0) ht hu hi hz s (by omega) (by unfold maxLen at h63; omega) (by rw [hby]; omega)
      rw [hr] at hr2
      injection hr2 with e1 e2
      exact .inr (by rw [e1]; rfl)
  · by_cases hroom : n + s.size ≤ cap
    · have hr2 := Lib.run_append_room_string (P := P) w t u ty e i ht hu hi hsize g n cap cur hg s hroom (by omega)
      rw [hr] at hr2
      injection hr2 with e1 e2
      exact .inl (by rw [e1]; rfl)
    · have holds : ∀ j u, xs[j]? = some u → w.cell? ((⟨g, 0, none⟩ : Addr).add j) = some u := hown.cells (g := g) rfl
      have hr2 := Lib.run_append_grow_string (P := P) w t u ty e i (.int .u8 0) ht hu hi hz ⟨g, 0, none⟩ n cap xs (by rw [hsize]; simpa using hxl) holds s (by omega) (by unfold maxLen at h63; omega) (by rw [hby]; exact growslice_fits (by omega) (by omega))
      rw [hr] at hr2
      injection hr2 with e1 e2
      exact .inr (by rw [e1]; rfl)
theorem wpl_append_str {ops : Array Oper} {rest : List Oper} {o : Oper} {a : Act} {Q : Exit → Act → World → Prop} (hgd : o.guard = none) (sl x : Operand) (t u : TypeId)
    (ho : o.op = .call { callee := .builtin .append, args := #[sl, x], argTypes := #[t, u] })
    (base : Nat) (e : TypeId) (i : TypeInfo) (ht : P.underlying t = some (.slice e)) (hu : P.underlying u = some .string) (hi : P.info? e = some i) (hz : i.zero = some (.int .u8 0))
    (hsize : i.size = 1) (hby : i.bytes = 1)
    (v : Value) (n : Nat) (xs : List Value) (hs : a.eval sl = v) (hown : w.ownsRow base e 1 v n xs) (s : ByteArray) (hx : a.eval x = .string s)
    (h63 : n + s.size ≤ maxLen) (hbytes : n + s.size ≤ 140737488355328) (hbase : base ≤ w.heap.size)
    (h : ∀ v' w', w'.ownsRow base e 1 v' (n + s.size) (xs ++ Lib.strCells s) → w.grownBy w' v.ownBlock → (v'.ownBlock = v.ownBlock ∨ v'.ownBlock = some w.heap.size) → wpList P ops Q rest (a.put o.dst v') w') : wpList P ops Q (o :: rest) a w := by
  refine wpList_plain hgd fun K hK => ?_
  obtain ⟨v', w', hr, h2, h3, h4⟩ := append_str_at (P := P) w base t u o.type e i ht hu hi hz hsize hby v n xs hown s h63 hbytes hbase
  unfold Oper.wp execOp
  simp only [ho, resolve, invoke, builtin, Sem.run_bind, Sem.run_pure, Result.andThen_ok, List.map_toArray, List.map_cons, List.map_nil, hs, hx, hr]
  exact hK _ _ (h v' w' h2 h3 h4)
end
section
variable {w w0 : World} {Γ : List Ent}
/-- A zero Builder is an empty one. -/
theorem St.toBld {k b : Nat} (hS : St w0 w Γ) (hk : Γ[k]? = some (.blk b #[.pointer none, .slice none 0 0] 46)) : St w0 w (Γ.set k (.bld b 46 5 (.slice none 0 0) [])) := by
  have ho := hS.ok k _ hk
  refine hS.set hk rfl hS.ext (fun _ _ _ => rfl) (e' := .bld b 46 5 (.slice none 0 0) []) ⟨ho.1, ⟨_, .inl rfl, ho.2⟩, ⟨rfl, .inl ⟨rfl, rfl⟩⟩, by simp [Value.ownBlock]⟩ fun g hg => ?_
  rcases hg with rfl | hg
  · exact .inl rfl
  · cases hg
end
set_option maxHeartbeats 1000000 in
set_option maxRecDepth 100000 in
theorem c_copyCheck_used (b : Nat) (w : World) (h0 : w.cell? ⟨b, 0, none⟩ = some (.pointer (some ⟨b, 0, none⟩))) :
    Calls Tryd.prog 31 #[.pointer (some ⟨b, 0, none⟩)] w fun e w' => e = .returned (.tuple #[]) ∧ w' = w := by
  obtain ⟨j, hj, _⟩ := Option.map_eq_some_iff.1 (show (Tryd.prog.info? 46).map (·.size) = some 2 by kernel_rfl)
  go_enter Tryd.func31, Tryd.ntmps31
  go_wp2
  rw [Lib.run_neq_ptr_same w _ Tryd.underlying43 hj]
  go_wp2
  go_end0
  exact ⟨rfl, rfl⟩
set_option maxHeartbeats 1000000 in
set_option maxRecDepth 100000 in
theorem c_copyCheck_fresh (b : Nat) (w : World) (h0 : w.cell? ⟨b, 0, none⟩ = some (.pointer none)) (hsh : w.shape? b = some (46, 2)) (hfz : w.frozen? ⟨b, 0, none⟩ = false) :
    Calls Tryd.prog 31 #[.pointer (some ⟨b, 0, none⟩)] w fun e w' => e = .returned (.tuple #[]) ∧ w' = w.setCell ⟨b, 0, none⟩ (.pointer (some ⟨b, 0, none⟩)) := by
  obtain ⟨j, hj, hjs⟩ := Option.map_eq_some_iff.1 (show (Tryd.prog.info? 46).map (·.size) = some 2 by kernel_rfl)
  go_enter Tryd.func31, Tryd.ntmps31
  go_wp2
  rw [Lib.run_to_unsafe w ⟨b, 0, none⟩ Tryd.underlying43 Tryd.underlying59 hj (by rw [hjs]; decide) hsh (Nat.zero_lt_succ 1)]
  simp only [Result.andThen]
  rw [Oper.upon_value]
  go_wp2
  rw [run_callFunc_extern Tryd.func36 (by kernel_rfl) (by kernel_rfl) (by kernel_rfl) (e := Extern.AbiNoEscape.same) (by kernel_rfl)]
  rw [Lib.run_noEscape]
  simp only [Result.andThen]
  rw [Oper.upon_value]
  go_wp2
  rw [Lib.run_from_unsafe w ⟨b, 0, none⟩ Tryd.underlying59 Tryd.underlying43 hj hsh (show liesAt Tryd.prog Tryd.prog.depth 46 (2 / Tryd.prog.cellsOf 46) 0 46 1 = true by kernel_rfl)]
  simp only [Result.andThen]
  rw [Oper.upon_value]
  go_wp2
  go_end0
  exact ⟨rfl, rfl⟩
/-- copyCheck at a builder of the call's own: nothing but its own cell turns. -/
theorem c_copyCheck {w0 w : World} {Γ : List Ent} {k b : Nat} {v : Value} {xs : List Value} (hS : St w0 w Γ) (hk : Γ[k]? = some (.bld b 46 5 v xs)) :
    Calls Tryd.prog 31 #[.pointer (some ⟨b, 0, none⟩)] w fun e w' => e = .returned (.tuple #[]) ∧ St w0 w' Γ ∧ w'.heap[b]? = some (.cells #[.pointer (some ⟨b, 0, none⟩), v] 46 (0, 0)) ∧ w'.heap.size = w.heap.size := by
  have ho : BldOk w w0.heap.size b 46 5 v xs := hS.ok k _ hk
  obtain ⟨h1, ⟨p, hp, h2⟩, h3, h5⟩ := ho
  have c0 : w.cell? ⟨b, 0, none⟩ = some p := by rw [Lib.cell_of_heap h2]; rfl
  rcases hp with rfl | rfl
  · refine (c_copyCheck_fresh b w c0 (by simp [World.shape?, h2]) (Lib.frozen_of_heap h2 0)).mono ?_
    rintro e w' ⟨rfl, rfl⟩
    have hb2 : (w.setCell ⟨b, 0, none⟩ (.pointer (some ⟨b, 0, none⟩))).heap[b]? = some (.cells #[.pointer (some ⟨b, 0, none⟩), v] 46 (0, 0)) := by
      simp [World.setCell, Array.getElem?_modify, h2]
    have hsame : ∀ g, g ≠ b → (w.setCell ⟨b, 0, none⟩ (.pointer (some ⟨b, 0, none⟩))).heap[g]? = w.heap[g]? := fun g hg => setCell_block (p := ⟨b, 0, none⟩) hg
    refine ⟨rfl, ?_, hb2, setCell_size _ _ _⟩
    have : Γ.set k (.bld b 46 5 v xs) = Γ := by
      apply List.ext_getElem?; intro j
      rw [List.getElem?_set]
      split
      · rename_i e; subst e
        split
        · exact hk.symm
        · rename_i h; rw [List.getElem?_eq_none (by omega)]
      · rfl
    rw [← this]
    refine hS.set hk rfl ?_ (fun g _ hg => hsame g fun e => hg (.inl e.symm)) (e' := .bld b 46 5 v xs) ⟨h1, ⟨_, .inr rfl, hb2⟩, ⟨h3.1, ?_⟩, h5⟩ (fun g hg => .inl hg)
    · exact Below.setCell hS.ext h1 _
    · rcases h3.2 with h4 | ⟨g, cap, cur, rfl, e1, e2, e3⟩
      · exact .inl h4
      · refine .inr ⟨g, cap, cur, rfl, e1, (hsame g fun e => h5 (by rw [e]; rfl)).trans e2, e3⟩
  · refine (c_copyCheck_used b w c0).mono ?_
    rintro e w' ⟨rfl, rfl⟩
    exact ⟨rfl, hS, h2, rfl⟩
set_option maxHeartbeats 2000000 in
set_option maxRecDepth 100000 in
theorem c_WriteString {w0 w : World} {Γ : List Ent} {k b : Nat} {v : Value} {xs : List Value} (s : ByteArray) (hS : St w0 w Γ) (hk : Γ[k]? = some (.bld b 46 5 v xs)) (hlen : xs.length + s.size ≤ 1000000) :
    Calls Tryd.prog 23 #[.pointer (some ⟨b, 0, none⟩), .string s] w (Ret fun r w' => ∃ v', r = .tuple #[.int .i64 (s.size : Int), .nilIface] ∧ St w0 w' (Γ.set k (.bld b 46 5 v' (xs ++ Lib.strCells s)))) := by
  obtain ⟨i0, hi, hz0, hz1, hz2⟩ := info_parts (show (Tryd.prog.info? 5).map (fun i => (i.zero, i.size, i.bytes)) = some (some (.int .u8 0), 1, 1) by kernel_rfl)
  have ecc : ∀ args w, (callFunc 31 args).run Tryd.prog w = .ok (.enter 31 args) w := enters_of Tryd.func31 (by kernel_rfl) rfl
  go_enter Tryd.func23, Tryd.ntmps23
  go_wp2_with (go_at_fn 31; refine (c_copyCheck hS hk).mono ?_)
  rintro e w1 ⟨rfl, hS1, hbk, hsz⟩
  have ho : BldOk w1 w0.heap.size b 46 5 v xs := hS1.ok k _ hk
  have hown := ho.2.2.1
  have hne := ho.2.2.2
  have c0 : w1.cell? ⟨b, 0, none⟩ = some (.pointer (some ⟨b, 0, none⟩)) := by rw [Lib.cell_of_heap hbk]; rfl
  have c1 : w1.cell? ⟨b, 1, none⟩ = some v := by rw [Lib.cell_of_heap hbk]; rfl
  go_wp2_with (at_builtin; refine wpl_append_str _ rfl _ _ 44 9 rfl w0.heap.size 5 i0 Tryd.underlying44 Tryd.underlying9 hi hz0 hz1 hz2 _ _ _ rfl hown s rfl ?c3 ?c4 ?c5 ?_)
  case c3 => unfold maxLen; omega
  case c4 => omega
  case c5 => exact hS1.ext.size
  intro v' w2 hown' hgrow hblk
  have hlt : b < w1.heap.size := (BldOk.lt ho (.inl rfl)).2
  have hb2 : w2.heap[b]? = some (.cells #[.pointer (some ⟨b, 0, none⟩), v] 46 (0, 0)) := by
    rw [hgrow.block b hlt (fun e => hne e.symm)]
    exact hbk
  have d0 : w2.cell? ⟨b, 0, none⟩ = some (.pointer (some ⟨b, 0, none⟩)) := by rw [Lib.cell_of_heap hb2]; rfl
  have d1 : w2.cell? ⟨b, 1, none⟩ = some v := by rw [Lib.cell_of_heap hb2]; rfl
  have f1 : w2.frozen? ⟨b, 1, none⟩ = false := Lib.frozen_of_heap hb2 1
  obtain ⟨ao, n', cap, rfl⟩ : ∃ ao n' cap, v' = .slice ao n' cap := by
    rcases hown'.2 with ⟨hv, _⟩ | ⟨g, cap, cur, hv, _⟩
    · exact ⟨_, _, _, hv⟩
    · exact ⟨_, _, _, hv⟩
  go_wp2
  go_ret2
  have hb3 : (w2.setCell ⟨b, 1, none⟩ (.slice ao n' cap)).heap[b]? = some (.cells #[.pointer (some ⟨b, 0, none⟩), .slice ao n' cap] 46 (0, 0)) := by
    simp [World.setCell, Array.getElem?_modify, hb2]
  have hnb : (Value.slice ao n' cap).ownBlock ≠ some b := by
    rcases hblk with h | h
    · rw [h]; exact hne
    · rw [h]; intro e; injection e with e; omega
  have hsame : ∀ g, g ≠ b → (w2.setCell ⟨b, 1, none⟩ (.slice ao n' cap)).heap[g]? = w2.heap[g]? := fun g hg => setCell_block (p := ⟨b, 1, none⟩) hg
  refine ⟨_, rfl, .slice ao n' cap, rfl, ?_⟩
  refine hS1.set hk rfl ?_ (fun g hg hno => ?_) (e' := .bld b 46 5 (.slice ao n' cap) (xs ++ Lib.strCells s)) ⟨ho.1, ⟨_, .inr rfl, hb3⟩, ?_, hnb⟩ (fun g hg => ?_)
  · exact Below.setCell (Below.grown hS1.ext hgrow hS1.ext.size fun g hg => (BldOk.lt ho (.inr hg)).1) ho.1 _
  · rw [hsame g fun e => hno (.inl e.symm)]
    exact hgrow.block g hg fun e => hno (.inr e.symm)
  · have hl : (xs ++ Lib.strCells s).length = xs.length + s.size := by rw [List.length_append, Lib.strCells_length]
    rw [hl]
    refine ⟨hown'.1, ?_⟩
    rcases hown'.2 with h4 | ⟨g, cp, cur, h0, e1, e2, e3⟩
    · exact .inl h4
    · refine .inr ⟨g, cp, cur, h0, e1, (hsame g fun e => hnb ?_).trans e2, e3⟩
      rw [h0, e]; rfl
  · rcases hg with rfl | hg
    · exact .inl (.inl rfl)
    · rcases hblk with h | h
      · exact .inl (.inr (h.symm.trans hg))
      · rw [h] at hg; injection hg with hg; exact .inr (by rw [← hg]; first | exact Nat.le_refl _ | exact Nat.le_of_eq hsz)
set_option maxHeartbeats 1000000 in
set_option maxRecDepth 100000 in
theorem c_String {w0 w : World} {Γ : List Ent} {k b : Nat} {v : Value} (s : ByteArray) (h0 : s.size ≠ 0) (hS : St w0 w Γ) (hk : Γ[k]? = some (.bld b 46 5 v (Lib.strCells s))) :
    Calls Tryd.prog 26 #[.pointer (some ⟨b, 0, none⟩)] w (Ret fun r w' => r = .string s ∧ Ext w0 w') := by
  have ho : BldOk w w0.heap.size b 46 5 v (Lib.strCells s) := hS.ok k _ hk
  obtain ⟨hB, ⟨p, _, hbk⟩, hown, hne⟩ := ho
  rw [Lib.strCells_length] at hown
  obtain ⟨l, rfl⟩ : ∃ l : List UInt8, s = ⟨l.toArray⟩ := ⟨s.data.toList, by cases s; simp⟩
  have hsl : (⟨l.toArray⟩ : ByteArray).size = l.length := by show l.toArray.size = l.length; simp
  have hcells : Lib.strCells ⟨l.toArray⟩ = Lib.byteCells l := by unfold Lib.strCells Lib.byteCells; simp
  rw [hsl] at hown h0
  rw [hcells] at hown
  have hl0 : l ≠ [] := by intro e; rw [e] at h0; exact h0 rfl
  obtain ⟨g, cap, cur, rfl, hbg, hg, hnc, hcm, hcs, htake⟩ : ∃ g cap cur, v = .slice (some ⟨g, 0, none⟩) l.length cap ∧ w0.heap.size ≤ g ∧ w.heap[g]? = some (.cells cur 5 (0, 0)) ∧ l.length ≤ cap ∧ cap ≤ maxLen ∧ cur.size = cap * 1 ∧ cur.toList.take (l.length * 1) = Lib.byteCells l := by
    rcases hown.2 with ⟨_, hz⟩ | ⟨g, cap, cur, hv, r⟩
    · exact absurd hz h0
    · exact ⟨g, cap, cur, hv, r⟩
  have c1 : w.drew.cell? ⟨b, 1, none⟩ = some (.slice (some ⟨g, 0, none⟩) l.length cap) := by
    have : w.drew.heap[b]? = some (.cells #[p, .slice (some ⟨g, 0, none⟩) l.length cap] 46 (0, 0)) := hbk
    rw [Lib.cell_of_heap this]; rfl
  have hSD : (Builtin.unsafeSliceData_ #[44] 57 #[.slice (some ⟨g, 0, none⟩) l.length cap]).run Tryd.prog w.drew = .ok (.pointer (some ⟨g, 0, none⟩)) w.drew :=
    Lib.run_unsafeSliceData_row _ _ _ _ _ _ (by omega)
  have hUS : (Builtin.unsafeString_ #[57, 3] 9 #[.pointer (some ⟨g, 0, none⟩), .int .i64 l.length]).run Tryd.prog w.drew = .ok (.string ⟨l.toArray⟩) (w.drew.freeze ⟨g, 0, none⟩ l.length) := by
    refine Lib.run_unsafeString_row w.drew 57 3 9 5 Tryd.underlying57 (by kernel_rfl) g cur.size (by have hg' : w.drew.heap[g]? = some (.cells cur 5 (0, 0)) := hg; simp [World.shape?, hg']) l hl0 (by omega) (by unfold maxLen at hcm; omega) ?_
    intro j x hx
    have := hown.cells (g := g) rfl j (.int .u8 x.toNat) (by simp [Lib.byteCells, hx])
    exact this
  have mixed : Tryd.prog.follows Departure.mixedOrders = true := by kernel_rfl
  go_enter Tryd.func26, Tryd.ntmps26
  go_wp2
  go_region_o
  all_goals (go_wp2; go_ret; exact ⟨_, rfl, rfl, Lib.below_freeze (Below.drew hS.ext) (p := ⟨g, 0, none⟩) hbg _⟩)
end Go.Proofs.YtkilkfhjfobcdaaDoor
