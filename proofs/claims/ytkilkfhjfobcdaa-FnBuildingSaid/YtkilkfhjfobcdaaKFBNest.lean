/- Nest: slices of slices: literals, reading, appending, storing a row. No statement about the program is made here. -/
import Derived.Test.YtkilkfhjfobcdaaKFBStr
set_option linter.unusedVariables false
namespace Go.Proofs.Ytkilkfhjfobcdaa
open Go.RowKit
def gL (xss : List (List Int)) (m : Int) : List Int := xss.getD m.toNat []
def sL (xss : List (List Int)) (m : Int) (xs : List Int) : List (List Int) := xss.set m.toNat xs
theorem sL_len (xss : List (List Int)) (m : Int) (xs : List Int) : (sL xss m xs).length = xss.length := by simp [sL]
def hdA (hs : List Hd) (m : Int) : Option Addr := (hs.getD m.toNat default).a
def hdC (hs : List Hd) (m : Int) : Nat := (hs.getD m.toNat default).c
theorem getD_some {α : Type} [Inhabited α] {l : List α} {k : Nat} {d : α} (h : k < l.length) : l[k]? = some (l.getD k d) := by
  rw [List.getD_eq_getElem?_getD, List.getElem?_eq_getElem h]; rfl
section
variable {w w0 : World} {Γ : List Ent} {i s : Nat} {t : TypeId} {fr : Option TypeId} {a : Option Addr} {n c : Nat} {hs : List Hd} {xss : List (List Int)} {m : Int}
theorem InN.at {B : Nat} (h : InN w B s fr hs xss) (h0 : 0 ≤ m) (h1 : m < (xss.length : Int)) : ∃ n, hs[m.toNat]? = some ⟨hdA hs m, n, hdC hs m⟩ ∧ RdS w s (hdA hs m) n (hdC hs m) (gL xss m) ∧ ∀ t, fr = some t → OwnS w B t s (hdA hs m) n (hdC hs m) (gL xss m) := by
  have hl := h.1
  have e1 : hs[m.toNat]? = some (hs.getD m.toNat default) := getD_some (by omega)
  have e2 : xss[m.toNat]? = some (gL xss m) := getD_some (by omega)
  obtain ⟨h2, h3⟩ := h.2.1 _ _ _ e1 e2
  exact ⟨_, e1, h2, h3⟩
theorem St.nestV (h : St w0 w Γ) (hi : Γ[i]? = some (.nest t s fr a c hs xss)) : OwnV w w0.heap.size t a xss.length c (hs.map Hd.v) := (h.ok i _ hi).1
theorem St.nestI (h : St w0 w Γ) (hi : Γ[i]? = some (.nest t s fr a c hs xss)) : InN w w0.heap.size s fr hs xss := (h.ok i _ hi).2.1
theorem RdN.of {B : Nat} (h1 : OwnV w B t a xss.length c (hs.map Hd.v)) (h2 : InN w B s fr hs xss) : RdN w s a xss.length c hs xss := by
  obtain ⟨hl, hc⟩ := h1.cases
  refine ⟨rfl, ?_, ?_, ?_, fun k d hk => h1.cellAt (by rw [List.getElem?_map, hk]; rfl), h2.1, fun i d xs h3 h4 => ⟨(h2.2.1 i d xs h3 h4).1, fun _ h => by cases h⟩, fun h => by cases h⟩
  · rcases hc with ⟨_, h, _⟩ | ⟨_, _, _, _, _, h, _⟩ <;> omega
  · rcases hc with ⟨_, _, h⟩ | ⟨_, _, _, _, _, _, h, _⟩
    · rw [h]; exact Nat.zero_le _
    · exact h
  · rcases hc with ⟨_, h2, h3⟩ | ⟨g, cur, h4, _⟩
    · exact fun _ => ⟨h2, h3⟩
    · exact fun h => by rw [h4] at h; cases h
theorem St.rdNo (h : St w0 w Γ) (hi : Γ[i]? = some (.nest t s fr a c hs xss)) : RdN w s a xss.length c hs xss := RdN.of (h.nestV hi) (h.nestI hi)
theorem St.rdNr (h : St w0 w Γ) (hi : Γ[i]? = some (.rdn s a n c hs xss)) : RdN w s a n c hs xss := h.ok i _ hi
theorem RdN.isS (h : RdN w s a n c hs xss) (h0 : 0 ≤ m) (h1 : m < (n : Int)) : a.isSome = true := by
  cases a with
  | none => have := (h.2.2.2.1 rfl).1; omega
  | some p => rfl
theorem RdN.len (h : RdN w s a n c hs xss) : n = xss.length := h.1
theorem RdN.le (h : RdN w s a n c hs xss) : n ≤ 9223372036854775807 := by
  have h1 := h.2.1; have h2 := h.2.2.1; unfold maxLen at h2; omega
theorem RdN.ext {w' : World} (h : RdN w s a n c hs xss) (he : Ext w w') : RdN w' s a n c hs xss := Ent.ok_ext (B := 0) (e := .rdn s a n c hs xss) h he
theorem RdN.rowD (h : RdN w s a n c hs xss) (hs0 : 0 < s) (h0 : 0 ≤ m) (h1 : m < (n : Int)) : RdS w s (hdA hs m) ((gL xss m).length / s) (hdC hs m) (gL xss m) := by
  obtain ⟨e1, _, _, _, e5, e6⟩ := h
  obtain ⟨k, e7, e8, _⟩ := e6.at h0 (by omega)
  rw [e8.lenD hs0]; exact e8
theorem RdN.eltD (h : RdN w s a n c hs xss) (hs0 : 0 < s) (h0 : 0 ≤ m) (h1 : m < (n : Int)) : ∀ w', Ext w w' → w'.cell? (adr a m.toNat) = some (.slice (hdA hs m) ((gL xss m).length / s) (hdC hs m)) := fun w' he => by
  obtain ⟨e1, _, _, _, e5, e6⟩ := h.ext he
  obtain ⟨k, e7, e8, _⟩ := e6.at h0 (by omega)
  have := e5 _ _ e7
  rw [e8.lenD hs0]; exact this
/-- Where this slice lies, nobody writes. -/
def RoB (Γ : List Ent) (a : Option Addr) (xs : List Int) : Prop := ∀ g, xs ≠ [] → a.map (·.block) = some g → ∀ (j : Nat) (d : Ent), Γ[j]? = some d → d.has g → d.ro g
theorem St.ro_of (h : St w0 w Γ) {e : Ent} (hi : Γ[i]? = some e) {g : Nat} (h1 : e.has g) (h2 : e.ro g) : ∀ (j : Nat) (d : Ent), Γ[j]? = some d → d.has g → d.ro g := fun j d hj hd => by
  by_cases e : i = j
  · subst e; rw [hi] at hj; cases hj; exact h2
  · exact (h.apart i j _ d e hi hj g h1 hd).2
theorem St.robR {xs : List Int} (h : St w0 w Γ) (hi : Γ[i]? = some (.rd s a n c xs)) : RoB Γ a xs := fun g hx hg => h.ro_of hi ⟨hx, hg⟩ trivial
theorem RoB.sub {xs : List Int} {l k : Int} {m' : Nat} (h : RoB Γ a xs) : RoB Γ (subA a l.toNat m' s) (slI s xs l k) := fun g hx hg =>
  h g (fun e => hx (by subst e; simp [slI])) (RdS.subBlk hg)
theorem RoB.cons {xs : List Int} {e : Ent} (h : RoB Γ a xs) (he : ∀ g, xs ≠ [] → a.map (·.block) = some g → e.has g → e.ro g) : RoB (e :: Γ) a xs := fun g hx hg j d hj hd => by
  cases j with
  | zero => simp at hj; subst hj; exact he g hx hg hd
  | succ j => exact h g hx hg j d hj hd
def RowsOk (w : World) (Γ : List Ent) (s : Nat) : List (Hd × List Int) → Prop
  | [] => True
  | r :: l => (RdS w s r.1.a r.1.n r.1.c r.2 ∧ RoB Γ r.1.a r.2) ∧ RowsOk w Γ s l
theorem RowsOk.get : ∀ {l : List (Hd × List Int)}, RowsOk w Γ s l → ∀ (i : Nat) (r : Hd × List Int), l[i]? = some r → RdS w s r.1.a r.1.n r.1.c r.2 ∧ RoB Γ r.1.a r.2
  | [], _, i, r, h => by simp at h
  | q :: l, hr, 0, r, h => by simp at h; subst h; exact hr.1
  | q :: l, hr, i + 1, r, h => RowsOk.get (l := l) hr.2 i r (by simpa using h)
/-- The call's own slice is only read from here on. -/
theorem St.freeze {s : Nat} {xs : List Int} (h : St w0 w Γ) (hi : Γ[i]? = some (.own t s a n c xs)) : St w0 w (Γ.set i (.rd s a n c xs)) := by
  have hil : i < Γ.length := by
    rcases Nat.lt_or_ge i Γ.length with h' | h'
    · exact h'
    · rw [List.getElem?_eq_none h'] at hi; cases hi
  have get : ∀ (j : Nat) (d : Ent), (Γ.set i (.rd s a n c xs))[j]? = some d → (j = i ∧ d = .rd s a n c xs) ∨ (j ≠ i ∧ Γ[j]? = some d) := fun j d hj => by
    rw [List.getElem?_set] at hj
    by_cases e : i = j
    · subst e; simp [hil] at hj; exact .inl ⟨rfl, hj.symm⟩
    · simp [e] at hj; exact .inr ⟨fun h => e h.symm, hj⟩
  have none : ∀ (j : Nat) (d : Ent), j ≠ i → Γ[j]? = some d → apt (.rd s a n c xs) d := fun j d hj hd k h1 h2 => by
    exact absurd (h.apart i j _ d (Ne.symm hj) hi hd k h1.2 h2).1 (fun h => h)
  refine ⟨h.ext, fun j d hj => ?_, fun j k d d' hjk hj hk => ?_⟩
  · rcases get j d hj with ⟨rfl, rfl⟩ | ⟨_, hd⟩
    · exact OwnS.rd (h.ok j _ hi)
    · exact h.ok j d hd
  · rcases get j d hj with ⟨rfl, rfl⟩ | ⟨hne, hd⟩
    · rcases get k d' hk with ⟨rfl, rfl⟩ | ⟨hne', hd'⟩
      · exact absurd rfl hjk
      · exact none k d' hne' hd'
    · rcases get k d' hk with ⟨rfl, rfl⟩ | ⟨hne', hd'⟩
      · exact (none j d hne hd).symm
      · exact h.apart j k d d' hjk hd hd'
/-- An entry is put on top: its blocks are new, or nobody writes them. -/
theorem St.pushN {w' : World} (h : St w0 w Γ) (he : Ext w w') {e : Ent} (ho : e.ok w0.heap.size w') (hf : ∀ k, e.has k → w.heap.size ≤ k ∨ (e.ro k ∧ ∀ (j : Nat) (d : Ent), Γ[j]? = some d → d.has k → d.ro k)) : St w0 w' (e :: Γ) := by
  have one : ∀ (j : Nat) (d : Ent), Γ[j]? = some d → apt e d := fun j d hj k h1 h2 => by
    have := Ent.ok_lt (h.ok j d hj) h2
    rcases hf k h1 with h3 | ⟨h3, h4⟩
    · omega
    · exact ⟨h3, h4 j d hj h2⟩
  refine ⟨h.ext.trans he, fun i e' hi => ?_, fun i j e1 e2 hij hi hj => ?_⟩
  · cases i with
    | zero => simp at hi; subst hi; exact ho
    | succ i => exact Ent.ok_ext (h.ok i e' hi) he
  · cases i with
    | zero =>
      simp at hi; subst hi
      cases j with
      | zero => exact absurd rfl hij
      | succ j => exact one j e2 hj
    | succ i =>
      cases j with
      | zero => simp at hj; subst hj; exact (one i e1 hi).symm
      | succ j => exact h.apart i j e1 e2 (by omega) hi hj
theorem St.rdn0 {b : Option Addr} {m c : Nat} (h : St w w Γ) (hΓ : Γ.all Ent.im = true) (hr : RdN w s b m c hs xss) : St w w (.rdn s b m c hs xss :: Γ) := h.im0 hΓ rfl hr
/-- It is new. -/
def Ent.nw : Ent → Bool
  | .blk .. => true
  | .own .. => true
  | .nest _ _ fr _ _ _ _ => fr.isSome
  | _ => false
theorem Ent.nw_ge {B : Nat} {e : Ent} (hn : e.nw = true) (h : e.ok B w) {k : Nat} (hk : e.has k) : B ≤ k := by
  cases e with
  | blk b cs t => have hb : b = k := hk; subst hb; exact h.1
  | own t s a n c xs => exact (OwnS.lt h hk).1
  | nest t s fr a c hs xss =>
    rcases hk with hk | ⟨i, d, xs, h1, h2, h3, h4⟩
    · exact (OwnV.lt h.1 hk).1
    · obtain ⟨t', rfl⟩ := Option.isSome_iff_exists.1 hn
      exact (OwnS.lt ((h.2.1.2.1 i d xs h1 h2).2 t' rfl) h4).1
  | rd s a n c xs => cases hn
  | rb b cs t => cases hn
  | rdn s a n c hs xss => cases hn
  | hole t s t' a c hs xss m => cases hn
theorem Ent.nw_mono {B B' : Nat} {e : Ent} (hn : e.nw = true) (h : e.ok B w) (hB : B' ≤ B) : e.ok B' w := by
  cases e with
  | blk b cs t => exact ⟨Nat.le_trans hB h.1, h.2⟩
  | own t s a n c xs => exact OwnS.mono h hB
  | nest t s fr a c hs xss => exact ⟨OwnV.mono h.1 hB, ⟨h.2.1.1, fun i d xs h1 h2 => ⟨(h.2.1.2.1 i d xs h1 h2).1, fun t ht => ((h.2.1.2.1 i d xs h1 h2).2 t ht).mono hB⟩, h.2.1.2.2⟩, h.2.2⟩
  | rd s a n c xs => cases hn
  | rb b cs t => cases hn
  | rdn s a n c hs xss => cases hn
  | hole t s t' a c hs xss m => cases hn
/-- What a call has made, on top of what was known before it. -/
theorem St.comp {w' : World} {Γ' : List Ent} (h : St w0 w Γ) (h' : St w w' Γ') (hn : Γ'.all Ent.nw = true) : St w0 w' (Γ' ++ Γ) := by
  have nw : ∀ (i : Nat) (e : Ent), Γ'[i]? = some e → e.nw = true := fun i e hi => List.all_eq_true.1 hn e (List.mem_of_getElem? hi)
  have cross : ∀ (i j : Nat) (e d : Ent), Γ'[i]? = some e → Γ[j]? = some d → apt e d := fun i j e d hi hj k h1 h2 => by
    have := Ent.nw_ge (nw i e hi) (h'.ok i e hi) h1
    have := Ent.ok_lt (h.ok j d hj) h2
    omega
  have get : ∀ (j : Nat) (e : Ent), (Γ' ++ Γ)[j]? = some e → (j < Γ'.length ∧ Γ'[j]? = some e) ∨ (Γ'.length ≤ j ∧ Γ[j - Γ'.length]? = some e) := fun j e hj => by
    rcases Nat.lt_or_ge j Γ'.length with hl | hl
    · rw [List.getElem?_append_left hl] at hj; exact .inl ⟨hl, hj⟩
    · rw [List.getElem?_append_right hl] at hj; exact .inr ⟨hl, hj⟩
  refine ⟨h.ext.trans h'.ext, fun i e hi => ?_, fun i j e d hij hi hj => ?_⟩
  · rcases get i e hi with ⟨_, hi⟩ | ⟨_, hi⟩
    · exact Ent.nw_mono (nw i e hi) (h'.ok i e hi) h.ext.size
    · exact Ent.ok_ext (h.ok _ e hi) h'.ext
  · rcases get i e hi with ⟨a1, a2⟩ | ⟨a1, a2⟩ <;> rcases get j d hj with ⟨b1, b2⟩ | ⟨b1, b2⟩
    · exact h'.apart i j e d hij a2 b2
    · exact cross _ _ e d a2 b2
    · exact (cross _ _ d e b2 a2).symm
    · exact h.apart _ _ e d (by omega) a2 b2
theorem OwnV.store {B : Nat} {vs : List Value} (h : OwnV w B t a n c vs) {k : Nat} (hk : k < vs.length) (u : Value) :
    OwnV (w.setCell (adr a k) u) B t a n c (vs.set k u) ∧ w.frozen? (adr a k) = false ∧ ∃ g, a = some ⟨g, 0, none⟩ ∧ B ≤ g := by
  obtain ⟨hl, ⟨rfl, rfl, rfl⟩ | ⟨g, cur, rfl, h1, h2, h3, h4, h5, h6⟩⟩ := h.cases
  · omega
  · have hb : (w.setCell (adr (some ⟨g, 0, none⟩) k) u).heap[g]? = some (.cells (cur.setIfInBounds k u) t (0, 0)) := by
      rw [adr_lit]; simp [World.setCell, Array.getElem?_modify, h2]
    refine ⟨OwnV.mk (by simpa using hl) h1 hb h3 h4 (by simpa using h5) ?_, by rw [adr_lit]; simp [World.frozen?, h2], g, rfl, h1⟩
    rw [Array.toList_setIfInBounds, ← set_take_aux cur.toList _ (by omega), h6]
end
section
variable {P : Program} {Q : Exit → Act → World → Prop} {a : Act} {n : Nat} {L : List (Nat × Value)} {w w0 : World} {K : Act → World → Prop} {Γ : List Ent}
variable {ty : TypeId} {pos : String} {af : Array Edge} {gd : Option (Nat × Bool)} {d : Nat} {x y : Operand} {v : Value} {t : TypeId}
/-- A literal of slices that are only read. -/
theorem l_litN {parts : List (Nat × Operand)} {rows : List (Hd × List Int)} {vs : List Value} {hs : List Hd} {xss : List (List Int)} {l e s : Nat} (hS : St w0 w Γ) (hE : E a n L) (hp : evs L (parts.map (·.2)) = some vs)
    (hv : rows.map (fun r => r.1.v) = vs) (hhs : rows.map (·.1) = hs) (hxs : rows.map (·.2) = xss)
    (hr : ∀ w : World, (Instr.buildSlice t l ((parts.map (·.1)).zip vs).toArray).run P w = .ok (.slice (some ⟨w.heap.size, 0, none⟩) l l) (w.alloc (.cells vs.toArray e))) (hrow : RowsOk w Γ s rows) (hl : rows.length = l) (hm : Nat.ble l 1000 = true) (hn : Nat.blt d n = true)
    (hK : ∀ b w', St w0 w' (.nest e s none (some ⟨b, 0, none⟩) l hs xss :: Γ) → Ext w w' → ∀ a', E a' n ((d, .slice (some ⟨b, 0, none⟩) l l) :: L) → K a' w') : Oper.wp P ⟨some d, .buildSlice t l parts.toArray, ty, pos, af, gd⟩ a w K Q := by
  have hext : Ext w (w.alloc (.cells vs.toArray e)) := (Ext.refl w).alloc _
  subst hv; subst hhs; subst hxs; subst hl
  have hm' : rows.length ≤ 1000 := by simpa using hm
  refine l_val hE rfl hn (v := .slice (some ⟨w.heap.size, 0, none⟩) rows.length rows.length) (w' := w.alloc (.cells (rows.map (fun r => r.1.v)).toArray e)) ?_ (hK w.heap.size _ ?_ hext)
  · have h1 := partsOf hE hp
    simp only [execOp, List.map_toArray]
    rw [show (fun (p : Nat × Operand) => match p with | (i, x) => (i, a.eval x)) = fun p => (p.1, a.eval p.2) from rfl, h1]
    simp [hr]
  · have both : ∀ (i : Nat) (h : Hd) (xs : List Int), (rows.map (·.1))[i]? = some h → (rows.map (·.2))[i]? = some xs → RdS w s h.a h.n h.c xs ∧ RoB Γ h.a xs := fun i h xs h1 h2 => by
      rw [List.getElem?_map] at h1 h2
      cases hq : rows[i]? with
      | none => rw [hq] at h1; simp at h1
      | some r =>
        rw [hq] at h1 h2
        simp at h1 h2
        subst h1; subst h2
        exact RowsOk.get hrow i r hq
    refine hS.pushN hext (e := .nest e s none (some ⟨w.heap.size, 0, none⟩) rows.length (rows.map (·.1)) (rows.map (·.2))) ⟨OwnV.mk (cur := (rows.map (fun r => r.1.v)).toArray) (by simp) hS.ext.size (heap_alloc_at _ _) (by simp) (by unfold maxLen; omega) (by simp) (by rw [List.toList_toArray, List.take_of_length_le (by simp)]; simp [Function.comp_def]), ⟨by simp, fun i h xs h1 h2 => ⟨(both i h xs h1 h2).1.ext hext, fun _ h => by cases h⟩, fun h => by cases h⟩, fun k ⟨i, h, xs, h1, h2, h3, h4⟩ => ?_⟩ fun k hk => ?_
    · have h3 : xs ≠ [] := h3.resolve_right (by simp)
      have := RdS.lt (both i h xs h1 h2).1 h3 h4
      intro h; simp at h; omega
    · rcases hk with hk | ⟨i, h, xs, h1, h2, h3, h4⟩
      · left; simp at hk; omega
      · right
        have h3 : xs ≠ [] := h3.resolve_right (by simp)
        have hlt := RdS.lt (both i h xs h1 h2).1 h3 h4
        exact ⟨⟨rfl, fun h => by simp at h; omega⟩, (both i h xs h1 h2).2 k h3 h4⟩
/-! arrays of numbers -/
end
end Go.Proofs.Ytkilkfhjfobcdaa
