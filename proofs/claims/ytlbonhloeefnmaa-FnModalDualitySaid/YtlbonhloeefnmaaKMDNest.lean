/- Nest: slices of slices: literals, reading, appending, storing a row. No statement about the program is made here. -/
import Derived.Test.YtlbonhloeefnmaaKMDStr
set_option linter.unusedVariables false
namespace Go.Proofs.Ytlbonhloeefnmaa
open Go.RowKit
def gL (xss : List (List Int)) (m : Int) : List Int := xss.getD m.toNat []
def sL (xss : List (List Int)) (m : Int) (xs : List Int) : List (List Int) := xss.set m.toNat xs
theorem sL_len (xss : List (List Int)) (m : Int) (xs : List Int) : (sL xss m xs).length = xss.length := by simp [sL]
def hdA (hs : List Hd) (m : Int) : Option Addr := (hs.getD m.toNat default).a
def hdC (hs : List Hd) (m : Int) : Nat := (hs.getD m.toNat default).c
theorem getD_some {α : Type} [Inhabited α] {l : List α} {k : Nat} {d : α} (h : k < l.length) : l[k]? = some (l.getD k d) := by
  rw [List.getD_eq_getElem?_getD, List.getElem?_eq_getElem h]; rfl
section
variable {w w0 : World} {Γ : List Ent} {i s : Nat} {t : TypeId} {fr : Option TypeId} {a : Option Addr} {n c : Nat} {hs : List Hd} {xss : List (List Int)} {m : Int}
theorem InN.at {B : Nat} (h : InN w B s fr hs xss) (h0 : 0 ≤ m) (h1 : m < (xss.length : Int)) : ∃ n, hs[m.toNat]? = some ⟨hdA hs m, n, hdC hs m⟩ ∧ RdS w s (hdA hs m) n (hdC hs m) (gL xss m) ∧ ∀ t, fr = some t → OwnS w B t s (hdA hs m) n (hdC hs m) (gL xss m) := by
  have hl := h.1
  have e1 : hs[m.toNat]? = some (hs.getD m.toNat default) := getD_some (by omega)
  have e2 : xss[m.toNat]? = some (gL xss m) := getD_some (by omega)
  obtain ⟨h2, h3⟩ := h.2.1 _ _ _ e1 e2
  exact ⟨_, e1, h2, h3⟩
theorem RdN.of {B : Nat} (h1 : OwnV w B t a xss.length c (hs.map Hd.v)) (h2 : InN w B s fr hs xss) : RdN w s a xss.length c hs xss := by
  obtain ⟨hl, hc⟩ := h1.cases
  refine ⟨rfl, ?_, ?_, ?_, fun k d hk => h1.cellAt (by rw [List.getElem?_map, hk]; rfl), h2.1, fun i d xs h3 h4 => ⟨(h2.2.1 i d xs h3 h4).1, fun _ h => by cases h⟩, fun h => by cases h⟩
  · rcases hc with ⟨_, h, _⟩ | ⟨_, _, _, _, _, h, _⟩ <;> omega
  · rcases hc with ⟨_, _, h⟩ | ⟨_, _, _, _, _, _, h, _⟩
    · rw [h]; exact Nat.zero_le _
    · exact h
  · rcases hc with ⟨_, h2, h3⟩ | ⟨g, cur, h4, _⟩
    · exact fun _ => ⟨h2, h3⟩
    · exact fun h => by rw [h4] at h; cases h
theorem RdN.isS (h : RdN w s a n c hs xss) (h0 : 0 ≤ m) (h1 : m < (n : Int)) : a.isSome = true := by
  cases a with
  | none => have := (h.2.2.2.1 rfl).1; omega
  | some p => rfl
theorem RdN.len (h : RdN w s a n c hs xss) : n = xss.length := h.1
theorem RdN.le (h : RdN w s a n c hs xss) : n ≤ 9223372036854775807 := by
  have h1 := h.2.1; have h2 := h.2.2.1; unfold maxLen at h2; omega
theorem RdN.ext {w' : World} (h : RdN w s a n c hs xss) (he : Ext w w') : RdN w' s a n c hs xss := Ent.ok_ext (B := 0) (e := .rdn s a n c hs xss) h he
/-- Where this slice lies, nobody writes. -/
def RoB (Γ : List Ent) (a : Option Addr) (xs : List Int) : Prop := ∀ g, xs ≠ [] → a.map (·.block) = some g → ∀ (j : Nat) (d : Ent), Γ[j]? = some d → d.has g → d.ro g
theorem RoB.sub {xs : List Int} {l k : Int} {m' : Nat} (h : RoB Γ a xs) : RoB Γ (subA a l.toNat m' s) (slI s xs l k) := fun g hx hg =>
  h g (fun e => hx (by subst e; simp [slI])) (RdS.subBlk hg)
theorem RoB.cons {xs : List Int} {e : Ent} (h : RoB Γ a xs) (he : ∀ g, xs ≠ [] → a.map (·.block) = some g → e.has g → e.ro g) : RoB (e :: Γ) a xs := fun g hx hg j d hj hd => by
  cases j with
  | zero => simp at hj; subst hj; exact he g hx hg hd
  | succ j => exact h g hx hg j d hj hd
def RowsOk (w : World) (Γ : List Ent) (s : Nat) : List (Hd × List Int) → Prop
  | [] => True
  | r :: l => (RdS w s r.1.a r.1.n r.1.c r.2 ∧ RoB Γ r.1.a r.2) ∧ RowsOk w Γ s l
theorem RowsOk.get : ∀ {l : List (Hd × List Int)}, RowsOk w Γ s l → ∀ (i : Nat) (r : Hd × List Int), l[i]? = some r → RdS w s r.1.a r.1.n r.1.c r.2 ∧ RoB Γ r.1.a r.2
  | [], _, i, r, h => by simp at h
  | q :: l, hr, 0, r, h => by simp at h; subst h; exact hr.1
  | q :: l, hr, i + 1, r, h => RowsOk.get (l := l) hr.2 i r (by simpa using h)
/-- It is new. -/
def Ent.nw : Ent → Bool
  | .blk .. => true
  | .own .. => true
  | .nest _ _ fr _ _ _ _ => fr.isSome
  | _ => false
theorem Ent.nw_ge {B : Nat} {e : Ent} (hn : e.nw = true) (h : e.ok B w) {k : Nat} (hk : e.has k) : B ≤ k := by
  cases e with
  | blk b cs t => have hb : b = k := hk; subst hb; exact h.1
  | own t s a n c xs => exact (OwnS.lt h hk).1
  | nest t s fr a c hs xss =>
    rcases hk with hk | ⟨i, d, xs, h1, h2, h3, h4⟩
    · exact (OwnV.lt h.1 hk).1
    · obtain ⟨t', rfl⟩ := Option.isSome_iff_exists.1 hn
      exact (OwnS.lt ((h.2.1.2.1 i d xs h1 h2).2 t' rfl) h4).1
  | rd s a n c xs => cases hn
  | rb b cs t => cases hn
  | rdn s a n c hs xss => cases hn
  | hole t s t' a c hs xss m => cases hn
theorem Ent.nw_mono {B B' : Nat} {e : Ent} (hn : e.nw = true) (h : e.ok B w) (hB : B' ≤ B) : e.ok B' w := by
  cases e with
  | blk b cs t => exact ⟨Nat.le_trans hB h.1, h.2⟩
  | own t s a n c xs => exact OwnS.mono h hB
  | nest t s fr a c hs xss => exact ⟨OwnV.mono h.1 hB, ⟨h.2.1.1, fun i d xs h1 h2 => ⟨(h.2.1.2.1 i d xs h1 h2).1, fun t ht => ((h.2.1.2.1 i d xs h1 h2).2 t ht).mono hB⟩, h.2.1.2.2⟩, h.2.2⟩
  | rd s a n c xs => cases hn
  | rb b cs t => cases hn
  | rdn s a n c hs xss => cases hn
  | hole t s t' a c hs xss m => cases hn
/-- What a call has made, on top of what was known before it. -/
theorem St.comp {w' : World} {Γ' : List Ent} (h : St w0 w Γ) (h' : St w w' Γ') (hn : Γ'.all Ent.nw = true) : St w0 w' (Γ' ++ Γ) := by
  have nw : ∀ (i : Nat) (e : Ent), Γ'[i]? = some e → e.nw = true := fun i e hi => List.all_eq_true.1 hn e (List.mem_of_getElem? hi)
  have cross : ∀ (i j : Nat) (e d : Ent), Γ'[i]? = some e → Γ[j]? = some d → apt e d := fun i j e d hi hj k h1 h2 => by
    have := Ent.nw_ge (nw i e hi) (h'.ok i e hi) h1
    have := Ent.ok_lt (h.ok j d hj) h2
    omega
  have get : ∀ (j : Nat) (e : Ent), (Γ' ++ Γ)[j]? = some e → (j < Γ'.length ∧ Γ'[j]? = some e) ∨ (Γ'.length ≤ j ∧ Γ[j - Γ'.length]? = some e) := fun j e hj => by
    rcases Nat.lt_or_ge j Γ'.length with hl | hl
    · rw [List.getElem?_append_left hl] at hj; exact .inl ⟨hl, hj⟩
    · rw [List.getElem?_append_right hl] at hj; exact .inr ⟨hl, hj⟩
  refine ⟨h.ext.trans h'.ext, fun i e hi => ?_, fun i j e d hij hi hj => ?_⟩
  · rcases get i e hi with ⟨_, hi⟩ | ⟨_, hi⟩
    · exact Ent.nw_mono (nw i e hi) (h'.ok i e hi) h.ext.size
    · exact Ent.ok_ext (h.ok _ e hi) h'.ext
  · rcases get i e hi with ⟨a1, a2⟩ | ⟨a1, a2⟩ <;> rcases get j d hj with ⟨b1, b2⟩ | ⟨b1, b2⟩
    · exact h'.apart i j e d hij a2 b2
    · exact cross _ _ e d a2 b2
    · exact (cross _ _ d e b2 a2).symm
    · exact h.apart _ _ e d (by omega) a2 b2
theorem OwnV.store {B : Nat} {vs : List Value} (h : OwnV w B t a n c vs) {k : Nat} (hk : k < vs.length) (u : Value) :
    OwnV (w.setCell (adr a k) u) B t a n c (vs.set k u) ∧ w.frozen? (adr a k) = false ∧ ∃ g, a = some ⟨g, 0, none⟩ ∧ B ≤ g := by
  obtain ⟨hl, ⟨rfl, rfl, rfl⟩ | ⟨g, cur, rfl, h1, h2, h3, h4, h5, h6⟩⟩ := h.cases
  · omega
  · have hb : (w.setCell (adr (some ⟨g, 0, none⟩) k) u).heap[g]? = some (.cells (cur.setIfInBounds k u) t (0, 0)) := by
      rw [adr_lit]; simp [World.setCell, Array.getElem?_modify, h2]
    refine ⟨OwnV.mk (by simpa using hl) h1 hb h3 h4 (by simpa using h5) ?_, by rw [adr_lit]; simp [World.frozen?, h2], g, rfl, h1⟩
    rw [Array.toList_setIfInBounds, ← set_take_aux cur.toList _ (by omega), h6]
end
section
variable {P : Program} {Q : Exit → Act → World → Prop} {a : Act} {n : Nat} {L : List (Nat × Value)} {w w0 : World} {K : Act → World → Prop} {Γ : List Ent}
variable {ty : TypeId} {pos : String} {af : Array Edge} {gd : Option (Nat × Bool)} {d : Nat} {x y : Operand} {v : Value} {t : TypeId}
/-! arrays of numbers -/
end
end Go.Proofs.Ytlbonhloeefnmaa
