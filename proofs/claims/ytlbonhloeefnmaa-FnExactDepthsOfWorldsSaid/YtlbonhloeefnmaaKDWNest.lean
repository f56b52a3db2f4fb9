/- Nest: slices of slices: literals, reading, appending, storing a row. No statement about the program is made here. -/
import Derived.Test.YtlbonhloeefnmaaKDWStr
set_option linter.unusedVariables false
namespace Go.Proofs.Ytlbonhloeefnmaa
open Go.RowKit
def gL (xss : List (List Int)) (m : Int) : List Int := xss.getD m.toNat []
def sL (xss : List (List Int)) (m : Int) (xs : List Int) : List (List Int) := xss.set m.toNat xs
theorem sL_len (xss : List (List Int)) (m : Int) (xs : List Int) : (sL xss m xs).length = xss.length := by simp [sL]
def hdA (hs : List Hd) (m : Int) : Option Addr := (hs.getD m.toNat default).a
def hdC (hs : List Hd) (m : Int) : Nat := (hs.getD m.toNat default).c
theorem getD_some {α : Type} [Inhabited α] {l : List α} {k : Nat} {d : α} (h : k < l.length) : l[k]? = some (l.getD k d) := by
  rw [List.getD_eq_getElem?_getD, List.getElem?_eq_getElem h]; rfl
section
variable {w w0 : World} {Γ : List Ent} {i s : Nat} {t : TypeId} {fr : Option TypeId} {a : Option Addr} {n c : Nat} {hs : List Hd} {xss : List (List Int)} {m : Int}
theorem InN.at {B : Nat} (h : InN w B s fr hs xss) (h0 : 0 ≤ m) (h1 : m < (xss.length : Int)) : ∃ n, hs[m.toNat]? = some ⟨hdA hs m, n, hdC hs m⟩ ∧ RdS w s (hdA hs m) n (hdC hs m) (gL xss m) ∧ ∀ t, fr = some t → OwnS w B t s (hdA hs m) n (hdC hs m) (gL xss m) := by
  have hl := h.1
  have e1 : hs[m.toNat]? = some (hs.getD m.toNat default) := getD_some (by omega)
  have e2 : xss[m.toNat]? = some (gL xss m) := getD_some (by omega)
  obtain ⟨h2, h3⟩ := h.2.1 _ _ _ e1 e2
  exact ⟨_, e1, h2, h3⟩
theorem RdN.of {B : Nat} (h1 : OwnV w B t a xss.length c (hs.map Hd.v)) (h2 : InN w B s fr hs xss) : RdN w s a xss.length c hs xss := by
  obtain ⟨hl, hc⟩ := h1.cases
  refine ⟨rfl, ?_, ?_, ?_, fun k d hk => h1.cellAt (by rw [List.getElem?_map, hk]; rfl), h2.1, fun i d xs h3 h4 => ⟨(h2.2.1 i d xs h3 h4).1, fun _ h => by cases h⟩, fun h => by cases h⟩
  · rcases hc with ⟨_, h, _⟩ | ⟨_, _, _, _, _, h, _⟩ <;> omega
  · rcases hc with ⟨_, _, h⟩ | ⟨_, _, _, _, _, _, h, _⟩
    · rw [h]; exact Nat.zero_le _
    · exact h
  · rcases hc with ⟨_, h2, h3⟩ | ⟨g, cur, h4, _⟩
    · exact fun _ => ⟨h2, h3⟩
    · exact fun h => by rw [h4] at h; cases h
theorem RdN.isS (h : RdN w s a n c hs xss) (h0 : 0 ≤ m) (h1 : m < (n : Int)) : a.isSome = true := by
  cases a with
  | none => have := (h.2.2.2.1 rfl).1; omega
  | some p => rfl
theorem RdN.len (h : RdN w s a n c hs xss) : n = xss.length := h.1
theorem RdN.le (h : RdN w s a n c hs xss) : n ≤ 9223372036854775807 := by
  have h1 := h.2.1; have h2 := h.2.2.1; unfold maxLen at h2; omega
theorem RdN.ext {w' : World} (h : RdN w s a n c hs xss) (he : Ext w w') : RdN w' s a n c hs xss := Ent.ok_ext (B := 0) (e := .rdn s a n c hs xss) h he
/-- Where this slice lies, nobody writes. -/
def RoB (Γ : List Ent) (a : Option Addr) (xs : List Int) : Prop := ∀ g, xs ≠ [] → a.map (·.block) = some g → ∀ (j : Nat) (d : Ent), Γ[j]? = some d → d.has g → d.ro g
theorem RoB.sub {xs : List Int} {l k : Int} {m' : Nat} (h : RoB Γ a xs) : RoB Γ (subA a l.toNat m' s) (slI s xs l k) := fun g hx hg =>
  h g (fun e => hx (by subst e; simp [slI])) (RdS.subBlk hg)
theorem RoB.cons {xs : List Int} {e : Ent} (h : RoB Γ a xs) (he : ∀ g, xs ≠ [] → a.map (·.block) = some g → e.has g → e.ro g) : RoB (e :: Γ) a xs := fun g hx hg j d hj hd => by
  cases j with
  | zero => simp at hj; subst hj; exact he g hx hg hd
  | succ j => exact h g hx hg j d hj hd
def RowsOk (w : World) (Γ : List Ent) (s : Nat) : List (Hd × List Int) → Prop
  | [] => True
  | r :: l => (RdS w s r.1.a r.1.n r.1.c r.2 ∧ RoB Γ r.1.a r.2) ∧ RowsOk w Γ s l
theorem RowsOk.get : ∀ {l : List (Hd × List Int)}, RowsOk w Γ s l → ∀ (i : Nat) (r : Hd × List Int), l[i]? = some r → RdS w s r.1.a r.1.n r.1.c r.2 ∧ RoB Γ r.1.a r.2
  | [], _, i, r, h => by simp at h
  | q :: l, hr, 0, r, h => by simp at h; subst h; exact hr.1
  | q :: l, hr, i + 1, r, h => RowsOk.get (l := l) hr.2 i r (by simpa using h)
theorem OwnV.store {B : Nat} {vs : List Value} (h : OwnV w B t a n c vs) {k : Nat} (hk : k < vs.length) (u : Value) :
    OwnV (w.setCell (adr a k) u) B t a n c (vs.set k u) ∧ w.frozen? (adr a k) = false ∧ ∃ g, a = some ⟨g, 0, none⟩ ∧ B ≤ g := by
  obtain ⟨hl, ⟨rfl, rfl, rfl⟩ | ⟨g, cur, rfl, h1, h2, h3, h4, h5, h6⟩⟩ := h.cases
  · omega
  · have hb : (w.setCell (adr (some ⟨g, 0, none⟩) k) u).heap[g]? = some (.cells (cur.setIfInBounds k u) t (0, 0)) := by
      rw [adr_lit]; simp [World.setCell, Array.getElem?_modify, h2]
    refine ⟨OwnV.mk (by simpa using hl) h1 hb h3 h4 (by simpa using h5) ?_, by rw [adr_lit]; simp [World.frozen?, h2], g, rfl, h1⟩
    rw [Array.toList_setIfInBounds, ← set_take_aux cur.toList _ (by omega), h6]
end
section
variable {P : Program} {Q : Exit → Act → World → Prop} {a : Act} {n : Nat} {L : List (Nat × Value)} {w w0 : World} {K : Act → World → Prop} {Γ : List Ent}
variable {ty : TypeId} {pos : String} {af : Array Edge} {gd : Option (Nat × Bool)} {d : Nat} {x y : Operand} {v : Value} {t : TypeId}
/-! arrays of numbers -/
end
end Go.Proofs.Ytlbonhloeefnmaa
