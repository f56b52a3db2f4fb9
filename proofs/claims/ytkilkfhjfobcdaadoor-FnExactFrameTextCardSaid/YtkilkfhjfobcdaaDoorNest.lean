/- Nest: slices of slices: literals, reading, appending, storing a row. No statement about the program is made here. -/
import Derived.Test.YtkilkfhjfobcdaaDoorStr
set_option linter.unusedVariables false
namespace Go.Proofs.YtkilkfhjfobcdaaDoor
open Go.RowKit

def gL (xss : List (List Int)) (m : Int) : List Int := xss.getD m.toNat []
def sL (xss : List (List Int)) (m : Int) (xs : List Int) : List (List Int) := xss.set m.toNat xs
theorem sL_len (xss : List (List Int)) (m : Int) (xs : List Int) : (sL xss m xs).length = xss.length := by simp [sL]
def hdA (hs : List Hd) (m : Int) : Option Addr := (hs.getD m.toNat default).a
def hdC (hs : List Hd) (m : Int) : Nat := (hs.getD m.toNat default).c
theorem getD_some {α : Type} [Inhabited α] {l : List α} {k : Nat} {d : α} (h : k < l.length) : l[k]? = some (l.getD k d) := by
  rw [List.getD_eq_getElem?_getD, List.getElem?_eq_getElem h]; rfl
section
variable {w w0 : World} {Γ : List Ent} {i s : Nat} {t : TypeId} {fr : Option TypeId} {a : Option Addr} {n c : Nat} {hs : List Hd} {xss : List (List Int)} {m : Int}
theorem InN.at {B : Nat} (h : InN w B s fr hs xss) (h0 : 0 ≤ m) (h1 : m < (xss.length : Int)) : ∃ n, hs[m.toNat]? = some ⟨hdA hs m, n, hdC hs m⟩ ∧ RdS w s (hdA hs m) n (hdC hs m) (gL xss m) ∧ ∀ t, fr = some t → OwnS w B t s (hdA hs m) n (hdC hs m) (gL xss m) := by
  have hl := h.1
  have e1 : hs[m.toNat]? = some (hs.getD m.toNat default) := getD_some (by omega)
  have e2 : xss[m.toNat]? = some (gL xss m) := getD_some (by omega)
  obtain ⟨h2, h3⟩ := h.2.1 _ _ _ e1 e2
  exact ⟨_, e1, h2, h3⟩
theorem St.nestV (h : St w0 w Γ) (hi : Γ[i]? = some (.nest t s fr a c hs xss)) : OwnV w w0.heap.size t a xss.length c (hs.map Hd.v) := (h.ok i _ hi).1
theorem St.nestI (h : St w0 w Γ) (hi : Γ[i]? = some (.nest t s fr a c hs xss)) : InN w w0.heap.size s fr hs xss := (h.ok i _ hi).2.1
theorem St.nestF (h : St w0 w Γ) (hi : Γ[i]? = some (.nest t s fr a c hs xss)) : ∀ k, inN fr hs xss k → ¬ a.map (·.block) = some k := (h.ok i _ hi).2.2
theorem RdN.of {B : Nat} (h1 : OwnV w B t a xss.length c (hs.map Hd.v)) (h2 : InN w B s fr hs xss) : RdN w s a xss.length c hs xss := by
  obtain ⟨hl, hc⟩ := h1.cases
  refine ⟨rfl, ?_, ?_, ?_, fun k d hk => h1.cellAt (by rw [List.getElem?_map, hk]; rfl), h2.1, fun i d xs h3 h4 => ⟨(h2.2.1 i d xs h3 h4).1, fun _ h => by cases h⟩, fun h => by cases h⟩
  · rcases hc with ⟨_, h, _⟩ | ⟨_, _, _, _, _, h, _⟩ <;> omega
  · rcases hc with ⟨_, _, h⟩ | ⟨_, _, _, _, _, _, h, _⟩
    · rw [h]; exact Nat.zero_le _
    · exact h
  · rcases hc with ⟨_, h2, h3⟩ | ⟨g, cur, h4, _⟩
    · exact fun _ => ⟨h2, h3⟩
    · exact fun h => by rw [h4] at h; cases h
theorem St.rdNo (h : St w0 w Γ) (hi : Γ[i]? = some (.nest t s fr a c hs xss)) : RdN w s a xss.length c hs xss := RdN.of (h.nestV hi) (h.nestI hi)
theorem St.rdNr (h : St w0 w Γ) (hi : Γ[i]? = some (.rdn s a n c hs xss)) : RdN w s a n c hs xss := h.ok i _ hi
theorem RdN.nilN (w : World) (s : Nat) : RdN w s none 0 0 [] [] := ⟨rfl, Nat.le_refl _, Nat.zero_le _, fun _ => ⟨rfl, rfl⟩, fun k h hk => by simp at hk, rfl, fun i h xs hi => by simp at hi, fun h => by cases h⟩
theorem RdN.isS (h : RdN w s a n c hs xss) (h0 : 0 ≤ m) (h1 : m < (n : Int)) : a.isSome = true := by
  cases a with
  | none => have := (h.2.2.2.1 rfl).1; omega
  | some p => rfl
theorem RdN.len (h : RdN w s a n c hs xss) : n = xss.length := h.1
theorem RdN.le (h : RdN w s a n c hs xss) : n ≤ 9223372036854775807 := by
  have h1 := h.2.1; have h2 := h.2.2.1; unfold maxLen at h2; omega
theorem RdN.ext {w' : World} (h : RdN w s a n c hs xss) (he : Ext w w') : RdN w' s a n c hs xss := Ent.ok_ext (B := 0) (e := .rdn s a n c hs xss) h he
theorem RdN.rowD (h : RdN w s a n c hs xss) (hs0 : 0 < s) (h0 : 0 ≤ m) (h1 : m < (n : Int)) : RdS w s (hdA hs m) ((gL xss m).length / s) (hdC hs m) (gL xss m) := by
  obtain ⟨e1, _, _, _, e5, e6⟩ := h
  obtain ⟨k, e7, e8, _⟩ := e6.at h0 (by omega)
  rw [e8.lenD hs0]; exact e8
theorem RdN.row1 (h : RdN w 1 a n c hs xss) (h0 : 0 ≤ m) (h1 : m < (n : Int)) : RdS w 1 (hdA hs m) (gL xss m).length (hdC hs m) (gL xss m) := by
  have := h.rowD (by decide) h0 h1
  rwa [Nat.div_one] at this
theorem RdN.eltD (h : RdN w s a n c hs xss) (hs0 : 0 < s) (h0 : 0 ≤ m) (h1 : m < (n : Int)) : ∀ w', Ext w w' → w'.cell? (adr a m.toNat) = some (.slice (hdA hs m) ((gL xss m).length / s) (hdC hs m)) := fun w' he => by
  obtain ⟨e1, _, _, _, e5, e6⟩ := h.ext he
  obtain ⟨k, e7, e8, _⟩ := e6.at h0 (by omega)
  have := e5 _ _ e7
  rw [e8.lenD hs0]; exact this
theorem RdN.elt1 (h : RdN w 1 a n c hs xss) (h0 : 0 ≤ m) (h1 : m < (n : Int)) : ∀ w', Ext w w' → w'.cell? (adr a m.toNat) = some (.slice (hdA hs m) (gL xss m).length (hdC hs m)) := fun w' he => by
  have := h.eltD (by decide) h0 h1 w' he
  rwa [Nat.div_one] at this
/-- A row that is the call's own. -/
theorem St.rowOwn {t' : TypeId} {n' : Nat} (h : St w0 w Γ) (hi : Γ[i]? = some (.nest t s (some t') a c hs xss)) (h0 : 0 ≤ m) (h1 : m < (xss.length : Int)) (hs0 : 0 < s) (hn : (gL xss m).length / s = n') : OwnS w w0.heap.size t' s (hdA hs m) n' (hdC hs m) (gL xss m) := by
  obtain ⟨k, e7, e8, e9⟩ := (h.nestI hi).at h0 h1
  have := e9 t' rfl
  rw [← hn, e8.lenD hs0]; exact this
/-- Where this slice lies, nobody writes. -/
def RoB (Γ : List Ent) (a : Option Addr) (xs : List Int) : Prop := ∀ g, xs ≠ [] → a.map (·.block) = some g → ∀ (j : Nat) (d : Ent), Γ[j]? = some d → d.has g → d.ro g
theorem St.ro_of (h : St w0 w Γ) {e : Ent} (hi : Γ[i]? = some e) {g : Nat} (h1 : e.has g) (h2 : e.ro g) : ∀ (j : Nat) (d : Ent), Γ[j]? = some d → d.has g → d.ro g := fun j d hj hd => by
  by_cases e : i = j
  · subst e; rw [hi] at hj; cases hj; exact h2
  · exact (h.apart i j _ d e hi hj g h1 hd).2
theorem St.robR {xs : List Int} (h : St w0 w Γ) (hi : Γ[i]? = some (.rd s a n c xs)) : RoB Γ a xs := fun g hx hg => h.ro_of hi ⟨hx, hg⟩ trivial
theorem robNil (Γ : List Ent) (xs : List Int) : RoB Γ none xs := fun g _ hg => by cases hg
theorem robNil' (Γ : List Ent) (a : Option Addr) : RoB Γ a [] := fun g h _ => absurd rfl h
theorem inN_at {k : Nat} {B : Nat} (hI : InN w B s fr hs xss) (h0 : 0 ≤ m) (h1 : m < (xss.length : Int)) (hne : gL xss m ≠ []) (hk : (hdA hs m).map (·.block) = some k) : inN fr hs xss k := by
  obtain ⟨n, e1, _⟩ := hI.at h0 h1
  exact ⟨m.toNat, _, _, e1, getD_some (by omega), .inl hne, hk⟩
theorem St.robN (h : St w0 w Γ) (hi : Γ[i]? = some (.rdn s a n c hs xss)) (h0 : 0 ≤ m) (h1 : m < (n : Int)) : RoB Γ (hdA hs m) (gL xss m) := fun g hx hg => by
  have hR := h.rdNr hi
  have hn := hR.1
  exact h.ro_of hi (.inr (inN_at hR.2.2.2.2.2 h0 (by omega) hx hg)) trivial
theorem St.robO (h : St w0 w Γ) (hi : Γ[i]? = some (.nest t s none a c hs xss)) (h0 : 0 ≤ m) (h1 : m < (xss.length : Int)) : RoB Γ (hdA hs m) (gL xss m) := fun g hx hg => by
  have hin := inN_at (h.nestI hi) h0 h1 hx hg
  exact h.ro_of hi (.inr hin) ⟨rfl, h.nestF hi g hin⟩
theorem RoB.sub {xs : List Int} {l k : Int} {m' : Nat} (h : RoB Γ a xs) : RoB Γ (subA a l.toNat m' s) (slI s xs l k) := fun g hx hg =>
  h g (fun e => hx (by subst e; simp [slI])) (RdS.subBlk hg)
theorem RoB.cons {xs : List Int} {e : Ent} (h : RoB Γ a xs) (he : ∀ g, xs ≠ [] → a.map (·.block) = some g → e.has g → e.ro g) : RoB (e :: Γ) a xs := fun g hx hg j d hj hd => by
  cases j with
  | zero => simp at hj; subst hj; exact he g hx hg hd
  | succ j => exact h g hx hg j d hj hd
def RowsOk (w : World) (Γ : List Ent) (s : Nat) : List (Hd × List Int) → Prop
  | [] => True
  | r :: l => (RdS w s r.1.a r.1.n r.1.c r.2 ∧ RoB Γ r.1.a r.2) ∧ RowsOk w Γ s l
theorem RowsOk.get : ∀ {l : List (Hd × List Int)}, RowsOk w Γ s l → ∀ (i : Nat) (r : Hd × List Int), l[i]? = some r → RdS w s r.1.a r.1.n r.1.c r.2 ∧ RoB Γ r.1.a r.2
  | [], _, i, r, h => by simp at h
  | q :: l, hr, 0, r, h => by simp at h; subst h; exact hr.1
  | q :: l, hr, i + 1, r, h => RowsOk.get (l := l) hr.2 i r (by simpa using h)
/-- The call's own slice is only read from here on. -/
theorem St.freeze {s : Nat} {xs : List Int} (h : St w0 w Γ) (hi : Γ[i]? = some (.own t s a n c xs)) : St w0 w (Γ.set i (.rd s a n c xs)) := by
  have hil : i < Γ.length := by
    rcases Nat.lt_or_ge i Γ.length with h' | h'
    · exact h'
    · rw [List.getElem?_eq_none h'] at hi; cases hi
  have get : ∀ (j : Nat) (d : Ent), (Γ.set i (.rd s a n c xs))[j]? = some d → (j = i ∧ d = .rd s a n c xs) ∨ (j ≠ i ∧ Γ[j]? = some d) := fun j d hj => by
    rw [List.getElem?_set] at hj
    by_cases e : i = j
    · subst e; simp [hil] at hj; exact .inl ⟨rfl, hj.symm⟩
    · simp [e] at hj; exact .inr ⟨fun h => e h.symm, hj⟩
  have none : ∀ (j : Nat) (d : Ent), j ≠ i → Γ[j]? = some d → apt (.rd s a n c xs) d := fun j d hj hd k h1 h2 => by
    exact absurd (h.apart i j _ d (Ne.symm hj) hi hd k h1.2 h2).1 (fun h => h)
  refine ⟨h.ext, fun j d hj => ?_, fun j k d d' hjk hj hk => ?_⟩
  · rcases get j d hj with ⟨rfl, rfl⟩ | ⟨_, hd⟩
    · exact OwnS.rd (h.ok j _ hi)
    · exact h.ok j d hd
  · rcases get j d hj with ⟨rfl, rfl⟩ | ⟨hne, hd⟩
    · rcases get k d' hk with ⟨rfl, rfl⟩ | ⟨hne', hd'⟩
      · exact absurd rfl hjk
      · exact none k d' hne' hd'
    · rcases get k d' hk with ⟨rfl, rfl⟩ | ⟨hne', hd'⟩
      · exact (none j d hne hd).symm
      · exact h.apart j k d d' hjk hd hd'
/-- An entry is put on top: its blocks are new, or nobody writes them. -/
theorem St.pushN {w' : World} (h : St w0 w Γ) (he : Ext w w') {e : Ent} (ho : e.ok w0.heap.size w') (hf : ∀ k, e.has k → w.heap.size ≤ k ∨ (e.ro k ∧ ∀ (j : Nat) (d : Ent), Γ[j]? = some d → d.has k → d.ro k)) : St w0 w' (e :: Γ) := by
  have one : ∀ (j : Nat) (d : Ent), Γ[j]? = some d → apt e d := fun j d hj k h1 h2 => by
    have := Ent.ok_lt (h.ok j d hj) h2
    rcases hf k h1 with h3 | ⟨h3, h4⟩
    · omega
    · exact ⟨h3, h4 j d hj h2⟩
  refine ⟨h.ext.trans he, fun i e' hi => ?_, fun i j e1 e2 hij hi hj => ?_⟩
  · cases i with
    | zero => simp at hi; subst hi; exact ho
    | succ i => exact Ent.ok_ext (h.ok i e' hi) he
  · cases i with
    | zero =>
      simp at hi; subst hi
      cases j with
      | zero => exact absurd rfl hij
      | succ j => exact one j e2 hj
    | succ i =>
      cases j with
      | zero => simp at hj; subst hj; exact (one i e1 hi).symm
      | succ j => exact h.apart i j e1 e2 (by omega) hi hj
/-- The piece on top becomes another one. -/
theorem St.turn {w' : World} {e1 e' : Ent} (h : St w0 w (e1 :: Γ)) (he : Ext w w') (ho : e'.ok w0.heap.size w') (hf : ∀ g, e'.has g → w.heap.size ≤ g ∨ (e1.has g ∧ (e1.ro g → e'.ro g))) : St w0 w' (e' :: Γ) := by
  have one : ∀ (j : Nat) (d : Ent), Γ[j]? = some d → apt e' d := fun j d hj k h1 h2 => by
    have hlt := Ent.ok_lt (h.ok (j + 1) d hj) h2
    rcases hf k h1 with h3 | ⟨h3, h4⟩
    · omega
    · have := h.apart 0 (j + 1) e1 d (by omega) rfl hj k h3 h2
      exact ⟨h4 this.1, this.2⟩
  refine ⟨h.ext.trans he, fun i e hi => ?_, fun i j d d' hij hi hj => ?_⟩
  · cases i with
    | zero => simp at hi; subst hi; exact ho
    | succ i => exact Ent.ok_ext (h.ok (i + 1) e hi) he
  · cases i with
    | zero =>
      simp at hi; subst hi
      cases j with
      | zero => exact absurd rfl hij
      | succ j => exact one j d' hj
    | succ i =>
      cases j with
      | zero => simp at hj; subst hj; exact (one i d hi).symm
      | succ j => exact h.apart (i + 1) (j + 1) d d' (by omega) hi hj
/-- The piece on top goes into another one. -/
theorem St.merge {w' : World} {k : Nat} {e1 e2 e' : Ent} (h : St w0 w (e1 :: Γ)) (hk : Γ[k]? = some e2) (hx : Ext w0 w') (hw : ∀ g, g < w.heap.size → (e2.has g ∧ ¬ e2.ro g) ∨ w'.heap[g]? = w.heap[g]?) (ho : e'.ok w0.heap.size w')
    (hf : ∀ g, e'.has g → w.heap.size ≤ g ∨ (e1.has g ∧ (e1.ro g → e'.ro g)) ∨ (e2.has g ∧ (e2.ro g → e'.ro g))) : St w0 w' (Γ.set k e') := by
  have hkl : k < Γ.length := by
    rcases Nat.lt_or_ge k Γ.length with h | h
    · exact h
    · rw [List.getElem?_eq_none h] at hk; cases hk
  have hk1 : (e1 :: Γ)[k + 1]? = some e2 := hk
  have get : ∀ (j : Nat) (q : Ent), (Γ.set k e')[j]? = some q → (j = k ∧ q = e') ∨ (j ≠ k ∧ Γ[j]? = some q) := fun j q hj => by
    rw [List.getElem?_set] at hj
    by_cases e : k = j
    · subst e; simp [hkl] at hj; exact .inl ⟨rfl, hj.symm⟩
    · simp [e] at hj; exact .inr ⟨fun h => e h.symm, hj⟩
  have one : ∀ (j : Nat) (q : Ent), j ≠ k → Γ[j]? = some q → apt e' q := fun j q hj hq g hg hqg => by
    have hlt := Ent.ok_lt (h.ok (j + 1) q hq) hqg
    rcases hf g hg with h3 | ⟨h3, h4⟩ | ⟨h3, h4⟩
    · omega
    · have := h.apart 0 (j + 1) e1 q (by omega) rfl hq g h3 hqg
      exact ⟨h4 this.1, this.2⟩
    · have := h.apart (k + 1) (j + 1) e2 q (by omega) hk1 hq g h3 hqg
      exact ⟨h4 this.1, this.2⟩
  refine ⟨hx, fun j q hj => ?_, fun j j' q q' hjj hj hj' => ?_⟩
  · rcases get j q hj with ⟨rfl, rfl⟩ | ⟨hne, hq⟩
    · exact ho
    · refine Ent.ok_same (h.ok (j + 1) q hq) fun g hg => ?_
      rcases hw g (Ent.ok_lt (h.ok (j + 1) q hq) hg) with ⟨h3, h4⟩ | h3
      · exact absurd (h.apart (k + 1) (j + 1) e2 q (by omega) hk1 hq g h3 hg).1 h4
      · exact h3
  · rcases get j q hj with ⟨rfl, rfl⟩ | ⟨hne, hq⟩
    · rcases get j' q' hj' with ⟨rfl, rfl⟩ | ⟨hne', hq'⟩
      · exact absurd rfl hjj
      · exact one j' q' hne' hq'
    · rcases get j' q' hj' with ⟨rfl, rfl⟩ | ⟨hne', hq'⟩
      · exact (one j q hne hq).symm
      · exact h.apart (j + 1) (j' + 1) q q' (by omega) hq hq'
theorem St.rdn0 {b : Option Addr} {m c : Nat} (h : St w w Γ) (hΓ : Γ.all Ent.im = true) (hr : RdN w s b m c hs xss) : St w w (.rdn s b m c hs xss :: Γ) := h.im0 hΓ rfl hr
theorem InN.nilI (w : World) (B s : Nat) (fr : Option TypeId) : InN w B s fr [] [] := ⟨rfl, fun i h xs hi => by simp at hi, fun _ i j h h' _ hi => by simp at hi⟩
theorem St.nilsN (h : St w0 w Γ) (t : TypeId) (s : Nat) (fr : Option TypeId) : St w0 w (.nest t s fr none 0 [] [] :: Γ) :=
  h.pushN (Ext.refl w) (e := .nest t s fr none 0 [] []) ⟨OwnV.nilV _ _ _, InN.nilI _ _ _ _, fun k ⟨i, d, xs, hi, _⟩ => by simp at hi⟩ fun k hk => by
    rcases hk with hk | ⟨i, d, xs, hi, _⟩
    · cases hk
    · simp at hi
/-- A slice of slices that a call returns: all of it new. -/
def OwnN (w : World) (B : Nat) (t : TypeId) (s : Nat) (t' : TypeId) (a : Option Addr) (c : Nat) (hs : List Hd) (xss : List (List Int)) : Prop := Ent.ok B w (.nest t s (some t') a c hs xss)
theorem St.okN {t' : TypeId} (h : St w0 w Γ) (hi : Γ[i]? = some (.nest t s (some t') a c hs xss)) : OwnN w w0.heap.size t s t' a c hs xss := h.ok i _ hi
theorem St.ownN {w' : World} {t' : TypeId} (h : St w0 w Γ) (he : Ext w w') (ho : OwnN w' w.heap.size t s t' a c hs xss) : St w0 w' (.nest t s (some t') a c hs xss :: Γ) := by
  refine h.pushN he (e := .nest t s (some t') a c hs xss) ⟨OwnV.mono ho.1 h.ext.size, ⟨ho.2.1.1, fun i d xs h1 h2 => ⟨(ho.2.1.2.1 i d xs h1 h2).1, fun t ht => ((ho.2.1.2.1 i d xs h1 h2).2 t ht).mono h.ext.size⟩, ho.2.1.2.2⟩, ho.2.2⟩ fun k hk => .inl ?_
  rcases hk with hk | ⟨i, d, xs, h1, h2, h3, h4⟩
  · exact (OwnV.lt ho.1 hk).1
  · exact (OwnS.lt ((ho.2.1.2.1 i d xs h1 h2).2 t' rfl) h4).1
/-- It is new. -/
def Ent.nw : Ent → Bool
  | .bld .. => true
  | .blk .. => true
  | .own .. => true
  | .nest _ _ fr _ _ _ _ => fr.isSome
  | _ => false
theorem Ent.nw_ge {B : Nat} {e : Ent} (hn : e.nw = true) (h : e.ok B w) {k : Nat} (hk : e.has k) : B ≤ k := by
  cases e with
  | bld b t tb v xs => exact (BldOk.lt h hk).1
  | blk b cs t => have hb : b = k := hk; subst hb; exact h.1
  | own t s a n c xs => exact (OwnS.lt h hk).1
  | nest t s fr a c hs xss =>
    rcases hk with hk | ⟨i, d, xs, h1, h2, h3, h4⟩
    · exact (OwnV.lt h.1 hk).1
    · obtain ⟨t', rfl⟩ := Option.isSome_iff_exists.1 hn
      exact (OwnS.lt ((h.2.1.2.1 i d xs h1 h2).2 t' rfl) h4).1
  | rd s a n c xs => cases hn
  | rb b cs t => cases hn
  | rdn s a n c hs xss => cases hn
  | hole t s t' a c hs xss m => cases hn
theorem Ent.nw_mono {B B' : Nat} {e : Ent} (hn : e.nw = true) (h : e.ok B w) (hB : B' ≤ B) : e.ok B' w := by
  cases e with
  | bld b t tb v xs => exact BldOk.mono h hB
  | blk b cs t => exact ⟨Nat.le_trans hB h.1, h.2⟩
  | own t s a n c xs => exact OwnS.mono h hB
  | nest t s fr a c hs xss => exact ⟨OwnV.mono h.1 hB, ⟨h.2.1.1, fun i d xs h1 h2 => ⟨(h.2.1.2.1 i d xs h1 h2).1, fun t ht => ((h.2.1.2.1 i d xs h1 h2).2 t ht).mono hB⟩, h.2.1.2.2⟩, h.2.2⟩
  | rd s a n c xs => cases hn
  | rb b cs t => cases hn
  | rdn s a n c hs xss => cases hn
  | hole t s t' a c hs xss m => cases hn
/-- What a call has made, on top of what was known before it. -/
theorem St.comp {w' : World} {Γ' : List Ent} (h : St w0 w Γ) (h' : St w w' Γ') (hn : Γ'.all Ent.nw = true) : St w0 w' (Γ' ++ Γ) := by
  have nw : ∀ (i : Nat) (e : Ent), Γ'[i]? = some e → e.nw = true := fun i e hi => List.all_eq_true.1 hn e (List.mem_of_getElem? hi)
  have cross : ∀ (i j : Nat) (e d : Ent), Γ'[i]? = some e → Γ[j]? = some d → apt e d := fun i j e d hi hj k h1 h2 => by
    have := Ent.nw_ge (nw i e hi) (h'.ok i e hi) h1
    have := Ent.ok_lt (h.ok j d hj) h2
    omega
  have get : ∀ (j : Nat) (e : Ent), (Γ' ++ Γ)[j]? = some e → (j < Γ'.length ∧ Γ'[j]? = some e) ∨ (Γ'.length ≤ j ∧ Γ[j - Γ'.length]? = some e) := fun j e hj => by
    rcases Nat.lt_or_ge j Γ'.length with hl | hl
    · rw [List.getElem?_append_left hl] at hj; exact .inl ⟨hl, hj⟩
    · rw [List.getElem?_append_right hl] at hj; exact .inr ⟨hl, hj⟩
  refine ⟨h.ext.trans h'.ext, fun i e hi => ?_, fun i j e d hij hi hj => ?_⟩
  · rcases get i e hi with ⟨_, hi⟩ | ⟨_, hi⟩
    · exact Ent.nw_mono (nw i e hi) (h'.ok i e hi) h.ext.size
    · exact Ent.ok_ext (h.ok _ e hi) h'.ext
  · rcases get i e hi with ⟨a1, a2⟩ | ⟨a1, a2⟩ <;> rcases get j d hj with ⟨b1, b2⟩ | ⟨b1, b2⟩
    · exact h'.apart i j e d hij a2 b2
    · exact cross _ _ e d a2 b2
    · exact (cross _ _ d e b2 a2).symm
    · exact h.apart _ _ e d (by omega) a2 b2
/-- A row of slices of the call's own is lent. -/
theorem St.borrow {t' : TypeId} {n' : Nat} (h : St w0 w (.nest t s (some t') a c hs xss :: Γ)) (h0 : 0 ≤ m) (h1 : m < (xss.length : Int)) (hs0 : 0 < s) (hn : (gL xss m).length / s = n') : St w0 w (.own t' s (hdA hs m) n' (hdC hs m) (gL xss m) :: .hole t s t' a c hs xss m.toNat :: Γ) := by
  have hI := h.nestI (i := 0) rfl
  have hF := h.nestF (i := 0) rfl
  have hrow := h.rowOwn (i := 0) rfl h0 h1 hs0 hn
  obtain ⟨q, e7, e8, _⟩ := hI.at h0 h1
  have hl := hI.1
  have e2 : xss[m.toNat]? = some (gL xss m) := getD_some (by omega)
  have all : ∀ (i : Nat) (d : Hd), hs[i]? = some d → ∃ xs, xss[i]? = some xs := fun i d hi => by
    have : i < hs.length := by
      rcases Nat.lt_or_ge i hs.length with h | h
      · exact h
      · rw [List.getElem?_eq_none h] at hi; cases hi
    exact ⟨_, List.getElem?_eq_getElem (by omega)⟩
  have hH : Ent.ok w0.heap.size w (.hole t s t' a c hs xss m.toNat) := ⟨h.nestV (i := 0) rfl, ⟨hl, fun i d xs _ q1 q2 => (hI.2.1 i d xs q1 q2).2 t' rfl, hI.2.2 rfl⟩, fun i d hi k hk => by
    obtain ⟨xs, hx⟩ := all i d hi
    exact hF k ⟨i, d, xs, hi, hx, .inr rfl, hk⟩⟩
  have hasRow : ∀ k, (hdA hs m).map (·.block) = some k → (Ent.nest t s (some t') a c hs xss).has k := fun k hk => .inr ⟨m.toNat, _, _, e7, e2, .inr rfl, hk⟩
  have hasH : ∀ k, (Ent.hole t s t' a c hs xss m.toNat).has k → (Ent.nest t s (some t') a c hs xss).has k := fun k hk => by
    rcases hk with hk | ⟨i, d, xs, _, q1, q2, q3⟩
    · exact .inl hk
    · exact .inr ⟨i, d, xs, q1, q2, .inr rfl, q3⟩
  have sep : apt (.own t' s (hdA hs m) n' (hdC hs m) (gL xss m)) (.hole t s t' a c hs xss m.toNat) := fun k hk1 hk2 => by
    exfalso
    rcases hk2 with hk2 | ⟨i, d, xs, hi, q1, q2, q3⟩
    · exact hF k ⟨m.toNat, _, _, e7, e2, .inr rfl, hk1⟩ hk2
    · exact hI.2.2 rfl i m.toNat d _ hi q1 e7 k q3 hk1
  have off : ∀ (e : Ent), (∀ k, e.has k → (Ent.nest t s (some t') a c hs xss).has k) → ∀ (j : Nat) (d : Ent), Γ[j]? = some d → apt e d := fun e he j d hj k h1 h2 => by
    have := (h.apart 0 (j + 1) _ d (by omega) rfl hj k (he k h1) h2).1
    exact absurd this.1 (by simp)
  refine ⟨h.ext, fun i e hi => ?_, fun i j e d hij hi hj => ?_⟩
  · rcases i with _ | _ | i
    · simp at hi; subst hi; exact hrow
    · simp at hi; subst hi; exact hH
    · exact h.ok (i + 1) e hi
  · rcases i with _ | _ | i <;> rcases j with _ | _ | j
    · exact absurd rfl hij
    · simp at hi hj; subst hi; subst hj; exact sep
    · simp at hi; subst hi; exact off (.own t' s (hdA hs m) n' (hdC hs m) (gL xss m)) (fun k hk => hasRow k hk) j d hj
    · simp at hi hj; subst hi; subst hj; exact sep.symm
    · exact absurd rfl hij
    · simp at hi; subst hi; exact off _ hasH j d hj
    · simp at hj; subst hj; exact (off (.own t' s (hdA hs m) n' (hdC hs m) (gL xss m)) (fun k hk => hasRow k hk) i e hi).symm
    · simp at hj; subst hj; exact (off _ hasH i e hi).symm
    · exact h.apart (i + 1) (j + 1) e d (by omega) hi hj
/-- .. and given back. -/
theorem St.giveback {t' : TypeId} {n' : Nat} {xs : List Int} (h : St w0 w (.own t' s (hdA hs m) n' (hdC hs m) xs :: .hole t s t' a c hs xss m.toNat :: Γ)) (h0 : 0 ≤ m) (h1 : m < (xss.length : Int)) (hs0 : 0 < s) (hn : (gL xss m).length / s = n') (hq : ∃ w2, InN w2 w0.heap.size s (some t') hs xss) : St w0 w (.nest t s (some t') a c hs (sL xss m xs) :: Γ) := by
  have hO : OwnS w w0.heap.size t' s (hdA hs m) n' (hdC hs m) xs := h.ok 0 _ rfl
  have hH : Ent.ok w0.heap.size w (.hole t s t' a c hs xss m.toNat) := h.ok 1 _ rfl
  obtain ⟨hV, ⟨hl, hrow, hpw⟩, hout⟩ := hH
  obtain ⟨w2, hI2⟩ := hq
  obtain ⟨q, e7, e8, _⟩ := hI2.at h0 h1
  have hqn : q = n' := by rw [← hn]; exact (e8.lenD hs0).symm
  subst hqn
  have rows : ∀ (i : Nat) (d : Hd) (ys : List Int), hs[i]? = some d → (sL xss m xs)[i]? = some ys → (i = m.toNat ∧ d = ⟨hdA hs m, q, hdC hs m⟩ ∧ ys = xs) ∨ (i ≠ m.toNat ∧ xss[i]? = some ys) := fun i d ys h1 h2 => by
    unfold sL at h2
    rw [List.getElem?_set] at h2
    by_cases hi : m.toNat = i
    · subst hi
      rw [if_pos rfl, if_pos (by omega)] at h2
      rw [e7] at h1
      cases h1; cases h2
      exact .inl ⟨rfl, rfl, rfl⟩
    · rw [if_neg hi] at h2
      exact .inr ⟨fun e => hi e.symm, h2⟩
  have own : ∀ (i : Nat) (d : Hd) (ys : List Int), hs[i]? = some d → (sL xss m xs)[i]? = some ys → OwnS w w0.heap.size t' s d.a d.n d.c ys := fun i d ys h1 h2 => by
    rcases rows i d ys h1 h2 with ⟨_, rfl, rfl⟩ | ⟨a1, a2⟩
    · exact hO
    · exact hrow i d ys a1 h1 a2
  have hN : Ent.ok w0.heap.size w (.nest t s (some t') a c hs (sL xss m xs)) := ⟨by rw [sL_len]; exact hV, ⟨by rw [sL_len]; exact hl, fun i d ys h1 h2 => ⟨(own i d ys h1 h2).rd, fun t ht => by cases ht; exact own i d ys h1 h2⟩, fun _ => hpw⟩, fun k ⟨i, d, ys, h1, h2, _, h4⟩ => hout i d h1 k h4⟩
  refine ⟨h.ext, fun i e hi => ?_, fun i j e d hij hi hj => ?_⟩
  · cases i with
    | zero => simp at hi; subst hi; exact hN
    | succ i => exact h.ok (i + 2) e hi
  · have off : ∀ (j : Nat) (d : Ent), Γ[j]? = some d → apt (.nest t s (some t') a c hs (sL xss m xs)) d := fun j2 d2 hj2 k h1 h2 => by
      exfalso
      have A0 := h.apart 0 (j2 + 2) _ d2 (by omega) rfl hj2 k
      have A1 := h.apart 1 (j2 + 2) _ d2 (by omega) rfl hj2 k
      rcases h1 with h1 | ⟨i, d', ys, q1, q2, _, q4⟩
      · exact (A1 (.inl h1) h2).1
      · rcases rows i d' ys q1 q2 with ⟨_, e1, e2⟩ | ⟨a1, a2⟩
        · exact (A0 (by rw [e1] at q4; exact q4) h2).1
        · exact (A1 (.inr ⟨i, d', ys, a1, q1, a2, q4⟩) h2).1
    cases i with
    | zero =>
      simp at hi; subst hi
      cases j with
      | zero => exact absurd rfl hij
      | succ j => exact off j d hj
    | succ i =>
      cases j with
      | zero => simp at hj; subst hj; exact (off i e hi).symm
      | succ j => exact h.apart (i + 2) (j + 2) e d (by omega) hi hj
theorem OwnV.store {B : Nat} {vs : List Value} (h : OwnV w B t a n c vs) {k : Nat} (hk : k < vs.length) (u : Value) :
    OwnV (w.setCell (adr a k) u) B t a n c (vs.set k u) ∧ w.frozen? (adr a k) = false ∧ ∃ g, a = some ⟨g, 0, none⟩ ∧ B ≤ g := by
  obtain ⟨hl, ⟨rfl, rfl, rfl⟩ | ⟨g, cur, rfl, h1, h2, h3, h4, h5, h6⟩⟩ := h.cases
  · omega
  · have hb : (w.setCell (adr (some ⟨g, 0, none⟩) k) u).heap[g]? = some (.cells (cur.setIfInBounds k u) t (0, 0)) := by
      rw [adr_lit]; simp [World.setCell, Array.getElem?_modify, h2]
    refine ⟨OwnV.mk (by simpa using hl) h1 hb h3 h4 (by simpa using h5) ?_, by rw [adr_lit]; simp [World.frozen?, h2], g, rfl, h1⟩
    rw [Array.toList_setIfInBounds, ← set_take_aux cur.toList _ (by omega), h6]
end
section
variable {P : Program} {Q : Exit → Act → World → Prop} {a : Act} {n : Nat} {L : List (Nat × Value)} {w w0 : World} {K : Act → World → Prop} {Γ : List Ent}
variable {ty : TypeId} {pos : String} {af : Array Edge} {gd : Option (Nat × Bool)} {d : Nat} {x y : Operand} {v : Value} {t : TypeId}
/-- A literal of slices that are only read. -/
theorem l_litN {parts : List (Nat × Operand)} {rows : List (Hd × List Int)} {vs : List Value} {hs : List Hd} {xss : List (List Int)} {l e s : Nat} (hS : St w0 w Γ) (hE : E a n L) (hp : evs L (parts.map (·.2)) = some vs)
    (hv : rows.map (fun r => r.1.v) = vs) (hhs : rows.map (·.1) = hs) (hxs : rows.map (·.2) = xss)
    (hr : ∀ w : World, (Instr.buildSlice t l ((parts.map (·.1)).zip vs).toArray).run P w = .ok (.slice (some ⟨w.heap.size, 0, none⟩) l l) (w.alloc (.cells vs.toArray e))) (hrow : RowsOk w Γ s rows) (hl : rows.length = l) (hm : Nat.ble l 1000 = true) (hn : Nat.blt d n = true)
    (hK : ∀ b w', St w0 w' (.nest e s none (some ⟨b, 0, none⟩) l hs xss :: Γ) → Ext w w' → ∀ a', E a' n ((d, .slice (some ⟨b, 0, none⟩) l l) :: L) → K a' w') : Oper.wp P ⟨some d, .buildSlice t l parts.toArray, ty, pos, af, gd⟩ a w K Q := by
  have hext : Ext w (w.alloc (.cells vs.toArray e)) := (Ext.refl w).alloc _
  subst hv; subst hhs; subst hxs; subst hl
  have hm' : rows.length ≤ 1000 := by simpa using hm
  refine l_val hE rfl hn (v := .slice (some ⟨w.heap.size, 0, none⟩) rows.length rows.length) (w' := w.alloc (.cells (rows.map (fun r => r.1.v)).toArray e)) ?_ (hK w.heap.size _ ?_ hext)
  · have h1 := partsOf hE hp
    simp only [execOp, List.map_toArray]
    rw [show (fun (p : Nat × Operand) => match p with | (i, x) => (i, a.eval x)) = fun p => (p.1, a.eval p.2) from rfl, h1]
    simp [hr]
  · have both : ∀ (i : Nat) (h : Hd) (xs : List Int), (rows.map (·.1))[i]? = some h → (rows.map (·.2))[i]? = some xs → RdS w s h.a h.n h.c xs ∧ RoB Γ h.a xs := fun i h xs h1 h2 => by
      rw [List.getElem?_map] at h1 h2
      cases hq : rows[i]? with
      | none => rw [hq] at h1; simp at h1
      | some r =>
        rw [hq] at h1 h2
        simp at h1 h2
        subst h1; subst h2
        exact RowsOk.get hrow i r hq
    refine hS.pushN hext (e := .nest e s none (some ⟨w.heap.size, 0, none⟩) rows.length (rows.map (·.1)) (rows.map (·.2))) ⟨OwnV.mk (cur := (rows.map (fun r => r.1.v)).toArray) (by simp) hS.ext.size (heap_alloc_at _ _) (by simp) (by unfold maxLen; omega) (by simp) (by rw [List.toList_toArray, List.take_of_length_le (by simp)]; simp [Function.comp_def]), ⟨by simp, fun i h xs h1 h2 => ⟨(both i h xs h1 h2).1.ext hext, fun _ h => by cases h⟩, fun h => by cases h⟩, fun k ⟨i, h, xs, h1, h2, h3, h4⟩ => ?_⟩ fun k hk => ?_
    · have h3 : xs ≠ [] := h3.resolve_right (by simp)
      have := RdS.lt (both i h xs h1 h2).1 h3 h4
      intro h; simp at h; omega
    · rcases hk with hk | ⟨i, h, xs, h1, h2, h3, h4⟩
      · left; simp at hk; omega
      · right
        have h3 : xs ≠ [] := h3.resolve_right (by simp)
        have hlt := RdS.lt (both i h xs h1 h2).1 h3 h4
        exact ⟨⟨rfl, fun h => by simp at h; omega⟩, (both i h xs h1 h2).2 k h3 h4⟩
/-- '[][]T{x}', x the call's own, used up. -/
theorem l_litO1 {e t' : TypeId} {s : Nat} {p : Option Addr} {m c : Nat} {xs : List Int} (hS : St w0 w (.own t' s p m c xs :: Γ)) (hE : E a n L) (hx : ev L x = some (.slice p m c))
    (hr : ∀ w : World, (Instr.buildSlice t 1 #[(0, .slice p m c)]).run P w = .ok (.slice (some ⟨w.heap.size, 0, none⟩) 1 1) (w.alloc (.cells #[.slice p m c] e))) (hn : Nat.blt d n = true)
    (hK : ∀ b w', St w0 w' (.nest e s (some t') (some ⟨b, 0, none⟩) 1 [⟨p, m, c⟩] [xs] :: Γ) → Ext w w' → ∀ a', E a' n ((d, .slice (some ⟨b, 0, none⟩) 1 1) :: L) → K a' w') : Oper.wp P ⟨some d, .buildSlice t 1 #[(0, x)], ty, pos, af, gd⟩ a w K Q := by
  have hx' := hE.eval hx
  have hext : Ext w (w.alloc (.cells #[.slice p m c] e)) := (Ext.refl w).alloc _
  refine l_val hE rfl hn (v := .slice (some ⟨w.heap.size, 0, none⟩) 1 1) (w' := w.alloc (.cells #[.slice p m c] e)) (by simp [execOp, hx', hr]) (hK w.heap.size _ ?_ hext)
  have ho : OwnS w w0.heap.size t' s p m c xs := hS.ok 0 _ rfl
  have inner : ∀ (i : Nat) (h : Hd) (ys : List Int), [(⟨p, m, c⟩ : Hd)][i]? = some h → [xs][i]? = some ys → h = ⟨p, m, c⟩ ∧ ys = xs := fun i h ys h1 h2 => by
    cases i with
    | zero => simp at h1 h2; exact ⟨h1.symm, h2.symm⟩
    | succ i => simp at h1
  have hin : ∀ k, inN (some t') [⟨p, m, c⟩] [xs] k → p.map (·.block) = some k := fun k ⟨i, h, ys, h1, h2, h3, h4⟩ => by
    obtain ⟨rfl, rfl⟩ := inner i h ys h1 h2
    exact h4
  refine hS.turn hext (e' := .nest e s (some t') (some ⟨w.heap.size, 0, none⟩) 1 [⟨p, m, c⟩] [xs]) ⟨OwnV.mk (cur := #[.slice p m c]) rfl hS.ext.size (heap_alloc_at _ _) (Nat.le_refl _) (by decide) rfl rfl, ⟨rfl, fun i h ys h1 h2 => ?_, fun _ i j h h' hij h1 h2 => ?_⟩, fun k hk => ?_⟩ fun k hk => ?_
  · obtain ⟨rfl, rfl⟩ := inner i h ys h1 h2
    refine ⟨(OwnS.rd ho).ext hext, fun t ht => ?_⟩
    cases ht; exact ho.ext hext
  · exfalso
    rcases i with _ | i
    · rcases j with _ | j
      · exact hij rfl
      · simp at h2
    · simp at h1
  · have h1 := (OwnS.lt ho (hin k hk)).2
    intro h; simp at h; omega
  · rcases hk with hk | hk
    · left; simp at hk; omega
    · right; exact ⟨hin k hk, fun h => h.elim⟩
theorem hdV_one (hs : List Hd) : ∀ u ∈ hs.map Hd.v, u.oneCell' = true := fun u hu => by
  obtain ⟨h, _, rfl⟩ := List.mem_map.1 hu
  rfl
/-- '[][]T{}' that will take rows of the call's own. -/
theorem l_lit0N {e t' : TypeId} {s : Nat} (hS : St w0 w Γ) (hE : E a n L)
    (hr : ∀ w : World, (Instr.buildSlice t 0 #[]).run P w = .ok (.slice (some ⟨w.heap.size, 0, none⟩) 0 0) (w.alloc (.cells #[] e))) (hn : Nat.blt d n = true)
    (hK : ∀ b w', St w0 w' (.nest e s (some t') (some ⟨b, 0, none⟩) 0 [] [] :: Γ) → Ext w w' → ∀ a', E a' n ((d, .slice (some ⟨b, 0, none⟩) 0 0) :: L) → K a' w') : Oper.wp P ⟨some d, .buildSlice t 0 #[], ty, pos, af, gd⟩ a w K Q := by
  have hext : Ext w (w.alloc (.cells #[] e)) := (Ext.refl w).alloc _
  refine l_val hE rfl hn (v := .slice (some ⟨w.heap.size, 0, none⟩) 0 0) (w' := w.alloc (.cells #[] e)) (by simp [execOp, hr]) (hK w.heap.size _ ?_ hext)
  refine hS.pushN hext (e := .nest e s (some t') (some ⟨w.heap.size, 0, none⟩) 0 [] []) ⟨OwnV.mk (cur := #[]) rfl hS.ext.size (heap_alloc_at _ _) (Nat.le_refl _) (by decide) rfl rfl, ⟨rfl, fun i h ys h1 h2 => by simp at h1, fun _ i j h h' hij h1 h2 => by simp at h1⟩, fun k ⟨i, h, xs, h1, _⟩ => by simp at h1⟩ fun k hk => ?_
  rcases hk with hk | ⟨i, h, xs, h1, _⟩
  · left; simp at hk; omega
  · simp at h1
/-- 'append(out, tmp...)', both the call's own; tmp is used up. -/
theorem l_appendN {e : TypeId} {i : TypeInfo} {z : Value} {fr : Option TypeId} {s k n1 n2 c1 c2 : Nat} {b b2 : Option Addr} {hs hs2 : List Hd} {xss xss2 : List (List Int)} (hS : St w0 w (.nest e s fr b2 c2 hs2 xss2 :: Γ)) (hE : E a n L) (hu : P.underlying t = some (.slice e)) (hi : P.info? e = some i) (hz : i.zero = some z) (hsz : i.size = 1) (hzs : z.cells.size = 1) (hby : i.bytes ≤ 64)
    (hx : ev L x = some (.slice b n1 c1)) (hy : ev L y = some (.slice b2 n2 c2)) (hn1 : n1 = xss.length) (hn2 : n2 = xss2.length) (hb2 : b2.isSome = true) (hk : Γ[k]? = some (.nest e s fr b c1 hs xss)) (hlen : n1 + n2 ≤ 1099511627776) (hn : Nat.blt d n = true)
    (hK : ∀ b' c' w', St w0 w' (Γ.set k (.nest e s fr b' c' (hs ++ hs2) (xss ++ xss2))) → ∀ a', E a' n ((d, .slice b' (xss ++ xss2).length c') :: L) → K a' w') : Oper.wp P ⟨some d, .call ⟨.builtin .append, #[x, y], #[t, t]⟩, ty, pos, af, gd⟩ a w K Q := by
  subst hn1; subst hn2
  have hk1 : (Ent.nest e s fr b2 c2 hs2 xss2 :: Γ)[k + 1]? = some (.nest e s fr b c1 hs xss) := by simpa using hk
  have ho := hS.nestV hk1
  have hI := hS.nestI hk1
  have hF := hS.nestF hk1
  have ho2 := hS.nestV (i := 0) rfl
  have hI2 := hS.nestI (i := 0) rfl
  have hF2 := hS.nestF (i := 0) rfl
  obtain ⟨p, rfl⟩ := Option.isSome_iff_exists.1 hb2
  have hl2 : (hs2.map Hd.v).length = xss2.length := by rw [List.length_map]; exact hI2.1
  obtain ⟨v', w', hrun, h1, h2, _, h3⟩ := run_append_own_at (P := P) w w0.heap.size t ty e i z 1 i.bytes hu hi hz hsz rfl hzs (by decide) (.slice b xss.length c1) xss.length (hs.map Hd.v) ho p xss2.length c2 (hs2.map Hd.v) (by rw [hl2, Nat.mul_one])
    (fun j u hj => ho2.cellAt hj) (hdV_one hs2) (by unfold maxLen; omega) (Nat.le_trans (Nat.mul_le_mul hlen hby) (by decide)) hS.ext.size
  have hv : ∃ b' c', v' = .slice b' (xss.length + xss2.length) c' := by
    rcases h1.2 with ⟨rfl, h0⟩ | ⟨g, cap, cur, rfl, _⟩
    · exact ⟨none, 0, by rw [h0]⟩
    · exact ⟨_, _, rfl⟩
  obtain ⟨b', c', rfl⟩ := hv
  have hob : ∀ (b : Option Addr) (n1 c k : Nat), (Value.slice b n1 c).ownBlock = some k ↔ b.map (·.block) = some k := by intro b n1 c k; cases b <;> simp [Value.ownBlock]
  have hsame : ∀ g, g < w.heap.size → ¬ b.map (·.block) = some g → w'.heap[g]? = w.heap[g]? := fun g hg hno => h2.block g hg (fun h => hno ((hob _ _ _ g).1 h.symm))
  have hblk : ∀ g, b'.map (·.block) = some g → b.map (·.block) = some g ∨ g = w.heap.size := fun g hg => by
    have hg' := (hob _ (xss.length + xss2.length) c' g).2 hg
    rcases h3 with h3 | h3
    · exact .inl ((hob _ xss.length c1 g).1 (h3.symm.trans hg'))
    · rw [h3] at hg'; cases hg'; exact .inr rfl
  have hx0 : Ext w0 w' := Below.grown hS.ext h2 hS.ext.size fun g hg => (OwnV.lt ho ((hob _ _ _ g).1 hg)).1
  have app : ∀ (q : Nat) (h : Hd) (ys : List Int), (hs ++ hs2)[q]? = some h → (xss ++ xss2)[q]? = some ys → (q < hs.length ∧ hs[q]? = some h ∧ xss[q]? = some ys) ∨ (hs.length ≤ q ∧ hs2[q - hs.length]? = some h ∧ xss2[q - hs.length]? = some ys) := fun q h ys q1 q2 => by
    by_cases hq : q < hs.length
    · rw [List.getElem?_append_left hq] at q1
      rw [List.getElem?_append_left (by rw [← hI.1]; exact hq)] at q2
      exact .inl ⟨hq, q1, q2⟩
    · rw [List.getElem?_append_right (by omega)] at q1
      rw [List.getElem?_append_right (by rw [← hI.1]; omega), ← hI.1] at q2
      exact .inr ⟨by omega, q1, q2⟩
  have inapp : ∀ g, inN fr (hs ++ hs2) (xss ++ xss2) g → inN fr hs xss g ∨ inN fr hs2 xss2 g := fun g ⟨q, h, ys, q1, q2, q3, q4⟩ => by
    rcases app q h ys q1 q2 with ⟨_, a1, a2⟩ | ⟨_, a1, a2⟩
    · exact .inl ⟨_, h, ys, a1, a2, q3, q4⟩
    · exact .inr ⟨_, h, ys, a1, a2, q3, q4⟩
  have inn1 : ∀ g, inN fr hs xss g → ¬ b.map (·.block) = some g := hF
  have apt01 := hS.apart 0 (k + 1) _ _ (by omega) rfl hk1
  have in2 : ∀ g, inN fr hs2 xss2 g → ¬ b.map (·.block) = some g := fun g hg hb => by
    have := (apt01 g (.inr hg) (.inl hb)).2
    exact this.2 hb
  have inlt : ∀ g, inN fr (hs ++ hs2) (xss ++ xss2) g → g < w.heap.size ∧ ¬ b.map (·.block) = some g := fun g hg => by
    rcases inapp g hg with h | h
    · exact ⟨hI.lt h, hF g h⟩
    · exact ⟨hI2.lt h, in2 g h⟩
  have hnewI : InN w' w0.heap.size s fr (hs ++ hs2) (xss ++ xss2) := by
    refine ⟨by rw [List.length_append, List.length_append, hI.1, hI2.1], fun q h ys q1 q2 => ?_, fun hf q r h h' hqr q1 q2 => ?_⟩
    · have key : RdS w s h.a h.n h.c ys ∧ ∀ t, fr = some t → OwnS w w0.heap.size t s h.a h.n h.c ys := by
        rcases app q h ys q1 q2 with ⟨_, a1, a2⟩ | ⟨_, a1, a2⟩
        · exact hI.2.1 _ h ys a1 a2
        · exact hI2.2.1 _ h ys a1 a2
      refine ⟨RdS.same key.1 fun g g1 g2 => ?_, fun t ht => OwnS.same (key.2 t ht) fun g g2 => ?_⟩
      · have := inlt g ⟨q, h, ys, q1, q2, .inl g1, g2⟩
        exact hsame g this.1 this.2
      · have := inlt g ⟨q, h, ys, q1, q2, .inr (by rw [ht]; rfl), g2⟩
        exact hsame g this.1 this.2
    · have get1 : ∀ (q : Nat) (h : Hd), (hs ++ hs2)[q]? = some h → (q < hs.length ∧ hs[q]? = some h) ∨ (hs.length ≤ q ∧ hs2[q - hs.length]? = some h) := fun q h q1 => by
        by_cases hq : q < hs.length
        · rw [List.getElem?_append_left hq] at q1; exact .inl ⟨hq, q1⟩
        · rw [List.getElem?_append_right (by omega)] at q1; exact .inr ⟨by omega, q1⟩
      have cross : ∀ (q r : Nat) (h h' : Hd), hs[q]? = some h → hs2[r]? = some h' → ∀ g, h.a.map (·.block) = some g → h'.a.map (·.block) = some g → False := fun q r h h' q1 q2 g g1 g2 => by
        have l1 : q < xss.length := by
          rw [← hI.1]
          rcases Nat.lt_or_ge q hs.length with h | h
          · exact h
          · rw [List.getElem?_eq_none h] at q1; cases q1
        have l2 : r < xss2.length := by
          rw [← hI2.1]
          rcases Nat.lt_or_ge r hs2.length with h | h
          · exact h
          · rw [List.getElem?_eq_none h] at q2; cases q2
        have := (apt01 g (.inr ⟨r, h', _, q2, List.getElem?_eq_getElem l2, .inr hf, g2⟩) (.inr ⟨q, h, _, q1, List.getElem?_eq_getElem l1, .inr hf, g1⟩)).2
        rw [this.1] at hf; cases hf
      intro g g1 g2
      rcases get1 q h q1 with ⟨a1, a2⟩ | ⟨a1, a2⟩ <;> rcases get1 r h' q2 with ⟨b1, b2⟩ | ⟨b1, b2⟩
      · exact hI.2.2 hf q r h h' hqr a2 b2 g g1 g2
      · exact cross _ _ h h' a2 b2 g g1 g2
      · exact cross _ _ h' h b2 a2 g g2 g1
      · exact hI2.2.2 hf _ _ h h' (by omega) a2 b2 g g1 g2
  have hnewF : ∀ g, inN fr (hs ++ hs2) (xss ++ xss2) g → ¬ b'.map (·.block) = some g := fun g hg hb => by
    have := inlt g hg
    rcases hblk g hb with h | h
    · exact this.2 h
    · omega
  have hnewV : OwnV w' w0.heap.size e b' (xss ++ xss2).length c' ((hs ++ hs2).map Hd.v) := by
    unfold OwnV; rw [List.map_append, List.length_append]; exact h1
  rw [show xss.length + xss2.length = (xss ++ xss2).length from List.length_append.symm] at hrun
  refine l_val hE rfl hn (v := .slice b' (xss ++ xss2).length c') (w' := w') (by simp [execOp, resolve, invoke, builtin, hE.eval hx, hE.eval hy, hrun]) (hK b' c' w' (hS.merge hk hx0 ?_ ⟨hnewV, hnewI, hnewF⟩ ?_))
  · intro g hg
    by_cases hb : b.map (·.block) = some g
    · exact .inl ⟨.inl hb, fun h => h.2 hb⟩
    · exact .inr (hsame g hg hb)
  · intro g hg
    rcases hg with hg | hg
    · rcases hblk g hg with h | h
      · exact .inr (.inr ⟨.inl h, fun h2 => absurd h h2.2⟩)
      · exact .inl (by omega)
    · rcases inapp g hg with h | h
      · exact .inr (.inr ⟨.inr h, fun h2 => ⟨h2.1, hnewF g hg⟩⟩)
      · exact .inr (.inl ⟨.inr h, fun h2 => ⟨h2.1, hnewF g hg⟩⟩)
/-- 'out[m] = x', both the call's own; x is used up. -/
theorem l_storeN {k c : Nat} {e t' : TypeId} {s : Nat} {b p : Option Addr} {m1 c1 : Nat} {hs : List Hd} {xss : List (List Int)} {xs : List Int} {m : Int} (hS : St w0 w (.own t' s p m1 c1 xs :: Γ)) (hE : E a n L) (hz : ∀ w, (sizeOf t).run P w = .ok 1 w) (hx : ev L x = some (.pointer (some (adr b m.toNat)))) (hy : ev L y = some (.slice p m1 c1)) (hk : Γ[k]? = some (.nest e s (some t') b c hs xss)) (h0 : 0 ≤ m) (h1 : m < (xss.length : Int))
    (hK : ∀ w', St w0 w' (Γ.set k (.nest e s (some t') b c (hs.set m.toNat ⟨p, m1, c1⟩) (sL xss m xs))) → ∀ a', E a' n L → K a' w') : Oper.wp P ⟨none, .store t x y, ty, pos, af, gd⟩ a w K Q := by
  have hk1 : (Ent.own t' s p m1 c1 xs :: Γ)[k + 1]? = some (.nest e s (some t') b c hs xss) := by simpa using hk
  have hV := hS.nestV hk1
  have hI := hS.nestI hk1
  have hF := hS.nestF hk1
  have hO : OwnS w w0.heap.size t' s p m1 c1 xs := hS.ok 0 _ rfl
  have hl := hI.1
  have hml : m.toNat < hs.length := by omega
  obtain ⟨v1, f1, g0, rfl, hB⟩ := hV.store (k := m.toNat) (by rw [List.length_map]; exact hml) (Hd.v ⟨p, m1, c1⟩)
  have hc : ∃ u, w.cell? (adr (some ⟨g0, 0, none⟩) m.toNat) = some u := ⟨_, hV.cellAt (k := m.toNat) (by rw [List.getElem?_map, List.getElem?_eq_getElem hml]; rfl)⟩
  obtain ⟨u, hc⟩ := hc
  have hr := run_store1 (P := P) (t := t) (w := w) (v := Hd.v ⟨p, m1, c1⟩) (p := adr (some ⟨g0, 0, none⟩) m.toNat) hz rfl rfl hc f1
  have apt01 := hS.apart 0 (k + 1) _ _ (by omega) rfl hk1
  have hpb : ∀ g, p.map (·.block) = some g → g ≠ g0 := fun g hg e => by
    subst e
    exact (apt01 g hg (.inl rfl)).1
  have hsame : ∀ g, g ≠ g0 → (w.setCell (adr (some ⟨g0, 0, none⟩) m.toNat) (Hd.v ⟨p, m1, c1⟩)).heap[g]? = w.heap[g]? := fun g hg => setCell_block (by rw [adr_block]; exact hg)
  have rows : ∀ (i : Nat) (h : Hd) (ys : List Int), (hs.set m.toNat ⟨p, m1, c1⟩)[i]? = some h → (sL xss m xs)[i]? = some ys → (i = m.toNat ∧ h = ⟨p, m1, c1⟩ ∧ ys = xs) ∨ (i ≠ m.toNat ∧ hs[i]? = some h ∧ xss[i]? = some ys) := fun i h ys h1 h2 => by
    unfold sL at h2
    rw [List.getElem?_set] at h1 h2
    by_cases hi : m.toNat = i
    · subst hi
      rw [if_pos rfl, if_pos hml] at h1
      rw [if_pos rfl, if_pos (by omega)] at h2
      cases h1; cases h2
      exact .inl ⟨rfl, rfl, rfl⟩
    · rw [if_neg hi] at h1 h2
      exact .inr ⟨fun e => hi e.symm, h1, h2⟩
  have inset : ∀ g, inN (some t') (hs.set m.toNat ⟨p, m1, c1⟩) (sL xss m xs) g → p.map (·.block) = some g ∨ inN (some t') hs xss g := fun g ⟨i, h, ys, h1, h2, h3, h4⟩ => by
    rcases rows i h ys h1 h2 with ⟨_, rfl, rfl⟩ | ⟨_, q1, q2⟩
    · exact .inl h4
    · exact .inr ⟨i, h, ys, q1, q2, h3, h4⟩
  have hne : ∀ g, inN (some t') (hs.set m.toNat ⟨p, m1, c1⟩) (sL xss m xs) g → g ≠ g0 := fun g hg => by
    rcases inset g hg with h | h
    · exact hpb g h
    · intro e; subst e; exact hF g h rfl
  refine l_unit hE rfl (w' := w.setCell (adr (some ⟨g0, 0, none⟩) m.toNat) (Hd.v ⟨p, m1, c1⟩)) ?_ (hK _ (hS.merge hk (Below.setCell hS.ext ?_ _) ?_ ⟨?_, ⟨?_, ?_, ?_⟩, ?_⟩ ?_))
  · have hy' : a.eval y = Hd.v ⟨p, m1, c1⟩ := hE.eval hy
    simp [execOp, hE.eval hx, hy', hr]
  · rw [adr_block]; exact hB
  · intro g hg
    by_cases hb : g = g0
    · subst hb; exact .inl ⟨.inl rfl, fun h => h.2 rfl⟩
    · exact .inr (hsame g hb)
  · rw [sL_len, List.map_set]; exact v1
  · rw [List.length_set, sL_len]; exact hl
  · intro i h ys h1 h2
    have key : RdS w s h.a h.n h.c ys ∧ OwnS w w0.heap.size t' s h.a h.n h.c ys := by
      rcases rows i h ys h1 h2 with ⟨_, rfl, rfl⟩ | ⟨_, q1, q2⟩
      · exact ⟨hO.rd, hO⟩
      · exact ⟨(hI.2.1 i h ys q1 q2).1, (hI.2.1 i h ys q1 q2).2 t' rfl⟩
    refine ⟨RdS.same key.1 fun g g1 g2 => hsame g (hne g ⟨i, h, ys, h1, h2, .inl g1, g2⟩), fun t ht => ?_⟩
    cases ht
    exact OwnS.same key.2 fun g g2 => hsame g (hne g ⟨i, h, ys, h1, h2, .inr rfl, g2⟩)
  · intro _ i j h h' hij h1 h2 g g1 g2
    have some1 : ∀ (i : Nat) (h : Hd), (hs.set m.toNat ⟨p, m1, c1⟩)[i]? = some h → (i = m.toNat ∧ h = ⟨p, m1, c1⟩) ∨ (i ≠ m.toNat ∧ hs[i]? = some h) := fun i h h1 => by
      rw [List.getElem?_set] at h1
      by_cases hi : m.toNat = i
      · subst hi
        rw [if_pos rfl, if_pos hml] at h1
        cases h1; exact .inl ⟨rfl, rfl⟩
      · rw [if_neg hi] at h1; exact .inr ⟨fun e => hi e.symm, h1⟩
    have cross : ∀ (i : Nat) (h : Hd), hs[i]? = some h → h.a.map (·.block) = some g → p.map (·.block) = some g → False := fun i h h1 h2 h3 => by
      have l1 : i < xss.length := by
        rw [← hI.1]
        rcases Nat.lt_or_ge i hs.length with h | h
        · exact h
        · rw [List.getElem?_eq_none h] at h1; cases h1
      exact (apt01 g h3 (.inr ⟨i, h, _, h1, List.getElem?_eq_getElem l1, .inr rfl, h2⟩)).1
    rcases some1 i h h1 with ⟨a1, rfl⟩ | ⟨a1, a2⟩ <;> rcases some1 j h' h2 with ⟨b1, rfl⟩ | ⟨b1, b2⟩
    · omega
    · exact cross j h' b2 g2 g1
    · exact cross i h a2 g1 g2
    · exact hI.2.2 rfl i j h h' hij a2 b2 g g1 g2
  · intro g hg e
    simp at e
    exact hne g hg e.symm
  · intro g hg
    rcases hg with hg | hg
    · exact .inr (.inr ⟨.inl hg, fun h => absurd hg h.2⟩)
    · rcases inset g hg with h | h
      · exact .inr (.inl ⟨h, fun h => h.elim⟩)
      · exact .inr (.inr ⟨.inr h, fun h => by cases h.1⟩)
/-- 'make([][]T, m)'. -/
theorem l_makeN {e : TypeId} {t' : TypeId} {s : Nat} {m : Int} (hS : St w0 w Γ) (hE : E a n L) (hi : (P.info? e).map (fun i => (i.zero, i.size, i.bytes)) = some (some (.slice none 0 0), 1, 24)) (hu : P.underlying t = some (.slice e)) (hx : ev L x = some (.int .i64 m)) (hy : ev L y = some (.int .i64 m)) (h0 : 0 ≤ m) (h1 : m ≤ 4294967296) (hn : Nat.blt d n = true)
    (hK : ∀ b w', St w0 w' (.nest e s (some t') b m.toNat (List.replicate m.toNat ⟨none, 0, 0⟩) (List.replicate m.toNat []) :: Γ) → Ext w w' → ∀ a', E a' n ((d, .slice b m.toNat m.toNat) :: L) → K a' w') : Oper.wp P ⟨some d, .makeSlice t x y, ty, pos, af, gd⟩ a w K Q := by
  obtain ⟨i, hi, hz, hs, hb⟩ := info_parts hi
  have hr := run_make (P := P) w t e i (.slice none 0 0) hu hi hz .i64 .i64 m m h0 (Int.le_refl _) (by rw [hb]; omega) (by omega)
  rw [hs, Nat.mul_one] at hr
  have hc : madeCells (Value.slice none 0 0).cells m.toNat = (List.replicate m.toNat (Value.slice none 0 0)).toArray := by
    apply Array.toList_inj.1
    show (madeCells #[.slice none 0 0] m.toNat).toList = _
    rw [toList_madeCells_one]
  rw [hc] at hr
  have hext : Ext w (w.alloc (.cells (List.replicate m.toNat (Value.slice none 0 0)).toArray e)) := (Ext.refl w).alloc _
  have nob : ∀ (i : Nat) (h : Hd), (List.replicate m.toNat (⟨none, 0, 0⟩ : Hd))[i]? = some h → h = ⟨none, 0, 0⟩ := fun i h h1 => by
    rw [List.getElem?_replicate] at h1
    split at h1
    · cases h1; rfl
    · cases h1
  refine l_val hE rfl hn ?_ (hK (some ⟨w.heap.size, 0, none⟩) _ (hS.pushN hext (e := .nest e s (some t') (some ⟨w.heap.size, 0, none⟩) m.toNat (List.replicate m.toNat ⟨none, 0, 0⟩) (List.replicate m.toNat [])) ⟨OwnV.mk (cur := (List.replicate m.toNat (Value.slice none 0 0)).toArray) (by simp) hS.ext.size (heap_alloc_at _ _) (by simp) (by unfold maxLen; omega) (by simp) (by simp [Hd.v]), ⟨by simp, fun i h xs h1 h2 => ?_, fun _ i j h h' _ h1 h2 g g1 => ?_⟩, fun k ⟨i, h, xs, h1, _, _, h4⟩ => ?_⟩ fun k hk => ?_) hext)
  · simp [execOp, hE.eval hx, hE.eval hy, hr]
  · obtain rfl := nob i h h1
    rw [List.getElem?_replicate] at h2
    split at h2
    · cases h2
      exact ⟨RdS.nilS _ _, fun t _ => OwnS.nilS _ _ _ _⟩
    · cases h2
  · obtain rfl := nob i h h1; cases g1
  · obtain rfl := nob i h h1; cases h4
  · rcases hk with hk | ⟨i, h, xs, h1, _, _, h4⟩
    · left; simp at hk; omega
    · obtain rfl := nob i h h1; cases h4
/-! arrays of numbers -/
theorem intV_set (xs : List Int) (k : Nat) (y : Int) : (intV xs).toArray.setIfInBounds k (.int .i64 y) = (intV (xs.set k y)).toArray := by
  apply Array.toList_inj.1
  rw [Array.toList_setIfInBounds]; simp [intV, List.map_set]
theorem intV_one (xs : List Int) : (intV xs).toArray.all (·.oneCell') = true := by
  simp [intV, Value.oneCell']
theorem intV_size {xs : List Int} {o : Option Nat} {m : Nat} (h : o = some m) (hl : xs.length = m) : o = some (intV xs).toArray.size := by
  rw [h]; simp [intV, hl]
theorem y_idxA {S : World → Prop} {dst : Option Tmp} {b : Nat} {q : IntKind} {m : Int} (ht : P.underlying t = some (.array (P.arrayLen t) (P.elem t))) (hz : ∀ w, (sizeOf (P.elem t)).run P w = .ok 1 w) (hx : ev L x = some (.pointer (some ⟨b, 0, none⟩))) (hy : ev L y = some (.int q m)) (h0 : 0 ≤ m) (h1 : m < (P.arrayLen t : Int)) :
    Yld P S L ⟨dst, .indexAddr t x y, ty, pos, af, gd⟩ (.pointer (some ⟨b, m.toNat, none⟩)) := fun a n hE w _ => by
  have e : (⟨b, 0, none⟩ : Addr).add m.toNat = ⟨b, m.toNat, none⟩ := by unfold Addr.add; split <;> simp_all
  simp [execOp, hE.eval hx, hE.eval hy, run_indexAt_array (h := ht), h0, h1, hz, e]
theorem l_storeA {k b : Nat} {t' : TypeId} {xs : List Int} {m z : Int} (hS : St w0 w Γ) (hE : E a n L) (hz : ∀ w, (sizeOf t).run P w = .ok 1 w) (hx : ev L x = some (.pointer (some ⟨b, m.toNat, none⟩))) (hy : ev L y = some (.int .i64 z)) (hk : Γ[k]? = some (.blk b (intV xs).toArray t')) (h0 : 0 ≤ m) (h1 : m < (xs.length : Int))
    (hK : ∀ w', St w0 w' (Γ.set k (.blk b (intV (sI xs m z)).toArray t')) → ∀ a', E a' n L → K a' w') : Oper.wp P ⟨none, .store t x y, ty, pos, af, gd⟩ a w K Q :=
  l_storeB (u := .int .i64 (gi xs m.toNat)) hS hE hz hx hy rfl rfl hk (by rw [List.getElem?_toArray]; exact intV_get (by omega)) (intV_set xs m.toNat z) hK
theorem y_sliceA {S : World → Prop} {dst : Option Tmp} {b n' : Nat} (ht : P.underlying t = some (.array (P.arrayLen t) (P.elem t))) (hz : ∀ w, (sizeOf (P.elem t)).run P w = .ok 1 w) (hx : ev L x = some (.pointer (some ⟨b, 0, none⟩))) (hn : P.arrayLen t = n') :
    Yld P S L ⟨dst, .slice t x none none none, ty, pos, af, gd⟩ (.slice (some ⟨b, 0, none⟩) n' n') := fun a n hE w _ => by
  subst hn
  simp [execOp, hE.eval hx, run_sliceAt_array_all (ht := ht), hz, slicedAt, Addr.add]
/-- An array as a slice. -/
theorem St.arrOwn {k b n' : Nat} {t' : TypeId} {xs : List Int} (hS : St w0 w Γ) (hk : Γ[k]? = some (.blk b (intV xs).toArray t')) (hn : xs.length = n') (hm : n' ≤ 1000) : St w0 w (Γ.set k (.own t' 1 (some ⟨b, 0, none⟩) n' n' xs)) := by
  have ho : Ent.ok w0.heap.size w (.blk b (intV xs).toArray t') := hS.ok k _ hk
  subst hn
  refine hS.set hk rfl hS.ext (fun _ _ _ => rfl) (e' := .own t' 1 (some ⟨b, 0, none⟩) xs.length xs.length xs) (OwnS.mk (by omega) ho.1 ho.2 (Nat.le_refl _) (by unfold maxLen; omega) (by simp [intV]) (by rw [Nat.mul_one, List.toList_toArray]; exact List.take_of_length_le (by simp [intV]))) (fun g hg => .inl ?_)
  simpa [Ent.has] using hg
end
end Go.Proofs.YtkilkfhjfobcdaaDoor
