/- Heap: what memory a walk knows: blocks of its own, slices of its own, slices that it reads; how operations change it. No statement about the program is made here. -/
import Derived.Test.YtkilkfhjfobcdaaDoorEng
import Derived.Laws.AppendOwnNone
namespace Go.Proofs.YtkilkfhjfobcdaaDoor
open Go.RowKit

def intV (xs : List Int) : List Value := xs.map (Value.int .i64)
theorem intV_get {xs : List Int} {k : Nat} (h : k < xs.length) : (intV xs)[k]? = some (.int .i64 (gi xs k)) := by
  unfold intV; rw [List.getElem?_map, gi_some h]; rfl
theorem intV_len (xs : List Int) : (intV xs).length = xs.length := by simp [intV]
/-- A slice (s cells an element) reads as these numbers. -/
def RdS (w : World) (s : Nat) (a : Option Addr) (n c : Nat) (xs : List Int) : Prop :=
  xs.length = n * s ∧ n ≤ c ∧ c ≤ maxLen ∧ (a = none → n = 0 ∧ c = 0) ∧ ∀ k, k < xs.length → w.cell? (adr a k) = some (.int .i64 (gi xs k))
/-- A slice that is the call's own. -/
def OwnS (w : World) (B : Nat) (t : TypeId) (s : Nat) (a : Option Addr) (n c : Nat) (xs : List Int) : Prop := w.ownsRow B t s (.slice a n c) n (intV xs)
theorem OwnS.cases {w : World} {B : Nat} {t : TypeId} {s : Nat} {a : Option Addr} {n c : Nat} {xs : List Int} (h : OwnS w B t s a n c xs) :
    xs.length = n * s ∧ ((a = none ∧ n = 0 ∧ c = 0) ∨ ∃ g cur, a = some ⟨g, 0, none⟩ ∧ B ≤ g ∧ w.heap[g]? = some (.cells cur t (0, 0)) ∧ n ≤ c ∧ c ≤ maxLen ∧ cur.size = c * s ∧ cur.toList.take (n * s) = intV xs) := by
  obtain ⟨hl, h | ⟨g, cap, cur, h1, h2, h3, h4, h5, h6, h7⟩⟩ := h
  · obtain ⟨h, h0⟩ := h
    simp only [Value.slice.injEq] at h
    exact ⟨by simpa [intV] using hl, .inl ⟨h.1, h0, h.2.2⟩⟩
  · simp only [Value.slice.injEq] at h1
    obtain ⟨rfl, _, rfl⟩ := h1
    exact ⟨by simpa [intV] using hl, .inr ⟨g, cur, rfl, h2, h3, h4, h5, h6, h7⟩⟩
theorem OwnS.mk {w : World} {B g c : Nat} {t : TypeId} {s n : Nat} {cur : Array Value} {xs : List Int} (hl : xs.length = n * s) (hB : B ≤ g) (hg : w.heap[g]? = some (.cells cur t (0, 0)))
    (h1 : n ≤ c) (h2 : c ≤ maxLen) (h3 : cur.size = c * s) (h4 : cur.toList.take (n * s) = intV xs) : OwnS w B t s (some ⟨g, 0, none⟩) n c xs :=
  ⟨by simpa [intV] using hl, .inr ⟨g, c, cur, rfl, hB, hg, h1, h2, h3, h4⟩⟩
theorem OwnS.nilS (w : World) (B : Nat) (t : TypeId) (s : Nat) : OwnS w B t s none 0 0 [] := ⟨by simp [intV], .inl ⟨rfl, rfl⟩⟩
theorem adr_lit (g k : Nat) : adr (some ⟨g, 0, none⟩) k = ⟨g, k, none⟩ := by
  unfold adr Addr.add; by_cases h0 : k = 0
  · subst h0; rfl
  · simp [h0]
theorem OwnS.cellAt {w : World} {B : Nat} {t : TypeId} {s : Nat} {a : Option Addr} {n c : Nat} {xs : List Int} (h : OwnS w B t s a n c xs) {k : Nat} (hk : k < xs.length) : w.cell? (adr a k) = some (.int .i64 (gi xs k)) := by
  obtain ⟨hl, ⟨rfl, rfl, rfl⟩ | ⟨g, cur, rfl, h1, h2, h3, h4, h5, h6⟩⟩ := h.cases
  · simp at hl; subst hl; exact absurd hk (Nat.not_lt_zero k)
  · have h7 : (cur.toList.take (n * s))[k]? = (intV xs)[k]? := by rw [h6]
    rw [List.getElem?_take_of_lt (by omega), intV_get hk] at h7
    rw [adr_lit]; simp [World.cell?, h2]; simpa using h7
theorem OwnS.rd {w : World} {B : Nat} {t : TypeId} {s : Nat} {a : Option Addr} {n c : Nat} {xs : List Int} (h : OwnS w B t s a n c xs) : RdS w s a n c xs := by
  obtain ⟨hl, h'⟩ := h.cases
  refine ⟨hl, ?_, ?_, ?_, fun k hk => h.cellAt hk⟩
  · rcases h' with ⟨_, rfl, rfl⟩ | ⟨_, _, _, _, _, h3, _⟩ <;> omega
  · rcases h' with ⟨_, rfl, rfl⟩ | ⟨_, _, _, _, _, _, h4, _⟩
    · exact Nat.zero_le _
    · exact h4
  · rcases h' with ⟨_, rfl, rfl⟩ | ⟨g, cur, rfl, _⟩
    · exact fun _ => ⟨rfl, rfl⟩
    · exact fun h => by cases h
theorem OwnS.mono {w : World} {B B' : Nat} {t : TypeId} {s : Nat} {a : Option Addr} {n c : Nat} {xs : List Int} (h : OwnS w B t s a n c xs) (hB : B' ≤ B) : OwnS w B' t s a n c xs := by
  obtain ⟨hl, ⟨rfl, rfl, rfl⟩ | ⟨g, cur, rfl, h1, h2, h3, h4, h5, h6⟩⟩ := h.cases
  · simp at hl; subst hl; exact OwnS.nilS _ _ _ _
  · exact OwnS.mk hl (Nat.le_trans hB h1) h2 h3 h4 h5 h6
theorem OwnS.same {w w' : World} {B : Nat} {t : TypeId} {s : Nat} {a : Option Addr} {n c : Nat} {xs : List Int} (h : OwnS w B t s a n c xs) (hb : ∀ g, a.map (·.block) = some g → w'.heap[g]? = w.heap[g]?) : OwnS w' B t s a n c xs := by
  obtain ⟨hl, ⟨rfl, rfl, rfl⟩ | ⟨g, cur, rfl, h1, h2, h3, h4, h5, h6⟩⟩ := h.cases
  · simp at hl; subst hl; exact OwnS.nilS _ _ _ _
  · exact OwnS.mk hl h1 ((hb g rfl).trans h2) h3 h4 h5 h6
theorem RdS.same {w w' : World} {s : Nat} {a : Option Addr} {n c : Nat} {xs : List Int} (h : RdS w s a n c xs) (hb : ∀ g, xs ≠ [] → a.map (·.block) = some g → w'.heap[g]? = w.heap[g]?) : RdS w' s a n c xs := by
  obtain ⟨h1, h2, h3, h4, h5⟩ := h
  refine ⟨h1, h2, h3, h4, fun k hk => ?_⟩
  have hne : xs ≠ [] := by intro h; subst h; exact absurd hk (Nat.not_lt_zero k)
  have hs : a.isSome = true := by
    cases a with
    | none => have := (h4 rfl).1; subst this; simp at h1; exact absurd h1 hne
    | some p => rfl
  have := hb (adr a k).block hne (by rw [adr_block]; unfold blk; obtain ⟨p, rfl⟩ := Option.isSome_iff_exists.1 hs; rfl)
  rw [World.cell?_of_block this]
  exact h5 k hk
theorem RdS.lt {w : World} {s : Nat} {a : Option Addr} {n c : Nat} {xs : List Int} (h : RdS w s a n c xs) {g : Nat} (hne : xs ≠ []) (hg : a.map (·.block) = some g) : g < w.heap.size := by
  have h0 : 0 < xs.length := List.length_pos_iff.2 hne
  have := cell_lt (h.2.2.2.2 0 h0)
  rw [adr_block] at this
  cases a with
  | none => cases hg
  | some p => simp at hg; subst hg; exact this
theorem RdS.ext {w w' : World} {s : Nat} {a : Option Addr} {n c : Nat} {xs : List Int} (h : RdS w s a n c xs) (he : Ext w w') : RdS w' s a n c xs :=
  h.same fun _ hne hg => he.block (h.lt hne hg)
theorem OwnS.lt {w : World} {B : Nat} {t : TypeId} {s : Nat} {a : Option Addr} {n c : Nat} {xs : List Int} (h : OwnS w B t s a n c xs) {g : Nat} (hg : a.map (·.block) = some g) : B ≤ g ∧ g < w.heap.size := by
  obtain ⟨hl, ⟨rfl, rfl, rfl⟩ | ⟨g', cur, rfl, h1, h2, h3, h4, h5, h6⟩⟩ := h.cases
  · cases hg
  · simp at hg; subst hg
    refine ⟨h1, ?_⟩
    rcases Nat.lt_or_ge g' w.heap.size with h' | h'
    · exact h'
    · simp [Array.getElem?_eq_none h'] at h2
theorem OwnS.ext {w w' : World} {B : Nat} {t : TypeId} {s : Nat} {a : Option Addr} {n c : Nat} {xs : List Int} (h : OwnS w B t s a n c xs) (he : Ext w w') : OwnS w' B t s a n c xs :=
  h.same fun _ hg => he.block (h.lt hg).2

/-- The head of an inner slice. -/
structure Hd where
  a : Option Addr
  n : Nat
  c : Nat
instance : Inhabited Hd := ⟨⟨none, 0, 0⟩⟩
def Hd.v (h : Hd) : Value := .slice h.a h.n h.c
/-- A slice of values of one cell that is the call's own. -/
def OwnV (w : World) (B : Nat) (t : TypeId) (a : Option Addr) (n c : Nat) (vs : List Value) : Prop := w.ownsRow B t 1 (.slice a n c) n vs
theorem OwnV.cases {w : World} {B : Nat} {t : TypeId} {a : Option Addr} {n c : Nat} {vs : List Value} (h : OwnV w B t a n c vs) :
    vs.length = n ∧ ((a = none ∧ n = 0 ∧ c = 0) ∨ ∃ g cur, a = some ⟨g, 0, none⟩ ∧ B ≤ g ∧ w.heap[g]? = some (.cells cur t (0, 0)) ∧ n ≤ c ∧ c ≤ maxLen ∧ cur.size = c ∧ cur.toList.take n = vs) := by
  obtain ⟨hl, h | ⟨g, cap, cur, h1, h2, h3, h4, h5, h6, h7⟩⟩ := h
  · obtain ⟨h, h0⟩ := h
    simp only [Value.slice.injEq] at h
    exact ⟨by simpa using hl, .inl ⟨h.1, h0, h.2.2⟩⟩
  · simp only [Value.slice.injEq] at h1
    obtain ⟨rfl, _, rfl⟩ := h1
    exact ⟨by simpa using hl, .inr ⟨g, cur, rfl, h2, h3, h4, h5, by simpa using h6, by simpa using h7⟩⟩
theorem OwnV.mk {w : World} {B g c : Nat} {t : TypeId} {n : Nat} {cur : Array Value} {vs : List Value} (hl : vs.length = n) (hB : B ≤ g) (hg : w.heap[g]? = some (.cells cur t (0, 0)))
    (h1 : n ≤ c) (h2 : c ≤ maxLen) (h3 : cur.size = c) (h4 : cur.toList.take n = vs) : OwnV w B t (some ⟨g, 0, none⟩) n c vs :=
  ⟨by simpa using hl, .inr ⟨g, c, cur, rfl, hB, hg, h1, h2, by simpa using h3, by simpa using h4⟩⟩
theorem OwnV.nilV (w : World) (B : Nat) (t : TypeId) : OwnV w B t none 0 0 [] := ⟨by simp, .inl ⟨rfl, rfl⟩⟩
theorem OwnV.mono {w : World} {B B' : Nat} {t : TypeId} {a : Option Addr} {n c : Nat} {vs : List Value} (h : OwnV w B t a n c vs) (hB : B' ≤ B) : OwnV w B' t a n c vs := by
  obtain ⟨hl, ⟨rfl, rfl, rfl⟩ | ⟨g, cur, rfl, h1, h2, h3, h4, h5, h6⟩⟩ := h.cases
  · obtain rfl := List.length_eq_zero_iff.1 hl; exact OwnV.nilV _ _ _
  · exact OwnV.mk hl (Nat.le_trans hB h1) h2 h3 h4 h5 h6
theorem OwnV.same {w w' : World} {B : Nat} {t : TypeId} {a : Option Addr} {n c : Nat} {vs : List Value} (h : OwnV w B t a n c vs) (hb : ∀ g, a.map (·.block) = some g → w'.heap[g]? = w.heap[g]?) : OwnV w' B t a n c vs := by
  obtain ⟨hl, ⟨rfl, rfl, rfl⟩ | ⟨g, cur, rfl, h1, h2, h3, h4, h5, h6⟩⟩ := h.cases
  · obtain rfl := List.length_eq_zero_iff.1 hl; exact OwnV.nilV _ _ _
  · exact OwnV.mk hl h1 ((hb g rfl).trans h2) h3 h4 h5 h6
theorem OwnV.lt {w : World} {B : Nat} {t : TypeId} {a : Option Addr} {n c : Nat} {vs : List Value} (h : OwnV w B t a n c vs) {g : Nat} (hg : a.map (·.block) = some g) : B ≤ g ∧ g < w.heap.size := by
  obtain ⟨hl, ⟨rfl, rfl, rfl⟩ | ⟨g', cur, rfl, h1, h2, h3, h4, h5, h6⟩⟩ := h.cases
  · cases hg
  · simp at hg; subst hg
    refine ⟨h1, ?_⟩
    rcases Nat.lt_or_ge g' w.heap.size with h' | h'
    · exact h'
    · simp [Array.getElem?_eq_none h'] at h2
theorem OwnV.cellAt {w : World} {B : Nat} {t : TypeId} {a : Option Addr} {n c : Nat} {vs : List Value} (h : OwnV w B t a n c vs) {k : Nat} {v : Value} (hk : vs[k]? = some v) : w.cell? (adr a k) = some v := by
  obtain ⟨hl, ⟨rfl, rfl, rfl⟩ | ⟨g, cur, rfl, h1, h2, h3, h4, h5, h6⟩⟩ := h.cases
  · obtain rfl := List.length_eq_zero_iff.1 hl; simp at hk
  · have hkl : k < vs.length := by
      rcases Nat.lt_or_ge k vs.length with h' | h'
      · exact h'
      · rw [List.getElem?_eq_none h'] at hk; cases hk
    rw [← h6, List.getElem?_take_of_lt (by omega)] at hk
    rw [adr_lit]; simp [World.cell?, h2]; simpa using hk
/-- The inner slices (elements of s cells); 'fr': they are the call's own too, each apart from the others. -/
def InN (w : World) (B s : Nat) (fr : Option TypeId) (hs : List Hd) (xss : List (List Int)) : Prop :=
  hs.length = xss.length ∧ (∀ (i : Nat) (h : Hd) (xs : List Int), hs[i]? = some h → xss[i]? = some xs → RdS w s h.a h.n h.c xs ∧ ∀ t, fr = some t → OwnS w B t s h.a h.n h.c xs) ∧
  (fr.isSome = true → ∀ (i j : Nat) (h h' : Hd), i ≠ j → hs[i]? = some h → hs[j]? = some h' → ∀ g, h.a.map (·.block) = some g → ¬ h'.a.map (·.block) = some g)
def inN (fr : Option TypeId) (hs : List Hd) (xss : List (List Int)) (k : Nat) : Prop := ∃ (i : Nat) (h : Hd) (xs : List Int), hs[i]? = some h ∧ xss[i]? = some xs ∧ (xs ≠ [] ∨ fr.isSome = true) ∧ h.a.map (·.block) = some k
theorem InN.same {w w' : World} {B s : Nat} {fr : Option TypeId} {hs : List Hd} {xss : List (List Int)} (h : InN w B s fr hs xss) (hb : ∀ g, inN fr hs xss g → w'.heap[g]? = w.heap[g]?) : InN w' B s fr hs xss :=
  ⟨h.1, fun i d xs h1 h2 => ⟨RdS.same (h.2.1 i d xs h1 h2).1 fun g h3 h4 => hb g ⟨i, d, xs, h1, h2, .inl h3, h4⟩, fun t ht => OwnS.same ((h.2.1 i d xs h1 h2).2 t ht) fun g h4 => hb g ⟨i, d, xs, h1, h2, .inr (by rw [ht]; rfl), h4⟩⟩, h.2.2⟩
theorem InN.lt {w : World} {B s : Nat} {fr : Option TypeId} {hs : List Hd} {xss : List (List Int)} (h : InN w B s fr hs xss) {g : Nat} (hg : inN fr hs xss g) : g < w.heap.size := by
  obtain ⟨i, d, xs, h1, h2, h3, h4⟩ := hg
  rcases h3 with h3 | h3
  · exact RdS.lt (h.2.1 i d xs h1 h2).1 h3 h4
  · obtain ⟨t, rfl⟩ := Option.isSome_iff_exists.1 h3
    exact (OwnS.lt ((h.2.1 i d xs h1 h2).2 t rfl) h4).2
/-- A piece of memory that the walk knows. -/

def BldOk (w : World) (B b : Nat) (t tb : TypeId) (v : Value) (xs : List Value) : Prop :=
  B ≤ b ∧ (∃ p, (p = Value.pointer none ∨ p = Value.pointer (some ⟨b, 0, none⟩)) ∧ w.heap[b]? = some (.cells #[p, v] t (0, 0))) ∧ w.ownsRow B tb 1 v xs.length xs ∧ v.ownBlock ≠ some b
theorem BldOk.same {w w' : World} {B b : Nat} {t tb : TypeId} {v : Value} {xs : List Value} (h : BldOk w B b t tb v xs) (hb : ∀ g, (b = g ∨ v.ownBlock = some g) → w'.heap[g]? = w.heap[g]?) : BldOk w' B b t tb v xs := by
  obtain ⟨h1, ⟨p, hp, h2⟩, ⟨h3, h4⟩, h5⟩ := h
  refine ⟨h1, ⟨p, hp, (hb b (.inl rfl)).trans h2⟩, ⟨h3, ?_⟩, h5⟩
  rcases h4 with h4 | ⟨g, cap, cur, rfl, e1, e2, e3⟩
  · exact .inl h4
  · exact .inr ⟨g, cap, cur, rfl, e1, (hb g (.inr rfl)).trans e2, e3⟩
theorem BldOk.lt {w : World} {B b : Nat} {t tb : TypeId} {v : Value} {xs : List Value} (h : BldOk w B b t tb v xs) {g : Nat} (hg : b = g ∨ v.ownBlock = some g) : B ≤ g ∧ g < w.heap.size := by
  obtain ⟨h1, ⟨p, hp, h2⟩, ⟨h3, h4⟩, h5⟩ := h
  have lt : ∀ {k : Nat} {o : Obj}, w.heap[k]? = some o → k < w.heap.size := fun {k o} h => by
    rcases Nat.lt_or_ge k w.heap.size with h' | h'
    · exact h'
    · simp [Array.getElem?_eq_none h'] at h
  rcases hg with rfl | hg
  · exact ⟨h1, lt h2⟩
  · rcases h4 with ⟨rfl, _⟩ | ⟨g', cap, cur, rfl, e1, e2, e3⟩
    · cases hg
    · cases hg; exact ⟨e1, lt e2⟩
theorem BldOk.mono {w : World} {B B' b : Nat} {t tb : TypeId} {v : Value} {xs : List Value} (h : BldOk w B b t tb v xs) (hB : B' ≤ B) : BldOk w B' b t tb v xs := by
  obtain ⟨h1, h2, ⟨h3, h4⟩, h5⟩ := h
  refine ⟨Nat.le_trans hB h1, h2, ⟨h3, ?_⟩, h5⟩
  rcases h4 with h4 | ⟨g, cap, cur, rfl, e1, e2, e3⟩
  · exact .inl h4
  · exact .inr ⟨g, cap, cur, rfl, Nat.le_trans hB e1, e2, e3⟩
inductive Ent where
  | bld (b : Nat) (t tb : TypeId) (v : Value) (xs : List Value)
  | blk (b : Nat) (cs : Array Value) (t : TypeId)
  | own (t : TypeId) (s : Nat) (a : Option Addr) (n c : Nat) (xs : List Int)
  | rd (s : Nat) (a : Option Addr) (n c : Nat) (xs : List Int)
  | rb (b : Nat) (cs : Array Value) (t : TypeId)
  | nest (t : TypeId) (s : Nat) (fr : Option TypeId) (a : Option Addr) (c : Nat) (hs : List Hd) (xss : List (List Int))
  | rdn (s : Nat) (a : Option Addr) (n c : Nat) (hs : List Hd) (xss : List (List Int))
  | hole (t : TypeId) (s : Nat) (t' : TypeId) (a : Option Addr) (c : Nat) (hs : List Hd) (xss : List (List Int)) (m : Nat)
def RdN (w : World) (s : Nat) (a : Option Addr) (n c : Nat) (hs : List Hd) (xss : List (List Int)) : Prop :=
  n = xss.length ∧ n ≤ c ∧ c ≤ maxLen ∧ (a = none → n = 0 ∧ c = 0) ∧ (∀ (k : Nat) (h : Hd), hs[k]? = some h → w.cell? (adr a k) = some h.v) ∧ InN w 0 s none hs xss
/-- Rows without the row number m. -/
def HoN (w : World) (B s : Nat) (t' : TypeId) (hs : List Hd) (xss : List (List Int)) (m : Nat) : Prop :=
  hs.length = xss.length ∧ (∀ (i : Nat) (h : Hd) (xs : List Int), i ≠ m → hs[i]? = some h → xss[i]? = some xs → OwnS w B t' s h.a h.n h.c xs) ∧
  ∀ (i j : Nat) (h h' : Hd), i ≠ j → hs[i]? = some h → hs[j]? = some h' → ∀ g, h.a.map (·.block) = some g → ¬ h'.a.map (·.block) = some g
def inH (hs : List Hd) (xss : List (List Int)) (m k : Nat) : Prop := ∃ (i : Nat) (h : Hd) (xs : List Int), i ≠ m ∧ hs[i]? = some h ∧ xss[i]? = some xs ∧ h.a.map (·.block) = some k
def Ent.ok (B : Nat) (w : World) : Ent → Prop
  | .bld b t tb v xs => BldOk w B b t tb v xs
  | .hole t s t' a c hs xss m => OwnV w B t a xss.length c (hs.map Hd.v) ∧ HoN w B s t' hs xss m ∧ ∀ (i : Nat) (h : Hd), hs[i]? = some h → ∀ k, h.a.map (·.block) = some k → ¬ a.map (·.block) = some k
  | .blk b cs t => B ≤ b ∧ w.heap[b]? = some (.cells cs t (0, 0))
  | .own t s a n c xs => OwnS w B t s a n c xs
  | .rd s a n c xs => RdS w s a n c xs
  | .rb b cs t => w.heap[b]? = some (.cells cs t (0, 0))
  | .nest t s fr a c hs xss => OwnV w B t a xss.length c (hs.map Hd.v) ∧ InN w B s fr hs xss ∧ ∀ k, inN fr hs xss k → ¬ a.map (·.block) = some k
  | .rdn s a n c hs xss => RdN w s a n c hs xss
def Ent.has : Ent → Nat → Prop
  | .bld b _ _ v _, k => b = k ∨ v.ownBlock = some k
  | .hole _ _ _ a _ hs xss m, k => a.map (·.block) = some k ∨ inH hs xss m k
  | .blk b _ _, k => b = k
  | .own _ _ a _ _ _, k => a.map (·.block) = some k
  | .rd _ a _ _ xs, k => xs ≠ [] ∧ a.map (·.block) = some k
  | .rb b _ _, k => b = k
  | .nest _ _ fr a _ hs xss, k => a.map (·.block) = some k ∨ inN fr hs xss k
  | .rdn _ a _ _ hs xss, k => (xss ≠ [] ∧ a.map (·.block) = some k) ∨ inN none hs xss k
/-- Nothing in it may be written. -/
def Ent.im : Ent → Bool
  | .rd .. => true
  | .rb .. => true
  | .rdn .. => true
  | _ => false
/-- It may not be written at this block. -/
def Ent.ro : Ent → Nat → Prop
  | .bld .., _ => False
  | .hole .., _ => False
  | .blk .., _ => False
  | .own .., _ => False
  | .nest _ _ fr a _ _ _, k => fr = none ∧ ¬ a.map (·.block) = some k
  | _, _ => True
theorem Ent.im_ro {e : Ent} (h : e.im = true) (k : Nat) : e.ro k := by cases e <;> first | trivial | cases h
/-- All of it may be written. -/
def Ent.wr : Ent → Bool
  | .bld .. => true
  | .blk .. => true
  | .own .. => true
  | .nest _ _ fr _ _ _ _ => fr.isSome
  | .hole .. => true
  | _ => false
theorem Ent.wr_ro {e : Ent} (h : e.wr = true) (k : Nat) : ¬ e.ro k := by
  cases e <;> first | exact fun h => h | cases h | skip
  intro hr
  obtain ⟨h1, _⟩ := hr
  subst h1
  cases h
theorem RdN.same {w w' : World} {s : Nat} {a : Option Addr} {n c : Nat} {hs : List Hd} {xss : List (List Int)} (h : RdN w s a n c hs xss) (hb : ∀ g, ((xss ≠ [] ∧ a.map (·.block) = some g) ∨ inN none hs xss g) → w'.heap[g]? = w.heap[g]?) : RdN w' s a n c hs xss := by
  obtain ⟨h1, h2, h3, h4, h5, h6⟩ := h
  refine ⟨h1, h2, h3, h4, fun k d hk => ?_, h6.same fun g hg => hb g (.inr hg)⟩
  have hkl : k < hs.length := by
    rcases Nat.lt_or_ge k hs.length with h' | h'
    · exact h'
    · rw [List.getElem?_eq_none h'] at hk; cases hk
  have hl := h6.1
  have hne : xss ≠ [] := by intro h; rw [h, List.length_nil] at hl; omega
  cases a with
  | none => have := (h4 rfl).1; omega
  | some p =>
    have hb2 : (adr (some p) k).block = p.block := by rw [adr_block]; rfl
    rw [World.cell?_of_block (w := w) (by rw [hb2]; exact hb p.block (.inl ⟨hne, rfl⟩))]
    exact h5 k d hk
theorem RdN.ltO {w : World} {s : Nat} {a : Option Addr} {n c : Nat} {hs : List Hd} {xss : List (List Int)} (h : RdN w s a n c hs xss) (hne : xss ≠ []) {g : Nat} (hg : a.map (·.block) = some g) : g < w.heap.size := by
  obtain ⟨h1, h2, h3, h4, h5, h6⟩ := h
  have hl := h6.1
  have hp : 0 < hs.length := by rw [hl]; exact List.length_pos_iff.2 hne
  have := cell_lt (h5 0 hs[0] (List.getElem?_eq_getElem hp))
  rw [adr_block] at this
  cases a with
  | none => cases hg
  | some p => simp at hg; subst hg; exact this
theorem Ent.ok_same {B : Nat} {w w' : World} {e : Ent} (h : e.ok B w) (hb : ∀ g, e.has g → w'.heap[g]? = w.heap[g]?) : e.ok B w' := by
  cases e with
  | bld b t tb v xs => exact BldOk.same h hb
  | blk b cs t => exact ⟨h.1, (hb b rfl).trans h.2⟩
  | own t s a n c xs => exact OwnS.same h hb
  | rd s a n c xs => exact RdS.same h fun g h1 h2 => hb g ⟨h1, h2⟩
  | rb b cs t => exact (hb b rfl).trans h
  | nest t s fr a c hs xss => exact ⟨OwnV.same h.1 fun g hg => hb g (.inl hg), InN.same h.2.1 fun g hg => hb g (.inr hg), h.2.2⟩
  | rdn s a n c hs xss => exact RdN.same h hb
  | hole t s t' a c hs xss m => exact ⟨OwnV.same h.1 fun g hg => hb g (.inl hg), ⟨h.2.1.1, fun i d xs hi h1 h2 => OwnS.same (h.2.1.2.1 i d xs hi h1 h2) fun g hg => hb g (.inr ⟨i, d, xs, hi, h1, h2, hg⟩), h.2.1.2.2⟩, h.2.2⟩
theorem Ent.ok_lt {B : Nat} {w : World} {e : Ent} (h : e.ok B w) {g : Nat} (hg : e.has g) : g < w.heap.size := by
  cases e with
  | bld b t tb v xs => exact (BldOk.lt h hg).2
  | blk b cs t =>
    have hb : b = g := hg
    subst hb
    have h2 : w.heap[b]? = some (.cells cs t (0, 0)) := h.2
    rcases Nat.lt_or_ge b w.heap.size with h' | h'
    · exact h'
    · simp [Array.getElem?_eq_none h'] at h2
  | own t s a n c xs => exact (OwnS.lt h hg).2
  | rd s a n c xs => exact RdS.lt h hg.1 hg.2
  | rb b cs t =>
    have hb : b = g := hg
    subst hb
    have h2 : w.heap[b]? = some (.cells cs t (0, 0)) := h
    rcases Nat.lt_or_ge b w.heap.size with h' | h'
    · exact h'
    · simp [Array.getElem?_eq_none h'] at h2
  | nest t s fr a c hs xss =>
    rcases hg with hg | hg
    · exact (OwnV.lt h.1 hg).2
    · exact InN.lt h.2.1 hg
  | rdn s a n c hs xss =>
    rcases hg with hg | hg
    · exact RdN.ltO h hg.1 hg.2
    · exact InN.lt h.2.2.2.2.2 hg
  | hole t s t' a c hs xss m =>
    rcases hg with hg | ⟨i, d, xs, hi, h1, h2, h3⟩
    · exact (OwnV.lt h.1 hg).2
    · exact (OwnS.lt (h.2.1.2.1 i d xs hi h1 h2) h3).2
theorem Ent.ok_ext {B : Nat} {w w' : World} {e : Ent} (h : e.ok B w) (he : Ext w w') : e.ok B w' := Ent.ok_same h fun _ hg => he.block (Ent.ok_lt h hg)

def apt (e e' : Ent) : Prop := ∀ k, e.has k → e'.has k → e.ro k ∧ e'.ro k
theorem apt.symm {e e' : Ent} (h : apt e e') : apt e' e := fun k h1 h2 => (h k h2 h1).symm
/-- What the walk knows: w0, the world at its start; the world now; the pieces, apart where one of them may be written. -/
structure St (w0 w : World) (Γ : List Ent) : Prop where
  ext : Ext w0 w
  ok : ∀ (i : Nat) (e : Ent), Γ[i]? = some e → e.ok w0.heap.size w
  apart : ∀ (i j : Nat) (e e' : Ent), i ≠ j → Γ[i]? = some e → Γ[j]? = some e' → apt e e'
theorem St.nil (w : World) : St w w [] := ⟨Ext.refl w, fun i e h => by simp at h, fun i j e e' _ h => by simp at h⟩
theorem St.go {w0 w w' : World} {Γ : List Ent} (h : St w0 w Γ) (he : Ext w w') : St w0 w' Γ :=
  ⟨h.ext.trans he, fun i e hi => Ent.ok_ext (h.ok i e hi) he, h.apart⟩
theorem St.im0 {w : World} {Γ : List Ent} (h : St w w Γ) (hΓ : Γ.all Ent.im = true) {e : Ent} (him : e.im = true) (he : e.ok w.heap.size w) : St w w (e :: Γ) := by
  refine ⟨h.ext, fun i d hi => ?_, fun i j e1 e' hij hi hj k h1 h2 => ?_⟩
  · cases i with
    | zero => simp at hi; subst hi; exact he
    | succ i => exact h.ok i d hi
  · have im : ∀ (i : Nat) (d : Ent), (e :: Γ)[i]? = some d → d.im = true := by
      intro i d hi
      cases i with
      | zero => simp at hi; subst hi; exact him
      | succ i => exact List.all_eq_true.1 hΓ d (List.mem_of_getElem? hi)
    exact ⟨Ent.im_ro (im i e1 hi) k, Ent.im_ro (im j e' hj) k⟩
theorem St.rd0 {w : World} {Γ : List Ent} (h : St w w Γ) (hΓ : Γ.all Ent.im = true) {s : Nat} {a : Option Addr} {n c : Nat} {xs : List Int} (hr : RdS w s a n c xs) : St w w (.rd s a n c xs :: Γ) := h.im0 hΓ rfl hr
theorem St.rb0 {w : World} {Γ : List Ent} (h : St w w Γ) (hΓ : Γ.all Ent.im = true) {b : Nat} {cs : Array Value} {t : TypeId} (hr : w.heap[b]? = some (.cells cs t (0, 0))) : St w w (.rb b cs t :: Γ) := h.im0 hΓ rfl hr
theorem St.push {w0 w w' : World} {Γ : List Ent} (h : St w0 w Γ) (he : Ext w w') {e : Ent} (ho : e.ok w0.heap.size w') (hf : ∀ k, e.has k → w.heap.size ≤ k) : St w0 w' (e :: Γ) := by
  refine ⟨h.ext.trans he, fun i e' hi => ?_, fun i j e1 e2 hij hi hj k h1 h2 => ?_⟩
  · cases i with
    | zero => simp at hi; subst hi; exact ho
    | succ i => exact Ent.ok_ext (h.ok i e' hi) he
  · cases i with
    | zero =>
      simp at hi; subst hi
      cases j with
      | zero => exact absurd rfl hij
      | succ j => have := Ent.ok_lt (h.ok j e2 hj) h2; have := hf k h1; omega
    | succ i =>
      cases j with
      | zero => simp at hj; subst hj; have := Ent.ok_lt (h.ok i e1 hi) h1; have := hf k h2; omega
      | succ j => exact h.apart i j e1 e2 (by omega) hi hj k h1 h2
theorem St.own {w0 w w' : World} {Γ : List Ent} (h : St w0 w Γ) (he : Ext w w') {t : TypeId} {s : Nat} {a : Option Addr} {n c : Nat} {xs : List Int} (ho : OwnS w' w.heap.size t s a n c xs) : St w0 w' (.own t s a n c xs :: Γ) :=
  h.push he (e := .own t s a n c xs) (ho.mono h.ext.size) fun _ hk => (OwnS.lt ho hk).1
theorem St.nils {w0 w : World} {Γ : List Ent} (h : St w0 w Γ) (t : TypeId) (s : Nat) : St w0 w (.own t s none 0 0 [] :: Γ) := h.own (Ext.refl w) (OwnS.nilS _ _ _ _)
theorem heap_alloc_at (w : World) (o : Obj) : (w.alloc o).heap[w.heap.size]? = some o := by show (w.heap.push o)[w.heap.size]? = _; simp
theorem St.blk {w0 w : World} {Γ : List Ent} (h : St w0 w Γ) (cs : Array Value) (t : TypeId) : St w0 (w.alloc (.cells cs t)) (.blk w.heap.size cs t :: Γ) :=
  h.push ((Ext.refl w).alloc _) (e := .blk w.heap.size cs t) ⟨h.ext.size, heap_alloc_at _ _⟩ fun _ hk => by cases hk; exact Nat.le_refl _
/-- One piece has been written, in a way that touches its block alone (or a new one). -/
theorem St.set {w0 w w' : World} {Γ : List Ent} (h : St w0 w Γ) {i : Nat} {e e' : Ent} (hi : Γ[i]? = some e) (him : e.wr = true) (hx : Ext w0 w') (hb : ∀ k, k < w.heap.size → ¬ e.has k → w'.heap[k]? = w.heap[k]?)
    (ho : e'.ok w0.heap.size w') (hf : ∀ k, e'.has k → e.has k ∨ w.heap.size ≤ k) : St w0 w' (Γ.set i e') := by
  have hil : i < Γ.length := by
    rcases Nat.lt_or_ge i Γ.length with h' | h'
    · exact h'
    · rw [List.getElem?_eq_none h'] at hi; cases hi
  have away : ∀ (j : Nat) (d : Ent), j ≠ i → Γ[j]? = some d → ∀ k, d.has k → ¬ e.has k := fun j d hj hd k h1 h2 => by
    exact absurd (h.apart i j e d (Ne.symm hj) hi hd k h2 h1).1 (Ent.wr_ro him k)
  have get : ∀ (j : Nat) (d : Ent), (Γ.set i e')[j]? = some d → (j = i ∧ d = e') ∨ (j ≠ i ∧ Γ[j]? = some d) := fun j d hj => by
    rw [List.getElem?_set] at hj
    by_cases e : i = j
    · subst e; simp [hil] at hj; exact .inl ⟨rfl, hj.symm⟩
    · simp [e] at hj; exact .inr ⟨fun h => e h.symm, hj⟩
  refine ⟨hx, fun j d hj => ?_, fun j k d d' hjk hj hk g h1 h2 => ?_⟩
  · rcases get j d hj with ⟨rfl, rfl⟩ | ⟨hne, hd⟩
    · exact ho
    · exact Ent.ok_same (h.ok j d hd) fun g hg => hb g (Ent.ok_lt (h.ok j d hd) hg) (away j d hne hd g hg)
  · rcases get j d hj with ⟨rfl, rfl⟩ | ⟨hne, hd⟩
    · rcases get k d' hk with ⟨rfl, rfl⟩ | ⟨hne', hd'⟩
      · exact absurd rfl hjk
      · rcases hf g h1 with h3 | h3
        · exact absurd h3 (away k d' hne' hd' g h2)
        · have := Ent.ok_lt (h.ok k d' hd') h2; omega
    · rcases get k d' hk with ⟨rfl, rfl⟩ | ⟨hne', hd'⟩
      · rcases hf g h2 with h3 | h3
        · exact absurd h3 (away j d hne hd g h1)
        · have := Ent.ok_lt (h.ok j d hd) h1; omega
      · exact h.apart j k d d' hjk hd hd' g h1 h2
theorem St.drop {w0 w : World} {Γ : List Ent} (h : St w0 w Γ) (k : Nat) : St w0 w (Γ.drop k) :=
  ⟨h.ext, fun i e hi => h.ok (k + i) e (by rwa [List.getElem?_drop] at hi), fun i j e e' hij hi hj => h.apart (k + i) (k + j) e e' (by omega) (by rwa [List.getElem?_drop] at hi) (by rwa [List.getElem?_drop] at hj)⟩
/-- Only some of the pieces (given by their places, all different). -/
theorem St.pick {w0 w : World} {Γ Γ' : List Ent} (h : St w0 w Γ) (ix : List Nat) (hn : ix.Nodup) (hp : ix.map (Γ[·]?) = Γ'.map some) : St w0 w Γ' := by
  have get : ∀ (j : Nat) (e : Ent), Γ'[j]? = some e → ∃ i, ix[j]? = some i ∧ Γ[i]? = some e := fun j e hj => by
    have : (ix.map (Γ[·]?))[j]? = (Γ'.map some)[j]? := by rw [hp]
    rw [List.getElem?_map, List.getElem?_map, hj] at this
    cases hx : ix[j]? with
    | none => rw [hx] at this; simp at this
    | some i => rw [hx] at this; exact ⟨i, rfl, by simpa using this⟩
  refine ⟨h.ext, fun j e hj => ?_, fun j k e e' hjk hj hk => ?_⟩
  · obtain ⟨i, _, hi⟩ := get j e hj; exact h.ok i e hi
  · obtain ⟨i, h1, hi⟩ := get j e hj
    obtain ⟨i', h1', hi'⟩ := get k e' hk
    refine h.apart i i' e e' ?_ hi hi'
    intro e; subst e
    have hj' : j < ix.length := by
      rcases Nat.lt_or_ge j ix.length with h' | h'
      · exact h'
      · rw [List.getElem?_eq_none h'] at h1; cases h1
    exact hjk ((List.getElem?_inj hj' hn).1 (h1.trans h1'.symm))

/-! reading -/
section
variable {w0 w : World} {Γ : List Ent} {i : Nat}
theorem St.cell {b k : Nat} {cs : Array Value} {t : TypeId} {v : Value} (h : St w0 w Γ) (hi : Γ[i]? = some (.blk b cs t)) (hv : cs[k]? = some v) : ∀ w', Ext w w' → w'.cell? ⟨b, k, none⟩ = some v := fun w' he => by
  have := (Ent.ok_ext (h.ok i _ hi) he).2
  simp [World.cell?, this, hv]
theorem St.row {b : Nat} {cs : Array Value} {t : TypeId} (h : St w0 w Γ) (hi : Γ[i]? = some (.blk b cs t)) : ∀ w', Ext w w' → w'.heap[b]? = some (.cells cs t (0, 0)) := fun _ he => (Ent.ok_ext (h.ok i _ hi) he).2
theorem St.cellR {b k : Nat} {cs : Array Value} {t : TypeId} {v : Value} (h : St w0 w Γ) (hi : Γ[i]? = some (.rb b cs t)) (hv : cs[k]? = some v) : ∀ w', Ext w w' → w'.cell? ⟨b, k, none⟩ = some v := fun w' he => by
  have : w'.heap[b]? = some (.cells cs t (0, 0)) := Ent.ok_ext (h.ok i _ hi) he
  simp [World.cell?, this, hv]
theorem St.rowR {b : Nat} {cs : Array Value} {t : TypeId} (h : St w0 w Γ) (hi : Γ[i]? = some (.rb b cs t)) : ∀ w', Ext w w' → w'.heap[b]? = some (.cells cs t (0, 0)) := fun _ he => Ent.ok_ext (h.ok i _ hi) he
theorem St.rdO {s : Nat} {a : Option Addr} {n c : Nat} {xs : List Int} {t : TypeId} (h : St w0 w Γ) (hi : Γ[i]? = some (.own t s a n c xs)) : RdS w s a n c xs := OwnS.rd (h.ok i _ hi)
theorem St.rdR {s : Nat} {a : Option Addr} {n c : Nat} {xs : List Int} (h : St w0 w Γ) (hi : Γ[i]? = some (.rd s a n c xs)) : RdS w s a n c xs := h.ok i _ hi
end
theorem RdS.nilS (w : World) (s : Nat) : RdS w s none 0 0 [] := ⟨by simp, Nat.le_refl _, Nat.zero_le _, fun _ => ⟨rfl, rfl⟩, fun k hk => absurd hk (Nat.not_lt_zero k)⟩
theorem RdS.isS {w : World} {s : Nat} {a : Option Addr} {n c : Nat} {xs : List Int} (h : RdS w s a n c xs) {m : Int} (h0 : 0 ≤ m) (h1 : m < n) : a.isSome = true := by
  cases a with
  | none => have := (h.2.2.2.1 rfl).1; omega
  | some p => rfl
/-- The number at a place. -/
def gI (xs : List Int) (m : Int) : Int := gi xs m.toNat
theorem RdS.elt {w : World} {a : Option Addr} {n c : Nat} {xs : List Int} (h : RdS w 1 a n c xs) {m : Int} (h0 : 0 ≤ m) (h1 : m < n) : ∀ w', Ext w w' → w'.cell? (adr a m.toNat) = some (.int .i64 (gI xs m)) := fun w' he => by
  have hl := h.1
  exact (h.ext he).2.2.2.2 m.toNat (by omega)
theorem RdS.eltN {w : World} {s : Nat} {a : Option Addr} {n c : Nat} {xs : List Int} (h : RdS w s a n c xs) {m : Int} {j : Nat} (h0 : 0 ≤ m) (h1 : m < n) (hj : j < s) : ∀ w', Ext w w' → w'.cell? (adr a (m.toNat * s + j)) = some (.int .i64 (gi xs (m.toNat * s + j))) := fun w' he => by
  refine (h.ext he).2.2.2.2 _ ?_
  rw [h.1]
  have h2 : m.toNat + 1 ≤ n := by omega
  calc m.toNat * s + j < m.toNat * s + s := by omega
    _ = (m.toNat + 1) * s := by rw [Nat.succ_mul]
    _ ≤ n * s := Nat.mul_le_mul_right _ h2
theorem RdS.len1 {w : World} {a : Option Addr} {n c : Nat} {xs : List Int} (h : RdS w 1 a n c xs) : xs.length = n := by have := h.1; omega
theorem RdS.le {w : World} {s : Nat} {a : Option Addr} {n c : Nat} {xs : List Int} (h : RdS w s a n c xs) : n ≤ 9223372036854775807 := by
  have h1 := h.2.1; have h2 := h.2.2.1; unfold maxLen at h2; omega

/-- Pieces with an unknown rest: only some of the first ones. -/
theorem St.pickT {w0 w : World} {Γ Γ' : List Ent} {Γ0 : List Ent} (h : St w0 w (Γ ++ Γ0)) (ix : List Nat) (hn : ix.Nodup) (hlt : ix.all (fun i => Nat.blt i Γ.length) = true) (hp : ix.map (Γ[·]?) = Γ'.map some) : St w0 w (Γ' ++ Γ0) := by
  have get : ∀ (j : Nat) (e : Ent), (Γ' ++ Γ0)[j]? = some e → ∃ i, (Γ ++ Γ0)[i]? = some e ∧ ((j < Γ'.length ∧ ix[j]? = some i ∧ i < Γ.length) ∨ (Γ'.length ≤ j ∧ i = j - Γ'.length + Γ.length)) := fun j e hj => by
    rcases Nat.lt_or_ge j Γ'.length with hlt' | hge
    · rw [List.getElem?_append_left hlt'] at hj
      have : (ix.map (Γ[·]?))[j]? = (Γ'.map some)[j]? := by rw [hp]
      rw [List.getElem?_map, List.getElem?_map, hj] at this
      cases hx : ix[j]? with
      | none => rw [hx] at this; simp at this
      | some i =>
        rw [hx] at this
        have hi : Γ[i]? = some e := by simpa using this
        have hil : i < Γ.length := by
          have := List.all_eq_true.1 hlt i (List.mem_of_getElem? hx)
          simpa using this
        exact ⟨i, by rw [List.getElem?_append_left hil]; exact hi, .inl ⟨hlt', rfl, hil⟩⟩
    · rw [List.getElem?_append_right hge] at hj
      refine ⟨j - Γ'.length + Γ.length, ?_, .inr ⟨hge, rfl⟩⟩
      rw [List.getElem?_append_right (by omega)]
      simpa using hj
  refine ⟨h.ext, fun j e hj => ?_, fun j k e e' hjk hj hk => ?_⟩
  · obtain ⟨i, hi, _⟩ := get j e hj; exact h.ok i e hi
  · obtain ⟨i, hi, h1⟩ := get j e hj
    obtain ⟨i', hi', h1'⟩ := get k e' hk
    refine h.apart i i' e e' ?_ hi hi'
    intro e; subst e
    rcases h1 with ⟨a1, a2, a3⟩ | ⟨a1, a2⟩ <;> rcases h1' with ⟨b1, b2, b3⟩ | ⟨b1, b2⟩
    · have hj' : j < ix.length := by
        rcases Nat.lt_or_ge j ix.length with h' | h'
        · exact h'
        · rw [List.getElem?_eq_none h'] at a2; cases a2
      exact hjk ((List.getElem?_inj hj' hn).1 (a2.trans b2.symm))
    · omega
    · omega
    · omega

/-! writing -/
theorem OwnS.store {w : World} {B : Nat} {t : TypeId} {s : Nat} {a : Option Addr} {n c : Nat} {xs : List Int} (h : OwnS w B t s a n c xs) {k : Nat} (hk : k < xs.length) (y : Int) :
    OwnS (w.setCell (adr a k) (.int .i64 y)) B t s a n c (xs.set k y) ∧ w.frozen? (adr a k) = false := by
  obtain ⟨hl, ⟨rfl, rfl, rfl⟩ | ⟨g, cur, rfl, h1, h2, h3, h4, h5, h6⟩⟩ := h.cases
  · simp at hl; subst hl; exact absurd hk (Nat.not_lt_zero k)
  · have hb : (w.setCell (adr (some ⟨g, 0, none⟩) k) (.int .i64 y)).heap[g]? = some (.cells (cur.setIfInBounds k (.int .i64 y)) t (0, 0)) := by
      rw [adr_lit]; simp [World.setCell, Array.getElem?_modify, h2]
    refine ⟨OwnS.mk (by simpa using hl) h1 hb h3 h4 (by simpa using h5) ?_, by rw [adr_lit]; simp [World.frozen?, h2]⟩
    rw [Array.toList_setIfInBounds, ← set_take_aux cur.toList _ (by omega), h6]
    unfold intV; rw [List.map_set]
/-- The list with another number at a place. -/
def sI (xs : List Int) (m y : Int) : List Int := xs.set m.toNat y
theorem sI_len (xs : List Int) (m y : Int) : (sI xs m y).length = xs.length := by simp [sI]
theorem St.store {w0 w : World} {Γ : List Ent} {i : Nat} {t : TypeId} {a : Option Addr} {n c : Nat} {xs : List Int} (h : St w0 w Γ) (hi : Γ[i]? = some (.own t 1 a n c xs)) {m : Int} (h0 : 0 ≤ m) (h1 : m < n) (y : Int) :
    St w0 (w.setCell (adr a m.toNat) (.int .i64 y)) (Γ.set i (.own t 1 a n c (sI xs m y))) := by
  have ho : OwnS w w0.heap.size t 1 a n c xs := h.ok i _ hi
  have hl := ho.cases.1
  have hs : a.isSome = true := ho.rd.isS h0 h1
  obtain ⟨p, rfl⟩ := Option.isSome_iff_exists.1 hs
  have hb : (adr (some p) m.toNat).block = p.block := by rw [adr_block]; rfl
  refine h.set hi rfl ?_ ?_ (e' := .own t 1 (some p) n c (sI xs m y)) (ho.store (by omega) y).1 (fun k hk => .inl hk)
  · refine Below.setCell h.ext ?_ _
    rw [hb]; exact (OwnS.lt ho rfl).1
  · intro k _ hk
    refine setCell_block ?_
    rw [hb]; intro e; exact hk (by simp [Ent.has, e])
theorem St.cellOk {w0 w : World} {Γ : List Ent} {i : Nat} {t : TypeId} {a : Option Addr} {n c : Nat} {xs : List Int} (h : St w0 w Γ) (hi : Γ[i]? = some (.own t 1 a n c xs)) {m : Int} (h0 : 0 ≤ m) (h1 : m < n) :
    w.frozen? (adr a m.toNat) = false ∧ w.cell? (adr a m.toNat) = some (.int .i64 (gI xs m)) := by
  have ho : OwnS w w0.heap.size t 1 a n c xs := h.ok i _ hi
  have hl := ho.cases.1
  exact ⟨(ho.store (k := m.toNat) (by omega) 0).2, ho.rd.elt h0 h1 w (Ext.refl w)⟩
end Go.Proofs.YtkilkfhjfobcdaaDoor
