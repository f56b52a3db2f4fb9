/- Base: words for memory (slices of int64 that are read, slices that the call owns, worlds that only grow), and their plain laws. No statement about the program is made here. -/
import Derived.Test.YtkilkfhjfobcdaaDoorRows
import Derived.WalkKit
import Derived.ProofKit
import Derived.Deep.QuietTactic
import Derived.BigQuiet
import Derived.Outline
import Derived.Lib.Hide
import Derived.Laws.OwnMore
namespace Go.Proofs.YtkilkfhjfobcdaaDoor
open Go.RowKit

theorem ret_bool {a b : Bool} (h : a = b) : Ending.returned (.bool a) = .returned (.bool b) := by rw [h]
theorem ret_int {a b : Int} (h : a = b) : Ending.returned (.int .i64 a) = .returned (.int .i64 b) := by rw [h]
/-- The element number k of a list of integers. -/
def gi (xs : List Int) (k : Nat) : Int := xs.getD k 0
theorem gi_get {xs : List Int} {k : Nat} (h : k < xs.length) : gi xs k = xs[k] := by
  unfold gi; rw [List.getD_eq_getElem?_getD, List.getElem?_eq_getElem h]; rfl
theorem gi_some {xs : List Int} {k : Nat} (h : k < xs.length) : xs[k]? = some (gi xs k) := by
  rw [gi_get h]; exact List.getElem?_eq_getElem h
theorem take_gi {xs : List Int} {k : Nat} (h : k < xs.length) : xs.take (k + 1) = xs.take k ++ [gi xs k] := by
  rw [gi_get h]; exact List.take_succ_eq_append_getElem h
theorem gi_map {α : Type} {f : α → Int} {l : List α} {k : Nat} (h : k < l.length) : gi (l.map f) k = f l[k] := by
  rw [gi_get (by simpa using h)]; simp
theorem gi_out {xs : List Int} {k : Nat} (h : xs.length ≤ k) : gi xs k = 0 := by
  unfold gi; rw [List.getD_eq_getElem?_getD, List.getElem?_eq_none h]; rfl
theorem gi_set {xs : List Int} {k j : Nat} {x : Int} (h : k < xs.length) : gi (xs.set k x) j = if k = j then x else gi xs j := by
  unfold gi
  rw [List.getD_eq_getElem?_getD, List.getD_eq_getElem?_getD, List.getElem?_set]
  split <;> simp_all
theorem ext_gi {xs ys : List Int} (hl : xs.length = ys.length) (h : ∀ k, k < xs.length → gi xs k = gi ys k) : xs = ys := by
  apply List.ext_getElem hl
  intro k h1 h2
  have := h k h1
  rwa [gi_get h1, gi_get h2] at this

theorem set_take_aux {α : Type} (l : List α) (x : α) {k n : Nat} (_h : k < n) : (l.take n).set k x = (l.set k x).take n := by
  rw [List.take_set]

/-- Every old block is as it was; the streams are as they were. -/
def Ext (w w' : World) : Prop := Below w.heap.size w w'
theorem Ext.refl (w : World) : Ext w w := Below.refl _ _
theorem Ext.trans {a b c : World} (h : Ext a b) (k : Ext b c) : Ext a c := Below.trans h (Below.mono k (Below.size h))
theorem Ext.drew {a b : World} (h : Ext a b) : Ext a b.drew := Below.drew h
theorem Ext.drewN {a b : World} (h : Ext a b) (n : Nat) : Ext a (b.drewN n) := ⟨h.os, h.tape, h.output, h.size, h.block⟩
theorem Ext.alloc {a b : World} (h : Ext a b) (o : Obj) : Ext a (b.alloc o) := Below.alloc h (Below.size h) o
theorem Ext.size {a b : World} (h : Ext a b) : a.heap.size ≤ b.heap.size := Below.size h
theorem Ext.cell {a b : World} (h : Ext a b) {p : Addr} {v : Value} (hc : a.cell? p = some v) : b.cell? p = some v := by
  have hp : p.block < a.heap.size := by
    rcases Nat.lt_or_ge p.block a.heap.size with h' | h'
    · exact h'
    · simp [World.cell?, Array.getElem?_eq_none h'] at hc
  rw [Below.cell h hp]; exact hc
theorem cell_lt {w : World} {p : Addr} {v : Value} (hc : w.cell? p = some v) : p.block < w.heap.size := by
  rcases Nat.lt_or_ge p.block w.heap.size with h' | h'
  · exact h'
  · simp [World.cell?, Array.getElem?_eq_none h'] at hc
theorem Ext.block {a b : World} (h : Ext a b) {k : Nat} (hk : k < a.heap.size) : b.heap[k]? = a.heap[k]? := Below.block h k hk
theorem Ext.frozen {a b : World} (h : Ext a b) {p : Addr} (hp : p.block < a.heap.size) : b.frozen? p = a.frozen? p := Below.frozen h hp

/-- Where element number k of a slice lies. -/
def adr (a : Option Addr) (k : Nat) : Addr := (a.getD default).add k
def blk (a : Option Addr) : Nat := (a.getD default).block
theorem adr_block (a : Option Addr) (k : Nat) : (adr a k).block = blk a := by
  unfold adr blk Addr.add; split <;> rfl

/-- A slice of int64 at this address reads as these numbers. -/
def Rd (w : World) (a : Option Addr) (xs : List Int) : Prop :=
  ∀ k, k < xs.length → a.isSome = true ∧ w.cell? (adr a k) = some (.int .i64 (gi xs k))
theorem Rd.ext {w w' : World} {a : Option Addr} {xs : List Int} (h : Rd w a xs) (he : Ext w w') : Rd w' a xs :=
  fun k hk => ⟨(h k hk).1, he.cell (h k hk).2⟩
theorem Rd.nil (w : World) (a : Option Addr) : Rd w a [] := fun k hk => absurd hk (Nat.not_lt_zero k)
theorem Rd.lt {w : World} {a : Option Addr} {xs : List Int} (h : Rd w a xs) (hn : 0 < xs.length) : blk a < w.heap.size := by
  have := cell_lt (h 0 hn).2
  rwa [adr_block] at this

theorem idxI {a : Option Addr} {n c k : Nat} (hs : a.isSome = true) (hk : k < n) (w : World) :
    (Instr.indexAt 22 (.slice a n c) (.int .i64 (k : Int))).run Tryd.prog w = .ok (.pointer (some (adr a k))) w := by
  obtain ⟨b, rfl⟩ := Option.isSome_iff_exists.1 hs
  have h1 : Tryd.prog.underlying 22 = some (.slice (Tryd.prog.elem 22)) := by kernel_rfl
  have h2 : (sizeOf (Tryd.prog.elem 22)).run Tryd.prog w = .ok 1 w := by kernel_rfl
  rw [run_indexAt_slice _ _ _ _ _ _ _ h1, if_pos (by omega), h2]
  simp [Result.andThen, adr]

/-- A slice of int64 that the call owns: it reads as these numbers, its block is one from B on, nothing in it is frozen. -/
def Own (w : World) (B : Nat) (a : Option Addr) (c : Nat) (xs : List Int) : Prop :=
  w.ownsRow B 2 1 (.slice a xs.length c) xs.length (xs.map (Value.int .i64))
theorem Own.cases {w : World} {B : Nat} {a : Option Addr} {c : Nat} {xs : List Int} (h : Own w B a c xs) :
    (a = none ∧ c = 0 ∧ xs = []) ∨ ∃ g cur, a = some ⟨g, 0, none⟩ ∧ B ≤ g ∧ w.heap[g]? = some (.cells cur 2 (0, 0)) ∧ xs.length ≤ c ∧ c ≤ maxLen ∧ cur.size = c ∧ cur.toList.take xs.length = xs.map (Value.int .i64) := by
  obtain ⟨_, h | ⟨g, cap, cur, h1, h2, h3, h4, h5, h6, h7⟩⟩ := h
  · obtain ⟨h, h0⟩ := h
    simp only [Value.slice.injEq] at h
    exact .inl ⟨h.1, h.2.2, List.length_eq_zero_iff.1 h0⟩
  · simp only [Value.slice.injEq] at h1
    obtain ⟨rfl, _, rfl⟩ := h1
    exact .inr ⟨g, cur, rfl, h2, h3, h4, h5, by simpa using h6, by simpa using h7⟩
theorem Own.mk {w : World} {B g c : Nat} {cur : Array Value} {xs : List Int} (hB : B ≤ g) (hg : w.heap[g]? = some (.cells cur 2 (0, 0)))
    (h1 : xs.length ≤ c) (h2 : c ≤ maxLen) (h3 : cur.size = c) (h4 : cur.toList.take xs.length = xs.map (Value.int .i64)) : Own w B (some ⟨g, 0, none⟩) c xs :=
  ⟨by simp, .inr ⟨g, c, cur, rfl, hB, hg, h1, h2, by simpa using h3, by simpa using h4⟩⟩
theorem Own.nil (w : World) (B : Nat) : Own w B none 0 [] := ⟨by simp, .inl ⟨rfl, rfl⟩⟩
theorem Own.mono {w : World} {B B' : Nat} {a : Option Addr} {c : Nat} {xs : List Int} (h : Own w B a c xs) (hB : B' ≤ B) : Own w B' a c xs := by
  rcases h.cases with ⟨rfl, rfl, rfl⟩ | ⟨g, cur, rfl, h1, h2, h3, h4, h5, h6⟩
  · exact Own.nil _ _
  · exact Own.mk (Nat.le_trans hB h1) h2 h3 h4 h5 h6
theorem Own.same {w w' : World} {B : Nat} {a : Option Addr} {c : Nat} {xs : List Int} (h : Own w B a c xs) (hb : w'.heap[blk a]? = w.heap[blk a]?) : Own w' B a c xs := by
  rcases h.cases with ⟨rfl, rfl, rfl⟩ | ⟨g, cur, rfl, h1, h2, h3, h4, h5, h6⟩
  · exact Own.nil _ _
  · exact Own.mk h1 ((show w'.heap[g]? = w.heap[g]? from hb).trans h2) h3 h4 h5 h6
theorem Own.lt {w : World} {B : Nat} {a : Option Addr} {c : Nat} {xs : List Int} (h : Own w B a c xs) (hn : a ≠ none) : B ≤ blk a ∧ blk a < w.heap.size := by
  rcases h.cases with ⟨rfl, rfl, rfl⟩ | ⟨g, cur, rfl, h1, h2, h3, h4, h5, h6⟩
  · exact absurd rfl hn
  · refine ⟨h1, ?_⟩
    show g < _
    rcases Nat.lt_or_ge g w.heap.size with h' | h'
    · exact h'
    · simp [Array.getElem?_eq_none h'] at h2
theorem Own.ext {w w' : World} {B : Nat} {a : Option Addr} {c : Nat} {xs : List Int} (h : Own w B a c xs) (he : Ext w w') : Own w' B a c xs := by
  by_cases hn : a = none
  · rcases h.cases with ⟨rfl, rfl, rfl⟩ | ⟨g, cur, rfl, _⟩
    · exact Own.nil _ _
    · cases hn
  · exact h.same (he.block (h.lt hn).2)
theorem Own.cellAt {w : World} {B : Nat} {a : Option Addr} {c : Nat} {xs : List Int} (h : Own w B a c xs) {k : Nat} (hk : k < xs.length) :
    a.isSome = true ∧ w.cell? (adr a k) = some (.int .i64 (gi xs k)) ∧ w.frozen? (adr a k) = false := by
  rcases h.cases with ⟨rfl, rfl, rfl⟩ | ⟨g, cur, rfl, h1, h2, h3, h4, h5, h6⟩
  · exact absurd hk (Nat.not_lt_zero k)
  · have hkc : k < cur.size := by omega
    have e : cur[k]? = some (.int .i64 (gi xs k)) := by
      have h7 : (cur.toList.take xs.length)[k]? = (xs.map (Value.int .i64))[k]? := by rw [h6]
      rw [List.getElem?_take_of_lt hk, List.getElem?_map, gi_some hk] at h7
      simpa using h7
    have ea : adr (some ⟨g, 0, none⟩) k = ⟨g, k, none⟩ := by
      unfold adr Addr.add; by_cases h0 : k = 0
      · subst h0; rfl
      · simp [h0]
    refine ⟨rfl, ?_, ?_⟩
    · rw [ea]; simp [World.cell?, h2, e]
    · rw [ea]; simp [World.frozen?, h2]
theorem Own.rd {w : World} {B : Nat} {a : Option Addr} {c : Nat} {xs : List Int} (h : Own w B a c xs) : Rd w a xs :=
  fun _ hk => ⟨(h.cellAt hk).1, (h.cellAt hk).2.1⟩
theorem Own.store {w : World} {B : Nat} {a : Option Addr} {c : Nat} {xs : List Int} (h : Own w B a c xs) {k : Nat} (hk : k < xs.length) (y : Int) :
    Own (w.setCell (adr a k) (.int .i64 y)) B a c (xs.set k y) := by
  rcases h.cases with ⟨rfl, rfl, rfl⟩ | ⟨g, cur, rfl, h1, h2, h3, h4, h5, h6⟩
  · exact absurd hk (Nat.not_lt_zero k)
  · have ea : adr (some ⟨g, 0, none⟩) k = ⟨g, k, none⟩ := by
      unfold adr Addr.add; by_cases h0 : k = 0
      · subst h0; rfl
      · simp [h0]
    have hb : (w.setCell (adr (some ⟨g, 0, none⟩) k) (.int .i64 y)).heap[g]? = some (.cells (cur.setIfInBounds k (.int .i64 y)) 2 (0, 0)) := by
      rw [ea]; simp [World.setCell, Array.getElem?_modify, h2]
    refine Own.mk h1 hb (by simpa using h3) h4 (by simpa using h5) ?_
    rw [List.length_set, Array.toList_setIfInBounds, ← set_take_aux cur.toList _ hk, h6, List.map_set]
theorem setCell_block {w : World} {p : Addr} {v : Value} {b : Nat} (h : b ≠ p.block) : (w.setCell p v).heap[b]? = w.heap[b]? := Below.heap_setCell _ _ _ _ h
theorem setCell_size (w : World) (p : Addr) (v : Value) : (w.setCell p v).heap.size = w.heap.size := by simp [World.setCell]
/-- The call returns a new slice of int64 that reads as zs. -/
def RetS (w : World) (zs : List Int) (e : Ending) (w' : World) : Prop := ∃ b c', e = .returned (.slice b zs.length c') ∧ Own w' w.heap.size b c' zs ∧ Ext w w' ∧ (b = none → c' = 0)
/-- .. and an error's number beside it. -/
def RetSI (w : World) (zs : List Int) (code : Int) (e : Ending) (w' : World) : Prop := ∃ b c', e = .returned (.tuple #[.slice b zs.length c', .int .i64 code]) ∧ Own w' w.heap.size b c' zs ∧ Ext w w' ∧ (b = none → c' = 0)
theorem Own.cap {w : World} {B : Nat} {a : Option Addr} {c : Nat} {xs : List Int} (h : Own w B a c xs) : a = none → c = 0 := by
  rcases h.cases with ⟨rfl, rfl, rfl⟩ | ⟨g, cur, rfl, _⟩
  · exact fun _ => rfl
  · exact fun h => by cases h
theorem RetS.mk {w w1 w' : World} {zs : List Int} {b : Option Addr} {c' : Nat} {e : Ending} (h1 : e = .returned (.slice b zs.length c')) (h2 : Own w' w1.heap.size b c' zs) (h3 : Ext w w1) (h4 : Ext w1 w') : RetS w zs e w' :=
  ⟨b, c', h1, h2.mono h3.size, h3.trans h4, h2.cap⟩
theorem RetSI.mk {w w1 w' : World} {zs : List Int} {code : Int} {b : Option Addr} {c' : Nat} {e : Ending} (h1 : e = .returned (.tuple #[.slice b zs.length c', .int .i64 code])) (h2 : Own w' w1.heap.size b c' zs) (h3 : Ext w w1) (h4 : Ext w1 w') : RetSI w zs code e w' :=
  ⟨b, c', h1, h2.mono h3.size, h3.trans h4, h2.cap⟩
end Go.Proofs.YtkilkfhjfobcdaaDoor
