/- Sl: contracts of the laws' own functions on slices of int64: copy, compare, mark, held. -/
import Derived.Test.YtfilpikakdlgbaaInts
import Derived.Test.YtfilpikakdlgbaaMem
import Derived.RegionTactic
namespace Go.Proofs.Ytfilpikakdlgbaa
open Go.RowKit

theorem Ext.store {w0 w : World} {B : Nat} {a : Option Addr} {c : Nat} {xs : List Int} (h : Ext w0 w) (ho : Own w B a c xs) (hB : w0.heap.size ≤ B) {k : Nat} (hk : k < xs.length) (v : Value) : Ext w0 (w.setCell (adr a k) v) := by
  have ha : a ≠ none := by have := (ho.cellAt hk).1; intro h; subst h; cases this
  refine Below.setCell h ?_ v
  rw [adr_block]
  exact Nat.le_trans hB (ho.lt ha).1

def fillTo (xs : List Int) (k : Nat) : List Int := xs.take k ++ List.replicate (xs.length - k) 0
theorem fillTo_len (xs : List Int) (k : Nat) : (fillTo xs k).length = xs.length := by simp [fillTo]; omega
theorem fillTo_zero (xs : List Int) : fillTo xs 0 = List.replicate xs.length 0 := by simp [fillTo]
theorem fillTo_all (xs : List Int) : fillTo xs xs.length = xs := by simp [fillTo]
theorem fillTo_set {xs : List Int} {k : Nat} (hk : k < xs.length) : (fillTo xs k).set k (gi xs k) = fillTo xs (k + 1) := by
  unfold fillTo
  rw [take_gi hk, show xs.length - k = (xs.length - (k + 1)) + 1 by omega, List.replicate_succ, List.set_append]
  have : (xs.take k).length = k := by simp; omega
  simp [this]

theorem toI_c (a : Option Addr) (c : Nat) (xs : List Int) (w : World) (hl : xs.length ≤ 1048576) (hr : Rd w a xs) :
    Calls Try.prog 21 #[.slice a xs.length c] w (RetS w xs) := by
  have Hr := Lib.hid hr; clear hr
  go_enter Try.func21, Try.ntmps21
  go_wp2_with (at_make; refine make_ints rfl _ _ rfl xs.length rfl rfl (by omega) ?_; intro b w1 ho he; have Ho := Lib.hid ho; clear ho; have He := Lib.hid he; clear he)
  go_loopw [4] (fun i wr => ∃ k : Nat, k ≤ xs.length ∧ i = .int .i64 k ∧ Hid (Own wr w.heap.size b xs.length (fillTo xs k)) ∧ Hid (Ext w wr)) (fun i _ => xs.length - (intOf i).toNat)
  case atStart => exact ⟨0, Nat.zero_le _, rfl, by rw [fillTo_zero]; exact Ho, He⟩
  case round =>
    clear Ho He
    obtain ⟨k, hk, rfl, Ho, He⟩ := hrel
    by_cases hlt : k < xs.length
    · obtain ⟨hs, hcell⟩ := (Hr.out.ext He.out) k hlt
      have hidx := fun w => idxI (a := a) (n := xs.length) (c := c) (k := k) hs hlt w
      have hlt2 : k < (fillTo xs k).length := by rw [fillTo_len]; exact hlt
      obtain ⟨hs2, hcell2, hfr2⟩ := Ho.out.cellAt hlt2
      have hidx2 := fun w => idxI (a := b) (n := xs.length) (c := xs.length) (k := k) hs2 hlt w
      have Ho2 := Lib.hid (Ho.out.store hlt2 (gi xs k))
      have He2 := Lib.hid (He.out.store Ho.out (Nat.le_refl _) hlt2 (.int .i64 (gi xs k)))
      rw [fillTo_set hlt] at Ho2
      go_wp2
      go_roundw
      case rel => exact ⟨k + 1, by omega, by go_num, Ho2, He2⟩
      case measure => simp [intOf]; omega
    · go_wp2
      go_ret
      have e : k = xs.length := by omega
      subst e
      exact RetS.mk (b := b) (c' := xs.length) rfl (by have := Ho.out; rwa [fillTo_all] at this) (Ext.refl _) He.out

theorem eqI_true (a b : Option Addr) (c d : Nat) (xs : List Int) (w : World) (hl : xs.length ≤ 4194304) (hr : Rd w a xs) (hr2 : Rd w b xs) :
    Calls Try.prog 23 #[.slice a xs.length c, .slice b xs.length d] w fun e w' => e = .returned (.bool true) ∧ Ext w w' := by
  have Hr := Lib.hid hr; clear hr
  have Hr2 := Lib.hid hr2; clear hr2
  go_enter Try.func23, Try.ntmps23
  go_wp2
  go_loopw [5] (fun i wr => ∃ k : Nat, k ≤ xs.length ∧ i = .int .i64 k ∧ Hid (Ext w wr)) (fun i _ => xs.length - (intOf i).toNat)
  case atStart => exact ⟨0, Nat.zero_le _, rfl, Ext.refl _⟩
  case round =>
    obtain ⟨k, hk, rfl, He⟩ := hrel
    by_cases hlt : k < xs.length
    · obtain ⟨hs, hcell⟩ := (Hr.out.ext He.out) k hlt
      have hidx := fun w => idxI (a := a) (n := xs.length) (c := c) (k := k) hs hlt w
      obtain ⟨hs2, hcell2⟩ := (Hr2.out.ext He.out) k hlt
      have hidx2 := fun w => idxI (a := b) (n := xs.length) (c := d) (k := k) hs2 hlt w
      go_wp2
      go_quiet (fail)
      go_wp2
      go_roundw
      case rel => exact ⟨k + 1, by omega, by go_num, He.out.drewN _⟩
      case measure => simp [intOf]; omega
    · go_wp2
      go_ret
      exact ⟨rfl, He.out⟩

/-- What 'mark' has written after k rounds. -/
def markTo (xs : List Int) (s : Int) (k : Nat) : List Int := (List.range k).map (fun (j : Nat) => s + (j : Int)) ++ xs.drop k
def marked (n : Nat) (s : Int) : List Int := (List.range n).map (fun (j : Nat) => s + (j : Int))
theorem markTo_len {xs : List Int} {s : Int} {k : Nat} (hk : k ≤ xs.length) : (markTo xs s k).length = xs.length := by simp [markTo]; omega
theorem marked_len (n : Nat) (s : Int) : (marked n s).length = n := by simp [marked]
theorem markTo_zero (xs : List Int) (s : Int) : markTo xs s 0 = xs := by simp [markTo]
theorem markTo_all (xs : List Int) (s : Int) : markTo xs s xs.length = marked xs.length s := by simp [markTo, marked]
theorem markTo_set {xs : List Int} {s : Int} {k : Nat} (hk : k < xs.length) : (markTo xs s k).set k (s + k) = markTo xs s (k + 1) := by
  unfold markTo
  rw [List.range_succ, List.map_append, List.set_append]
  simp
  rw [List.drop_eq_getElem_cons hk]; rfl
theorem gi_marked {n : Nat} {s : Int} {k : Nat} (h : k < n) : gi (marked n s) k = s + k := by
  rw [gi_get (by simpa [marked] using h)]; simp [marked]

/-- Only this slice's block may have changed. -/
def Only (b : Option Addr) (w w' : World) : Prop := w'.os = w.os ∧ w'.tape = w.tape ∧ w'.output = w.output ∧ w.heap.size = w'.heap.size ∧ ∀ k, b.map (·.block) ≠ some k → w'.heap[k]? = w.heap[k]?
theorem Only.refl (b : Option Addr) (w : World) : Only b w w := ⟨rfl, rfl, rfl, rfl, fun _ _ => rfl⟩
theorem map_blk {b : Option Addr} (h : b.isSome = true) : b.map (·.block) = some (blk b) := by
  obtain ⟨x, rfl⟩ := Option.isSome_iff_exists.1 h; rfl
theorem Only.store {b : Option Addr} {w w' : World} (h : Only b w w') (hb : b.isSome = true) (k : Nat) (v : Value) : Only b w (w'.setCell (adr b k) v) :=
  ⟨h.1, h.2.1, h.2.2.1, by rw [setCell_size]; exact h.2.2.2.1, fun j hj => by
    rw [setCell_block (by rw [adr_block]; intro e; exact hj (by rw [map_blk hb, e]))]; exact h.2.2.2.2 j hj⟩
/-- The two slices do not lie in one block. -/
def Apart (a b : Option Addr) : Prop := ∀ k, a.map (·.block) = some k → b.map (·.block) ≠ some k
theorem Apart.symm {a b : Option Addr} (h : Apart a b) : Apart b a := fun k h1 h2 => h k h2 h1
theorem Own.blk_lt {w : World} {B : Nat} {a : Option Addr} {c : Nat} {xs : List Int} (h : Own w B a c xs) {k : Nat} (hk : a.map (·.block) = some k) : B ≤ k ∧ k < w.heap.size := by
  cases a with
  | none => cases hk
  | some p =>
    have e : blk (some p) = k := by simp only [Option.map_some, Option.some.injEq] at hk; exact hk
    rw [← e]; exact h.lt (by simp)
theorem Own.apart {w w' : World} {B B' : Nat} {a b : Option Addr} {c d : Nat} {xs ys : List Int} (h : Own w B a c xs) (h' : Own w' B' b d ys) (hB : w.heap.size ≤ B') : Apart a b :=
  fun k h1 h2 => by have := (h.blk_lt h1).2; have := (h'.blk_lt h2).1; omega
theorem Own.only {w w' : World} {B : Nat} {a b : Option Addr} {c : Nat} {xs : List Int} (h : Own w B a c xs) (ho : Only b w w') (hab : Apart a b) : Own w' B a c xs := by
  rcases h.cases with ⟨rfl, rfl, rfl⟩ | ⟨g, cur, rfl, _⟩
  · exact Own.nil _ _
  · exact h.same (ho.2.2.2.2 _ (hab _ rfl))
theorem Ext.only {w0 w w' : World} {b : Option Addr} (h : Ext w0 w) (ho : Only b w w') (hb : ∀ k, b.map (·.block) = some k → w0.heap.size ≤ k) : Ext w0 w' :=
  ⟨ho.1.trans h.os, ho.2.1.trans h.tape, ho.2.2.1.trans h.output, by rw [← ho.2.2.2.1]; exact h.size, fun k hk => by
    rw [ho.2.2.2.2 k (fun e => by have := hb k e; omega)]; exact h.block hk⟩

theorem markI_c (a : Option Addr) (c : Nat) (xs : List Int) (s : Int) (B : Nat) (w : World) (hl : xs.length ≤ 4194304) (h0 : 0 ≤ s) (h1 : s ≤ 1000000000000) (ho : Own w B a c xs) :
    Calls Try.prog 24 #[.slice a xs.length c, .int .i64 s] w fun e w' => e = .returned (.int .i64 (s + xs.length)) ∧ Own w' B a c (marked xs.length s) ∧ Only a w w' := by
  have Hw := Lib.hid ho; clear ho
  go_enter Try.func24, Try.ntmps24
  go_wp2
  go_loopw [1, 5] (fun q i wr => ∃ k : Nat, k ≤ xs.length ∧ i = .int .i64 k ∧ q = .int .i64 (s + k) ∧ Hid (Own wr B a c (markTo xs s k)) ∧ Hid (Only a w wr)) (fun _ i _ => xs.length - (intOf i).toNat)
  case atStart => exact ⟨0, Nat.zero_le _, rfl, by simp, by rw [markTo_zero]; exact Hw, Only.refl _ _⟩
  case round =>
    obtain ⟨k, hk, rfl, rfl, Ho, He⟩ := hrel
    by_cases hlt : k < xs.length
    · have hlt2 : k < (markTo xs s k).length := by rw [markTo_len hk]; exact hlt
      obtain ⟨hs2, hcell2, hfr2⟩ := Ho.out.cellAt hlt2
      have hidx2 := fun w => idxI (a := a) (n := xs.length) (c := c) (k := k) hs2 hlt w
      have Ho2 := Lib.hid (Ho.out.store hlt2 (s + k))
      have He2 := Lib.hid (He.out.store hs2 k (.int .i64 (s + k)))
      rw [markTo_set hlt] at Ho2
      go_wp2
      go_roundw
      case rel => exact ⟨k + 1, by omega, by go_num, by go_num, Ho2, He2⟩
      case measure => simp [intOf]; omega
    · go_wp2
      go_ret
      have e : k = xs.length := by omega
      subst e
      exact ⟨rfl, by have := Ho.out; rwa [markTo_all] at this, He.out⟩

theorem heldI_c (a : Option Addr) (c : Nat) (n : Nat) (s : Int) (w : World) (hl : n ≤ 4194304) (h0 : 0 ≤ s) (h1 : s ≤ 1000000000000) (hr : Rd w a (marked n s)) :
    Calls Try.prog 25 #[.slice a n c, .int .i64 s] w fun e w' => e = .returned (.int .i64 (s + n)) ∧ Ext w w' := by
  have Hr := Lib.hid hr; clear hr
  go_enter Try.func25, Try.ntmps25
  go_wp2
  go_loop [1, 5] (fun q i => ∃ k : Nat, k ≤ n ∧ i = .int .i64 k ∧ q = .int .i64 (s + k)) (fun _ i => n - (intOf i).toNat)
  case atStart => exact ⟨0, Nat.zero_le _, rfl, by simp⟩
  case round =>
    obtain ⟨k, hk, rfl, rfl⟩ := hrel
    by_cases hlt : k < n
    · obtain ⟨hs, hcell⟩ := Hr.out k (by rw [marked_len]; exact hlt)
      rw [gi_marked hlt] at hcell
      have hidx := fun w => idxI (a := a) (n := n) (c := c) (k := k) hs hlt w
      go_wp2
      go_round
      case rel => exact ⟨k + 1, by omega, by go_num, by go_num⟩
      case measure => simp [intOf]; omega
    · go_wp2
      go_ret
      have e : k = n := by omega
      subst e
      exact ⟨rfl, Ext.refl _⟩
end Go.Proofs.Ytfilpikakdlgbaa
