/- Rel2: contracts: the error of relations; the transitive closure, the reference's and the program's. -/
import Derived.Test.YtfilpikakdlgbaaRel
import Derived.StillTailTactics
namespace Go.Proofs.Ytfilpikakdlgbaa
open Go.RowKit

theorem idxLL {a : Option Addr} {n c k : Nat} (hs : a.isSome = true) (hk : k < n) (w : World) :
    (Instr.indexAt 105 (.slice a n c) (.int .i64 (k : Int))).run Try.prog w = .ok (.pointer (some (adr a k))) w := by
  obtain ⟨b, rfl⟩ := Option.isSome_iff_exists.1 hs
  have h1 : Try.prog.underlying 105 = some (.slice (Try.prog.elem 105)) := by kernel_rfl
  have h2 : (sizeOf (Try.prog.elem 105)).run Try.prog w = .ok 1 w := by kernel_rfl
  rw [run_indexAt_slice _ _ _ _ _ _ _ h1, if_pos (by omega), h2]
  simp [Result.andThen, adr]

/-- A slice of slices of int64 reads as these slices, each with its numbers. -/
def RdL (w : World) (p : Option Addr) (L : List (Option Addr × Nat × List Int)) : Prop :=
  ∀ k (h : k < L.length), p.isSome = true ∧ w.cell? (adr p k) = some (.slice L[k].1 L[k].2.2.length L[k].2.1) ∧ Rd w L[k].1 L[k].2.2
theorem RdL.ext {w w' : World} {p : Option Addr} {L : List (Option Addr × Nat × List Int)} (h : RdL w p L) (he : Ext w w') : RdL w' p L :=
  fun k hk => ⟨(h k hk).1, he.cell (h k hk).2.1, (h k hk).2.2.ext he⟩

/-- The error of relations. -/
def relCodes : List (List Int) → Int → Int
  | [], c => c
  | x :: r, c => if 30 < x.length then 2 else if isRelB x then relCodes r c else relCodes r 1
def lists (L : List (Option Addr × Nat × List Int)) : List (List Int) := L.map (·.2.2)
theorem relCodes_drop {L : List (Option Addr × Nat × List Int)} {k : Nat} (h : k < L.length) (c : Int) :
    relCodes (lists (L.drop k)) c = if 30 < L[k].2.2.length then 2 else if isRelB L[k].2.2 then relCodes (lists (L.drop (k + 1))) c else relCodes (lists (L.drop (k + 1))) 1 := by
  rw [List.drop_eq_getElem_cons h]; rfl

set_option maxRecDepth 100000 in
theorem relationCode_c (p : Option Addr) (cp : Nat) (L : List (Option Addr × Nat × List Int)) (w : World) (hn : L.length ≤ 1000) (hl : ∀ x ∈ L, x.2.2.length ≤ 4194304) (hr : RdL w p L) :
    Calls Try.prog 67 #[.slice p L.length cp] w fun e w' => e = .returned (.int .i64 (relCodes (lists L) 0)) ∧ Ext w w' := by
  have Hr := Lib.hid hr; clear hr
  have Hl := Lib.hid hl; clear hl
  go_enter Try.func67, Try.ntmps67
  go_wp2
  go_loopw [3, 8] (fun q i wr => ∃ (k : Nat) (cur : Int), k ≤ L.length ∧ i = .int .i64 k ∧ q = .int .i64 cur ∧ Hid (relCodes (lists (L.drop k)) cur = relCodes (lists L) 0) ∧ Hid (Ext w wr)) (fun _ i _ => L.length - (intOf i).toNat)
  case atStart => exact ⟨0, 0, Nat.zero_le _, rfl, rfl, rfl, Ext.refl _⟩
  case round =>
    obtain ⟨k, cur, hk, rfl, rfl, Hm, He⟩ := hrel
    by_cases hlt : k < L.length
    · obtain ⟨hs, hcell, hrd⟩ := (Hr.out.ext He.out) k hlt
      have hxl := Hl.out _ (List.getElem_mem hlt)
      have Hd := Lib.hid (relCodes_drop hlt cur)
      have Hrd := Lib.hid hrd; clear hrd
      have hidx := fun w => idxLL (a := p) (n := L.length) (c := cp) (k := k) hs hlt w
      generalize L[k] = x at *
      obtain ⟨xa, xc, xl⟩ := x
      dsimp only at *
      by_cases h30 : 30 < xl.length
      · go_wp2
        go_ret
        exact ⟨ret_int (by rw [← Hm.out, Hd.out, if_pos h30]), He.out⟩
      · cases hb : isRelB xl
        · go_wp2_with (go_at_call 112; refine (isRelation_c _ _ _ _ hxl Hrd.out).mono ?_; rintro e w' ⟨rfl, he⟩; have He2 := Lib.hid he; clear he)
          go_roundw
          case rel => exact ⟨k + 1, 1, by omega, by go_num, rfl, by rw [Hid, ← Hm.out, Hd.out, if_neg h30, hb]; rfl, He.out.trans He2.out⟩
          case measure => simp [intOf]; omega
        · go_wp2_with (go_at_call 112; refine (isRelation_c _ _ _ _ hxl Hrd.out).mono ?_; rintro e w' ⟨rfl, he⟩; have He2 := Lib.hid he; clear he)
          go_roundw
          case rel => exact ⟨k + 1, cur, by omega, by go_num, rfl, by rw [Hid, ← Hm.out, Hd.out, if_neg h30, hb]; rfl, He.out.trans He2.out⟩
          case measure => simp [intOf]; omega
    · go_wp2
      go_ret
      have e1 : L.drop k = [] := List.drop_eq_nil_of_le (by omega)
      exact ⟨ret_int (by rw [← Hm.out, e1]; rfl), He.out⟩

theorem Own.empty (w : World) : Own (w.alloc (.cells #[] 2)) w.heap.size (some ⟨w.heap.size, 0, none⟩) 0 [] :=
  Own.mk (cur := #[]) (Nat.le_refl _) (by show (w.heap.push _)[w.heap.size]? = _; simp) (by simp) (by unfold maxLen; omega) rfl rfl
theorem grown_new {w w' : World} {o : Obj} (h : (w.alloc o).grownBy w' ((some (⟨w.heap.size, 0, none⟩ : Addr)).map (·.block))) : Ext w w' :=
  Ext.grown ((Ext.refl w).alloc o) h (fun k hk => by simp only [Option.map_some, Option.some.injEq] at hk; omega)
theorem l01Own_c (a : Option Addr) (c : Nat) (xs : List Int) (w : World) (hl : xs.length ≤ 1048576) (hr : Rd w a xs) (hn : a = none → c = 0) :
    Calls Try.prog 111 #[.slice a xs.length c] w (RetS w xs) := by
  have Hr := Lib.hid hr; clear hr
  have Hn := Lib.hid hn; clear hn
  have Ho := Lib.hid (Own.empty w)
  have Hl := Lib.hid (show ([] : List Int).length + xs.length ≤ 4194304 by simp; omega)
  have Hs := Lib.hid (show w.heap.size ≤ (w.alloc (.cells #[] 2)).heap.size by simp)
  go_enter Try.func111, Try.ntmps111
  go_wp2_with (at_builtin; refine append_ints (B := w.heap.size) (c := 0) (c2 := c) (b := some ⟨w.heap.size, 0, none⟩) (b2 := a) (xs := []) (ys := xs) rfl _ _ rfl rfl rfl Hn.out Ho.out (Hr.out.ext ((Ext.refl _).alloc _)) Hl.out Hs.out ?_; intro b' c' w' zs hzs h1 h2 h3; have H0 := Lib.hid hzs; have H1 := Lib.hid h1; have H2 := Lib.hid (grown_new h2); clear h1 h2 h3 hzs)
  go_ret
  have e : zs = xs := by have := H0.out; simpa using this
  subst e
  exact RetS.mk (b := b') (c' := c') rfl H1.out (Ext.refl _) H2.out

/-- The transitive closure by the reference's two loops: after k whole rounds of the outer one, and i rounds of the inner one in the next. -/
def stepC (xs : List Int) (k i : Nat) : List Int := if bitB (gi xs i) k then xs.set i (bits .or .i64 (gi xs i) (gi xs k)) else xs
def innerC (xs : List Int) (k : Nat) : Nat → List Int
  | 0 => xs
  | i + 1 => stepC (innerC xs k i) k i
def outerC (xs : List Int) : Nat → List Int
  | 0 => xs
  | k + 1 => innerC (outerC xs k) k xs.length
theorem stepC_len (xs : List Int) (k i : Nat) : (stepC xs k i).length = xs.length := by unfold stepC; split <;> simp
theorem innerC_len (xs : List Int) (k i : Nat) : (innerC xs k i).length = xs.length := by
  induction i with
  | zero => rfl
  | succ i ih => rw [innerC, stepC_len, ih]
theorem outerC_len (xs : List Int) (k : Nat) : (outerC xs k).length = xs.length := by
  induction k with
  | zero => rfl
  | succ k ih => rw [outerC, innerC_len, ih]

set_option maxRecDepth 100000 in
theorem l01Closure_c (a : Option Addr) (c : Nat) (xs : List Int) (w : World) (hl : xs.length ≤ 30) (hr : Rd w a xs) (hn : a = none → c = 0) :
    Calls Try.prog 66 #[.slice a xs.length c] w (RetS w (outerC xs xs.length)) := by
  have Hr := Lib.hid hr; clear hr
  have Hn := Lib.hid hn; clear hn
  go_enter Try.func66, Try.ntmps66
  go_wp2_with (go_at_call 111; refine (l01Own_c a c xs w (by omega) Hr.out Hn.out).mono ?_; rintro e w1 ⟨b, c1, rfl, ho, he, hb⟩; have Ho := Lib.hid ho; have He := Lib.hid he; clear ho he hb)
  go_loopw [4, 5] (fun i _ wr => ∃ k : Nat, k ≤ xs.length ∧ i = .int .i64 k ∧ Hid (Own wr w.heap.size b c1 (outerC xs k)) ∧ Hid (Ext w wr)) (fun i _ _ => xs.length - (intOf i).toNat)
  case atStart => exact ⟨0, Nat.zero_le _, rfl, Ho, He⟩
  case round =>
    clear Ho He
    obtain ⟨k, hk, rfl, Ho, He⟩ := hrel
    by_cases hlt : k < xs.length
    · obtain ⟨wo, rfl⟩ : ∃ wo : World, wo = wr := ⟨_, rfl⟩
      go_wp2
      go_loopw [5] (fun i wr => ∃ j : Nat, j ≤ xs.length ∧ i = .int .i64 j ∧ Hid (Own wr w.heap.size b c1 (innerC (outerC xs k) k j)) ∧ Hid (Ext w wr)) (fun i _ => xs.length - (intOf i).toNat)
      case atStart => exact ⟨0, Nat.zero_le _, rfl, Ho, He⟩
      case round =>
        clear Ho He
        obtain ⟨j, hj, rfl, Ho, He⟩ := hrel
        by_cases hjlt : j < xs.length
        · have hk2 : k < (innerC (outerC xs k) k j).length := by rw [innerC_len, outerC_len]; exact hlt
          have hj2 : j < (innerC (outerC xs k) k j).length := by rw [innerC_len, outerC_len]; exact hjlt
          have HS := Lib.hid (show innerC (outerC xs k) k (j + 1) = stepC (innerC (outerC xs k) k j) k j from rfl)
          have HU := Lib.hid (show stepC (innerC (outerC xs k) k j) k j = if bitB (gi (innerC (outerC xs k) k j) j) k then (innerC (outerC xs k) k j).set j (bits .or .i64 (gi (innerC (outerC xs k) k j) j) (gi (innerC (outerC xs k) k j) k)) else innerC (outerC xs k) k j from rfl)
          generalize innerC (outerC xs k) k j = ys at *
          obtain ⟨hs1, hcell1, hfr1⟩ := Ho.out.cellAt hj2
          obtain ⟨hs2, hcell2, hfr2⟩ := Ho.out.cellAt hk2
          have hidx1 := fun w => idxI (a := b) (n := xs.length) (c := c1) (k := j) hs1 hjlt w
          have hidx2 := fun w => idxI (a := b) (n := xs.length) (c := c1) (k := k) hs1 hlt w
          cases hb : bitB (gi ys j) k
          · go_wp2_with (go_at_call 86; refine (l01Bit_c _ _ _ (by omega) (by omega)).mono ?_; rintro e w' ⟨rfl, rfl⟩)
            go_roundw
            case rel => exact ⟨j + 1, by omega, by go_num, by rw [HS.out, HU.out, hb]; exact Ho, He⟩
            case measure => simp [intOf]; omega
          · have Ho2 := Lib.hid (Ho.out.store hj2 (bits .or .i64 (gi ys j) (gi ys k)))
            have He2 := Lib.hid (He.out.store Ho.out (Nat.le_refl _) hj2 (.int .i64 (bits .or .i64 (gi ys j) (gi ys k))))
            go_wp2_with (go_at_call 86; refine (l01Bit_c _ _ _ (by omega) (by omega)).mono ?_; rintro e w' ⟨rfl, rfl⟩)
            go_still_tail 12, (by kernel_rfl)
            go_wp2
            go_roundw
            case rel => exact ⟨j + 1, by omega, by go_num, by rw [HS.out, HU.out, hb]; exact Ho2.out.ext (Ext.refl _).drew, He2.out.drew⟩
            case measure => simp [intOf]; omega
        · go_wp2
          go_roundw
          case rel => 
            have e : j = xs.length := by omega
            subst e
            exact ⟨k + 1, by omega, by go_num, Ho, He⟩
          case measure => simp [intOf]; omega
    · go_wp2
      go_ret
      have e : k = xs.length := by omega
      subst e
      exact RetS.mk (b := b) (c' := c1) (by rw [outerC_len]; rfl) Ho.out (Ext.refl _) He.out

/-- What the reference's TransitiveClosure returns. -/
def tcF (xs : List Int) : List Int := if relB xs = 0 then outerC xs xs.length else []
theorem specTC_c (a : Option Addr) (c : Nat) (xs : List Int) (w : World) (hl : xs.length ≤ 1048576) (hr : Rd w a xs) (hn : a = none → c = 0) :
    Calls Try.prog 20 #[.slice a xs.length c] w (RetSI w (tcF xs) (relB xs)) := by
  have Hr := Lib.hid hr; clear hr
  have Hn := Lib.hid hn; clear hn
  by_cases h : relB xs = 0
  · have h30 : xs.length ≤ 30 := by
      unfold relB at h; split at h
      · cases h
      · omega
    have hb : (relB xs != 0) = false := by simp [h]
    have Hz := Lib.hid h
    have Hf := Lib.hid (show tcF xs = outerC xs xs.length by simp [tcF, h]); clear h
    go_enter Try.func20, Try.ntmps20
    go_wp2_with (first | (go_at_call 65; refine (l01Relation_c a c xs _ hl Hr.out).mono ?_; rintro e w1 ⟨rfl, he⟩; have He1 := Lib.hid he; clear he) | (go_at_call 66; refine (l01Closure_c a c xs _ h30 (Hr.out.ext He1.out) Hn.out).mono ?_; rintro e w2 ⟨b, c2, rfl, ho, he, hb⟩; have Ho := Lib.hid ho; have He := Lib.hid he; clear ho he hb))
    go_ret2
    exact RetSI.mk (b := b) (c' := c2) (by rw [Hf.out, Hz.out]; rfl) (by rw [Hf.out]; exact Ho.out) He1.out He.out
  · have hb : (relB xs != 0) = true := by simp [h]
    have Hf := Lib.hid (show tcF xs = [] by simp [tcF, h]); clear h
    go_enter Try.func20, Try.ntmps20
    go_wp2_with (go_at_call 65; refine (l01Relation_c a c xs _ hl Hr.out).mono ?_; rintro e w1 ⟨rfl, he⟩; have He1 := Lib.hid he; clear he)
    go_ret2
    exact RetSI.mk (b := none) (c' := 0) (by rw [Hf.out]; rfl) (by rw [Hf.out]; exact Own.nil _ _) He1.out (Ext.refl _)
end Go.Proofs.Ytfilpikakdlgbaa
