/- Trans: contracts: slices.Clone, the program's transitive closure. -/
import Derived.Test.YtfilpikakdlgbaaRel2
import Derived.WalkSpells
namespace Go.Proofs.Ytfilpikakdlgbaa
open Go.RowKit

theorem cloneI_c (a : Option Addr) (c : Nat) (xs : List Int) (w : World) (hl : xs.length ≤ 1048576) (hr : Rd w a xs) (hn : a = none → c = 0) :
    Calls Try.prog 83 #[.slice a xs.length c] w (RetS w xs) := by
  have Hr := Lib.hid hr; clear hr
  cases a with
  | none =>
    have hx : xs = [] := by
      cases xs with
      | nil => rfl
      | cons x xs => exact absurd (Hr.out 0 (by simp)).1 (by simp)
    subst hx
    obtain rfl := hn rfl
    have hq := fun (w : World) => Lib.run_eql_slice_nil (P := Try.prog) w 30 2 none 0 0 0 0 und64s
    go_enter Try.func83, Try.ntmps83
    go_wp2
    go_ret
    exact RetS.mk (b := none) (c' := 0) rfl (Own.nil _ _) (Ext.refl _) (Ext.refl _)
  | some p =>
    clear hn
    have hq := fun (w : World) => Lib.run_eql_slice_nil (P := Try.prog) w 30 2 (some p) xs.length c 0 0 und64s
    have Ho := Lib.hid (Own.empty w)
    have Hl := Lib.hid (show ([] : List Int).length + xs.length ≤ 4194304 by simp; omega)
    have Hs := Lib.hid (show w.heap.size ≤ (w.alloc (.cells #[] 2)).heap.size by simp)
    go_enter Try.func83, Try.ntmps83
    go_wp2_with (at_builtin; refine append_ints (B := w.heap.size) (c := 0) (c2 := c) (b := some ⟨w.heap.size, 0, none⟩) (b2 := some p) (xs := []) (ys := xs) rfl _ _ rfl rfl rfl (fun h => by cases h) Ho.out (Hr.out.ext ((Ext.refl _).alloc _)) Hl.out Hs.out ?_; intro b' c' w' zs hzs h1 h2 h3; have H0 := Lib.hid hzs; have H1 := Lib.hid h1; have H2 := Lib.hid (grown_new h2); clear h1 h2 h3 hzs)
    go_ret
    have e : zs = xs := by have := H0.out; simpa using this
    subst e
    exact RetS.mk (b := b') (c' := c') rfl H1.out (Ext.refl _) H2.out

set_option maxRecDepth 100000 in
theorem transitive_c (a : Option Addr) (c : Nat) (xs : List Int) (w : World) (hl : xs.length ≤ 30) (hr : Rd w a xs) (hn : a = none → c = 0) :
    Calls Try.prog 68 #[.slice a xs.length c] w (RetS w (outerC xs xs.length)) := by
  have Hr := Lib.hid hr; clear hr
  have Hn := Lib.hid hn; clear hn
  go_enter Try.func68, Try.ntmps68
  go_wp2_with (go_at_call 83; refine (cloneI_c a c xs w (by omega) Hr.out Hn.out).mono ?_; rintro e w1 ⟨b, c1, rfl, ho, he, hb⟩; have Ho := Lib.hid ho; have He := Lib.hid he; clear ho he hb)
  go_loopw [4, 5, 10] (fun _ _ i wr => ∃ k : Nat, k ≤ xs.length ∧ i = .int .i64 k ∧ Hid (Own wr w.heap.size b c1 (outerC xs k)) ∧ Hid (Ext w wr)) (fun _ _ i _ => xs.length - (intOf i).toNat)
  case atStart => exact ⟨0, Nat.zero_le _, rfl, Ho, He⟩
  case round =>
    clear Ho He
    obtain ⟨k, hk, rfl, Ho, He⟩ := hrel
    by_cases hlt : k < xs.length
    · obtain ⟨wo, rfl⟩ : ∃ wo : World, wo = wr := ⟨_, rfl⟩
      go_wp2
      go_loopw [5, 15] (fun _ i wr => ∃ j : Nat, j ≤ xs.length ∧ i = .int .i64 j ∧ Hid (Own wr w.heap.size b c1 (innerC (outerC xs k) k j)) ∧ Hid (Ext w wr)) (fun _ i _ => xs.length - (intOf i).toNat)
      case atStart => exact ⟨0, Nat.zero_le _, rfl, Ho, He⟩
      case round =>
        clear Ho He
        obtain ⟨j, hj, rfl, Ho, He⟩ := hrel
        by_cases hjlt : j < xs.length
        · have hk2 : k < (innerC (outerC xs k) k j).length := by rw [innerC_len, outerC_len]; exact hlt
          have hj2 : j < (innerC (outerC xs k) k j).length := by rw [innerC_len, outerC_len]; exact hjlt
          have HS := Lib.hid (show innerC (outerC xs k) k (j + 1) = stepC (innerC (outerC xs k) k j) k j from rfl)
          have HU := Lib.hid (show stepC (innerC (outerC xs k) k j) k j = if bitB (gi (innerC (outerC xs k) k j) j) k then (innerC (outerC xs k) k j).set j (bits .or .i64 (gi (innerC (outerC xs k) k j) j) (gi (innerC (outerC xs k) k j) k)) else innerC (outerC xs k) k j from rfl)
          generalize innerC (outerC xs k) k j = ys at *
          obtain ⟨hs1, hcell1, hfr1⟩ := Ho.out.cellAt hj2
          obtain ⟨hs2, hcell2, hfr2⟩ := Ho.out.cellAt hk2
          have hidx1 := fun w => idxI (a := b) (n := xs.length) (c := c1) (k := j) hs1 hjlt w
          have hidx2 := fun w => idxI (a := b) (n := xs.length) (c := c1) (k := k) hs1 hlt w
          cases hb : bitB (gi ys j) k
          · go_wp2_with (go_at_call 113; refine (has_c _ _ _ (by omega) (by omega)).mono ?_; rintro e w' ⟨rfl, rfl⟩)
            go_roundw
            case rel => exact ⟨j + 1, by omega, by go_num, by rw [HS.out, HU.out, hb]; exact Ho, He⟩
            case measure => simp [intOf]; omega
          · have Ho2 := Lib.hid (Ho.out.store hj2 (bits .or .i64 (gi ys j) (gi ys k)))
            have He2 := Lib.hid (He.out.store Ho.out (Nat.le_refl _) hj2 (.int .i64 (bits .or .i64 (gi ys j) (gi ys k))))
            go_wp2_with (go_at_call 113; refine (has_c _ _ _ (by omega) (by omega)).mono ?_; rintro e w' ⟨rfl, rfl⟩)
            go_still_tail 10, (by kernel_rfl)
            go_wp2
            go_roundw
            case rel => exact ⟨j + 1, by omega, by go_num, by rw [HS.out, HU.out, hb]; exact Ho2.out.ext (Ext.refl _).drew, He2.out.drew⟩
            case measure => simp [intOf]; omega
        · go_wp2
          go_roundw
          case rel =>
            have e : j = xs.length := by omega
            subst e
            exact ⟨k + 1, by omega, by go_num, Ho, He⟩
          case measure => simp [intOf]; omega
    · go_wp2
      go_ret
      have e : k = xs.length := by omega
      subst e
      exact RetS.mk (b := b) (c' := c1) (by rw [outerC_len]; rfl) Ho.out (Ext.refl _) He.out

theorem isRelB_relB {xs : List Int} (h : ¬ 30 < xs.length) : isRelB xs = masksB xs.length xs := by
  unfold isRelB masksB isMaskB
  have h1 : inB (xs.length : Int) 0 30 = true := by rw [inB_iff]; omega
  rw [h1]
  simp [List.all_eq_not_any_not]
theorem relCodes_one (xs : List Int) : relCodes [xs] 0 = relB xs := by
  unfold relCodes relB
  by_cases h : 30 < xs.length
  · simp [h]
  · simp only [h, if_false, relCodes, isRelB_relB h]

theorem RdL.one {w : World} {a : Option Addr} {c : Nat} {xs : List Int} (hr : Rd w a xs) : RdL (w.alloc (.cells #[.slice a xs.length c] 30)) (some ⟨w.heap.size, 0, none⟩) [(a, c, xs)] := by
  intro k hk
  have hk0 : k = 0 := by simpa using hk
  subst hk0
  exact ⟨rfl, by show (w.alloc _).cell? ⟨w.heap.size, 0, none⟩ = _; rw [World.cell?_alloc_at _ _ _ _ rfl]; rfl, hr.ext ((Ext.refl _).alloc _)⟩

theorem implTC_c (a : Option Addr) (c : Nat) (xs : List Int) (w : World) (hl : xs.length ≤ 1048576) (hr : Rd w a xs) (hn : a = none → c = 0) :
    Calls Try.prog 22 #[.slice a xs.length c] w (RetSI w (tcF xs) (relB xs)) := by
  have Hn := Lib.hid hn; clear hn
  have Hc := Lib.hid (relationCode_c (some ⟨w.heap.size, 0, none⟩) 1 [(a, c, xs)] (w.alloc (.cells #[.slice a xs.length c] 30)) (by simp) (by intro x hx; simp at hx; subst hx; simp; omega) (RdL.one hr))
  have He0 := Lib.hid ((Ext.refl w).alloc (.cells #[.slice a xs.length c] 30))
  have Hr := Lib.hid hr; clear hr
  have Hq := Lib.hid (show relCodes (lists [(a, c, xs)]) 0 = relB xs from relCodes_one xs)
  rw [Hq.out] at Hc
  by_cases h : relB xs = 0
  · have h30 : xs.length ≤ 30 := by
      unfold relB at h; split at h
      · cases h
      · omega
    have hb : (relB xs != 0) = false := by simp [h]
    have Hz := Lib.hid h
    have Hf := Lib.hid (show tcF xs = outerC xs xs.length by simp [tcF, h]); clear h
    go_enter Try.func22, Try.ntmps22
    go_wp2_with fail
    refine Hc.out.mono ?_
    rintro e w1 ⟨rfl, he⟩
    have He1 := Lib.hid (He0.out.trans he); clear he
    go_wp2_with (go_at_call 68; refine (transitive_c a c xs _ h30 (Hr.out.ext He1.out) Hn.out).mono ?_; rintro e w2 ⟨b, c2, rfl, ho, he, hb⟩; have Ho := Lib.hid ho; have He := Lib.hid he; clear ho he hb)
    go_ret2
    exact RetSI.mk (b := b) (c' := c2) (by rw [Hf.out, Hz.out]; rfl) (by rw [Hf.out]; exact Ho.out) He1.out He.out
  · have hb : (relB xs != 0) = true := by simp [h]
    have Hf := Lib.hid (show tcF xs = [] by simp [tcF, h]); clear h
    go_enter Try.func22, Try.ntmps22
    go_wp2_with fail
    refine Hc.out.mono ?_
    rintro e w1 ⟨rfl, he⟩
    have He1 := Lib.hid (He0.out.trans he); clear he
    go_wp2
    go_ret2
    exact RetSI.mk (b := none) (c' := 0) (by rw [Hf.out]; rfl) (by rw [Hf.out]; exact Own.nil _ _) He1.out (Ext.refl _)
end Go.Proofs.Ytfilpikakdlgbaa
