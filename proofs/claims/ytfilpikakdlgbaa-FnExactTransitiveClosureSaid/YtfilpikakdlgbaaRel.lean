/- Rel: contracts of the functions on relations: are they relations, the transitive closure. -/
import Derived.Test.YtfilpikakdlgbaaSl
namespace Go.Proofs.Ytfilpikakdlgbaa
open Go.RowKit

/-- The error of a relation. -/
def relB (xs : List Int) : Int := if 30 < xs.length then 2 else if masksB xs.length xs then 0 else 1
theorem l01Relation_c (a : Option Addr) (c : Nat) (xs : List Int) (w : World) (hl : xs.length ≤ 1048576) (hr : Rd w a xs) :
    Calls Try.prog 65 #[.slice a xs.length c] w fun e w' => e = .returned (.int .i64 (relB xs)) ∧ Ext w w' := by
  have Hr := Lib.hid hr; clear hr
  by_cases h30 : 30 < xs.length
  · have HF : Hid (relB xs = 2) := by simp [Hid, relB, h30]
    go_enter Try.func65, Try.ntmps65
    go_wp2
    go_ret
    exact ⟨ret_int HF.out.symm, Ext.refl _⟩
  · cases hm : masksB xs.length xs
    · have HF : Hid (relB xs = 1) := by simp [Hid, relB, h30, hm]
      go_enter Try.func65, Try.ntmps65
      go_wp2_with (go_at_call 73; refine (l01Masks_c _ _ _ _ _ (by omega) (by omega) (by omega) Hr.out).mono ?_; rintro e w' ⟨rfl, he⟩; have He := Lib.hid he; clear he)
      go_ret
      exact ⟨ret_int HF.out.symm, He.out⟩
    · have HF : Hid (relB xs = 0) := by simp [Hid, relB, h30, hm]
      go_enter Try.func65, Try.ntmps65
      go_wp2_with (go_at_call 73; refine (l01Masks_c _ _ _ _ _ (by omega) (by omega) (by omega) Hr.out).mono ?_; rintro e w' ⟨rfl, he⟩; have He := Lib.hid he; clear he)
      go_ret
      exact ⟨ret_int HF.out.symm, He.out⟩

/-- The place of the first element with the property, or -1, from place k on. -/
def idxFrom (p : Int → Bool) (xs : List Int) : Int := match xs.findIdx? p with | some k => k | none => -1
theorem idxFrom_no {p : Int → Bool} {xs : List Int} (h : xs.any p = false) : idxFrom p xs = -1 := by
  have : xs.findIdx? p = none := by
    rw [List.findIdx?_eq_none_iff]; intro x hx; rw [List.any_eq_false] at h; simpa using h x hx
  simp [idxFrom, this]
theorem idxFrom_at {p : Int → Bool} {xs : List Int} {k : Nat} (hk : k < xs.length) (h0 : (xs.take k).any p = false) (h1 : p (gi xs k) = true) : idxFrom p xs = k := by
  have : xs.findIdx? p = some k := by
    rw [List.findIdx?_eq_some_iff_getElem]
    refine ⟨hk, by rw [gi_get hk] at h1; exact h1, fun j hj => ?_⟩
    rw [List.any_eq_false] at h0
    have := h0 xs[j] (by rw [List.mem_take_iff_getElem]; exact ⟨j, by omega, rfl⟩)
    simpa using this
  simp [idxFrom, this]
theorem any_take {p : Int → Bool} {xs : List Int} {k : Nat} (hk : k < xs.length) : (xs.take (k + 1)).any p = ((xs.take k).any p || p (gi xs k)) := by
  rw [take_gi hk]; simp

set_option maxRecDepth 100000 in
theorem indexFuncI_c (a : Option Addr) (c : Nat) (xs : List Int) (f : FuncId) (cap : Array Value) (p : Int → Bool) (w : World) (hl : xs.length ≤ 4194304) (hr : Rd w a xs) (hcf : ∀ args w, (callFunc f args).run Try.prog w = .ok (.enter f args) w)
    (hf : ∀ k w', k < xs.length → Ext w w' → Calls Try.prog f (#[.int .i64 (gi xs k)] ++ cap) w' fun e w'' => e = .returned (.bool (p (gi xs k))) ∧ Ext w' w'') :
    Calls Try.prog 128 #[.slice a xs.length c, .func (.func f) #[] cap] w fun e w' => e = .returned (.int .i64 (idxFrom p xs)) ∧ Ext w w' := by
  have Hr := Lib.hid hr; clear hr
  have Hf := Lib.hid hf; clear hf
  go_enter Try.func128, Try.ntmps128
  go_wp2
  go_loopw [5, 8] (fun _ i wr => ∃ k : Nat, k ≤ xs.length ∧ i = .int .i64 k ∧ Hid ((xs.take k).any p = false) ∧ Hid (Ext w wr)) (fun _ i _ => xs.length - (intOf i).toNat)
  case atStart => exact ⟨0, Nat.zero_le _, rfl, rfl, Ext.refl _⟩
  case round =>
    obtain ⟨k, hk, rfl, Hm, He⟩ := hrel
    by_cases hlt : k < xs.length
    · obtain ⟨hs, hcell⟩ := (Hr.out.ext He.out) k hlt
      have hidx := fun w => idxI (a := a) (n := xs.length) (c := c) (k := k) hs hlt w
      cases hb : p (gi xs k)
      · go_wp2_with fail
        refine (Hf.out k wr hlt He.out).mono ?_
        rintro e w2 ⟨rfl, he2⟩
        have He2 := Lib.hid he2; clear he2
        go_wp2
        go_roundw
        case rel => exact ⟨k + 1, by omega, by go_num, by rw [Hid, any_take hlt, Hm.out, hb]; rfl, He.out.trans He2.out⟩
        case measure => simp [intOf]; omega
      · go_wp2_with fail
        refine (Hf.out k wr hlt He.out).mono ?_
        rintro e w2 ⟨rfl, he2⟩
        have He2 := Lib.hid he2; clear he2
        go_wp2
        go_ret
        exact ⟨ret_int (idxFrom_at hlt Hm.out hb).symm, He.out.trans He2.out⟩
    · go_wp2
      go_ret
      have e1 : xs.take k = xs := List.take_of_length_le (by omega)
      exact ⟨ret_int (by rw [idxFrom_no]; rw [← e1]; exact Hm.out), He.out⟩

theorem idxFrom_nonneg (p : Int → Bool) (xs : List Int) : (0 ≤ idxFrom p xs) = (xs.any p = true) := by
  cases h : xs.any p
  · rw [idxFrom_no h]; simp
  · have : xs.findIdx? p ≠ none := by
      rw [Ne, List.findIdx?_eq_none_iff]; intro h'
      rw [List.any_eq_true] at h
      obtain ⟨x, hx, hp⟩ := h
      simp [h' x hx] at hp
    unfold idxFrom
    cases h2 : xs.findIdx? p with
    | none => exact absurd h2 this
    | some k => simp

theorem containsFuncI_c (a : Option Addr) (c : Nat) (xs : List Int) (f : FuncId) (cap : Array Value) (p : Int → Bool) (w : World) (hl : xs.length ≤ 4194304) (hr : Rd w a xs) (hcf : ∀ args w, (callFunc f args).run Try.prog w = .ok (.enter f args) w)
    (hf : ∀ k w', k < xs.length → Ext w w' → Calls Try.prog f (#[.int .i64 (gi xs k)] ++ cap) w' fun e w'' => e = .returned (.bool (p (gi xs k))) ∧ Ext w' w'') :
    Calls Try.prog 94 #[.slice a xs.length c, .func (.func f) #[] cap] w fun e w' => e = .returned (.bool (xs.any p)) ∧ Ext w w' := by
  have Hr := Lib.hid hr; clear hr
  have Hf := Lib.hid hf; clear hf
  have Hc := Lib.hid hcf; clear hcf
  go_enter Try.func94, Try.ntmps94
  go_wp2_with (go_at_call 128; refine (indexFuncI_c a c xs f cap p _ hl Hr.out Hc.out Hf.out).mono ?_; rintro e w' ⟨rfl, he⟩; have He := Lib.hid he; clear he)
  go_ret
  exact ⟨ret_bool (by rw [Bool.eq_iff_iff, decide_eq_true_eq, idxFrom_nonneg]), He.out⟩

theorem isRelation1_c (p : Addr) (a : Option Addr) (n c : Nat) (m : Int) (w : World) (hp : w.cell? p = some (.slice a n c)) :
    Calls Try.prog 135 #[.int .i64 m, .pointer (some p)] w fun e w' => e = .returned (.bool (!isMaskB n m)) ∧ Ext w w' := by
  go_enter Try.func135, Try.ntmps135
  go_wp2_with (first | (go_at_call 116; refine (sizeI_c _ _ _ _).mono ?_; rintro e w' ⟨rfl, rfl⟩) | (go_at_call 96; refine (isMask_c _ _ _).mono ?_; rintro e w' ⟨rfl, rfl⟩))
  go_ret
  exact ⟨rfl, Ext.refl _⟩

/-- Is the list a relation? -/
def isRelB (xs : List Int) : Bool := !(xs.any fun m => !isMaskB xs.length m)
theorem isRelation_c (a : Option Addr) (c : Nat) (xs : List Int) (w : World) (hl : xs.length ≤ 4194304) (hr : Rd w a xs) :
    Calls Try.prog 112 #[.slice a xs.length c] w fun e w' => e = .returned (.bool (isRelB xs)) ∧ Ext w w' := by
  have Hr := Lib.hid hr; clear hr
  have HF := Lib.hid (containsFuncI_c a c xs 135 #[.pointer (some ⟨w.heap.size, 0, none⟩)] (fun m => !isMaskB xs.length m) (w.alloc (.cells #[.slice a xs.length c] 30)) hl (Hr.out.ext ((Ext.refl _).alloc _)) (fun _ _ => by kernel_rfl)
    (fun k w' _ he => isRelation1_c ⟨w.heap.size, 0, none⟩ a xs.length c _ w' (he.cell (by rw [World.cell?_alloc_at _ _ _ _ rfl]; rfl))))
  go_enter Try.func112, Try.ntmps112
  go_wp2_with fail
  refine HF.out.mono ?_
  rintro e w' ⟨rfl, he⟩
  have He := Lib.hid (((Ext.refl _).alloc _).trans he); clear he HF
  go_wp2
  go_ret
  exact ⟨rfl, He.out⟩
end Go.Proofs.Ytfilpikakdlgbaa
