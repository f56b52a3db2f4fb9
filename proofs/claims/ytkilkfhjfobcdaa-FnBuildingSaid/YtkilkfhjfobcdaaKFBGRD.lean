/- GRD: models and contracts, printed by wip/gen/gen.py -/
import Derived.Test.YtkilkfhjfobcdaaKFBGRB
set_option linter.unusedVariables false
set_option linter.unusedSimpArgs false
namespace Go.Proofs.Ytkilkfhjfobcdaa
open Go.RowKit
theorem imp_parts {ap : List Int} (h : IsFm ap) (hp : F_partsOf (gS 2 0 ap 0) = 2) : IsFm (slI 2 ap 1 (F_partEnd ap 1)) ∧ IsFm (slI 2 ap (F_partEnd ap 1) (F_partEnd ap (F_partEnd ap 1))) ∧ (slI 2 ap 1 (F_partEnd ap 1)).length + (slI 2 ap (F_partEnd ap 1) (F_partEnd ap (F_partEnd ap 1))).length + 2 = ap.length ∧ 2 ≤ (slI 2 ap 1 (F_partEnd ap 1)).length ∧ 2 ≤ (slI 2 ap (F_partEnd ap 1) (F_partEnd ap (F_partEnd ap 1))).length := by
  rw [partsOf_k] at hp
  have hb := h.bin hp
  have h2 := (partsOf_bin h hp).2
  rw [partEnd_l, partEnd_l] at *
  have e : F_l02Part ap (F_l02Part ap 1) = ((ap.length / 2 : Nat) : Int) := by
    obtain ⟨t, ht, rfl⟩ := h
    have hk := t.kind ht
    rw [hp] at hk
    cases t with
    | leaf k v => exact absurd hk (by simp)
    | un k v a => exact absurd hk (by simp)
    | bin k v a b =>
      obtain ⟨p1, p2, p3⟩ := fm_part ht
      have hl := (Fm.bin k v a b).code_half
      have hs : (Fm.bin k v a b).size = a.size + b.size + 1 := rfl
      rw [hl, hs] at p3
      rw [p1, hl, hs]
      refine l02Part_of ?_
      have e3 : b.code = slI 2 (Fm.bin k v a b).code (1 + a.size) (1 + a.size + b.size) := by
        rw [show (1 : Int) + (a.size : Int) + (b.size : Int) = ((a.size + b.size + 1 : Nat) : Int) by omega]; exact p3.symm
      have pb := b.size_pos
      rw [hl, hs, show Int.toNat (((a.size + b.size + 1 : Nat) : Int) - (1 + a.size)) + 1 = 1 + b.size by omega, part_code _ (Fm.code_ev _) b 1 (1 + a.size) 1 ht.2.2 (by omega) (by omega) e3 (by rw [hl, hs]; omega)]
      rw [show (1 : Int) - 1 = 0 by rfl, part_zero, show (1 : Int) + (a.size : Int) + (b.size : Int) = ((a.size + b.size + 1 : Nat) : Int) by omega]
  rw [e]
  exact ⟨hb.2.1.1, hb.2.1.2, hb.2.2⟩
theorem parts_rows {ap : List Int} (h : IsFm ap) : (F_parts ap).length ≤ 2 ∧ ∀ m : Int, 0 ≤ m → m < ((F_parts ap).length : Int) → IsFm (gL (F_parts ap) m) ∧ (gL (F_parts ap) m).length + 2 ≤ ap.length := by
  by_cases h1 : F_partsOf (gS 2 0 ap 0) = 1
  · have e : F_parts ap = [slI 2 ap 1 (F_partEnd ap 1)] := by unfold F_parts; rw [decide_eq_true h1, cond_true]
    rw [e]
    refine ⟨by simp, fun m h0 hm => ?_⟩
    simp at hm
    obtain rfl : m = 0 := by omega
    show IsFm (slI 2 ap 1 (F_partEnd ap 1)) ∧ (slI 2 ap 1 (F_partEnd ap 1)).length + 2 ≤ ap.length
    have hp : F_l02Parts (gS 2 0 ap 0) = 1 := h1
    have hu := h.un hp
    have e2 : F_partEnd ap 1 = ((ap.length / 2 : Nat) : Int) := by
      rw [partEnd_l]
      obtain ⟨t, ht, rfl⟩ := h
      have hk := t.kind ht
      rw [hp] at hk
      cases t with
      | leaf k v => exact absurd hk (by simp)
      | bin k v a b => exact absurd hk (by simp)
      | un k v a =>
        have hl := (Fm.un k v a).code_half
        have hs : (Fm.un k v a).size = a.size + 1 := rfl
        have pa := a.size_pos
        have e1 : slI 2 (Fm.un k v a).code 1 (1 + a.size) = a.code := by
          have := fm_un (k := k) (v := v) (a := a)
          rw [hl, hs] at this
          rw [show (1 : Int) + (a.size : Int) = ((a.size + 1 : Nat) : Int) by omega]; exact this
        rw [hl, hs]
        refine l02Part_of ?_
        rw [hl, hs, show Int.toNat (((a.size + 1 : Nat) : Int) - 1) + 1 = 1 + a.size by omega, part_code _ (Fm.code_ev _) a 1 1 1 ht.2 (by omega) (by omega) e1.symm (by rw [hl, hs]; omega)]
        rw [show (1 : Int) - 1 = 0 by rfl, part_zero, show (1 : Int) + (a.size : Int) = ((a.size + 1 : Nat) : Int) by omega]
    rw [e2]
    have := h.ev
    have := hu.1.ev
    exact ⟨hu.1, by omega⟩
  · by_cases h2 : F_partsOf (gS 2 0 ap 0) = 2
    · have e : F_parts ap = [slI 2 ap 1 (F_partEnd ap 1), slI 2 ap (F_partEnd ap 1) (F_partEnd ap (F_partEnd ap 1))] := by unfold F_parts; rw [decide_eq_false h1, cond_false, decide_eq_true h2, cond_true]
      have hi := imp_parts h h2
      rw [e]
      refine ⟨by simp, fun m h0 hm => ?_⟩
      simp at hm
      rcases (show m = 0 ∨ m = 1 by omega) with rfl | rfl
      · exact ⟨hi.1, by show (slI 2 ap 1 (F_partEnd ap 1)).length + 2 ≤ _; omega⟩
      · exact ⟨hi.2.1, by show (slI 2 ap (F_partEnd ap 1) (F_partEnd ap (F_partEnd ap 1))).length + 2 ≤ _; omega⟩
    · have e : F_parts ap = [] := by unfold F_parts; rw [decide_eq_false h1, cond_false, decide_eq_false h2, cond_false]
      rw [e]
      exact ⟨by simp, fun m h0 hm => by simp at hm; omega⟩
end Go.Proofs.Ytkilkfhjfobcdaa
