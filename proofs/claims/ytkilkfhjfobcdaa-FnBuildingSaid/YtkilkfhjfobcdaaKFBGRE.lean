/- GRE: models and contracts, printed by wip/gen/gen.py -/
import Derived.Test.YtkilkfhjfobcdaaKFBGRD
set_option linter.unusedVariables false
set_option linter.unusedSimpArgs false
namespace Go.Proofs.Ytkilkfhjfobcdaa
open Go.RowKit
theorem partEnd_un {k v : Int} {a : Fm} (h : (Fm.un k v a).Ok) : F_partEnd (Fm.un k v a).code 1 = 1 + a.size ∧ slI 2 (Fm.un k v a).code 1 (1 + a.size) = a.code := by
  have hl := (Fm.un k v a).code_half
  have hs : (Fm.un k v a).size = a.size + 1 := rfl
  have pa := a.size_pos
  have e1 : slI 2 (Fm.un k v a).code 1 (1 + a.size) = a.code := by
    have := fm_un (k := k) (v := v) (a := a)
    rw [hl, hs] at this
    rw [show (1 : Int) + (a.size : Int) = ((a.size + 1 : Nat) : Int) by omega]; exact this
  refine ⟨?_, e1⟩
  rw [partEnd_l]
  refine l02Part_of ?_
  rw [hl, hs, show Int.toNat (((a.size + 1 : Nat) : Int) - 1) + 1 = 1 + a.size by omega, part_code _ (Fm.code_ev _) a 1 1 1 h.2 (by omega) (by omega) e1.symm (by rw [hl, hs]; omega)]
  rw [show (1 : Int) - 1 = 0 by rfl, part_zero]
theorem partEnd_bin {k v : Int} {a b : Fm} (h : (Fm.bin k v a b).Ok) : F_partEnd (Fm.bin k v a b).code 1 = 1 + a.size ∧ F_partEnd (Fm.bin k v a b).code (1 + a.size) = 1 + a.size + b.size ∧ slI 2 (Fm.bin k v a b).code 1 (1 + a.size) = a.code ∧ slI 2 (Fm.bin k v a b).code (1 + a.size) (1 + a.size + b.size) = b.code := by
  obtain ⟨p1, p2, p3⟩ := fm_part h
  have hl := (Fm.bin k v a b).code_half
  have hs : (Fm.bin k v a b).size = a.size + b.size + 1 := rfl
  have pa := a.size_pos
  have pb := b.size_pos
  rw [hl, hs] at p3
  have e3 : b.code = slI 2 (Fm.bin k v a b).code (1 + a.size) (1 + a.size + b.size) := by
    rw [show (1 : Int) + (a.size : Int) + (b.size : Int) = ((a.size + b.size + 1 : Nat) : Int) by omega]; exact p3.symm
  refine ⟨by rw [partEnd_l]; exact p1, ?_, p2, e3.symm⟩
  rw [partEnd_l]
  refine l02Part_of ?_
  rw [hl, hs, show Int.toNat (((a.size + b.size + 1 : Nat) : Int) - (1 + a.size)) + 1 = 1 + b.size by omega, part_code _ (Fm.code_ev _) b 1 (1 + a.size) 1 h.2.2 (by omega) (by omega) e3 (by rw [hl, hs]; omega)]
  rw [show (1 : Int) - 1 = 0 by rfl, part_zero]
theorem parts_leaf {k v : Int} (h : (Fm.leaf k v).Ok) : F_parts (Fm.leaf k v).code = [] := by
  have hk : F_partsOf (gS 2 0 (Fm.leaf k v).code 0) = 0 := h.1
  unfold F_parts
  rw [hk]; rfl
theorem parts_un {k v : Int} {a : Fm} (h : (Fm.un k v a).Ok) : F_parts (Fm.un k v a).code = [a.code] := by
  have hk : F_partsOf (gS 2 0 (Fm.un k v a).code 0) = 1 := h.1.1
  unfold F_parts
  rw [hk, (partEnd_un h).1, (partEnd_un h).2, decide_eq_true rfl, cond_true]
theorem parts_bin {k v : Int} {a b : Fm} (h : (Fm.bin k v a b).Ok) : F_parts (Fm.bin k v a b).code = [a.code, b.code] := by
  have hk : F_partsOf (gS 2 0 (Fm.bin k v a b).code 0) = 2 := h.1.1
  obtain ⟨p1, p2, p3, p4⟩ := partEnd_bin h
  unfold F_parts
  rw [hk, p1, p2, p3, p4, decide_eq_false (by omega), cond_false, decide_eq_true rfl, cond_true]
end Go.Proofs.Ytkilkfhjfobcdaa
