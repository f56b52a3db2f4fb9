/- For all arguments the law FnExactFrameHolds returns true, and its arguments read afterwards as they read before. No conditions. -/
import Derived.Test.YtkilkfhjfobcdaaKFTGLFT
import Derived.Test.YtkilkfhjfobcdaaKFTLiftN
set_option linter.unusedVariables false
namespace Go.Proofs.Ytkilkfhjfobcdaa
open Go.ChangeShapes Go.WideShapes Go.ChangeAt Go.RowKit Go.Joins Go.Deep
set_option maxRecDepth 100000 in
theorem fnExactFrameHolds_lifted (os : Os) (started : os.Started) (H : Type) (enc : TypeId × Value → H) :
    ReturnsInHanded {} Try.checked os 10 .any (Rows.fnExactFrameHoldsSpec.pre6 enc Try.prog Try.f10 Rows.fnExactFrameHoldsRow.domain false) (Rows.fnExactFrameHoldsSpec.post enc Try.prog Try.f10 false true false false) := by
  refine returnsInHanded_of_change (C := Try.checked) own0 started (by kernel_rfl) Try.func10
    (ChangeSpec.witness6 (enc := enc) (C := Try.checked) false ⟨#[], #[.agg #[.int .i64 0, .slice none 0 0], .slice none 0 0], []⟩ 8 (by kernel_rfl) (by kernel_rfl) (by kernel_rfl) (by kernel_rfl)) ?_
  intro W base args ds gs before hval0 hW _ _
  have hval : ∀ (j : Nat) t v, Try.f10.params[j]? = some t → args[j]? = some v → Value.okWide Try.prog W .any base t v := hval0
  have hW' := hW
  obtain ⟨p, q, hA0, hV, rfl, hfz, hnd⟩ := hW
  have hA : DataW.TrodAll enc Try.prog W 0 (fun _ => true) true Try.f10.params.toList args.toList ds p := hA0
  rw [Try.params10] at hA hval
  obtain ⟨v0, vs0, d0, ds0, p0, q0, hargs0, rfl, rfl, h0, r00⟩ := trodAll_cons hA
  obtain ⟨v1, vs1, d1, ds1, p1, q1, hargs1, rfl, rfl, h1, r10⟩ := trodAll_cons r00
  obtain ⟨rfl, rfl, rfl⟩ := trodAll_nil r10
  subst hargs1
  obtain rfl : args = #[v0, v1] := by cases args; simp_all
  obtain ⟨m0, a0, c0, x0, rfl, hi0, r0⟩ := argIS Try.underlying51 rfl rfl (by kernel_rfl) (by kernel_rfl) (hval 0 51 v0 rfl rfl) h0
  obtain ⟨a1, c1, x1, rfl, r1⟩ := argStr (s := 3) Try.underlying52 (by kernel_rfl) (by decide) (ints3 Try.underlying117 rfl rfl rfl rfl) (hval 1 52 v1 rfl rfl) h1
  refine (c_l_FnExactFrameHolds m0 a0 x0.length c0 x0 a1 (x1.length / 3) c1 x1 W r0 r1).mono ?_
  rintro e W' ⟨v, rfl, rfl, hx⟩
  rw [FnExactFrameHolds_true _ _ _ (r1.ev (by decide))]
  exact ⟨_, rfl, law_post hW' rfl rfl (by kernel_rfl) (fun ds' h => by match ds', h with | [_, _], _ => rfl) hx⟩
theorem fnExactFrameHolds_holds : Rows.FnExactFrameHoldsSaid :=
  OpenClaim.holds_of_wide 10 Try.f10 rfl rfl rfl rfl rfl rfl rfl ⟨rfl, rfl, rfl, rfl, rfl⟩ rfl rfl rfl rfl rfl (by kernel_rfl) Try.func10 (by kernel_rfl)
    (of_decide_eq_true (by kernel_rfl)) (by unfold Func.isWrapper; first | (rw [if_pos (by decide +kernel)]; kernel_rfl) | (rw [if_neg (by decide +kernel)]; exact ⟨rfl, rfl⟩))
    (fun os started H enc _ => fnExactFrameHolds_lifted os started H enc)
end Go.Proofs.Ytkilkfhjfobcdaa
