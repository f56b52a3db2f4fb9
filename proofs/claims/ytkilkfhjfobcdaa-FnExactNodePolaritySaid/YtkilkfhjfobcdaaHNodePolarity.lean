/- For all arguments the law FnExactNodePolarity returns true, and its arguments read afterwards as they read before. No conditions. -/
import Derived.Test.YtkilkfhjfobcdaaGLNQ
import Derived.Test.YtkilkfhjfobcdaaLiftN
set_option linter.unusedVariables false
namespace Go.Proofs.Ytkilkfhjfobcdaa
open Go.ChangeShapes Go.WideShapes Go.ChangeAt Go.RowKit Go.Joins Go.Deep

set_option maxRecDepth 100000 in
theorem fnExactNodePolarity_lifted (os : Os) (started : os.Started) (H : Type) (enc : TypeId × Value → H) :
    ReturnsInHanded {} Try.checked os 5 .any (Rows.fnExactNodePolaritySpec.pre6 enc Try.prog Try.f5 Rows.fnExactNodePolarityRow.domain false) (Rows.fnExactNodePolaritySpec.post enc Try.prog Try.f5 false true false false) := by
  refine returnsInHanded_of_change (C := Try.checked) own0 started (by kernel_rfl) Try.func5
    (ChangeSpec.witness6 (enc := enc) (C := Try.checked) false ⟨#[], #[.slice none 0 0, .int .i64 0], []⟩ 8 (by kernel_rfl) (by kernel_rfl) (by kernel_rfl) (by kernel_rfl)) ?_
  intro W base args ds gs before hval0 hW _ _
  have hval : ∀ (j : Nat) t v, Try.f5.params[j]? = some t → args[j]? = some v → Value.okWide Try.prog W .any base t v := hval0
  have hW' := hW
  obtain ⟨p, q, hA0, hV, rfl, hfz, hnd⟩ := hW
  have hA : DataW.TrodAll enc Try.prog W 0 (fun _ => true) true Try.f5.params.toList args.toList ds p := hA0
  rw [Try.params5] at hA hval
  obtain ⟨v0, vs0, d0, ds0, p0, q0, hargs0, rfl, rfl, h0, r00⟩ := trodAll_cons hA
  obtain ⟨v1, vs1, d1, ds1, p1, q1, hargs1, rfl, rfl, h1, r10⟩ := trodAll_cons r00
  obtain ⟨rfl, rfl, rfl⟩ := trodAll_nil r10
  subst hargs1
  obtain rfl : args = #[v0, v1] := by cases args; simp_all
  obtain ⟨a0, c0, x0, rfl, r0⟩ := argStr (s := 2) Try.underlying28 (by kernel_rfl) (by decide) (ints2 Try.underlying96 rfl rfl rfl) (hval 0 28 v0 rfl rfl) h0
  obtain ⟨m1, rfl, hi1⟩ := argI (hval 1 2 v1 rfl rfl) h1
  refine (c_l_FnExactNodePolarity a0 (x0.length / 2) c0 x0 m1 W r0).mono ?_
  rintro e W' ⟨v, rfl, rfl, hx⟩
  rw [FnExactNodePolarity_true _ _ (r0.ev (by decide))]
  exact ⟨_, rfl, law_post hW' rfl rfl (by kernel_rfl) (fun ds' h => by match ds', h with | [_, _], _ => rfl) hx⟩

theorem fnExactNodePolarity_holds : Rows.FnExactNodePolaritySaid :=
  OpenClaim.holds_of_wide 5 Try.f5 rfl rfl rfl rfl rfl rfl rfl ⟨rfl, rfl, rfl, rfl, rfl⟩ rfl rfl rfl rfl rfl (by kernel_rfl) Try.func5 (by kernel_rfl)
    (of_decide_eq_true (by kernel_rfl)) (by unfold Func.isWrapper; first | (rw [if_pos (by decide +kernel)]; kernel_rfl) | (rw [if_neg (by decide +kernel)]; exact ⟨rfl, rfl⟩))
    (fun os started H enc _ => fnExactNodePolarity_lifted os started H enc)
end Go.Proofs.Ytkilkfhjfobcdaa
