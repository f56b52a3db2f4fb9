/- For all arguments the law FnBuilding returns true, and its arguments read afterwards as they read before. No conditions. -/
import Derived.Test.YtkilkfhjfobcdaaKFBGLFB
import Derived.Test.YtkilkfhjfobcdaaKFBLiftB
set_option linter.unusedVariables false
namespace Go.Proofs.Ytkilkfhjfobcdaa
open Go.ChangeShapes Go.WideShapes Go.ChangeAt Go.RowKit Go.Joins Go.Deep
set_option maxRecDepth 100000 in
theorem fnBuilding_lifted (os : Os) (started : os.Started) (H : Type) (enc : TypeId × Value → H) :
    ReturnsInHanded {} Try.checked os 13 .any (Rows.fnBuildingSpec.pre6 enc Try.prog Try.f13 Rows.fnBuildingRow.domain false) (Rows.fnBuildingSpec.post enc Try.prog Try.f13 false true false false) := by
  refine returnsInHanded_of_change (C := Try.checked) own0 started (by kernel_rfl) Try.func13
    (ChangeSpec.witness6 (enc := enc) (C := Try.checked) false ⟨#[], #[.slice none 0 0], []⟩ 8 (by kernel_rfl) (by kernel_rfl) (by kernel_rfl) (by kernel_rfl)) ?_
  intro W base args ds gs before hval0 hW _ _
  have hval : ∀ (j : Nat) t v, Try.f13.params[j]? = some t → args[j]? = some v → Value.okWide Try.prog W .any base t v := hval0
  have hW' := hW
  obtain ⟨p, q, hA0, hV, rfl, hfz, hnd⟩ := hW
  have hA : DataW.TrodAll enc Try.prog W 0 (fun _ => true) true Try.f13.params.toList args.toList ds p := hA0
  rw [Try.params13] at hA hval
  obtain ⟨v0, vs0, d0, ds0, p0, q0, hargs0, rfl, rfl, h0, r00⟩ := trodAll_cons hA
  obtain ⟨rfl, rfl, rfl⟩ := trodAll_nil r00
  obtain rfl : args = #[v0] := by cases args; simp_all
  obtain ⟨a0, c0, x0, rfl, r0⟩ := argY (hval 0 80 v0 rfl rfl) h0
  refine (c_l_FnBuilding a0 x0.length c0 x0 W r0).mono ?_
  rintro e W' ⟨v, rfl, rfl, hx⟩
  rw [FnBuilding_true _ (fun m => (r0.bd m).1)]
  exact ⟨_, rfl, law_post hW' rfl rfl (by kernel_rfl) (fun ds' h => by match ds', h with | [_], _ => rfl) hx⟩
theorem fnBuilding_holds : Rows.FnBuildingSaid :=
  OpenClaim.holds_of_wide 13 Try.f13 rfl rfl rfl rfl rfl rfl rfl ⟨rfl, rfl, rfl, rfl, rfl⟩ rfl rfl rfl rfl rfl (by kernel_rfl) Try.func13 (by kernel_rfl)
    (of_decide_eq_true (by kernel_rfl)) (by unfold Func.isWrapper; first | (rw [if_pos (by decide +kernel)]; kernel_rfl) | (rw [if_neg (by decide +kernel)]; exact ⟨rfl, rfl⟩))
    (fun os started H enc _ => fnBuilding_lifted os started H enc)
end Go.Proofs.Ytkilkfhjfobcdaa
