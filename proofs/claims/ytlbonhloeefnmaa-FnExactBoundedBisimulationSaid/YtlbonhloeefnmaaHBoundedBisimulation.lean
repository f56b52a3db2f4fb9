/- For all arguments the law FnExactBoundedBisimulation returns true, and its arguments read afterwards as they read before. No conditions. -/
import Derived.Test.YtlbonhloeefnmaaGLBK
import Derived.Test.YtlbonhloeefnmaaLiftN
set_option linter.unusedVariables false
namespace Go.Proofs.Ytlbonhloeefnmaa
open Go.ChangeShapes Go.WideShapes Go.ChangeAt Go.RowKit Go.Joins Go.Deep

set_option maxRecDepth 100000 in
theorem fnExactBoundedBisimulation_lifted (os : Os) (started : os.Started) (H : Type) (enc : TypeId × Value → H) :
    ReturnsInHanded {} Try.checked os 4 .any (Rows.fnExactBoundedBisimulationSpec.pre6 enc Try.prog Try.f4 Rows.fnExactBoundedBisimulationRow.domain false) (Rows.fnExactBoundedBisimulationSpec.post enc Try.prog Try.f4 false true false false) := by
  refine returnsInHanded_of_change (C := Try.checked) own0 started (by kernel_rfl) Try.func4
    (ChangeSpec.witness6 (enc := enc) (C := Try.checked) false ⟨#[], #[.agg #[.int .i64 0, .slice none 0 0, .slice none 0 0], .agg #[.int .i64 0, .slice none 0 0, .slice none 0 0], .int .i64 0], []⟩ 8 (by kernel_rfl) (by kernel_rfl) (by kernel_rfl) (by kernel_rfl)) ?_
  intro W base args ds gs before hval0 hW _ _
  have hval : ∀ (j : Nat) t v, Try.f4.params[j]? = some t → args[j]? = some v → Value.okWide Try.prog W .any base t v := hval0
  have hW' := hW
  obtain ⟨p, q, hA0, hV, rfl, hfz, hnd⟩ := hW
  have hA : DataW.TrodAll enc Try.prog W 0 (fun _ => true) true Try.f4.params.toList args.toList ds p := hA0
  rw [Try.params4] at hA hval
  obtain ⟨v0, vs0, d0, ds0, p0, q0, hargs0, rfl, rfl, h0, r00⟩ := trodAll_cons hA
  obtain ⟨v1, vs1, d1, ds1, p1, q1, hargs1, rfl, rfl, h1, r10⟩ := trodAll_cons r00
  obtain ⟨v2, vs2, d2, ds2, p2, q2, hargs2, rfl, rfl, h2, r20⟩ := trodAll_cons r10
  obtain ⟨rfl, rfl, rfl⟩ := trodAll_nil r20
  subst hargs2
  subst hargs1
  obtain rfl : args = #[v0, v1, v2] := by cases args; simp_all
  obtain ⟨m0, a0, c0, x0, a0b, c0b, x0b, rfl, hi0, r0, r0b⟩ := argISS Try.underlying26 Try.underlying24 rfl rfl rfl rfl rfl (by kernel_rfl) (hval 0 26 v0 rfl rfl) h0
  obtain ⟨m1, a1, c1, x1, a1b, c1b, x1b, rfl, hi1, r1, r1b⟩ := argISS Try.underlying26 Try.underlying24 rfl rfl rfl rfl rfl (by kernel_rfl) (hval 1 26 v1 rfl rfl) h1
  obtain ⟨m2, rfl, hi2⟩ := argI (hval 2 2 v2 rfl rfl) h2
  refine (c_l_FnExactBoundedBisimulation m0 a0 x0.length c0 x0 a0b x0b.length c0b x0b m1 a1 x1.length c1 x1 a1b x1b.length c1b x1b m2 W r0 r0b r1 r1b).mono ?_
  rintro e W' ⟨v, rfl, rfl, hx⟩
  rw [FnExactBoundedBisimulation_true]
  exact ⟨_, rfl, law_post hW' rfl rfl (by kernel_rfl) (fun ds' h => by match ds', h with | [_, _, _], _ => rfl) hx⟩

theorem fnExactBoundedBisimulation_holds : Rows.FnExactBoundedBisimulationSaid :=
  OpenClaim.holds_of_wide 4 Try.f4 rfl rfl rfl rfl rfl rfl rfl ⟨rfl, rfl, rfl, rfl, rfl⟩ rfl rfl rfl rfl rfl (by kernel_rfl) Try.func4 (by kernel_rfl)
    (of_decide_eq_true (by kernel_rfl)) (by unfold Func.isWrapper; first | (rw [if_pos (by decide +kernel)]; kernel_rfl) | (rw [if_neg (by decide +kernel)]; exact ⟨rfl, rfl⟩))
    (fun os started H enc _ => fnExactBoundedBisimulation_lifted os started H enc)
end Go.Proofs.Ytlbonhloeefnmaa
