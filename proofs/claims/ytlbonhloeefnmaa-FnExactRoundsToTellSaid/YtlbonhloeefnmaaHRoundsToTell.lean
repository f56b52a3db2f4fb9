/- For all arguments the law FnExactRoundsToTell returns true, and its arguments read afterwards as they read before. No conditions. -/
import Derived.Test.YtlbonhloeefnmaaGLRT
import Derived.Test.YtlbonhloeefnmaaLiftN
set_option linter.unusedVariables false
namespace Go.Proofs.Ytlbonhloeefnmaa
open Go.ChangeShapes Go.WideShapes Go.ChangeAt Go.RowKit Go.Joins Go.Deep

set_option maxRecDepth 100000 in
theorem fnExactRoundsToTell_lifted (os : Os) (started : os.Started) (H : Type) (enc : TypeId × Value → H) :
    ReturnsInHanded {} Try.checked os 5 .any (Rows.fnExactRoundsToTellSpec.pre6 enc Try.prog Try.f5 Rows.fnExactRoundsToTellRow.domain false) (Rows.fnExactRoundsToTellSpec.post enc Try.prog Try.f5 false true false false) := by
  refine returnsInHanded_of_change (C := Try.checked) own0 started (by kernel_rfl) Try.func5
    (ChangeSpec.witness6 (enc := enc) (C := Try.checked) false ⟨#[], #[.agg #[.int .i64 0, .slice none 0 0, .slice none 0 0], .int .i64 0, .agg #[.int .i64 0, .slice none 0 0, .slice none 0 0], .int .i64 0], []⟩ 8 (by kernel_rfl) (by kernel_rfl) (by kernel_rfl) (by kernel_rfl)) ?_
  intro W base args ds gs before hval0 hW _ _
  have hval : ∀ (j : Nat) t v, Try.f5.params[j]? = some t → args[j]? = some v → Value.okWide Try.prog W .any base t v := hval0
  have hW' := hW
  obtain ⟨p, q, hA0, hV, rfl, hfz, hnd⟩ := hW
  have hA : DataW.TrodAll enc Try.prog W 0 (fun _ => true) true Try.f5.params.toList args.toList ds p := hA0
  rw [Try.params5] at hA hval
  obtain ⟨v0, vs0, d0, ds0, p0, q0, hargs0, rfl, rfl, h0, r00⟩ := trodAll_cons hA
  obtain ⟨v1, vs1, d1, ds1, p1, q1, hargs1, rfl, rfl, h1, r10⟩ := trodAll_cons r00
  obtain ⟨v2, vs2, d2, ds2, p2, q2, hargs2, rfl, rfl, h2, r20⟩ := trodAll_cons r10
  obtain ⟨v3, vs3, d3, ds3, p3, q3, hargs3, rfl, rfl, h3, r30⟩ := trodAll_cons r20
  obtain ⟨rfl, rfl, rfl⟩ := trodAll_nil r30
  subst hargs3
  subst hargs2
  subst hargs1
  obtain rfl : args = #[v0, v1, v2, v3] := by cases args; simp_all
  obtain ⟨m0, a0, c0, x0, a0b, c0b, x0b, rfl, hi0, r0, r0b⟩ := argISS Try.underlying26 Try.underlying24 rfl rfl rfl rfl rfl (by kernel_rfl) (hval 0 26 v0 rfl rfl) h0
  obtain ⟨m1, rfl, hi1⟩ := argI (hval 1 2 v1 rfl rfl) h1
  obtain ⟨m2, a2, c2, x2, a2b, c2b, x2b, rfl, hi2, r2, r2b⟩ := argISS Try.underlying26 Try.underlying24 rfl rfl rfl rfl rfl (by kernel_rfl) (hval 2 26 v2 rfl rfl) h2
  obtain ⟨m3, rfl, hi3⟩ := argI (hval 3 2 v3 rfl rfl) h3
  refine (c_l_FnExactRoundsToTell m0 a0 x0.length c0 x0 a0b x0b.length c0b x0b m1 m2 a2 x2.length c2 x2 a2b x2b.length c2b x2b m3 W r0 r0b r2 r2b).mono ?_
  rintro e W' ⟨v, rfl, rfl, hx⟩
  rw [FnExactRoundsToTell_true]
  exact ⟨_, rfl, law_post hW' rfl rfl (by kernel_rfl) (fun ds' h => by match ds', h with | [_, _, _, _], _ => rfl) hx⟩

theorem fnExactRoundsToTell_holds : Rows.FnExactRoundsToTellSaid :=
  OpenClaim.holds_of_wide 5 Try.f5 rfl rfl rfl rfl rfl rfl rfl ⟨rfl, rfl, rfl, rfl, rfl⟩ rfl rfl rfl rfl rfl (by kernel_rfl) Try.func5 (by kernel_rfl)
    (of_decide_eq_true (by kernel_rfl)) (by unfold Func.isWrapper; first | (rw [if_pos (by decide +kernel)]; kernel_rfl) | (rw [if_neg (by decide +kernel)]; exact ⟨rfl, rfl⟩))
    (fun os started H enc _ => fnExactRoundsToTell_lifted os started H enc)
end Go.Proofs.Ytlbonhloeefnmaa
