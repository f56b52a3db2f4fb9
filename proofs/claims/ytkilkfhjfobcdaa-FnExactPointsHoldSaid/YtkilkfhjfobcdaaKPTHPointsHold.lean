/- For all arguments the law FnExactPointsHold returns true, and its arguments read afterwards as they read before. No conditions. -/
import Derived.Test.YtkilkfhjfobcdaaKPTGLPT
import Derived.Test.YtkilkfhjfobcdaaKPTLiftN
set_option linter.unusedVariables false
namespace Go.Proofs.Ytkilkfhjfobcdaa
open Go.ChangeShapes Go.WideShapes Go.ChangeAt Go.RowKit Go.Joins Go.Deep
set_option maxRecDepth 100000 in
theorem fnExactPointsHold_lifted (os : Os) (started : os.Started) (H : Type) (enc : TypeId × Value → H) :
    ReturnsInHanded {} Try.checked os 11 .any (Rows.fnExactPointsHoldSpec.pre6 enc Try.prog Try.f11 Rows.fnExactPointsHoldRow.domain false) (Rows.fnExactPointsHoldSpec.post enc Try.prog Try.f11 false true false false) := by
  refine returnsInHanded_of_change (C := Try.checked) own0 started (by kernel_rfl) Try.func11
    (ChangeSpec.witness6 (enc := enc) (C := Try.checked) false ⟨#[], #[.agg #[.int .i64 0, .slice none 0 0, .slice none 0 0], .slice none 0 0, .slice none 0 0], []⟩ 8 (by kernel_rfl) (by kernel_rfl) (by kernel_rfl) (by kernel_rfl)) ?_
  intro W base args ds gs before hval0 hW _ _
  have hval : ∀ (j : Nat) t v, Try.f11.params[j]? = some t → args[j]? = some v → Value.okWide Try.prog W .any base t v := hval0
  have hW' := hW
  obtain ⟨p, q, hA0, hV, rfl, hfz, hnd⟩ := hW
  have hA : DataW.TrodAll enc Try.prog W 0 (fun _ => true) true Try.f11.params.toList args.toList ds p := hA0
  rw [Try.params11] at hA hval
  obtain ⟨v0, vs0, d0, ds0, p0, q0, hargs0, rfl, rfl, h0, r00⟩ := trodAll_cons hA
  obtain ⟨v1, vs1, d1, ds1, p1, q1, hargs1, rfl, rfl, h1, r10⟩ := trodAll_cons r00
  obtain ⟨v2, vs2, d2, ds2, p2, q2, hargs2, rfl, rfl, h2, r20⟩ := trodAll_cons r10
  obtain ⟨rfl, rfl, rfl⟩ := trodAll_nil r20
  subst hargs2
  subst hargs1
  obtain rfl : args = #[v0, v1, v2] := by cases args; simp_all
  obtain ⟨m0, a0, c0, x0, a0b, c0b, x0b, rfl, hi0, r0, r0b⟩ := argISS Try.underlying65 Try.underlying51 rfl rfl rfl rfl rfl (by kernel_rfl) (hval 0 65 v0 rfl rfl) h0
  obtain ⟨a1, c1, x1, rfl, r1⟩ := argStr (s := 3) Try.underlying52 (by kernel_rfl) (by decide) (ints3 Try.underlying117 rfl rfl rfl rfl) (hval 1 52 v1 rfl rfl) h1
  obtain ⟨a2, c2, x2, rfl, r2⟩ := argS (hval 2 22 v2 rfl rfl) h2
  refine (c_l_FnExactPointsHold m0 a0 x0.length c0 x0 a0b x0b.length c0b x0b a1 (x1.length / 3) c1 x1 a2 x2.length c2 x2 W r0 r0b r1 r2).mono ?_
  rintro e W' ⟨v, rfl, rfl, hx⟩
  rw [FnExactPointsHold_true _ _ _ _ _ (r1.ev (by decide))]
  exact ⟨_, rfl, law_post hW' rfl rfl (by kernel_rfl) (fun ds' h => by match ds', h with | [_, _, _], _ => rfl) hx⟩
theorem fnExactPointsHold_holds : Rows.FnExactPointsHoldSaid :=
  OpenClaim.holds_of_wide 11 Try.f11 rfl rfl rfl rfl rfl rfl rfl ⟨rfl, rfl, rfl, rfl, rfl⟩ rfl rfl rfl rfl rfl (by kernel_rfl) Try.func11 (by kernel_rfl)
    (of_decide_eq_true (by kernel_rfl)) (by unfold Func.isWrapper; first | (rw [if_pos (by decide +kernel)]; kernel_rfl) | (rw [if_neg (by decide +kernel)]; exact ⟨rfl, rfl⟩))
    (fun os started H enc _ => fnExactPointsHold_lifted os started H enc)
end Go.Proofs.Ytkilkfhjfobcdaa
