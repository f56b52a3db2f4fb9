/- For all arguments the law FnExactThenMorphisms returns true, and its arguments read afterwards as they read before. No conditions. -/
import Derived.Test.YtgcmfjliklcbdaaGLThen
import Derived.Test.YtgcmfjliklcbdaaLiftS
set_option linter.unusedVariables false
namespace Go.Proofs.Ytgcmfjliklcbdaa
open Go.ChangeShapes Go.WideShapes Go.ChangeAt Go.RowKit Go.Joins Go.Deep

set_option maxRecDepth 100000 in
theorem fnExactThenMorphisms_lifted (os : Os) (started : os.Started) (H : Type) (enc : TypeId × Value → H) :
    ReturnsInHanded {} Try.checked os 4 .any (Rows.fnExactThenMorphismsSpec.pre6 enc Try.prog Try.f4 Rows.fnExactThenMorphismsRow.domain false) (Rows.fnExactThenMorphismsSpec.post enc Try.prog Try.f4 false true false false) := by
  refine returnsInHanded_of_change (C := Try.checked) own0 started (by kernel_rfl) Try.func4
    (ChangeSpec.witness6 (enc := enc) (C := Try.checked) false ⟨#[], #[.agg #[.int .i64 0, .slice none 0 0], .agg #[.int .i64 0, .slice none 0 0], .agg #[.int .i64 0, .slice none 0 0], .slice none 0 0, .slice none 0 0], []⟩ 8 (by kernel_rfl) (by kernel_rfl) (by kernel_rfl) (by kernel_rfl)) ?_
  intro W base args ds gs before hval0 hW _ _
  have hval : ∀ (j : Nat) t v, Try.f4.params[j]? = some t → args[j]? = some v → Value.okWide Try.prog W .any base t v := hval0
  have hW' := hW
  obtain ⟨p, q, hA0, hV, rfl, hfz, hnd⟩ := hW
  have hA : DataW.TrodAll enc Try.prog W 0 (fun _ => true) true Try.f4.params.toList args.toList ds p := hA0
  rw [Try.params4] at hA hval
  obtain ⟨v0, vs0, d0, ds0, p0, q0, hargs0, rfl, rfl, h0, r00⟩ := trodAll_cons hA
  obtain ⟨v1, vs1, d1, ds1, p1, q1, hargs1, rfl, rfl, h1, r10⟩ := trodAll_cons r00
  obtain ⟨v2, vs2, d2, ds2, p2, q2, hargs2, rfl, rfl, h2, r20⟩ := trodAll_cons r10
  obtain ⟨v3, vs3, d3, ds3, p3, q3, hargs3, rfl, rfl, h3, r30⟩ := trodAll_cons r20
  obtain ⟨v4, vs4, d4, ds4, p4, q4, hargs4, rfl, rfl, h4, r40⟩ := trodAll_cons r30
  obtain ⟨rfl, rfl, rfl⟩ := trodAll_nil r40
  subst hargs4
  subst hargs3
  subst hargs2
  subst hargs1
  obtain rfl : args = #[v0, v1, v2, v3, v4] := by cases args; simp_all
  obtain ⟨m0, a0, c0, x0, rfl, hi0, r0⟩ := argIS Try.underlying24 rfl rfl (by kernel_rfl) (by kernel_rfl) (hval 0 24 v0 rfl rfl) h0
  obtain ⟨m1, a1, c1, x1, rfl, hi1, r1⟩ := argIS Try.underlying24 rfl rfl (by kernel_rfl) (by kernel_rfl) (hval 1 24 v1 rfl rfl) h1
  obtain ⟨m2, a2, c2, x2, rfl, hi2, r2⟩ := argIS Try.underlying24 rfl rfl (by kernel_rfl) (by kernel_rfl) (hval 2 24 v2 rfl rfl) h2
  obtain ⟨a3, c3, x3, rfl, r3⟩ := argS (hval 3 22 v3 rfl rfl) h3
  obtain ⟨a4, c4, x4, rfl, r4⟩ := argS (hval 4 22 v4 rfl rfl) h4
  refine (c_l_FnExactThenMorphisms m0 a0 x0.length c0 x0 m1 a1 x1.length c1 x1 m2 a2 x2.length c2 x2 a3 x3.length c3 x3 a4 x4.length c4 x4 W r0 r1 r2 r3 r4).mono ?_
  rintro e W' ⟨v, rfl, rfl, hx⟩
  rw [FnExactThenMorphisms_true]
  exact ⟨_, rfl, law_post hW' rfl rfl (by kernel_rfl) (fun ds' h => by match ds', h with | [_, _, _, _, _], _ => rfl) hx⟩

theorem fnExactThenMorphisms_holds : Rows.FnExactThenMorphismsSaid :=
  OpenClaim.holds_of_wide 4 Try.f4 rfl rfl rfl rfl rfl rfl rfl ⟨rfl, rfl, rfl, rfl, rfl⟩ rfl rfl rfl rfl rfl (by kernel_rfl) Try.func4 (by kernel_rfl)
    (of_decide_eq_true (by kernel_rfl)) (by unfold Func.isWrapper; first | (rw [if_pos (by decide +kernel)]; kernel_rfl) | (rw [if_neg (by decide +kernel)]; exact ⟨rfl, rfl⟩))
    (fun os started H enc _ => fnExactThenMorphisms_lifted os started H enc)
end Go.Proofs.Ytgcmfjliklcbdaa
