/- LawTC: the law FnExactTransitiveClosure returns true, whatever the slice. -/
import Derived.Test.YtfilpikakdlgbaaTrans
namespace Go.Proofs.Ytfilpikakdlgbaa
open Go.RowKit

set_option maxRecDepth 100000 in
theorem lawTC_c (a : Option Addr) (c : Nat) (xs : List Int) (w : World) (hl : xs.length ≤ 9223372036854775807) (hr : Rd w a xs) :
    Calls Try.prog 4 #[.slice a xs.length c] w fun e w' => e = .returned (.bool true) ∧ Ext w w' := by
  have Hr := Lib.hid hr; clear hr
  by_cases hbig : 1048576 < xs.length
  · go_enter Try.func4, Try.ntmps4
    go_wp2
    go_ret
    exact ⟨rfl, Ext.refl _⟩
  · have hl' : xs.length ≤ 1048576 := by omega
    have hzl : (tcF xs).length ≤ 1048576 := by
      unfold tcF; split
      · rw [outerC_len]; exact hl'
      · simp
    go_enter Try.func4, Try.ntmps4
    go_wp2_with fail
    refine (toI_c a c xs w hl' Hr.out).mono ?_
    rintro e w1 ⟨b1, c1, rfl, ho1, he1, hn1⟩
    have Ho1 := Lib.hid ho1; have He1 := Lib.hid he1; have Hn1 := Lib.hid hn1; clear ho1 he1 hn1
    go_wp2_with fail
    refine (specTC_c b1 c1 xs w1 hl' Ho1.out.rd Hn1.out).mono ?_
    rintro e w2 ⟨b2, c2, rfl, ho2, he2, hn2⟩
    have Ho2 := Lib.hid (ho2.mono He1.out.size); have He2 := Lib.hid (He1.out.trans he2); clear ho2 he2 hn2 Ho1 Hn1
    go_wp2_with fail
    refine (toI_c a c xs w2 hl' (Hr.out.ext He2.out)).mono ?_
    rintro e w3 ⟨b3, c3, rfl, ho3, he3, hn3⟩
    have Ha23 := Lib.hid (Ho2.out.apart ho3 (Nat.le_refl _)); have Ho2' := Lib.hid (Ho2.out.ext he3); clear Ho2; have Ho2 := Ho2'; clear Ho2'; have Ho3 := Lib.hid (ho3.mono He2.out.size); have He3 := Lib.hid (He2.out.trans he3); have Hn3 := Lib.hid hn3; clear ho3 he3 hn3
    go_wp2_with fail
    refine (implTC_c b3 c3 xs w3 hl' Ho3.out.rd Hn3.out).mono ?_
    rintro e w4 ⟨b4, c4, rfl, ho4, he4, hn4⟩
    have Ha24 := Lib.hid (Ho2.out.apart ho4 (Nat.le_refl _)); have Ha34 := Lib.hid (Ho3.out.apart ho4 (Nat.le_refl _))
    have Ho2' := Lib.hid (Ho2.out.ext he4); clear Ho2; have Ho2 := Ho2'; clear Ho2'
    have Ho3' := Lib.hid (Ho3.out.ext he4); clear Ho3; have Ho3 := Ho3'; clear Ho3'
    have Ho4 := Lib.hid (ho4.mono He3.out.size); have He4 := Lib.hid (He3.out.trans he4); clear ho4 he4 hn4 Hn3
    go_wp2_with fail
    refine (eqI_true b4 b2 c4 c2 (tcF xs) w4 (by omega) Ho4.out.rd Ho2.out.rd).mono ?_
    rintro e w5 ⟨rfl, he5⟩
    have Ho2' := Lib.hid (Ho2.out.ext he5); clear Ho2; have Ho2 := Ho2'; clear Ho2'
    have Ho3' := Lib.hid (Ho3.out.ext he5); clear Ho3; have Ho3 := Ho3'; clear Ho3'
    have Ho4' := Lib.hid (Ho4.out.ext he5); clear Ho4; have Ho4 := Ho4'; clear Ho4'
    have He5 := Lib.hid (He4.out.trans he5); clear he5
    go_wp2_with fail
    refine (toI_c a c xs w5 hl' (Hr.out.ext He5.out)).mono ?_
    rintro e w6 ⟨b6, c6, rfl, ho6, he6, hn6⟩
    have Ho2' := Lib.hid (Ho2.out.ext he6); clear Ho2; have Ho2 := Ho2'; clear Ho2'
    have Ho3' := Lib.hid (Ho3.out.ext he6); clear Ho3; have Ho3 := Ho3'; clear Ho3'
    have Ho4' := Lib.hid (Ho4.out.ext he6); clear Ho4; have Ho4 := Ho4'; clear Ho4'
    have Hr6 := Lib.hid ho6.rd; have He6 := Lib.hid (He5.out.trans he6); clear ho6 he6 hn6
    go_wp2_with fail
    refine (eqI_true b3 b6 c3 c6 xs w6 (by omega) Ho3.out.rd Hr6.out).mono ?_
    rintro e w7 ⟨rfl, he7⟩
    have Ho2' := Lib.hid (Ho2.out.ext he7); clear Ho2; have Ho2 := Ho2'; clear Ho2'
    have Ho3' := Lib.hid (Ho3.out.ext he7); clear Ho3; have Ho3 := Ho3'; clear Ho3'
    have Ho4' := Lib.hid (Ho4.out.ext he7); clear Ho4; have Ho4 := Ho4'; clear Ho4'
    have He7 := Lib.hid (He6.out.trans he7); clear he7 Hr6
    go_wp2_with fail
    refine (markI_c b3 c3 xs 1 _ w7 (by omega) (by omega) (by omega) Ho3.out).mono ?_
    rintro e w8 ⟨rfl, ho8, hu8⟩
    have Ho2' := Lib.hid (Ho2.out.only hu8 Ha23.out); clear Ho2; have Ho2 := Ho2'; clear Ho2'
    have Ho4' := Lib.hid (Ho4.out.only hu8 Ha34.out.symm); clear Ho4; have Ho4 := Ho4'; clear Ho4'
    have He8 := Lib.hid (He7.out.only hu8 (fun k hk => (Ho3.out.blk_lt hk).1)); clear ho8 hu8 Ho3 Ha23 Ha34
    go_wp2_with fail
    refine (eqI_true b4 b2 c4 c2 (tcF xs) w8 (by omega) Ho4.out.rd Ho2.out.rd).mono ?_
    rintro e w9 ⟨rfl, he9⟩
    have Ho2' := Lib.hid (Ho2.out.ext he9); clear Ho2; have Ho2 := Ho2'; clear Ho2'
    have Ho4' := Lib.hid (Ho4.out.ext he9); clear Ho4; have Ho4 := Ho4'; clear Ho4'
    have He9 := Lib.hid (He8.out.trans he9); clear he9
    go_wp2_with fail
    refine (markI_c b4 c4 (tcF xs) 1 _ w9 (by omega) (by omega) (by omega) Ho4.out).mono ?_
    rintro e w10 ⟨rfl, ho10, hu10⟩
    have Ho2' := Lib.hid (Ho2.out.only hu10 Ha24.out); clear Ho2; have Ho2 := Ho2'; clear Ho2'
    have He10 := Lib.hid (He9.out.only hu10 (fun k hk => (Ho4.out.blk_lt hk).1)); clear Ho4 hu10
    have Ho4 := Lib.hid ho10; clear ho10 Ha24
    go_wp2_with fail
    refine (heldI_c b4 c4 (tcF xs).length 1 w10 (by omega) (by omega) (by omega) Ho4.out.rd).mono ?_
    rintro e w11 ⟨rfl, he11⟩
    have Ho2' := Lib.hid (Ho2.out.ext he11); clear Ho2; have Ho2 := Ho2'; clear Ho2'
    have Ho4' := Lib.hid (Ho4.out.ext he11); clear Ho4; have Ho4 := Ho4'; clear Ho4'
    have He11 := Lib.hid (He10.out.trans he11); clear he11
    go_wp2_with fail
    refine (toI_c a c xs w11 hl' (Hr.out.ext He11.out)).mono ?_
    rintro e w12 ⟨b12, c12, rfl, ho12, he12, hn12⟩
    have Ho2' := Lib.hid (Ho2.out.ext he12); clear Ho2; have Ho2 := Ho2'; clear Ho2'
    have Ho4' := Lib.hid (Ho4.out.ext he12); clear Ho4; have Ho4 := Ho4'; clear Ho4'
    have Ho12 := Lib.hid ho12; have Hn12 := Lib.hid hn12; have He12 := Lib.hid (He11.out.trans he12); clear ho12 he12 hn12
    go_wp2_with fail
    refine (implTC_c b12 c12 xs w12 hl' Ho12.out.rd Hn12.out).mono ?_
    rintro e w13 ⟨b13, c13, rfl, ho13, he13, hn13⟩
    have Ho2' := Lib.hid (Ho2.out.ext he13); clear Ho2; have Ho2 := Ho2'; clear Ho2'
    have Ho4' := Lib.hid (Ho4.out.ext he13); clear Ho4; have Ho4 := Ho4'; clear Ho4'
    have Ho13 := Lib.hid ho13; have He13 := Lib.hid (He12.out.trans he13); clear ho13 he13 hn13 Ho12 Hn12
    go_wp2_with fail
    refine (eqI_true b13 b2 c13 c2 (tcF xs) w13 (by omega) Ho13.out.rd Ho2.out.rd).mono ?_
    rintro e w14 ⟨rfl, he14⟩
    have Ho4' := Lib.hid (Ho4.out.ext he14); clear Ho4; have Ho4 := Ho4'; clear Ho4'
    have He14 := Lib.hid (He13.out.trans he14); clear he14
    go_wp2_with fail
    refine (heldI_c b4 c4 (tcF xs).length 1 w14 (by omega) (by omega) (by omega) Ho4.out.rd).mono ?_
    rintro e w15 ⟨rfl, he15⟩
    have He15 := Lib.hid (He14.out.trans he15); clear he15
    go_wp2_with fail
    go_ret
    exact ⟨rfl, He15.out⟩
end Go.Proofs.Ytfilpikakdlgbaa
