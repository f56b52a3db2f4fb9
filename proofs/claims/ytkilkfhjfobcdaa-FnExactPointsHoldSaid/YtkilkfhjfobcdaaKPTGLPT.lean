/- GLPT: models and contracts, printed by wip/gen/gen.py -/
import Derived.Test.YtkilkfhjfobcdaaKPTGTA
import Derived.Test.YtkilkfhjfobcdaaKPTGAM
import Derived.Test.YtkilkfhjfobcdaaKPTGTF
set_option linter.unusedVariables false
set_option linter.unusedSimpArgs false
namespace Go.Proofs.Ytkilkfhjfobcdaa
open Go.RowKit
def F_l_FnExactPointsHold (mp0 : Int) (mp1 : List Int) (mp2 : List Int) (ap : List Int) (worlds : List Int) : Bool :=
  bif (decide (1048576 < (worlds.length : Int))) then true else (bif (decide ((F_l_szModel mp0 mp1 mp2 1048576) < 0)) then true else (bif (decide ((F_l_szPointNodeS ap (F_l_szModel mp0 mp1 mp2 1048576)) < 0)) then true else (bif ((((F_PointsHold mp0 mp1 mp2 ap worlds).1) != ((F_s_PointsHold mp0 mp1 mp2 ap worlds).1)) || (!decide (((F_PointsHold mp0 mp1 mp2 ap worlds).2) = ((F_s_PointsHold mp0 mp1 mp2 ap worlds).2)))) then false else (bif (!(decide ((mp0, mp1, mp2) = (mp0, mp1, mp2)))) then false else (bif (!(decide (ap = ap))) then false else (bif (!(decide (worlds = worlds))) then false else true))))))
set_option maxRecDepth 100000 in
theorem c_l_FnExactPointsHold (mp0 : Int) (mp1A : Option Addr) (mp1N mp1C : Nat) (mp1 : List Int) (mp2A : Option Addr) (mp2N mp2C : Nat) (mp2 : List Int) (apA : Option Addr) (apN apC : Nat) (ap : List Int) (worldsA : Option Addr) (worldsN worldsC : Nat) (worlds : List Int) (w : World) (mp1R : RdS w 1 mp1A mp1N mp1C mp1) (mp2R : RdS w 1 mp2A mp2N mp2C mp2) (apR : RdS w 3 apA apN apC ap) (worldsR : RdS w 1 worldsA worldsN worldsC worlds) :
    Calls Try.prog 11 #[.agg #[.int .i64 mp0, .slice mp1A mp1N mp1C, .slice mp2A mp2N mp2C], .slice apA apN apC, .slice worldsA worldsN worldsC] w (Ret fun v w' => v = .bool (F_l_FnExactPointsHold mp0 mp1 mp2 ap worlds) ∧ Ext w w') := by
  obtain rfl : mp1N = mp1.length := mp1R.len1.symm
  have mp1Le := mp1R.le
  obtain rfl : mp2N = mp2.length := mp2R.len1.symm
  have mp2Le := mp2R.le
  obtain rfl : apN = ap.length / 3 := (apR.lenD (by decide)).symm
  have apEv := apR.ev (by decide)
  have apLe := apR.le
  obtain rfl : worldsN = worlds.length := worldsR.len1.symm
  have worldsLe := worldsR.le
  have hS := St.nil w
  have hS1 := St.rd0 hS rfl mp1R; clear hS
  have hS2 := St.rd0 hS1 rfl mp2R; clear hS1
  have hS3 := St.rd0 hS2 rfl apR; clear hS2
  have hS4 := St.rd0 hS3 rfl worldsR; clear hS3
  refine enter (args := [.agg #[.int .i64 mp0, .slice mp1A mp1.length mp1C, .slice mp2A mp2.length mp2C], .slice apA ((ap).length / 3 : Nat) apC, .slice worldsA worlds.length worldsC]) Try.func11 rfl rfl ?_
  rw [Try.ntmps11]; intro a hE
  have hE := hE.sub (L' := [(0, .agg #[.int .i64 mp0, .slice mp1A mp1.length mp1C, .slice mp2A mp2.length mp2C]), (1, .slice apA ((ap).length / 3 : Nat) apC), (2, .slice worldsA worlds.length worldsC)]) ⟨rfl, rfl, rfl, trivial⟩
  refine c_seq ?_
  refine c_reg ?_
  refine l_step hE rfl (l_box (v := .agg #[.int .i64 mp0, .slice mp1A mp1.length mp1C, .slice mp2A mp2.length mp2C]) (cs := #[.int .i64 mp0, .slice mp1A mp1.length mp1C, .slice mp2A mp2.length mp2C]) hS4 hE rfl rfl rfl ?_)
  intro b5 w6 hS9 he10 a7 hE8; clear hS4 hE
  refine q_step (v := .bool false) hE8 (y_assign rfl) rfl rfl rfl ?_; intro a11 hE12; clear hE8
  refine c_nil ?_
  have hE13 := hE12.sub (L' := [(1, .slice apA ((ap).length / 3 : Nat) apC), (2, .slice worldsA worlds.length worldsC), (3, .pointer (some ⟨b5, 0, none⟩))]) ⟨rfl, rfl, rfl, trivial⟩; clear hE12
  refine p_tn ?_
  refine c_seq ?_
  refine c_seq ?_
  refine c_reg ?_
  refine q_step (v := .slice worldsA worlds.length worldsC) hE13 (y_move rfl) rfl rfl rfl ?_; intro a14 hE15; clear hE13
  refine q_step (v := .int .i64 (worlds.length : Int)) hE15 (y_len (e := 2) (by kernel_rfl) rfl) rfl rfl rfl ?_; intro a16 hE17; clear hE15
  refine q_step (v := .bool (decide (1048576 < (worlds.length : Int)))) hE17 (y_gtr rfl rfl) rfl rfl rfl ?_; intro a18 hE19; clear hE17
  refine c_nil ?_
  have hE20 := hE19.sub (L' := [(1, .slice apA ((ap).length / 3 : Nat) apC), (2, .slice worldsA worlds.length worldsC), (3, .pointer (some ⟨b5, 0, none⟩)), (17, .bool (decide (1048576 < (worlds.length : Int))))]) ⟨rfl, rfl, rfl, rfl, trivial⟩; clear hE19
  refine p_tn ?_
  refine c_cond hE20 rfl (fun ht21 => ?_) (fun ht21 => ?_)
  ·
   have hp22 := of_decide_eq_true ht21
   have hE23 := hE20; rw [ht21] at hE23; clear hE20
   refine c_seq ?_
   refine c_reg ?_
   refine q_step (v := .bool true) hE23 (y_assign rfl) rfl rfl rfl ?_; intro a24 hE25; clear hE23
   refine c_nil ?_
   have hE26 := hE25.sub (L' := [(6, .bool true)]) ⟨rfl, trivial⟩; clear hE25
   refine p_tn ?_
   refine wp_ret ?_
   refine p_tr ?_
   have hF : F_l_FnExactPointsHold mp0 mp1 mp2 ap worlds = true := by unfold F_l_FnExactPointsHold; rw [ht21]; first | done | rfl
   refine c_ret1 hE26 rfl rfl ?_
   exact ⟨(by rw [hF]; first | done | (dsimp only; done) | rfl), hS9.ext⟩
  ·
   have hp27 := of_decide_eq_false ht21
   have hE28 := hE20; rw [ht21] at hE28; clear hE20
   refine wp_skip ?_
   refine p_tn ?_
   refine c_seq ?_
   refine c_reg ?_
   refine q_step (v := .int .i64 1048576) hE28 (y_assign rfl) rfl rfl rfl ?_; intro a29 hE30; clear hE28
   refine c_nil ?_
   have hE31 := hE30.sub (L' := [(1, .slice apA ((ap).length / 3 : Nat) apC), (2, .slice worldsA worlds.length worldsC), (3, .pointer (some ⟨b5, 0, none⟩)), (7, .int .i64 1048576)]) ⟨rfl, rfl, rfl, rfl, trivial⟩; clear hE30
   refine p_tn ?_
   refine c_seq ?_
   refine c_reg ?_
   refine q_step (v := .agg #[.int .i64 mp0, .slice mp1A mp1.length mp1C, .slice mp2A mp2.length mp2C]) hE31 (y_loadS Try.underlying65 rfl (by kernel_rfl) rfl (St.row (i := 0) hS9 rfl)) rfl rfl rfl ?_; intro a32 hE33; clear hE31
   refine q_step (v := .int .i64 1048576) hE33 (y_move rfl) rfl rfl rfl ?_; intro a34 hE35; clear hE33
   refine l_step hE35 rfl (l_call (f := 49) (argv := [.agg #[.int .i64 mp0, .slice mp1A mp1.length mp1C, .slice mp2A mp2.length mp2C], .int .i64 1048576]) hE35 (fun _ => cf_l_szModel _ _) rfl rfl (c_l_szModel mp0 mp1A mp1.length mp1C mp1 mp2A mp2.length mp2C mp2 1048576 w6 (St.rdR (i := 4) hS9 rfl) (St.rdR (i := 3) hS9 rfl) (by first | omega | (simp only [marked_len]; omega) | (simp only [marked_len] at *; omega)) (by first | omega | (simp only [marked_len]; omega) | (simp only [marked_len] at *; omega))) ?_)
   rintro _ w37 ⟨rfl, he41⟩ a38 hE39; clear hE35
   have hS40 := St.go hS9 he41; clear hS9
   refine q_step (v := .int .i64 (F_l_szModel mp0 mp1 mp2 1048576)) hE39 (y_assign rfl) rfl rfl rfl ?_; intro a42 hE43; clear hE39
   refine c_nil ?_
   have hE44 := hE43.sub (L' := [(1, .slice apA ((ap).length / 3 : Nat) apC), (2, .slice worldsA worlds.length worldsC), (3, .pointer (some ⟨b5, 0, none⟩)), (7, .int .i64 (F_l_szModel mp0 mp1 mp2 1048576))]) ⟨rfl, rfl, rfl, rfl, trivial⟩; clear hE43
   refine p_tn ?_
   refine c_seq ?_
   refine c_seq ?_
   refine c_reg ?_
   refine q_step (v := .int .i64 (F_l_szModel mp0 mp1 mp2 1048576)) hE44 (y_move rfl) rfl rfl rfl ?_; intro a45 hE46; clear hE44
   refine q_step (v := .bool (decide ((F_l_szModel mp0 mp1 mp2 1048576) < 0))) hE46 (y_lss rfl rfl) rfl rfl rfl ?_; intro a47 hE48; clear hE46
   refine c_nil ?_
   have hE49 := hE48.sub (L' := [(1, .slice apA ((ap).length / 3 : Nat) apC), (2, .slice worldsA worlds.length worldsC), (3, .pointer (some ⟨b5, 0, none⟩)), (7, .int .i64 (F_l_szModel mp0 mp1 mp2 1048576)), (22, .bool (decide ((F_l_szModel mp0 mp1 mp2 1048576) < 0)))]) ⟨rfl, rfl, rfl, rfl, rfl, trivial⟩; clear hE48
   refine p_tn ?_
   refine c_cond hE49 rfl (fun ht50 => ?_) (fun ht50 => ?_)
   ·
    have hp51 := of_decide_eq_true ht50
    have hE52 := hE49; rw [ht50] at hE52; clear hE49
    refine c_seq ?_
    refine c_reg ?_
    refine q_step (v := .bool true) hE52 (y_assign rfl) rfl rfl rfl ?_; intro a53 hE54; clear hE52
    refine c_nil ?_
    have hE55 := hE54.sub (L' := [(6, .bool true)]) ⟨rfl, trivial⟩; clear hE54
    refine p_tn ?_
    refine wp_ret ?_
    refine p_tr ?_
    have hF : F_l_FnExactPointsHold mp0 mp1 mp2 ap worlds = true := by unfold F_l_FnExactPointsHold; rw [ht50, ht21]; first | done | rfl
    refine c_ret1 hE55 rfl rfl ?_
    exact ⟨(by rw [hF]; first | done | (dsimp only; done) | rfl), hS40.ext⟩
   ·
    have hp56 := of_decide_eq_false ht50
    have hq57 := szModel_bound hp56
    have hE58 := hE49; rw [ht50] at hE58; clear hE49
    refine wp_skip ?_
    refine p_tn ?_
    refine c_seq ?_
    refine c_reg ?_
    refine q_step (v := .slice apA ((ap).length / 3 : Nat) apC) hE58 (y_move rfl) rfl rfl rfl ?_; intro a59 hE60; clear hE58
    refine q_step (v := .int .i64 (F_l_szModel mp0 mp1 mp2 1048576)) hE60 (y_move rfl) rfl rfl rfl ?_; intro a61 hE62; clear hE60
    refine l_step hE62 rfl (l_call (f := 42) (argv := [.slice apA ((ap).length / 3 : Nat) apC, .int .i64 (F_l_szModel mp0 mp1 mp2 1048576)]) hE62 (fun _ => cf_l_szPointNodeS _ _) rfl rfl (c_l_szPointNodeS apA ((ap).length / 3 : Nat) apC ap (F_l_szModel mp0 mp1 mp2 1048576) w37 (St.rdR (i := 2) hS40 rfl) (by first | omega | (simp only [marked_len]; omega) | (simp only [marked_len] at *; omega)) (by first | omega | (simp only [marked_len]; omega) | (simp only [marked_len] at *; omega))) ?_)
    rintro _ _ ⟨rfl, rfl⟩ a65 hE66; clear hE62
    refine q_step (v := .int .i64 (F_l_szPointNodeS ap (F_l_szModel mp0 mp1 mp2 1048576))) hE66 (y_assign rfl) rfl rfl rfl ?_; intro a69 hE70; clear hE66
    refine c_nil ?_
    have hE71 := hE70.sub (L' := [(1, .slice apA ((ap).length / 3 : Nat) apC), (2, .slice worldsA worlds.length worldsC), (3, .pointer (some ⟨b5, 0, none⟩)), (7, .int .i64 (F_l_szPointNodeS ap (F_l_szModel mp0 mp1 mp2 1048576)))]) ⟨rfl, rfl, rfl, rfl, trivial⟩; clear hE70
    refine p_tn ?_
    refine c_seq ?_
    refine c_seq ?_
    refine c_reg ?_
    refine q_step (v := .int .i64 (F_l_szPointNodeS ap (F_l_szModel mp0 mp1 mp2 1048576))) hE71 (y_move rfl) rfl rfl rfl ?_; intro a72 hE73; clear hE71
    refine q_step (v := .bool (decide ((F_l_szPointNodeS ap (F_l_szModel mp0 mp1 mp2 1048576)) < 0))) hE73 (y_lss rfl rfl) rfl rfl rfl ?_; intro a74 hE75; clear hE73
    refine c_nil ?_
    have hE76 := hE75.sub (L' := [(1, .slice apA ((ap).length / 3 : Nat) apC), (2, .slice worldsA worlds.length worldsC), (3, .pointer (some ⟨b5, 0, none⟩)), (27, .bool (decide ((F_l_szPointNodeS ap (F_l_szModel mp0 mp1 mp2 1048576)) < 0)))]) ⟨rfl, rfl, rfl, rfl, trivial⟩; clear hE75
    refine p_tn ?_
    refine c_cond hE76 rfl (fun ht77 => ?_) (fun ht77 => ?_)
    ·
     have hp78 := of_decide_eq_true ht77
     have hE79 := hE76; rw [ht77] at hE79; clear hE76
     refine c_seq ?_
     refine c_reg ?_
     refine q_step (v := .bool true) hE79 (y_assign rfl) rfl rfl rfl ?_; intro a80 hE81; clear hE79
     refine c_nil ?_
     have hE82 := hE81.sub (L' := [(6, .bool true)]) ⟨rfl, trivial⟩; clear hE81
     refine p_tn ?_
     refine wp_ret ?_
     refine p_tr ?_
     have hF : F_l_FnExactPointsHold mp0 mp1 mp2 ap worlds = true := by unfold F_l_FnExactPointsHold; rw [ht77, ht50, ht21]; first | done | rfl
     refine c_ret1 hE82 rfl rfl ?_
     exact ⟨(by rw [hF]; first | done | (dsimp only; done) | rfl), hS40.ext⟩
    ·
     have hp83 := of_decide_eq_false ht77
     have hq84 := szPointNodeS_bound hp83
     have hE85 := hE76; rw [ht77] at hE85; clear hE76
     refine wp_skip ?_
     refine p_tn ?_
     refine c_seq ?_
     refine c_reg ?_
     refine q_step (v := .agg #[.int .i64 mp0, .slice mp1A mp1.length mp1C, .slice mp2A mp2.length mp2C]) hE85 (y_loadS Try.underlying65 rfl (by kernel_rfl) rfl (St.row (i := 0) hS40 rfl)) rfl rfl rfl ?_; intro a86 hE87; clear hE85
     refine l_step hE87 rfl (l_call (f := 51) (argv := [.agg #[.int .i64 mp0, .slice mp1A mp1.length mp1C, .slice mp2A mp2.length mp2C]]) hE87 (fun _ => cf_l_toModel _ _) rfl rfl (d_l_toModel mp0 mp1A mp1.length mp1C mp1 mp2A mp2.length mp2C mp2 w37 (St.rdR (i := 4) hS40 rfl) (St.rdR (i := 3) hS40 rfl) (by first | omega | (simp only [marked_len]; omega) | (simp only [marked_len] at *; omega)) (by first | omega | (simp only [marked_len]; omega) | (simp only [marked_len] at *; omega))) ?_)
     rintro _ w89 ⟨b94, c95, b96, c97, rfl, ho98, he93⟩ a90 hE91; clear hE87
     have hS92 := St.push2 hS40 he93 ho98; clear hS40
     refine q_step (v := .slice apA ((ap).length / 3 : Nat) apC) hE91 (y_move rfl) rfl rfl rfl ?_; intro a100 hE101; clear hE91
     refine l_step hE101 rfl (l_call (f := 45) (argv := [.slice apA ((ap).length / 3 : Nat) apC]) hE101 (fun _ => cf_l_toPointNodeS _ _) rfl rfl (d_l_toPointNodeS apA ((ap).length / 3 : Nat) apC ap w89 (St.rdR (i := 4) hS92 rfl) (by first | omega | (simp only [marked_len]; omega) | (simp only [marked_len] at *; omega))) ?_)
     rintro _ w103 ⟨b108, c109, rfl, ho110, he107⟩ a104 hE105; clear hE101
     have hS106 := St.own hS92 he107 ho110; clear hS92
     refine q_step (v := .slice worldsA worlds.length worldsC) hE105 (y_move rfl) rfl rfl rfl ?_; intro a111 hE112; clear hE105
     refine l_step hE112 rfl (l_call (f := 15) (argv := [.slice worldsA worlds.length worldsC]) hE112 (fun _ => cf_l_toInt64S _ _) rfl rfl (d_l_toInt64S worldsA worlds.length worldsC worlds w103 (St.rdR (i := 4) hS106 rfl) (by first | omega | (simp only [marked_len]; omega) | (simp only [marked_len] at *; omega))) ?_)
     rintro _ w114 ⟨b119, c120, rfl, ho121, he118⟩ a115 hE116; clear hE112
     have hS117 := St.own hS106 he118 ho121; clear hS106
     refine l_step hE116 rfl (l_call (f := 50) (argv := [.agg #[.int .i64 mp0, .slice b94 ((mp1).length) c95, .slice b96 ((mp2).length) c97], .slice b108 ((ap).length / 3 : Nat) c109, .slice b119 ((worlds).length) c120]) hE116 (fun _ => cf_s_PointsHold _ _) rfl rfl (c_s_PointsHold mp0 b94 ((mp1).length) c95 mp1 b96 ((mp2).length) c97 mp2 b108 ((ap).length / 3 : Nat) c109 ap b119 ((worlds).length) c120 worlds w114 (St.rdO (i := 2) hS117 rfl) (St.rdO (i := 3) hS117 rfl) (St.rdO (i := 1) hS117 rfl) (St.rdO (i := 0) hS117 rfl) (by first | omega | (simp only [marked_len]; omega) | (simp only [marked_len] at *; omega))) ?_)
     rintro _ w123 ⟨rfl, he127⟩ a124 hE125; clear hE116
     have hS126 := St.go hS117 he127; clear hS117
     refine q_step (v := .tuple #[.bool ((F_s_PointsHold mp0 mp1 mp2 ap worlds).1), .int .i64 ((F_s_PointsHold mp0 mp1 mp2 ap worlds).2)]) hE125 (y_move rfl) rfl rfl rfl ?_; intro a128 hE129; clear hE125
     refine q_step (v := .bool ((F_s_PointsHold mp0 mp1 mp2 ap worlds).1)) hE129 (y_extract rfl rfl) rfl rfl rfl ?_; intro a130 hE131; clear hE129
     refine q_step (v := .int .i64 ((F_s_PointsHold mp0 mp1 mp2 ap worlds).2)) hE131 (y_extract rfl rfl) rfl rfl rfl ?_; intro a132 hE133; clear hE131
     refine q_step (v := .bool ((F_s_PointsHold mp0 mp1 mp2 ap worlds).1)) hE133 (y_assign rfl) rfl rfl rfl ?_; intro a134 hE135; clear hE133
     refine q_step (v := .int .i64 ((F_s_PointsHold mp0 mp1 mp2 ap worlds).2)) hE135 (y_assign rfl) rfl rfl rfl ?_; intro a136 hE137; clear hE135
     refine c_nil ?_
     have hE138 := hE137.sub (L' := [(1, .slice apA ((ap).length / 3 : Nat) apC), (2, .slice worldsA worlds.length worldsC), (3, .pointer (some ⟨b5, 0, none⟩)), (8, .bool ((F_s_PointsHold mp0 mp1 mp2 ap worlds).1)), (9, .int .i64 ((F_s_PointsHold mp0 mp1 mp2 ap worlds).2))]) ⟨rfl, rfl, rfl, rfl, rfl, trivial⟩; clear hE137
     refine p_tn ?_
     refine c_seq ?_
     refine c_reg ?_
     refine q_step (v := .agg #[.int .i64 mp0, .slice mp1A mp1.length mp1C, .slice mp2A mp2.length mp2C]) hE138 (y_loadS Try.underlying65 rfl (by kernel_rfl) rfl (St.row (i := 4) hS126 rfl)) rfl rfl rfl ?_; intro a139 hE140; clear hE138
     refine l_step hE140 rfl (l_call (f := 51) (argv := [.agg #[.int .i64 mp0, .slice mp1A mp1.length mp1C, .slice mp2A mp2.length mp2C]]) hE140 (fun _ => cf_l_toModel _ _) rfl rfl (d_l_toModel mp0 mp1A mp1.length mp1C mp1 mp2A mp2.length mp2C mp2 w123 (St.rdR (i := 8) hS126 rfl) (St.rdR (i := 7) hS126 rfl) (by first | omega | (simp only [marked_len]; omega) | (simp only [marked_len] at *; omega)) (by first | omega | (simp only [marked_len]; omega) | (simp only [marked_len] at *; omega))) ?_)
     rintro _ w142 ⟨b147, c148, b149, c150, rfl, ho151, he146⟩ a143 hE144; clear hE140
     have hS145 := St.push2 hS126 he146 ho151; clear hS126
     refine l_step hE144 rfl (l_alloc (z := .agg #[.int .i64 0, .slice none 0 0, .slice none 0 0]) (cs := #[.int .i64 0, .slice none 0 0, .slice none 0 0]) hS145 hE144 (fun _ => by kernel_rfl) rfl rfl ?_)
     intro b153 w154 hS157 he158 a155 hE156; clear hS145 hE144
     refine l_step hE156 rfl (l_storeS (k := 0) (cs' := #[.int .i64 mp0, .slice b147 ((mp1).length) c148, .slice b149 ((mp2).length) c150]) hS157 hE156 (by kernel_rfl) rfl rfl (by kernel_rfl) rfl rfl ?_)
     intro w160 hS163 a161 hE162; clear hS157 hE156
     refine c_nil ?_
     have hE165 := hE162.sub (L' := [(1, .slice apA ((ap).length / 3 : Nat) apC), (2, .slice worldsA worlds.length worldsC), (3, .pointer (some ⟨b5, 0, none⟩)), (8, .bool ((F_s_PointsHold mp0 mp1 mp2 ap worlds).1)), (9, .int .i64 ((F_s_PointsHold mp0 mp1 mp2 ap worlds).2)), (10, .pointer (some ⟨b153, 0, none⟩))]) ⟨rfl, rfl, rfl, rfl, rfl, rfl, trivial⟩; clear hE162
     refine p_tn ?_
     refine c_seq ?_
     refine c_reg ?_
     refine q_step (v := .slice apA ((ap).length / 3 : Nat) apC) hE165 (y_move rfl) rfl rfl rfl ?_; intro a166 hE167; clear hE165
     refine l_step hE167 rfl (l_call (f := 45) (argv := [.slice apA ((ap).length / 3 : Nat) apC]) hE167 (fun _ => cf_l_toPointNodeS _ _) rfl rfl (d_l_toPointNodeS apA ((ap).length / 3 : Nat) apC ap w160 (St.rdR (i := 9) hS163 rfl) (by first | omega | (simp only [marked_len]; omega) | (simp only [marked_len] at *; omega))) ?_)
     rintro _ w169 ⟨b174, c175, rfl, ho176, he173⟩ a170 hE171; clear hE167
     have hS172 := St.own hS163 he173 ho176; clear hS163
     refine q_step (v := .slice b174 ((ap).length / 3 : Nat) c175) hE171 (y_assign rfl) rfl rfl rfl ?_; intro a177 hE178; clear hE171
     refine c_nil ?_
     have hE179 := hE178.sub (L' := [(1, .slice apA ((ap).length / 3 : Nat) apC), (2, .slice worldsA worlds.length worldsC), (3, .pointer (some ⟨b5, 0, none⟩)), (8, .bool ((F_s_PointsHold mp0 mp1 mp2 ap worlds).1)), (9, .int .i64 ((F_s_PointsHold mp0 mp1 mp2 ap worlds).2)), (10, .pointer (some ⟨b153, 0, none⟩)), (11, .slice b174 ((ap).length / 3 : Nat) c175)]) ⟨rfl, rfl, rfl, rfl, rfl, rfl, rfl, trivial⟩; clear hE178
     refine p_tn ?_
     refine c_seq ?_
     refine c_reg ?_
     refine q_step (v := .slice worldsA worlds.length worldsC) hE179 (y_move rfl) rfl rfl rfl ?_; intro a180 hE181; clear hE179
     refine l_step hE181 rfl (l_call (f := 15) (argv := [.slice worldsA worlds.length worldsC]) hE181 (fun _ => cf_l_toInt64S _ _) rfl rfl (d_l_toInt64S worldsA worlds.length worldsC worlds w169 (St.rdR (i := 9) hS172 rfl) (by first | omega | (simp only [marked_len]; omega) | (simp only [marked_len] at *; omega))) ?_)
     rintro _ w183 ⟨b188, c189, rfl, ho190, he187⟩ a184 hE185; clear hE181
     have hS186 := St.own hS172 he187 ho190; clear hS172
     refine q_step (v := .slice b188 ((worlds).length) c189) hE185 (y_assign rfl) rfl rfl rfl ?_; intro a191 hE192; clear hE185
     refine c_nil ?_
     have hE193 := hE192.sub (L' := [(1, .slice apA ((ap).length / 3 : Nat) apC), (2, .slice worldsA worlds.length worldsC), (3, .pointer (some ⟨b5, 0, none⟩)), (8, .bool ((F_s_PointsHold mp0 mp1 mp2 ap worlds).1)), (9, .int .i64 ((F_s_PointsHold mp0 mp1 mp2 ap worlds).2)), (10, .pointer (some ⟨b153, 0, none⟩)), (11, .slice b174 ((ap).length / 3 : Nat) c175), (12, .slice b188 ((worlds).length) c189)]) ⟨rfl, rfl, rfl, rfl, rfl, rfl, rfl, rfl, trivial⟩; clear hE192
     refine p_tn ?_
     refine c_seq ?_
     refine c_reg ?_
     refine q_step (v := .agg #[.int .i64 mp0, .slice b147 ((mp1).length) c148, .slice b149 ((mp2).length) c150]) hE193 (y_loadS Try.underlying69 rfl (by kernel_rfl) rfl (St.row (i := 2) hS186 rfl)) rfl rfl rfl ?_; intro a194 hE195; clear hE193
     refine q_step (v := .slice b174 ((ap).length / 3 : Nat) c175) hE195 (y_move rfl) rfl rfl rfl ?_; intro a196 hE197; clear hE195
     refine q_step (v := .slice b188 ((worlds).length) c189) hE197 (y_move rfl) rfl rfl rfl ?_; intro a198 hE199; clear hE197
     refine l_step hE199 rfl (l_call (f := 52) (argv := [.agg #[.int .i64 mp0, .slice b147 ((mp1).length) c148, .slice b149 ((mp2).length) c150], .slice b174 ((ap).length / 3 : Nat) c175, .slice b188 ((worlds).length) c189]) hE199 (fun _ => cf_PointsHold _ _) rfl rfl (c_PointsHold mp0 b147 ((mp1).length) c148 mp1 b149 ((mp2).length) c150 mp2 b174 ((ap).length / 3 : Nat) c175 ap b188 ((worlds).length) c189 worlds w183 (St.rdO (i := 3) hS186 rfl) (St.rdO (i := 4) hS186 rfl) (St.rdO (i := 1) hS186 rfl) (St.rdO (i := 0) hS186 rfl) (by first | omega | (simp only [marked_len]; omega) | (simp only [marked_len] at *; omega))) ?_)
     rintro _ w201 ⟨rfl, he205⟩ a202 hE203; clear hE199
     have hS204 := St.go hS186 he205; clear hS186
     refine q_step (v := .tuple #[.bool ((F_PointsHold mp0 mp1 mp2 ap worlds).1), .int .i64 ((F_PointsHold mp0 mp1 mp2 ap worlds).2)]) hE203 (y_move rfl) rfl rfl rfl ?_; intro a206 hE207; clear hE203
     refine q_step (v := .bool ((F_PointsHold mp0 mp1 mp2 ap worlds).1)) hE207 (y_extract rfl rfl) rfl rfl rfl ?_; intro a208 hE209; clear hE207
     refine q_step (v := .int .i64 ((F_PointsHold mp0 mp1 mp2 ap worlds).2)) hE209 (y_extract rfl rfl) rfl rfl rfl ?_; intro a210 hE211; clear hE209
     refine q_step (v := .bool ((F_PointsHold mp0 mp1 mp2 ap worlds).1)) hE211 (y_assign rfl) rfl rfl rfl ?_; intro a212 hE213; clear hE211
     refine q_step (v := .int .i64 ((F_PointsHold mp0 mp1 mp2 ap worlds).2)) hE213 (y_assign rfl) rfl rfl rfl ?_; intro a214 hE215; clear hE213
     refine c_nil ?_
     have hE216 := hE215.sub (L' := [(1, .slice apA ((ap).length / 3 : Nat) apC), (2, .slice worldsA worlds.length worldsC), (3, .pointer (some ⟨b5, 0, none⟩)), (8, .bool ((F_s_PointsHold mp0 mp1 mp2 ap worlds).1)), (9, .int .i64 ((F_s_PointsHold mp0 mp1 mp2 ap worlds).2)), (10, .pointer (some ⟨b153, 0, none⟩)), (11, .slice b174 ((ap).length / 3 : Nat) c175), (12, .slice b188 ((worlds).length) c189), (13, .bool ((F_PointsHold mp0 mp1 mp2 ap worlds).1)), (14, .int .i64 ((F_PointsHold mp0 mp1 mp2 ap worlds).2))]) ⟨rfl, rfl, rfl, rfl, rfl, rfl, rfl, rfl, rfl, rfl, trivial⟩; clear hE215
     refine p_tn ?_
     refine c_seq ?_
     refine c_cut (fun a' w' => E a' 74 [(1, .slice apA ((ap).length / 3 : Nat) apC), (2, .slice worldsA worlds.length worldsC), (3, .pointer (some ⟨b5, 0, none⟩)), (10, .pointer (some ⟨b153, 0, none⟩)), (11, .slice b174 ((ap).length / 3 : Nat) c175), (12, .slice b188 ((worlds).length) c189), (58, .bool ((((F_PointsHold mp0 mp1 mp2 ap worlds).1) != ((F_s_PointsHold mp0 mp1 mp2 ap worlds).1)) || (!decide (((F_PointsHold mp0 mp1 mp2 ap worlds).2) = ((F_s_PointsHold mp0 mp1 mp2 ap worlds).2)))))] ∧ St w w' [.own 2 1 b188 ((worlds).length) c189 worlds, .own 115 3 b174 ((ap).length / 3 : Nat) c175 ap, .own 2 1 b147 ((mp1).length) c148 mp1, .own 2 1 b149 ((mp2).length) c150 mp2, .blk b153 #[.int .i64 mp0, .slice b147 ((mp1).length) c148, .slice b149 ((mp2).length) c150] 69, .own 2 1 b119 ((worlds).length) c120 worlds, .own 115 3 b108 ((ap).length / 3 : Nat) c109 ap, .own 2 1 b94 ((mp1).length) c95 mp1, .own 2 1 b96 ((mp2).length) c97 mp2, .rd 1 mp1A mp1.length mp1C mp1, .rd 1 mp2A mp2.length mp2C mp2, .blk b5 #[.int .i64 mp0, .slice mp1A mp1.length mp1C, .slice mp2A mp2.length mp2C] 65, .rd 1 worldsA worlds.length worldsC worlds, .rd 3 apA ((ap).length / 3 : Nat) apC ap]) ?_ ?_
     ·
      refine c_reg ?_
      refine q_step (v := .bool ((F_PointsHold mp0 mp1 mp2 ap worlds).1)) hE216 (y_move rfl) rfl rfl rfl ?_; intro a217 hE218; clear hE216
      refine q_step (v := .bool ((F_s_PointsHold mp0 mp1 mp2 ap worlds).1)) hE218 (y_move rfl) rfl rfl rfl ?_; intro a219 hE220; clear hE218
      refine q_step (v := .bool (((F_PointsHold mp0 mp1 mp2 ap worlds).1) != ((F_s_PointsHold mp0 mp1 mp2 ap worlds).1))) hE220 (y_neqb (by kernel_rfl) rfl rfl) rfl rfl rfl ?_; intro a221 hE222; clear hE220
      refine q_step (v := .bool (((F_PointsHold mp0 mp1 mp2 ap worlds).1) != ((F_s_PointsHold mp0 mp1 mp2 ap worlds).1))) hE222 (y_move rfl) rfl rfl rfl ?_; intro a223 hE224; clear hE222
      rcases Bool.eq_false_or_eq_true (((F_PointsHold mp0 mp1 mp2 ap worlds).1) != ((F_s_PointsHold mp0 mp1 mp2 ap worlds).1)) with hb225 | hb225
      ·
       have hE226 := hE224; (try rw [hb225] at hE226); clear hE224
       refine q_skip hE226 rfl rfl rfl ?_; intro a227 hE228; clear hE226
       refine q_skip hE228 rfl rfl rfl ?_; intro a229 hE230; clear hE228
       refine q_skip hE230 rfl rfl rfl ?_; intro a231 hE232; clear hE230
       refine q_step (v := .bool true) hE232 (y_pick (b := true) rfl rfl) rfl rfl rfl ?_; intro a233 hE234; clear hE232
       refine c_nil ?_
       have hE235 := hE234.sub (L' := [(1, .slice apA ((ap).length / 3 : Nat) apC), (2, .slice worldsA worlds.length worldsC), (3, .pointer (some ⟨b5, 0, none⟩)), (10, .pointer (some ⟨b153, 0, none⟩)), (11, .slice b174 ((ap).length / 3 : Nat) c175), (12, .slice b188 ((worlds).length) c189), (58, .bool true)]) ⟨rfl, rfl, rfl, rfl, rfl, rfl, rfl, trivial⟩; clear hE234
       refine p_tn ?_
       have hE236 := hE235.sub (L' := [(1, .slice apA ((ap).length / 3 : Nat) apC), (2, .slice worldsA worlds.length worldsC), (3, .pointer (some ⟨b5, 0, none⟩)), (10, .pointer (some ⟨b153, 0, none⟩)), (11, .slice b174 ((ap).length / 3 : Nat) c175), (12, .slice b188 ((worlds).length) c189), (58, .bool true)]) ⟨rfl, rfl, rfl, rfl, rfl, rfl, rfl, trivial⟩
       have hS237 := (St.pick (Γ' := [.own 2 1 b188 ((worlds).length) c189 worlds, .own 115 3 b174 ((ap).length / 3 : Nat) c175 ap, .own 2 1 b147 ((mp1).length) c148 mp1, .own 2 1 b149 ((mp2).length) c150 mp2, .blk b153 #[.int .i64 mp0, .slice b147 ((mp1).length) c148, .slice b149 ((mp2).length) c150] 69, .own 2 1 b119 ((worlds).length) c120 worlds, .own 115 3 b108 ((ap).length / 3 : Nat) c109 ap, .own 2 1 b94 ((mp1).length) c95 mp1, .own 2 1 b96 ((mp2).length) c97 mp2, .rd 1 mp1A mp1.length mp1C mp1, .rd 1 mp2A mp2.length mp2C mp2, .blk b5 #[.int .i64 mp0, .slice mp1A mp1.length mp1C, .slice mp2A mp2.length mp2C] 65, .rd 1 worldsA worlds.length worldsC worlds, .rd 3 apA ((ap).length / 3 : Nat) apC ap]) hS204 [0, 1, 3, 4, 2, 5, 6, 7, 8, 13, 12, 9, 10, 11] (by decide) rfl)
       exact ⟨(by rw [hb225]; exact hE236), hS237⟩
      ·
       have hE238 := hE224; (try rw [hb225] at hE238); clear hE224
       refine q_step (v := .int .i64 ((F_PointsHold mp0 mp1 mp2 ap worlds).2)) hE238 (y_move rfl) rfl rfl rfl ?_; intro a239 hE240; clear hE238
       refine q_step (v := .int .i64 ((F_s_PointsHold mp0 mp1 mp2 ap worlds).2)) hE240 (y_move rfl) rfl rfl rfl ?_; intro a241 hE242; clear hE240
       refine q_step (v := .bool (!decide (((F_PointsHold mp0 mp1 mp2 ap worlds).2) = ((F_s_PointsHold mp0 mp1 mp2 ap worlds).2)))) hE242 (y_neq rfl rfl) rfl rfl rfl ?_; intro a243 hE244; clear hE242
       refine q_step (v := .bool (!decide (((F_PointsHold mp0 mp1 mp2 ap worlds).2) = ((F_s_PointsHold mp0 mp1 mp2 ap worlds).2)))) hE244 (y_pick (b := false) rfl rfl) rfl rfl rfl ?_; intro a245 hE246; clear hE244
       refine c_nil ?_
       have hE247 := hE246.sub (L' := [(1, .slice apA ((ap).length / 3 : Nat) apC), (2, .slice worldsA worlds.length worldsC), (3, .pointer (some ⟨b5, 0, none⟩)), (10, .pointer (some ⟨b153, 0, none⟩)), (11, .slice b174 ((ap).length / 3 : Nat) c175), (12, .slice b188 ((worlds).length) c189), (58, .bool (!decide (((F_PointsHold mp0 mp1 mp2 ap worlds).2) = ((F_s_PointsHold mp0 mp1 mp2 ap worlds).2))))]) ⟨rfl, rfl, rfl, rfl, rfl, rfl, rfl, trivial⟩; clear hE246
       refine p_tn ?_
       have hE248 := hE247.sub (L' := [(1, .slice apA ((ap).length / 3 : Nat) apC), (2, .slice worldsA worlds.length worldsC), (3, .pointer (some ⟨b5, 0, none⟩)), (10, .pointer (some ⟨b153, 0, none⟩)), (11, .slice b174 ((ap).length / 3 : Nat) c175), (12, .slice b188 ((worlds).length) c189), (58, .bool (!decide (((F_PointsHold mp0 mp1 mp2 ap worlds).2) = ((F_s_PointsHold mp0 mp1 mp2 ap worlds).2))))]) ⟨rfl, rfl, rfl, rfl, rfl, rfl, rfl, trivial⟩
       have hS249 := (St.pick (Γ' := [.own 2 1 b188 ((worlds).length) c189 worlds, .own 115 3 b174 ((ap).length / 3 : Nat) c175 ap, .own 2 1 b147 ((mp1).length) c148 mp1, .own 2 1 b149 ((mp2).length) c150 mp2, .blk b153 #[.int .i64 mp0, .slice b147 ((mp1).length) c148, .slice b149 ((mp2).length) c150] 69, .own 2 1 b119 ((worlds).length) c120 worlds, .own 115 3 b108 ((ap).length / 3 : Nat) c109 ap, .own 2 1 b94 ((mp1).length) c95 mp1, .own 2 1 b96 ((mp2).length) c97 mp2, .rd 1 mp1A mp1.length mp1C mp1, .rd 1 mp2A mp2.length mp2C mp2, .blk b5 #[.int .i64 mp0, .slice mp1A mp1.length mp1C, .slice mp2A mp2.length mp2C] 65, .rd 1 worldsA worlds.length worldsC worlds, .rd 3 apA ((ap).length / 3 : Nat) apC ap]) hS204 [0, 1, 3, 4, 2, 5, 6, 7, 8, 13, 12, 9, 10, 11] (by decide) rfl)
       exact ⟨(by rw [hb225]; exact hE248), hS249⟩
     ·
      rintro a250 w251 ⟨hE252, hS253⟩; clear hE216 hS204
      refine c_cond hE252 rfl (fun ht255 => ?_) (fun ht255 => ?_)
      ·
       have hE256 := hE252; rw [ht255] at hE256; clear hE252
       refine c_seq ?_
       refine c_reg ?_
       refine q_step (v := .bool false) hE256 (y_assign rfl) rfl rfl rfl ?_; intro a257 hE258; clear hE256
       refine c_nil ?_
       have hE259 := hE258.sub (L' := [(6, .bool false)]) ⟨rfl, trivial⟩; clear hE258
       refine p_tn ?_
       refine wp_ret ?_
       refine p_tr ?_
       have hF : F_l_FnExactPointsHold mp0 mp1 mp2 ap worlds = false := by unfold F_l_FnExactPointsHold; rw [ht255, ht77, ht50, ht21]; first | done | rfl
       refine c_ret1 hE259 rfl rfl ?_
       exact ⟨(by rw [hF]; first | done | (dsimp only; done) | rfl), hS253.ext⟩
      ·
       obtain ⟨ht260, ht261⟩ := bor_f ht255
       have ht262 := bn_f ht261
       have hp263 := of_decide_eq_true ht262
       have hE264 := hE252; rw [ht255] at hE264; clear hE252
       refine wp_skip ?_
       refine p_tn ?_
       refine c_seq ?_
       refine c_seq ?_
       refine d_start (fun w w' => (fun w' => w'.heap[b153]? = some (.cells #[.int .i64 mp0, .slice b147 ((mp1).length) c148, .slice b149 ((mp2).length) c150] 69 (0, 0)) ∧ w'.heap[b5]? = some (.cells #[.int .i64 mp0, .slice mp1A mp1.length mp1C, .slice mp2A mp2.length mp2C] 65 (0, 0)) ∧ True) w → (fun w' => w'.heap[b153]? = some (.cells #[.int .i64 mp0, .slice b147 ((mp1).length) c148, .slice b149 ((mp2).length) c150] 69 (0, 0)) ∧ w'.heap[b5]? = some (.cells #[.int .i64 mp0, .slice mp1A mp1.length mp1C, .slice mp2A mp2.length mp2C] 65 (0, 0)) ∧ True) w') [0, 1] 5 (by kernel_rfl) rfl ?_
       intro w265 he266; have hS267 := St.go hS253 he266; clear hS253
       refine d_take (fun _ h => h) (fun _ _ h k => h k) (v := .agg #[.int .i64 mp0, .slice b147 ((mp1).length) c148, .slice b149 ((mp2).length) c150]) 0 rfl hE264 (S := fun w' => w'.heap[b153]? = some (.cells #[.int .i64 mp0, .slice b147 ((mp1).length) c148, .slice b149 ((mp2).length) c150] 69 (0, 0)) ∧ w'.heap[b5]? = some (.cells #[.int .i64 mp0, .slice mp1A mp1.length mp1C, .slice mp2A mp2.length mp2C] 65 (0, 0)) ∧ True) ⟨(St.row (i := 4) hS267 rfl _ (Ext.refl _)), (St.row (i := 11) hS267 rfl _ (Ext.refl _)), trivial⟩ (y_loadS Try.underlying69 rfl (by kernel_rfl) rfl (fun _ h => h.1)) rfl rfl (by kernel_rfl) (by kernel_rfl) (by kernel_rfl) (by kernel_rfl) rfl rfl (fun _ _ _ h => h) ?_; intro a268 hE269; clear hE264
       refine d_take (fun _ h => h) (fun _ _ h k => h k) (v := .agg #[.int .i64 mp0, .slice mp1A mp1.length mp1C, .slice mp2A mp2.length mp2C]) 1 rfl hE269 (S := fun w' => w'.heap[b153]? = some (.cells #[.int .i64 mp0, .slice b147 ((mp1).length) c148, .slice b149 ((mp2).length) c150] 69 (0, 0)) ∧ w'.heap[b5]? = some (.cells #[.int .i64 mp0, .slice mp1A mp1.length mp1C, .slice mp2A mp2.length mp2C] 65 (0, 0)) ∧ True) ⟨(St.row (i := 4) hS267 rfl _ (Ext.refl _)), (St.row (i := 11) hS267 rfl _ (Ext.refl _)), trivial⟩ (y_loadS Try.underlying65 rfl (by kernel_rfl) rfl (fun _ h => h.2.1)) rfl rfl (by kernel_rfl) (by kernel_rfl) (by kernel_rfl) (by kernel_rfl) rfl rfl (fun _ _ _ h => h) ?_; intro a270 hE271; clear hE269
       refine d_only 2 (by kernel_rfl) rfl hE271 rfl (l_call (f := 51) (argv := [.agg #[.int .i64 mp0, .slice mp1A mp1.length mp1C, .slice mp2A mp2.length mp2C]]) hE271 (fun _ => cf_l_toModel _ _) rfl rfl (d_l_toModel mp0 mp1A mp1.length mp1C mp1 mp2A mp2.length mp2C mp2 w265 (St.rdR (i := 9) hS267 rfl) (St.rdR (i := 10) hS267 rfl) (by first | omega | (simp only [marked_len]; omega) | (simp only [marked_len] at *; omega)) (by first | omega | (simp only [marked_len]; omega) | (simp only [marked_len] at *; omega))) ?_)
       rintro _ w273 ⟨b278, c279, b280, c281, rfl, ho282, he277⟩ a274 hE275; clear hE271
       have hS276 := St.push2 hS267 he277 ho282; clear hS267
       refine ⟨fun _ _ => ⟨(St.row (i := 6) hS276 rfl _ (Ext.refl _)), (St.row (i := 13) hS276 rfl _ (Ext.refl _)), trivial⟩, ?_⟩
       refine d_only 3 (by kernel_rfl) rfl hE275 rfl (l_call (f := 53) (argv := [.agg #[.int .i64 mp0, .slice b147 ((mp1).length) c148, .slice b149 ((mp2).length) c150], .agg #[.int .i64 mp0, .slice b278 ((mp1).length) c279, .slice b280 ((mp2).length) c281]]) hE275 (fun _ => cf_l_eqModel _ _) rfl rfl (d_l_eqModel mp0 b147 ((mp1).length) c148 mp1 b149 ((mp2).length) c150 mp2 mp0 b278 ((mp1).length) c279 mp1 b280 ((mp2).length) c281 mp2 w273 (St.rdO (i := 4) hS276 rfl) (St.rdO (i := 5) hS276 rfl) (St.rdO (i := 0) hS276 rfl) (St.rdO (i := 1) hS276 rfl)) ?_)
       rintro _ w285 ⟨rfl, he289⟩ a286 hE287; clear hE275
       have hS288 := St.go hS276 he289; clear hS276
       refine ⟨fun h => Bool.noConfusion (h.symm.trans (show exm _ _ _ = true by kernel_rfl)), ?_⟩
       refine d_pure (fun _ h => h) (v := .bool (!(decide ((mp0, mp1, mp2) = (mp0, mp1, mp2))))) 4 rfl hE287 (y_not rfl) rfl (by kernel_rfl) (by kernel_rfl) (by kernel_rfl) rfl rfl (fun _ _ _ h => h) ?_; intro a290 hE291; clear hE287
       refine d_done (by kernel_rfl) ?_
       have hE292 := hE291.sub (L' := [(1, .slice apA ((ap).length / 3 : Nat) apC), (2, .slice worldsA worlds.length worldsC), (11, .slice b174 ((ap).length / 3 : Nat) c175), (12, .slice b188 ((worlds).length) c189), (63, .bool (!(decide ((mp0, mp1, mp2) = (mp0, mp1, mp2)))))]) ⟨rfl, rfl, rfl, rfl, rfl, trivial⟩; clear hE291
       refine p_tn ?_
       refine c_cond hE292 rfl (fun ht293 => ?_) (fun ht293 => ?_)
       ·
        have ht294 := bn_t ht293
        have hp295 := of_decide_eq_false ht294
        have hE296 := hE292; rw [ht293] at hE296; clear hE292
        refine c_seq ?_
        refine c_reg ?_
        refine q_step (v := .bool false) hE296 (y_assign rfl) rfl rfl rfl ?_; intro a297 hE298; clear hE296
        refine c_nil ?_
        have hE299 := hE298.sub (L' := [(6, .bool false)]) ⟨rfl, trivial⟩; clear hE298
        refine p_tn ?_
        refine wp_ret ?_
        refine p_tr ?_
        have hF : F_l_FnExactPointsHold mp0 mp1 mp2 ap worlds = false := by unfold F_l_FnExactPointsHold; rw [ht293, ht255, ht77, ht50, ht21]; first | done | rfl
        refine c_ret1 hE299 rfl rfl ?_
        exact ⟨(by rw [hF]; first | done | (dsimp only; done) | rfl), hS288.ext⟩
       ·
        have ht300 := bn_f ht293
        have hp301 := of_decide_eq_true ht300
        have hE302 := hE292; rw [ht293] at hE302; clear hE292
        refine wp_skip ?_
        refine p_tn ?_
        refine c_seq ?_
        refine c_seq ?_
        refine c_reg ?_
        refine q_step (v := .slice b174 ((ap).length / 3 : Nat) c175) hE302 (y_move rfl) rfl rfl rfl ?_; intro a303 hE304; clear hE302
        refine q_step (v := .slice apA ((ap).length / 3 : Nat) apC) hE304 (y_move rfl) rfl rfl rfl ?_; intro a305 hE306; clear hE304
        refine l_step hE306 rfl (l_call (f := 45) (argv := [.slice apA ((ap).length / 3 : Nat) apC]) hE306 (fun _ => cf_l_toPointNodeS _ _) rfl rfl (d_l_toPointNodeS apA ((ap).length / 3 : Nat) apC ap w285 (St.rdR (i := 15) hS288 rfl) (by first | omega | (simp only [marked_len]; omega) | (simp only [marked_len] at *; omega))) ?_)
        rintro _ w308 ⟨b313, c314, rfl, ho315, he312⟩ a309 hE310; clear hE306
        have hS311 := St.own hS288 he312 ho315; clear hS288
        refine l_step hE310 rfl (l_call (f := 48) (argv := [.slice b174 ((ap).length / 3 : Nat) c175, .slice b313 ((ap).length / 3 : Nat) c314]) hE310 (fun _ => cf_l_eqPointNodeS _ _) rfl rfl (d_l_eqPointNodeS b174 ((ap).length / 3 : Nat) c175 ap b313 ((ap).length / 3 : Nat) c314 ap w308 (St.rdO (i := 4) hS311 rfl) (St.rdO (i := 0) hS311 rfl)) ?_)
        rintro _ w317 ⟨rfl, he321⟩ a318 hE319; clear hE310
        have hS320 := St.go hS311 he321; clear hS311
        refine q_step (v := .bool (!(decide (ap = ap)))) hE319 (y_not rfl) rfl rfl rfl ?_; intro a322 hE323; clear hE319
        refine c_nil ?_
        have hE324 := hE323.sub (L' := [(2, .slice worldsA worlds.length worldsC), (12, .slice b188 ((worlds).length) c189), (68, .bool (!(decide (ap = ap))))]) ⟨rfl, rfl, rfl, trivial⟩; clear hE323
        refine p_tn ?_
        refine c_cond hE324 rfl (fun ht325 => ?_) (fun ht325 => ?_)
        ·
         have ht326 := bn_t ht325
         have hp327 := of_decide_eq_false ht326
         have hE328 := hE324; rw [ht325] at hE328; clear hE324
         refine c_seq ?_
         refine c_reg ?_
         refine q_step (v := .bool false) hE328 (y_assign rfl) rfl rfl rfl ?_; intro a329 hE330; clear hE328
         refine c_nil ?_
         have hE331 := hE330.sub (L' := [(6, .bool false)]) ⟨rfl, trivial⟩; clear hE330
         refine p_tn ?_
         refine wp_ret ?_
         refine p_tr ?_
         have hF : F_l_FnExactPointsHold mp0 mp1 mp2 ap worlds = false := by unfold F_l_FnExactPointsHold; rw [ht325, ht293, ht255, ht77, ht50, ht21]; first | done | rfl
         refine c_ret1 hE331 rfl rfl ?_
         exact ⟨(by rw [hF]; first | done | (dsimp only; done) | rfl), hS320.ext⟩
        ·
         have ht332 := bn_f ht325
         have hp333 := of_decide_eq_true ht332
         have hE334 := hE324; rw [ht325] at hE334; clear hE324
         refine wp_skip ?_
         refine p_tn ?_
         refine c_seq ?_
         refine c_seq ?_
         refine c_reg ?_
         refine q_step (v := .slice b188 ((worlds).length) c189) hE334 (y_move rfl) rfl rfl rfl ?_; intro a335 hE336; clear hE334
         refine q_step (v := .slice worldsA worlds.length worldsC) hE336 (y_move rfl) rfl rfl rfl ?_; intro a337 hE338; clear hE336
         refine l_step hE338 rfl (l_call (f := 15) (argv := [.slice worldsA worlds.length worldsC]) hE338 (fun _ => cf_l_toInt64S _ _) rfl rfl (d_l_toInt64S worldsA worlds.length worldsC worlds w317 (St.rdR (i := 15) hS320 rfl) (by first | omega | (simp only [marked_len]; omega) | (simp only [marked_len] at *; omega))) ?_)
         rintro _ w340 ⟨b345, c346, rfl, ho347, he344⟩ a341 hE342; clear hE338
         have hS343 := St.own hS320 he344 ho347; clear hS320
         refine l_step hE342 rfl (l_call (f := 17) (argv := [.slice b188 ((worlds).length) c189, .slice b345 ((worlds).length) c346]) hE342 (fun _ => cf_l_eqInt64S _ _) rfl rfl (d_l_eqInt64S b188 ((worlds).length) c189 worlds b345 ((worlds).length) c346 worlds w340 (St.rdO (i := 4) hS343 rfl) (St.rdO (i := 0) hS343 rfl)) ?_)
         rintro _ w349 ⟨rfl, he353⟩ a350 hE351; clear hE342
         have hS352 := St.go hS343 he353; clear hS343
         refine q_step (v := .bool (!(decide (worlds = worlds)))) hE351 (y_not rfl) rfl rfl rfl ?_; intro a354 hE355; clear hE351
         refine c_nil ?_
         have hE356 := hE355.sub (L' := [(73, .bool (!(decide (worlds = worlds))))]) ⟨rfl, trivial⟩; clear hE355
         refine p_tn ?_
         refine c_cond hE356 rfl (fun ht357 => ?_) (fun ht357 => ?_)
         ·
          have ht358 := bn_t ht357
          have hp359 := of_decide_eq_false ht358
          have hE360 := hE356; rw [ht357] at hE360; clear hE356
          refine c_seq ?_
          refine c_reg ?_
          refine q_step (v := .bool false) hE360 (y_assign rfl) rfl rfl rfl ?_; intro a361 hE362; clear hE360
          refine c_nil ?_
          have hE363 := hE362.sub (L' := [(6, .bool false)]) ⟨rfl, trivial⟩; clear hE362
          refine p_tn ?_
          refine wp_ret ?_
          refine p_tr ?_
          have hF : F_l_FnExactPointsHold mp0 mp1 mp2 ap worlds = false := by unfold F_l_FnExactPointsHold; rw [ht357, ht325, ht293, ht255, ht77, ht50, ht21]; first | done | rfl
          refine c_ret1 hE363 rfl rfl ?_
          exact ⟨(by rw [hF]; first | done | (dsimp only; done) | rfl), hS352.ext⟩
         ·
          have ht364 := bn_f ht357
          have hp365 := of_decide_eq_true ht364
          have hE366 := hE356; rw [ht357] at hE366; clear hE356
          refine wp_skip ?_
          refine p_tn ?_
          refine c_seq ?_
          refine c_reg ?_
          refine q_step (v := .bool true) hE366 (y_assign rfl) rfl rfl rfl ?_; intro a367 hE368; clear hE366
          refine c_nil ?_
          have hE369 := hE368.sub (L' := [(6, .bool true)]) ⟨rfl, trivial⟩; clear hE368
          refine p_tn ?_
          refine wp_ret ?_
          have hF : F_l_FnExactPointsHold mp0 mp1 mp2 ap worlds = true := by unfold F_l_FnExactPointsHold; rw [ht357, ht325, ht293, ht255, ht77, ht50, ht21]; first | done | rfl
          refine c_ret1 hE369 rfl rfl ?_
          exact ⟨(by rw [hF]; first | done | (dsimp only; done) | rfl), hS352.ext⟩
theorem FnExactPointsHold_true (mp0 : Int) (mp1 mp2 ap worlds : List Int) (he : ap.length = ap.length / 3 * 3) : F_l_FnExactPointsHold mp0 mp1 mp2 ap worlds = true := by
  unfold F_l_FnExactPointsHold
  rw [PointsHold_eq mp0 mp1 mp2 ap worlds he]
  simp
end Go.Proofs.Ytkilkfhjfobcdaa
