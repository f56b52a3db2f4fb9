/- GAM: models and contracts, printed by wip/gen/gen.py -/
import Derived.Test.YtkilkfhjfobcdaaKPTGA
import Derived.Test.YtkilkfhjfobcdaaKPTPart
set_option linter.unusedVariables false
set_option linter.unusedSimpArgs false
namespace Go.Proofs.Ytkilkfhjfobcdaa
open Go.RowKit
def F_l_szModel (ap0 : Int) (ap1 : List Int) (ap2 : List Int) (left : Int) : Int :=
  bif (decide ((F_l_szFrame ap0 ap1 left) < 0)) then (-1) else (bif (decide ((F_l_szInt64S ap2 (F_l_szFrame ap0 ap1 left)) < 0)) then (-1) else (F_l_szInt64S ap2 (F_l_szFrame ap0 ap1 left)))
theorem cf_l_szModel (args : Array Value) (w : World) : (callFunc 49 args).run Try.prog w = .ok (.enter 49 args) w := by kernel_rfl
set_option maxRecDepth 100000 in
theorem c_l_szModel (ap0 : Int) (ap1A : Option Addr) (ap1N ap1C : Nat) (ap1 : List Int) (ap2A : Option Addr) (ap2N ap2C : Nat) (ap2 : List Int) (left : Int) (w : World) (ap1R : RdS w 1 ap1A ap1N ap1C ap1) (ap2R : RdS w 1 ap2A ap2N ap2C ap2) (hl : left ≤ 1048576) (hl0 : 0 ≤ left) :
    Calls Try.prog 49 #[.agg #[.int .i64 ap0, .slice ap1A ap1N ap1C, .slice ap2A ap2N ap2C], .int .i64 left] w (Ret fun v w' => v = .int .i64 (F_l_szModel ap0 ap1 ap2 left) ∧ Ext w w') := by
  obtain rfl : ap1N = ap1.length := ap1R.len1.symm
  have ap1Le := ap1R.le
  obtain rfl : ap2N = ap2.length := ap2R.len1.symm
  have ap2Le := ap2R.le
  have hS := St.nil w
  have hS1 := St.rd0 hS rfl ap1R; clear hS
  have hS2 := St.rd0 hS1 rfl ap2R; clear hS1
  refine enter (args := [.agg #[.int .i64 ap0, .slice ap1A ap1.length ap1C, .slice ap2A ap2.length ap2C], .int .i64 left]) Try.func49 rfl rfl ?_
  rw [Try.ntmps49]; intro a hE
  have hE := hE.sub (L' := [(0, .agg #[.int .i64 ap0, .slice ap1A ap1.length ap1C, .slice ap2A ap2.length ap2C]), (1, .int .i64 left)]) ⟨rfl, rfl, trivial⟩
  refine c_seq ?_
  refine c_reg ?_
  refine l_step hE rfl (l_box (v := .agg #[.int .i64 ap0, .slice ap1A ap1.length ap1C, .slice ap2A ap2.length ap2C]) (cs := #[.int .i64 ap0, .slice ap1A ap1.length ap1C, .slice ap2A ap2.length ap2C]) hS2 hE rfl rfl rfl ?_)
  intro b3 w4 hS7 he8 a5 hE6; clear hS2 hE
  refine q_step (v := .int .i64 0) hE6 (y_assign rfl) rfl rfl rfl ?_; intro a9 hE10; clear hE6
  refine c_nil ?_
  have hE11 := hE10.sub (L' := [(1, .int .i64 left), (2, .pointer (some ⟨b3, 0, none⟩))]) ⟨rfl, rfl, trivial⟩; clear hE10
  refine p_tn ?_
  refine c_seq ?_
  refine c_reg ?_
  refine q_step (v := .pointer (some ⟨b3, 0, none⟩)) hE11 (y_field rfl (fun _ => by kernel_rfl)) rfl rfl rfl ?_; intro a12 hE13; clear hE11
  refine q_step (v := .agg #[.int .i64 ap0, .slice ap1A ap1.length ap1C]) hE13 (y_loadP Try.underlying51 rfl (by kernel_rfl) rfl rfl (St.row (i := 0) hS7 rfl)) rfl rfl rfl ?_; intro a14 hE15; clear hE13
  refine q_step (v := .int .i64 left) hE15 (y_move rfl) rfl rfl rfl ?_; intro a16 hE17; clear hE15
  refine l_step hE17 rfl (l_call (f := 41) (argv := [.agg #[.int .i64 ap0, .slice ap1A ap1.length ap1C], .int .i64 left]) hE17 (fun _ => cf_l_szFrame _ _) rfl rfl (c_l_szFrame ap0 ap1A ap1.length ap1C ap1 left w4 (St.rdR (i := 2) hS7 rfl) (by omega) (by omega)) ?_)
  rintro _ w19 ⟨rfl, he23⟩ a20 hE21; clear hE17
  have hS22 := St.go hS7 he23; clear hS7
  refine q_step (v := .int .i64 (F_l_szFrame ap0 ap1 left)) hE21 (y_assign rfl) rfl rfl rfl ?_; intro a24 hE25; clear hE21
  refine c_nil ?_
  have hE26 := hE25.sub (L' := [(1, .int .i64 (F_l_szFrame ap0 ap1 left)), (2, .pointer (some ⟨b3, 0, none⟩))]) ⟨rfl, rfl, trivial⟩; clear hE25
  refine p_tn ?_
  refine c_seq ?_
  refine c_seq ?_
  refine c_reg ?_
  refine q_step (v := .int .i64 (F_l_szFrame ap0 ap1 left)) hE26 (y_move rfl) rfl rfl rfl ?_; intro a27 hE28; clear hE26
  refine q_step (v := .bool (decide ((F_l_szFrame ap0 ap1 left) < 0))) hE28 (y_lss rfl rfl) rfl rfl rfl ?_; intro a29 hE30; clear hE28
  refine c_nil ?_
  have hE31 := hE30.sub (L' := [(1, .int .i64 (F_l_szFrame ap0 ap1 left)), (2, .pointer (some ⟨b3, 0, none⟩)), (10, .bool (decide ((F_l_szFrame ap0 ap1 left) < 0)))]) ⟨rfl, rfl, rfl, trivial⟩; clear hE30
  refine p_tn ?_
  refine c_cond hE31 rfl (fun ht32 => ?_) (fun ht32 => ?_)
  ·
   have hp33 := of_decide_eq_true ht32
   have hE34 := hE31; rw [ht32] at hE34; clear hE31
   refine c_seq ?_
   refine c_reg ?_
   refine q_step (v := .int .i64 (-1)) hE34 (y_assign rfl) rfl rfl rfl ?_; intro a35 hE36; clear hE34
   refine c_nil ?_
   have hE37 := hE36.sub (L' := [(4, .int .i64 (-1))]) ⟨rfl, trivial⟩; clear hE36
   refine p_tn ?_
   refine wp_ret ?_
   refine p_tr ?_
   have hF : F_l_szModel ap0 ap1 ap2 left = -1 := by unfold F_l_szModel; rw [ht32]; first | done | rfl
   refine c_ret1 hE37 rfl rfl ?_
   exact ⟨(by rw [hF]; first | done | (dsimp only; done) | rfl), hS22.ext⟩
  ·
   have hp38 := of_decide_eq_false ht32
   have hq39 := szFrame_bound hp38
   have hE40 := hE31; rw [ht32] at hE40; clear hE31
   refine wp_skip ?_
   refine p_tn ?_
   refine c_seq ?_
   refine c_reg ?_
   refine q_step (v := .pointer (some ⟨b3, 2, none⟩)) hE40 (y_field rfl (fun _ => by kernel_rfl)) rfl rfl rfl ?_; intro a41 hE42; clear hE40
   refine q_step (v := .slice ap2A ap2.length ap2C) hE42 (y_load (fun _ => by kernel_rfl) rfl (St.cell (i := 0) hS22 rfl rfl)) rfl rfl rfl ?_; intro a43 hE44; clear hE42
   refine q_step (v := .int .i64 (F_l_szFrame ap0 ap1 left)) hE44 (y_move rfl) rfl rfl rfl ?_; intro a45 hE46; clear hE44
   refine l_step hE46 rfl (l_call (f := 90) (argv := [.slice ap2A ap2.length ap2C, .int .i64 (F_l_szFrame ap0 ap1 left)]) hE46 (fun _ => cf_l_szInt64S _ _) rfl rfl (c_l_szInt64S ap2A ap2.length ap2C ap2 (F_l_szFrame ap0 ap1 left) w19 (St.rdR (i := 1) hS22 rfl) (by omega) (by omega)) ?_)
   rintro _ _ ⟨rfl, rfl⟩ a49 hE50; clear hE46
   refine q_step (v := .int .i64 (F_l_szInt64S ap2 (F_l_szFrame ap0 ap1 left))) hE50 (y_assign rfl) rfl rfl rfl ?_; intro a53 hE54; clear hE50
   refine c_nil ?_
   have hE55 := hE54.sub (L' := [(1, .int .i64 (F_l_szInt64S ap2 (F_l_szFrame ap0 ap1 left)))]) ⟨rfl, trivial⟩; clear hE54
   refine p_tn ?_
   refine c_seq ?_
   refine c_seq ?_
   refine c_reg ?_
   refine q_step (v := .int .i64 (F_l_szInt64S ap2 (F_l_szFrame ap0 ap1 left))) hE55 (y_move rfl) rfl rfl rfl ?_; intro a56 hE57; clear hE55
   refine q_step (v := .bool (decide ((F_l_szInt64S ap2 (F_l_szFrame ap0 ap1 left)) < 0))) hE57 (y_lss rfl rfl) rfl rfl rfl ?_; intro a58 hE59; clear hE57
   refine c_nil ?_
   have hE60 := hE59.sub (L' := [(1, .int .i64 (F_l_szInt64S ap2 (F_l_szFrame ap0 ap1 left))), (16, .bool (decide ((F_l_szInt64S ap2 (F_l_szFrame ap0 ap1 left)) < 0)))]) ⟨rfl, rfl, trivial⟩; clear hE59
   refine p_tn ?_
   refine c_cond hE60 rfl (fun ht61 => ?_) (fun ht61 => ?_)
   ·
    have hp62 := of_decide_eq_true ht61
    have hE63 := hE60; rw [ht61] at hE63; clear hE60
    refine c_seq ?_
    refine c_reg ?_
    refine q_step (v := .int .i64 (-1)) hE63 (y_assign rfl) rfl rfl rfl ?_; intro a64 hE65; clear hE63
    refine c_nil ?_
    have hE66 := hE65.sub (L' := [(4, .int .i64 (-1))]) ⟨rfl, trivial⟩; clear hE65
    refine p_tn ?_
    refine wp_ret ?_
    refine p_tr ?_
    have hF : F_l_szModel ap0 ap1 ap2 left = -1 := by unfold F_l_szModel; rw [ht61, ht32]; first | done | rfl
    refine c_ret1 hE66 rfl rfl ?_
    exact ⟨(by rw [hF]; first | done | (dsimp only; done) | rfl), hS22.ext⟩
   ·
    have hp67 := of_decide_eq_false ht61
    have hq68 := szI_bound hp67
    have hE69 := hE60; rw [ht61] at hE69; clear hE60
    refine wp_skip ?_
    refine p_tn ?_
    refine c_seq ?_
    refine c_reg ?_
    refine q_step (v := .int .i64 (F_l_szInt64S ap2 (F_l_szFrame ap0 ap1 left))) hE69 (y_move rfl) rfl rfl rfl ?_; intro a70 hE71; clear hE69
    refine q_step (v := .int .i64 (F_l_szInt64S ap2 (F_l_szFrame ap0 ap1 left))) hE71 (y_assign rfl) rfl rfl rfl ?_; intro a72 hE73; clear hE71
    refine c_nil ?_
    have hE74 := hE73.sub (L' := [(4, .int .i64 (F_l_szInt64S ap2 (F_l_szFrame ap0 ap1 left)))]) ⟨rfl, trivial⟩; clear hE73
    refine p_tn ?_
    refine wp_ret ?_
    have hF : F_l_szModel ap0 ap1 ap2 left = F_l_szInt64S ap2 (F_l_szFrame ap0 ap1 left) := by unfold F_l_szModel; rw [ht61, ht32]; first | done | rfl
    refine c_ret1 hE74 rfl rfl ?_
    exact ⟨(by rw [hF]; first | done | (dsimp only; done) | rfl), hS22.ext⟩
def F_l_toModel (ap0 : Int) (ap1 : List Int) (ap2 : List Int) : Int × List Int × List Int :=
  (ap0, ap1, ap2)
theorem cf_l_toModel (args : Array Value) (w : World) : (callFunc 51 args).run Try.prog w = .ok (.enter 51 args) w := by kernel_rfl
set_option maxRecDepth 100000 in
theorem c_l_toModel (ap0 : Int) (ap1A : Option Addr) (ap1N ap1C : Nat) (ap1 : List Int) (ap2A : Option Addr) (ap2N ap2C : Nat) (ap2 : List Int) (w : World) (ap1R : RdS w 1 ap1A ap1N ap1C ap1) (ap2R : RdS w 1 ap2A ap2N ap2C ap2) (hl : ap1.length ≤ 1048576) (hl2 : ap2.length ≤ 1048576) :
    Calls Try.prog 51 #[.agg #[.int .i64 ap0, .slice ap1A ap1N ap1C, .slice ap2A ap2N ap2C]] w (Ret fun v w' => ∃ b1 : Option Addr, ∃ c1 : Nat, ∃ b2 : Option Addr, ∃ c2 : Nat, v = .agg #[.int .i64 ((F_l_toModel ap0 ap1 ap2).1), .slice b1 ((F_l_toModel ap0 ap1 ap2).2.1).length c1, .slice b2 ((F_l_toModel ap0 ap1 ap2).2.2).length c2] ∧ Own2 w' w.heap.size 2 b1 ((F_l_toModel ap0 ap1 ap2).2.1).length c1 ((F_l_toModel ap0 ap1 ap2).2.1) b2 ((F_l_toModel ap0 ap1 ap2).2.2).length c2 ((F_l_toModel ap0 ap1 ap2).2.2) ∧ Ext w w') := by
  obtain rfl : ap1N = ap1.length := ap1R.len1.symm
  have ap1Le := ap1R.le
  obtain rfl : ap2N = ap2.length := ap2R.len1.symm
  have ap2Le := ap2R.le
  have hS := St.nil w
  have hS1 := St.rd0 hS rfl ap1R; clear hS
  have hS2 := St.rd0 hS1 rfl ap2R; clear hS1
  refine enter (args := [.agg #[.int .i64 ap0, .slice ap1A ap1.length ap1C, .slice ap2A ap2.length ap2C]]) Try.func51 rfl rfl ?_
  rw [Try.ntmps51]; intro a hE
  have hE := hE.sub (L' := [(0, .agg #[.int .i64 ap0, .slice ap1A ap1.length ap1C, .slice ap2A ap2.length ap2C])]) ⟨rfl, trivial⟩
  refine c_seq ?_
  refine c_reg ?_
  refine l_step hE rfl (l_box (v := .agg #[.int .i64 ap0, .slice ap1A ap1.length ap1C, .slice ap2A ap2.length ap2C]) (cs := #[.int .i64 ap0, .slice ap1A ap1.length ap1C, .slice ap2A ap2.length ap2C]) hS2 hE rfl rfl rfl ?_)
  intro b3 w4 hS7 he8 a5 hE6; clear hS2 hE
  refine l_step hE6 rfl (l_alloc (z := .agg #[.int .i64 0, .slice none 0 0, .slice none 0 0]) (cs := #[.int .i64 0, .slice none 0 0, .slice none 0 0]) hS7 hE6 (fun _ => by kernel_rfl) rfl rfl ?_)
  intro b9 w10 hS13 he14 a11 hE12; clear hS7 hE6
  refine c_nil ?_
  have hE15 := hE12.sub (L' := [(1, .pointer (some ⟨b3, 0, none⟩)), (2, .pointer (some ⟨b9, 0, none⟩))]) ⟨rfl, rfl, trivial⟩; clear hE12
  refine p_tn ?_
  refine c_seq ?_
  refine c_reg ?_
  refine l_step hE15 rfl (l_alloc (z := .agg #[.int .i64 0, .slice none 0 0, .slice none 0 0]) (cs := #[.int .i64 0, .slice none 0 0, .slice none 0 0]) hS13 hE15 (fun _ => by kernel_rfl) rfl rfl ?_)
  intro b16 w17 hS20 he21 a18 hE19; clear hS13 hE15
  refine c_nil ?_
  have hE22 := hE19.sub (L' := [(1, .pointer (some ⟨b3, 0, none⟩)), (2, .pointer (some ⟨b9, 0, none⟩)), (3, .pointer (some ⟨b16, 0, none⟩))]) ⟨rfl, rfl, rfl, trivial⟩; clear hE19
  refine p_tn ?_
  refine c_seq ?_
  refine c_reg ?_
  refine q_step (v := .pointer (some ⟨b3, 0, none⟩)) hE22 (y_field rfl (fun _ => by kernel_rfl)) rfl rfl rfl ?_; intro a23 hE24; clear hE22
  refine q_step (v := .agg #[.int .i64 ap0, .slice ap1A ap1.length ap1C]) hE24 (y_loadP Try.underlying51 rfl (by kernel_rfl) rfl rfl (St.row (i := 2) hS20 rfl)) rfl rfl rfl ?_; intro a25 hE26; clear hE24
  refine l_step hE26 rfl (l_call (f := 44) (argv := [.agg #[.int .i64 ap0, .slice ap1A ap1.length ap1C]]) hE26 (fun _ => cf_l_toFrame _ _) rfl rfl (d_l_toFrame ap0 ap1A ap1.length ap1C ap1 w17 (St.rdR (i := 4) hS20 rfl) (by omega)) ?_)
  rintro _ w28 ⟨b33, c34, rfl, ho35, he32⟩ a29 hE30; clear hE26
  have hS31 := St.own hS20 he32 ho35; clear hS20
  refine q_step (v := .pointer (some ⟨b16, 0, none⟩)) hE30 (y_field rfl (fun _ => by kernel_rfl)) rfl rfl rfl ?_; intro a36 hE37; clear hE30
  refine l_step hE37 rfl (l_storeP (k := 1) (cs' := #[.int .i64 ap0, .slice b33 ((ap1).length) c34, .slice none 0 0]) hS31 hE37 (by kernel_rfl) rfl rfl (by kernel_rfl) rfl (by decide) rfl ?_)
  intro w39 hS42 a40 hE41; clear hS31 hE37
  refine c_nil ?_
  have hE44 := hE41.sub (L' := [(1, .pointer (some ⟨b3, 0, none⟩)), (2, .pointer (some ⟨b9, 0, none⟩)), (3, .pointer (some ⟨b16, 0, none⟩))]) ⟨rfl, rfl, rfl, trivial⟩; clear hE41
  refine p_tn ?_
  refine c_seq ?_
  refine c_reg ?_
  refine q_step (v := .pointer (some ⟨b3, 2, none⟩)) hE44 (y_field rfl (fun _ => by kernel_rfl)) rfl rfl rfl ?_; intro a45 hE46; clear hE44
  refine q_step (v := .slice ap2A ap2.length ap2C) hE46 (y_load (fun _ => by kernel_rfl) rfl (St.cell (i := 3) hS42 rfl rfl)) rfl rfl rfl ?_; intro a47 hE48; clear hE46
  refine l_step hE48 rfl (l_call (f := 15) (argv := [.slice ap2A ap2.length ap2C]) hE48 (fun _ => cf_l_toInt64S _ _) rfl rfl (d_l_toInt64S ap2A ap2.length ap2C ap2 w39 (St.rdR (i := 4) hS42 rfl) (by omega)) ?_)
  rintro _ w50 ⟨b55, c56, rfl, ho57, he54⟩ a51 hE52; clear hE48
  have hS53 := St.own hS42 he54 ho57; clear hS42
  refine q_step (v := .pointer (some ⟨b16, 2, none⟩)) hE52 (y_field rfl (fun _ => by kernel_rfl)) rfl rfl rfl ?_; intro a58 hE59; clear hE52
  refine l_step hE59 rfl (l_storeB (k := 2) (cs' := #[.int .i64 ap0, .slice b33 ((ap1).length) c34, .slice b55 ((ap2).length) c56]) hS53 hE59 (fun _ => by kernel_rfl) rfl rfl rfl rfl rfl rfl rfl ?_)
  intro w61 hS64 a62 hE63; clear hS53 hE59
  refine c_nil ?_
  have hE66 := hE63.sub (L' := [(2, .pointer (some ⟨b9, 0, none⟩)), (3, .pointer (some ⟨b16, 0, none⟩))]) ⟨rfl, rfl, trivial⟩; clear hE63
  refine p_tn ?_
  refine c_seq ?_
  refine c_reg ?_
  refine q_step (v := .agg #[.int .i64 ap0, .slice b33 ((ap1).length) c34, .slice b55 ((ap2).length) c56]) hE66 (y_loadS Try.underlying69 rfl (by kernel_rfl) rfl (St.row (i := 2) hS64 rfl)) rfl rfl rfl ?_; intro a67 hE68; clear hE66
  refine l_step hE68 rfl (l_storeS (k := 3) (cs' := #[.int .i64 ap0, .slice b33 ((ap1).length) c34, .slice b55 ((ap2).length) c56]) hS64 hE68 (by kernel_rfl) rfl rfl (by kernel_rfl) rfl rfl ?_)
  intro w70 hS73 a71 hE72; clear hS64 hE68
  refine c_nil ?_
  have hE75 := hE72.sub (L' := [(2, .pointer (some ⟨b9, 0, none⟩))]) ⟨rfl, trivial⟩; clear hE72
  refine p_tn ?_
  refine wp_ret ?_
  have hF : F_l_toModel ap0 ap1 ap2 = (ap0, ap1, ap2) := by unfold F_l_toModel; rfl
  refine c_retC hE75 rfl rfl Try.underlying69 rfl (by kernel_rfl) (St.row (i := 3) hS73 rfl _ (Ext.refl _)) ?_
  exact ⟨b33, c34, b55, c56, (by rw [hF]; first | done | (dsimp only; done) | rfl), (by rw [hF]; exact St.own2 1 0 hS73 rfl rfl (by decide)), hS73.ext⟩
def F_l_eqModel (ap0 : Int) (ap1 : List Int) (ap2 : List Int) (bp0 : Int) (bp1 : List Int) (bp2 : List Int) : Bool :=
  bif (!(decide ((ap0, ap1) = (bp0, bp1)))) then false else (bif (!(decide (ap2 = bp2))) then false else true)
theorem cf_l_eqModel (args : Array Value) (w : World) : (callFunc 53 args).run Try.prog w = .ok (.enter 53 args) w := by kernel_rfl
set_option maxRecDepth 100000 in
theorem c_l_eqModel (ap0 : Int) (ap1A : Option Addr) (ap1N ap1C : Nat) (ap1 : List Int) (ap2A : Option Addr) (ap2N ap2C : Nat) (ap2 : List Int) (bp0 : Int) (bp1A : Option Addr) (bp1N bp1C : Nat) (bp1 : List Int) (bp2A : Option Addr) (bp2N bp2C : Nat) (bp2 : List Int) (w : World) (ap1R : RdS w 1 ap1A ap1N ap1C ap1) (ap2R : RdS w 1 ap2A ap2N ap2C ap2) (bp1R : RdS w 1 bp1A bp1N bp1C bp1) (bp2R : RdS w 1 bp2A bp2N bp2C bp2) :
    Calls Try.prog 53 #[.agg #[.int .i64 ap0, .slice ap1A ap1N ap1C, .slice ap2A ap2N ap2C], .agg #[.int .i64 bp0, .slice bp1A bp1N bp1C, .slice bp2A bp2N bp2C]] w (Ret fun v w' => v = .bool (F_l_eqModel ap0 ap1 ap2 bp0 bp1 bp2) ∧ Ext w w') := by
  obtain rfl : ap1N = ap1.length := ap1R.len1.symm
  have ap1Le := ap1R.le
  obtain rfl : ap2N = ap2.length := ap2R.len1.symm
  have ap2Le := ap2R.le
  obtain rfl : bp1N = bp1.length := bp1R.len1.symm
  have bp1Le := bp1R.le
  obtain rfl : bp2N = bp2.length := bp2R.len1.symm
  have bp2Le := bp2R.le
  have hS := St.nil w
  have hS1 := St.rd0 hS rfl ap1R; clear hS
  have hS2 := St.rd0 hS1 rfl ap2R; clear hS1
  have hS3 := St.rd0 hS2 rfl bp1R; clear hS2
  have hS4 := St.rd0 hS3 rfl bp2R; clear hS3
  refine enter (args := [.agg #[.int .i64 ap0, .slice ap1A ap1.length ap1C, .slice ap2A ap2.length ap2C], .agg #[.int .i64 bp0, .slice bp1A bp1.length bp1C, .slice bp2A bp2.length bp2C]]) Try.func53 rfl rfl ?_
  rw [Try.ntmps53]; intro a hE
  have hE := hE.sub (L' := [(0, .agg #[.int .i64 ap0, .slice ap1A ap1.length ap1C, .slice ap2A ap2.length ap2C]), (1, .agg #[.int .i64 bp0, .slice bp1A bp1.length bp1C, .slice bp2A bp2.length bp2C])]) ⟨rfl, rfl, trivial⟩
  refine c_seq ?_
  refine c_reg ?_
  refine l_step hE rfl (l_box (v := .agg #[.int .i64 ap0, .slice ap1A ap1.length ap1C, .slice ap2A ap2.length ap2C]) (cs := #[.int .i64 ap0, .slice ap1A ap1.length ap1C, .slice ap2A ap2.length ap2C]) hS4 hE rfl rfl rfl ?_)
  intro b5 w6 hS9 he10 a7 hE8; clear hS4 hE
  refine l_step hE8 rfl (l_box (v := .agg #[.int .i64 bp0, .slice bp1A bp1.length bp1C, .slice bp2A bp2.length bp2C]) (cs := #[.int .i64 bp0, .slice bp1A bp1.length bp1C, .slice bp2A bp2.length bp2C]) hS9 hE8 rfl rfl rfl ?_)
  intro b11 w12 hS15 he16 a13 hE14; clear hS9 hE8
  refine q_step (v := .bool false) hE14 (y_assign rfl) rfl rfl rfl ?_; intro a17 hE18; clear hE14
  refine c_nil ?_
  have hE19 := hE18.sub (L' := [(2, .pointer (some ⟨b5, 0, none⟩)), (3, .pointer (some ⟨b11, 0, none⟩))]) ⟨rfl, rfl, trivial⟩; clear hE18
  refine p_tn ?_
  refine c_seq ?_
  refine c_seq ?_
  refine c_reg ?_
  refine q_step (v := .pointer (some ⟨b5, 0, none⟩)) hE19 (y_field rfl (fun _ => by kernel_rfl)) rfl rfl rfl ?_; intro a20 hE21; clear hE19
  refine q_step (v := .agg #[.int .i64 ap0, .slice ap1A ap1.length ap1C]) hE21 (y_loadP Try.underlying57 rfl (by kernel_rfl) rfl rfl (St.row (i := 1) hS15 rfl)) rfl rfl rfl ?_; intro a22 hE23; clear hE21
  refine q_step (v := .pointer (some ⟨b11, 0, none⟩)) hE23 (y_field rfl (fun _ => by kernel_rfl)) rfl rfl rfl ?_; intro a24 hE25; clear hE23
  refine q_step (v := .agg #[.int .i64 bp0, .slice bp1A bp1.length bp1C]) hE25 (y_loadP Try.underlying57 rfl (by kernel_rfl) rfl rfl (St.row (i := 0) hS15 rfl)) rfl rfl rfl ?_; intro a26 hE27; clear hE25
  refine l_step hE27 rfl (l_call (f := 47) (argv := [.agg #[.int .i64 ap0, .slice ap1A ap1.length ap1C], .agg #[.int .i64 bp0, .slice bp1A bp1.length bp1C]]) hE27 (fun _ => cf_l_eqFrame _ _) rfl rfl (d_l_eqFrame ap0 ap1A ap1.length ap1C ap1 bp0 bp1A bp1.length bp1C bp1 w12 (St.rdR (i := 5) hS15 rfl) (St.rdR (i := 3) hS15 rfl)) ?_)
  rintro _ w29 ⟨rfl, he33⟩ a30 hE31; clear hE27
  have hS32 := St.go hS15 he33; clear hS15
  refine q_step (v := .bool (!(decide ((ap0, ap1) = (bp0, bp1))))) hE31 (y_not rfl) rfl rfl rfl ?_; intro a34 hE35; clear hE31
  refine c_nil ?_
  have hE36 := hE35.sub (L' := [(2, .pointer (some ⟨b5, 0, none⟩)), (3, .pointer (some ⟨b11, 0, none⟩)), (10, .bool (!(decide ((ap0, ap1) = (bp0, bp1)))))]) ⟨rfl, rfl, rfl, trivial⟩; clear hE35
  refine p_tn ?_
  refine c_cond hE36 rfl (fun ht37 => ?_) (fun ht37 => ?_)
  ·
   have ht38 := bn_t ht37
   have hp39 := of_decide_eq_false ht38
   have hE40 := hE36; rw [ht37] at hE40; clear hE36
   refine c_seq ?_
   refine c_reg ?_
   refine q_step (v := .bool false) hE40 (y_assign rfl) rfl rfl rfl ?_; intro a41 hE42; clear hE40
   refine c_nil ?_
   have hE43 := hE42.sub (L' := [(4, .bool false)]) ⟨rfl, trivial⟩; clear hE42
   refine p_tn ?_
   refine wp_ret ?_
   refine p_tr ?_
   have hF : F_l_eqModel ap0 ap1 ap2 bp0 bp1 bp2 = false := by unfold F_l_eqModel; rw [ht37]; first | done | rfl
   refine c_ret1 hE43 rfl rfl ?_
   exact ⟨(by rw [hF]; first | done | (dsimp only; done) | rfl), hS32.ext⟩
  ·
   have ht44 := bn_f ht37
   have hp45 := of_decide_eq_true ht44
   have hE46 := hE36; rw [ht37] at hE46; clear hE36
   refine wp_skip ?_
   refine p_tn ?_
   refine c_seq ?_
   refine c_seq ?_
   refine c_reg ?_
   refine q_step (v := .pointer (some ⟨b5, 2, none⟩)) hE46 (y_field rfl (fun _ => by kernel_rfl)) rfl rfl rfl ?_; intro a47 hE48; clear hE46
   refine q_step (v := .slice ap2A ap2.length ap2C) hE48 (y_load (fun _ => by kernel_rfl) rfl (St.cell (i := 1) hS32 rfl rfl)) rfl rfl rfl ?_; intro a49 hE50; clear hE48
   refine q_step (v := .pointer (some ⟨b11, 2, none⟩)) hE50 (y_field rfl (fun _ => by kernel_rfl)) rfl rfl rfl ?_; intro a51 hE52; clear hE50
   refine q_step (v := .slice bp2A bp2.length bp2C) hE52 (y_load (fun _ => by kernel_rfl) rfl (St.cell (i := 0) hS32 rfl rfl)) rfl rfl rfl ?_; intro a53 hE54; clear hE52
   refine l_step hE54 rfl (l_call (f := 17) (argv := [.slice ap2A ap2.length ap2C, .slice bp2A bp2.length bp2C]) hE54 (fun _ => cf_l_eqInt64S _ _) rfl rfl (d_l_eqInt64S ap2A ap2.length ap2C ap2 bp2A bp2.length bp2C bp2 w29 (St.rdR (i := 4) hS32 rfl) (St.rdR (i := 2) hS32 rfl)) ?_)
   rintro _ w56 ⟨rfl, he60⟩ a57 hE58; clear hE54
   have hS59 := St.go hS32 he60; clear hS32
   refine q_step (v := .bool (!(decide (ap2 = bp2)))) hE58 (y_not rfl) rfl rfl rfl ?_; intro a61 hE62; clear hE58
   refine c_nil ?_
   have hE63 := hE62.sub (L' := [(16, .bool (!(decide (ap2 = bp2))))]) ⟨rfl, trivial⟩; clear hE62
   refine p_tn ?_
   refine c_cond hE63 rfl (fun ht64 => ?_) (fun ht64 => ?_)
   ·
    have ht65 := bn_t ht64
    have hp66 := of_decide_eq_false ht65
    have hE67 := hE63; rw [ht64] at hE67; clear hE63
    refine c_seq ?_
    refine c_reg ?_
    refine q_step (v := .bool false) hE67 (y_assign rfl) rfl rfl rfl ?_; intro a68 hE69; clear hE67
    refine c_nil ?_
    have hE70 := hE69.sub (L' := [(4, .bool false)]) ⟨rfl, trivial⟩; clear hE69
    refine p_tn ?_
    refine wp_ret ?_
    refine p_tr ?_
    have hF : F_l_eqModel ap0 ap1 ap2 bp0 bp1 bp2 = false := by unfold F_l_eqModel; rw [ht64, ht37]; first | done | rfl
    refine c_ret1 hE70 rfl rfl ?_
    exact ⟨(by rw [hF]; first | done | (dsimp only; done) | rfl), hS59.ext⟩
   ·
    have ht71 := bn_f ht64
    have hp72 := of_decide_eq_true ht71
    have hE73 := hE63; rw [ht64] at hE73; clear hE63
    refine wp_skip ?_
    refine p_tn ?_
    refine c_seq ?_
    refine c_reg ?_
    refine q_step (v := .bool true) hE73 (y_assign rfl) rfl rfl rfl ?_; intro a74 hE75; clear hE73
    refine c_nil ?_
    have hE76 := hE75.sub (L' := [(4, .bool true)]) ⟨rfl, trivial⟩; clear hE75
    refine p_tn ?_
    refine wp_ret ?_
    have hF : F_l_eqModel ap0 ap1 ap2 bp0 bp1 bp2 = true := by unfold F_l_eqModel; rw [ht64, ht37]; first | done | rfl
    refine c_ret1 hE76 rfl rfl ?_
    exact ⟨(by rw [hF]; first | done | (dsimp only; done) | rfl), hS59.ext⟩
theorem d_l_toModel (ap0 : Int) (ap1A : Option Addr) (ap1N ap1C : Nat) (ap1 : List Int) (ap2A : Option Addr) (ap2N ap2C : Nat) (ap2 : List Int) (w : World) (ap1R : RdS w 1 ap1A ap1N ap1C ap1) (ap2R : RdS w 1 ap2A ap2N ap2C ap2) (hl : ap1.length ≤ 1048576) (hl2 : ap2.length ≤ 1048576) :
    Calls Try.prog 51 #[.agg #[.int .i64 ap0, .slice ap1A ap1N ap1C, .slice ap2A ap2N ap2C]] w (Ret fun v w' => ∃ b1 : Option Addr, ∃ c1 : Nat, ∃ b2 : Option Addr, ∃ c2 : Nat, v = .agg #[.int .i64 ap0, .slice b1 ap1.length c1, .slice b2 ap2.length c2] ∧ Own2 w' w.heap.size 2 b1 ap1.length c1 ap1 b2 ap2.length c2 ap2 ∧ Ext w w') :=
  c_l_toModel ap0 ap1A ap1N ap1C ap1 ap2A ap2N ap2C ap2 w ap1R ap2R hl hl2
theorem szModel_bound {ap0 : Int} {ap1 ap2 : List Int} {left : Int} (h : ¬ F_l_szModel ap0 ap1 ap2 left < 0) : (ap1.length : Int) ≤ left ∧ (ap2.length : Int) ≤ left ∧ 0 ≤ F_l_szModel ap0 ap1 ap2 left ∧ F_l_szModel ap0 ap1 ap2 left ≤ left := by
  unfold F_l_szModel at *
  by_cases h1 : F_l_szFrame ap0 ap1 left < 0
  · rw [decide_eq_true h1] at h; exact absurd (show (-1 : Int) < 0 by decide) h
  · rw [decide_eq_false h1] at *
    have b1 := szFrame_bound h1
    rw [cond_false] at *
    by_cases h2 : F_l_szInt64S ap2 (F_l_szFrame ap0 ap1 left) < 0
    · rw [decide_eq_true h2] at h; exact absurd (show (-1 : Int) < 0 by decide) h
    · rw [decide_eq_false h2] at *
      have b2 := szI_bound h2
      rw [cond_false] at *
      omega
theorem eqModel_eq (ap0 : Int) (ap1 ap2 : List Int) (bp0 : Int) (bp1 bp2 : List Int) : F_l_eqModel ap0 ap1 ap2 bp0 bp1 bp2 = decide ((ap0, ap1, ap2) = (bp0, bp1, bp2)) := by
  unfold F_l_eqModel
  by_cases h0 : ap0 = bp0 <;> by_cases h1 : ap1 = bp1 <;> by_cases h2 : ap2 = bp2 <;> simp [h0, h1, h2]
theorem d_l_eqModel (ap0 : Int) (ap1A : Option Addr) (ap1N ap1C : Nat) (ap1 : List Int) (ap2A : Option Addr) (ap2N ap2C : Nat) (ap2 : List Int) (bp0 : Int) (bp1A : Option Addr) (bp1N bp1C : Nat) (bp1 : List Int) (bp2A : Option Addr) (bp2N bp2C : Nat) (bp2 : List Int) (w : World) (ap1R : RdS w 1 ap1A ap1N ap1C ap1) (ap2R : RdS w 1 ap2A ap2N ap2C ap2) (bp1R : RdS w 1 bp1A bp1N bp1C bp1) (bp2R : RdS w 1 bp2A bp2N bp2C bp2) :
    Calls Try.prog 53 #[.agg #[.int .i64 ap0, .slice ap1A ap1N ap1C, .slice ap2A ap2N ap2C], .agg #[.int .i64 bp0, .slice bp1A bp1N bp1C, .slice bp2A bp2N bp2C]] w (Ret fun v w' => v = .bool (decide ((ap0, ap1, ap2) = (bp0, bp1, bp2))) ∧ Ext w w') := by
  have := c_l_eqModel ap0 ap1A ap1N ap1C ap1 ap2A ap2N ap2C ap2 bp0 bp1A bp1N bp1C bp1 bp2A bp2N bp2C bp2 w ap1R ap2R bp1R bp2R
  rwa [eqModel_eq] at this
end Go.Proofs.Ytkilkfhjfobcdaa
