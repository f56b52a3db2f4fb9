/- GPD: models and contracts, printed by wip/gen/gen.py -/
import Derived.Test.YthogljcjjmclcaaGPO
set_option linter.unusedVariables false
set_option linter.unusedSimpArgs false
namespace Go.Proofs.Ythogljcjjmclcaa
open Go.RowKit

def F_s_DualPoset (pp0 : Int) (pp1 : List Int) : (Int × List Int) × (Int) :=
  bif (!(F_l16Is pp0 pp1)) then ((0, []), 1) else ((((F_l01Inverse pp1).length : Int), (F_l01Inverse pp1)), 0)
theorem cf_s_DualPoset (args : Array Value) (w : World) : (callFunc 23 args).run Try.prog w = .ok (.enter 23 args) w := by kernel_rfl
set_option maxRecDepth 100000 in
theorem c_s_DualPoset (pp0 : Int) (pp1A : Option Addr) (pp1N pp1C : Nat) (pp1 : List Int) (w : World) (pp1R : RdS w 1 pp1A pp1N pp1C pp1) :
    Calls Try.prog 23 #[.agg #[.int .i64 pp0, .slice pp1A pp1N pp1C]] w (Ret fun v w' => ∃ b1 : Option Addr, ∃ c1 : Nat, v = .tuple #[.agg #[.int .i64 (((F_s_DualPoset pp0 pp1).1).1), .slice b1 (((F_s_DualPoset pp0 pp1).1).2).length c1], .int .i64 ((F_s_DualPoset pp0 pp1).2)] ∧ OwnS w' w.heap.size 2 1 b1 (((F_s_DualPoset pp0 pp1).1).2).length c1 (((F_s_DualPoset pp0 pp1).1).2) ∧ Ext w w') := by
  obtain rfl : pp1N = pp1.length := pp1R.len1.symm
  have pp1Le := pp1R.le
  have hS := St.nil w
  have hS1 := St.rd0 hS rfl pp1R; clear hS
  refine enter (args := [.agg #[.int .i64 pp0, .slice pp1A pp1.length pp1C]]) Try.func23 rfl rfl ?_
  rw [Try.ntmps23]; intro a hE
  have hE := hE.sub (L' := [(0, .agg #[.int .i64 pp0, .slice pp1A pp1.length pp1C])]) ⟨rfl, trivial⟩
  refine c_seq ?_
  refine c_reg ?_
  refine l_step hE rfl (l_box (v := .agg #[.int .i64 pp0, .slice pp1A pp1.length pp1C]) (cs := #[.int .i64 pp0, .slice pp1A pp1.length pp1C]) hS1 hE rfl rfl rfl ?_)
  intro b2 w3 hS6 he7 a4 hE5; clear hS1 hE
  refine l_step hE5 rfl (l_alloc (z := .agg #[.int .i64 0, .slice none 0 0]) (cs := #[.int .i64 0, .slice none 0 0]) hS6 hE5 (fun _ => by kernel_rfl) rfl rfl ?_)
  intro b8 w9 hS12 he13 a10 hE11; clear hS6 hE5
  refine q_step (v := .int .i64 0) hE11 (y_assign rfl) rfl rfl rfl ?_; intro a14 hE15; clear hE11
  refine c_nil ?_
  have hE16 := hE15.sub (L' := [(1, .pointer (some ⟨b2, 0, none⟩)), (2, .pointer (some ⟨b8, 0, none⟩))]) ⟨rfl, rfl, trivial⟩; clear hE15
  refine p_tn ?_
  refine c_seq ?_
  refine c_seq ?_
  refine c_reg ?_
  refine q_step (v := .agg #[.int .i64 pp0, .slice pp1A pp1.length pp1C]) hE16 (y_loadS Try.underlying27 rfl (by kernel_rfl) rfl (St.row (i := 1) hS12 rfl)) rfl rfl rfl ?_; intro a17 hE18; clear hE16
  refine l_step hE18 rfl (l_call (f := 50) (argv := [.agg #[.int .i64 pp0, .slice pp1A pp1.length pp1C]]) hE18 (fun _ => cf_l16Is _ _) rfl rfl (c_l16Is pp0 pp1A pp1.length pp1C pp1 w9 (St.rdR (i := 2) hS12 rfl)) ?_)
  rintro _ w20 ⟨rfl, he24⟩ a21 hE22; clear hE18
  have hS23 := St.go hS12 he24; clear hS12
  refine q_step (v := .bool (!(F_l16Is pp0 pp1))) hE22 (y_not rfl) rfl rfl rfl ?_; intro a25 hE26; clear hE22
  refine c_nil ?_
  have hE27 := hE26.sub (L' := [(1, .pointer (some ⟨b2, 0, none⟩)), (2, .pointer (some ⟨b8, 0, none⟩)), (6, .bool (!(F_l16Is pp0 pp1)))]) ⟨rfl, rfl, rfl, trivial⟩; clear hE26
  refine p_tn ?_
  refine c_cond hE27 rfl (fun ht28 => ?_) (fun ht28 => ?_)
  ·
    have ht29 := bn_t ht28
    have hE30 := hE27; rw [ht28] at hE30; clear hE27
    refine c_seq ?_
    refine c_reg ?_
    refine q_step (v := .agg #[.int .i64 0, .slice none 0 0]) hE30 (y_build (vs := #[]) (fun a n hE => by simp) (fun _ => by kernel_rfl)) rfl rfl rfl ?_; intro a31 hE32; clear hE30
    refine l_step hE32 rfl (l_storeS (k := 0) (cs' := #[.int .i64 0, .slice none 0 0]) hS23 hE32 (by kernel_rfl) rfl rfl (by kernel_rfl) rfl rfl ?_)
    intro w34 hS37 a35 hE36; clear hS23 hE32
    refine q_step (v := .int .i64 1) hE36 (y_assign rfl) rfl rfl rfl ?_; intro a39 hE40; clear hE36
    refine c_nil ?_
    have hE41 := hE40.sub (L' := [(2, .pointer (some ⟨b8, 0, none⟩)), (3, .int .i64 1)]) ⟨rfl, rfl, trivial⟩; clear hE40
    refine p_tn ?_
    refine wp_ret ?_
    refine p_tr ?_
    have hF : F_s_DualPoset pp0 pp1 = ((0, []), 1) := by unfold F_s_DualPoset; rw [ht28]; first | done | rfl
    refine c_retC2 hE41 rfl rfl rfl Try.underlying27 rfl (by kernel_rfl) (St.row (i := 0) hS37 rfl _ (Ext.refl _)) ?_
    exact ⟨none, 0, (by rw [hF]; first | done | rfl), (by rw [hF]; exact OwnS.nilS _ _ _ _), hS37.ext⟩
  ·
    have ht42 := bn_f ht28
    have hp43 := l16Is_t ht42
    have hE44 := hE27; rw [ht28] at hE44; clear hE27
    refine wp_skip ?_
    refine p_tn ?_
    refine c_seq ?_
    refine c_reg ?_
    refine q_step (v := .pointer (some ⟨b2, 1, none⟩)) hE44 (y_field rfl (fun _ => by kernel_rfl)) rfl rfl rfl ?_; intro a45 hE46; clear hE44
    refine q_step (v := .slice pp1A pp1.length pp1C) hE46 (y_load (fun _ => by kernel_rfl) rfl (St.cell (i := 1) hS23 rfl rfl)) rfl rfl rfl ?_; intro a47 hE48; clear hE46
    refine l_step hE48 rfl (l_call (f := 59) (argv := [.slice pp1A pp1.length pp1C]) hE48 (fun _ => cf_l01Inverse _ _) rfl rfl (c_l01Inverse pp1A pp1.length pp1C pp1 w20 (St.rdR (i := 2) hS23 rfl) (by omega)) ?_)
    rintro _ w50 ⟨b55, c56, rfl, ho57, he54⟩ a51 hE52; clear hE48
    have hf58 := l01Inverse_len pp1
    have hS53 := St.own hS23 he54 ho57; clear hS23
    refine l_step hE52 rfl (l_call (f := 58) (argv := [.slice b55 ((F_l01Inverse pp1).length) c56]) hE52 (fun _ => cf_l16Make _ _) rfl rfl (d_l16Make b55 ((F_l01Inverse pp1).length) c56 (F_l01Inverse pp1) w50 (St.rdO (i := 0) hS53 rfl) (by omega)) ?_)
    rintro _ w60 ⟨b65, c66, rfl, ho67, he64⟩ a61 hE62; clear hE52
    have hS63 := St.own hS53 he64 ho67; clear hS53
    refine l_step hE62 rfl (l_storeS (k := 2) (cs' := #[.int .i64 ((F_l01Inverse pp1).length : Int), .slice b65 (((F_l01Inverse pp1)).length) c66]) hS63 hE62 (by kernel_rfl) rfl rfl (by kernel_rfl) rfl rfl ?_)
    intro w69 hS72 a70 hE71; clear hS63 hE62
    refine q_step (v := .int .i64 0) hE71 (y_assign rfl) rfl rfl rfl ?_; intro a74 hE75; clear hE71
    refine c_nil ?_
    have hE76 := hE75.sub (L' := [(2, .pointer (some ⟨b8, 0, none⟩)), (3, .int .i64 0)]) ⟨rfl, rfl, trivial⟩; clear hE75
    refine p_tn ?_
    refine wp_ret ?_
    have hF : F_s_DualPoset pp0 pp1 = ((((F_l01Inverse pp1).length : Int), (F_l01Inverse pp1)), 0) := by unfold F_s_DualPoset; rw [ht28]; first | done | rfl
    refine c_retC2 hE76 rfl rfl rfl Try.underlying27 rfl (by kernel_rfl) (St.row (i := 2) hS72 rfl _ (Ext.refl _)) ?_
    exact ⟨b65, c66, (by rw [hF]; first | done | rfl), (by rw [hF]; exact hS72.ok 0 _ rfl), hS72.ext⟩

def F_DualPoset (pp0 : Int) (pp1 : List Int) : (Int × List Int) × (Int) :=
  bif (!(F_isPoset pp0 pp1)) then ((0, []), 1) else (((F_posetOf (F_inverse pp1)).1, F_inverse pp1), 0)
theorem cf_DualPoset (args : Array Value) (w : World) : (callFunc 24 args).run Try.prog w = .ok (.enter 24 args) w := by kernel_rfl
set_option maxRecDepth 100000 in
theorem c_DualPoset (pp0 : Int) (pp1A : Option Addr) (pp1N pp1C : Nat) (pp1 : List Int) (w : World) (pp1R : RdS w 1 pp1A pp1N pp1C pp1) :
    Calls Try.prog 24 #[.agg #[.int .i64 pp0, .slice pp1A pp1N pp1C]] w (Ret fun v w' => ∃ b1 : Option Addr, ∃ c1 : Nat, v = .tuple #[.agg #[.int .i64 (((F_DualPoset pp0 pp1).1).1), .slice b1 (((F_DualPoset pp0 pp1).1).2).length c1], .int .i64 ((F_DualPoset pp0 pp1).2)] ∧ OwnS w' w.heap.size 2 1 b1 (((F_DualPoset pp0 pp1).1).2).length c1 (((F_DualPoset pp0 pp1).1).2) ∧ Ext w w') := by
  obtain rfl : pp1N = pp1.length := pp1R.len1.symm
  have pp1Le := pp1R.le
  have hS := St.nil w
  have hS1 := St.rd0 hS rfl pp1R; clear hS
  refine enter (args := [.agg #[.int .i64 pp0, .slice pp1A pp1.length pp1C]]) Try.func24 rfl rfl ?_
  rw [Try.ntmps24]; intro a hE
  have hE := hE.sub (L' := [(0, .agg #[.int .i64 pp0, .slice pp1A pp1.length pp1C])]) ⟨rfl, trivial⟩
  refine c_seq ?_
  refine c_reg ?_
  refine l_step hE rfl (l_box (v := .agg #[.int .i64 pp0, .slice pp1A pp1.length pp1C]) (cs := #[.int .i64 pp0, .slice pp1A pp1.length pp1C]) hS1 hE rfl rfl rfl ?_)
  intro b2 w3 hS6 he7 a4 hE5; clear hS1 hE
  refine l_step hE5 rfl (l_alloc (z := .agg #[.int .i64 0, .slice none 0 0]) (cs := #[.int .i64 0, .slice none 0 0]) hS6 hE5 (fun _ => by kernel_rfl) rfl rfl ?_)
  intro b8 w9 hS12 he13 a10 hE11; clear hS6 hE5
  refine q_step (v := .int .i64 0) hE11 (y_assign rfl) rfl rfl rfl ?_; intro a14 hE15; clear hE11
  refine c_nil ?_
  have hE16 := hE15.sub (L' := [(1, .pointer (some ⟨b2, 0, none⟩)), (2, .pointer (some ⟨b8, 0, none⟩))]) ⟨rfl, rfl, trivial⟩; clear hE15
  refine p_tn ?_
  refine c_seq ?_
  refine c_seq ?_
  refine c_reg ?_
  refine q_step (v := .agg #[.int .i64 pp0, .slice pp1A pp1.length pp1C]) hE16 (y_loadS Try.underlying27 rfl (by kernel_rfl) rfl (St.row (i := 1) hS12 rfl)) rfl rfl rfl ?_; intro a17 hE18; clear hE16
  refine l_step hE18 rfl (l_call (f := 51) (argv := [.agg #[.int .i64 pp0, .slice pp1A pp1.length pp1C]]) hE18 (fun _ => cf_isPoset _ _) rfl rfl (c_isPoset pp0 pp1A pp1.length pp1C pp1 w9 (St.rdR (i := 2) hS12 rfl)) ?_)
  rintro _ w20 ⟨rfl, he24⟩ a21 hE22; clear hE18
  have hS23 := St.go hS12 he24; clear hS12
  refine q_step (v := .bool (!(F_isPoset pp0 pp1))) hE22 (y_not rfl) rfl rfl rfl ?_; intro a25 hE26; clear hE22
  refine c_nil ?_
  have hE27 := hE26.sub (L' := [(1, .pointer (some ⟨b2, 0, none⟩)), (2, .pointer (some ⟨b8, 0, none⟩)), (6, .bool (!(F_isPoset pp0 pp1)))]) ⟨rfl, rfl, rfl, trivial⟩; clear hE26
  refine p_tn ?_
  refine c_cond hE27 rfl (fun ht28 => ?_) (fun ht28 => ?_)
  ·
    have ht29 := bn_t ht28
    have hE30 := hE27; rw [ht28] at hE30; clear hE27
    refine c_seq ?_
    refine c_reg ?_
    refine q_step (v := .agg #[.int .i64 0, .slice none 0 0]) hE30 (y_build (vs := #[]) (fun a n hE => by simp) (fun _ => by kernel_rfl)) rfl rfl rfl ?_; intro a31 hE32; clear hE30
    refine l_step hE32 rfl (l_storeS (k := 0) (cs' := #[.int .i64 0, .slice none 0 0]) hS23 hE32 (by kernel_rfl) rfl rfl (by kernel_rfl) rfl rfl ?_)
    intro w34 hS37 a35 hE36; clear hS23 hE32
    refine q_step (v := .int .i64 1) hE36 (y_assign rfl) rfl rfl rfl ?_; intro a39 hE40; clear hE36
    refine c_nil ?_
    have hE41 := hE40.sub (L' := [(2, .pointer (some ⟨b8, 0, none⟩)), (3, .int .i64 1)]) ⟨rfl, rfl, trivial⟩; clear hE40
    refine p_tn ?_
    refine wp_ret ?_
    refine p_tr ?_
    have hF : F_DualPoset pp0 pp1 = ((0, []), 1) := by unfold F_DualPoset; rw [ht28]; first | done | rfl
    refine c_retC2 hE41 rfl rfl rfl Try.underlying27 rfl (by kernel_rfl) (St.row (i := 0) hS37 rfl _ (Ext.refl _)) ?_
    exact ⟨none, 0, (by rw [hF]; first | done | rfl), (by rw [hF]; exact OwnS.nilS _ _ _ _), hS37.ext⟩
  ·
    have ht42 := bn_f ht28
    have hp43 := isPoset_t ht42
    have hE44 := hE27; rw [ht28] at hE44; clear hE27
    refine wp_skip ?_
    refine p_tn ?_
    refine c_seq ?_
    refine c_reg ?_
    refine q_step (v := .pointer (some ⟨b2, 1, none⟩)) hE44 (y_field rfl (fun _ => by kernel_rfl)) rfl rfl rfl ?_; intro a45 hE46; clear hE44
    refine q_step (v := .slice pp1A pp1.length pp1C) hE46 (y_load (fun _ => by kernel_rfl) rfl (St.cell (i := 1) hS23 rfl rfl)) rfl rfl rfl ?_; intro a47 hE48; clear hE46
    refine l_step hE48 rfl (l_call (f := 61) (argv := [.slice pp1A pp1.length pp1C]) hE48 (fun _ => cf_inverse _ _) rfl rfl (c_inverse pp1A pp1.length pp1C pp1 w20 (St.rdR (i := 2) hS23 rfl) (by omega) (poset_mm (by assumption))) ?_)
    rintro _ w50 ⟨b55, c56, rfl, ho57, he54⟩ a51 hE52; clear hE48
    have hf58 := inverse_len pp1
    have hS53 := St.own hS23 he54 ho57; clear hS23
    refine l_step hE52 rfl (l_call (f := 60) (argv := [.slice b55 ((F_inverse pp1).length) c56]) hE52 (fun _ => cf_posetOf _ _) rfl rfl (c_posetOf b55 ((F_inverse pp1).length) c56 (F_inverse pp1) w50 (St.rdO (i := 0) hS53 rfl)) ?_)
    rintro _ w60 ⟨rfl, he64⟩ a61 hE62; clear hE52
    have hS63 := St.go hS53 he64; clear hS53
    refine l_step hE62 rfl (l_storeS (k := 1) (cs' := #[.int .i64 ((F_posetOf (F_inverse pp1)).1), .slice b55 ((F_inverse pp1).length) c56]) hS63 hE62 (by kernel_rfl) rfl rfl (by kernel_rfl) rfl rfl ?_)
    intro w66 hS69 a67 hE68; clear hS63 hE62
    refine q_step (v := .int .i64 0) hE68 (y_assign rfl) rfl rfl rfl ?_; intro a71 hE72; clear hE68
    refine c_nil ?_
    have hE73 := hE72.sub (L' := [(2, .pointer (some ⟨b8, 0, none⟩)), (3, .int .i64 0)]) ⟨rfl, rfl, trivial⟩; clear hE72
    refine p_tn ?_
    refine wp_ret ?_
    have hF : F_DualPoset pp0 pp1 = (((F_posetOf (F_inverse pp1)).1, F_inverse pp1), 0) := by unfold F_DualPoset; rw [ht28]; first | done | rfl
    refine c_retC2 hE73 rfl rfl rfl Try.underlying27 rfl (by kernel_rfl) (St.row (i := 1) hS69 rfl _ (Ext.refl _)) ?_
    exact ⟨b55, c56, (by rw [hF]; first | done | rfl), (by rw [hF]; exact hS69.ok 0 _ rfl), hS69.ext⟩

theorem DualPoset_both (p0 : Int) (p1 : List Int) : F_DualPoset p0 p1 = F_s_DualPoset p0 p1 ∧ (F_DualPoset p0 p1).1.2.length ≤ 8 := by
  unfold F_DualPoset F_s_DualPoset F_posetOf
  rw [isPoset_eq]
  cases h : F_l16Is p0 p1
  · simp
  · have hp := l16Is_t h
    obtain ⟨hR, hn⟩ := l16_rl h
    rw [inverse_eq hn hR]
    refine ⟨rfl, ?_⟩
    show (F_l01Inverse p1).length ≤ 8
    rw [l01Inverse_len]; omega
theorem DualPoset_len (p0 : Int) (p1 : List Int) : (F_DualPoset p0 p1).1.2.length ≤ 8 := (DualPoset_both p0 p1).2

end Go.Proofs.Ythogljcjjmclcaa
