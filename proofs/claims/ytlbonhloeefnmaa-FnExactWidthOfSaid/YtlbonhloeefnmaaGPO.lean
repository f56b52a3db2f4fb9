/- GPO: models and contracts, printed by wip/gen/gen.py -/
import Derived.Test.YtlbonhloeefnmaaGFGS
set_option linter.unusedVariables false
set_option linter.unusedSimpArgs false
namespace Go.Proofs.Ytlbonhloeefnmaa
open Go.RowKit

def F_Poset_frame (pp0 : Int) (pp1 : List Int) : Int × List Int :=
  ((F_frameOf pp1).1, pp1)
theorem cf_Poset_frame (args : Array Value) (w : World) : (callFunc 175 args).run Try.prog w = .ok (.enter 175 args) w := by kernel_rfl
set_option maxRecDepth 100000 in
theorem c_Poset_frame (pp0 : Int) (pp1A : Option Addr) (pp1N pp1C : Nat) (pp1 : List Int) (w : World) (pp1R : RdS w 1 pp1A pp1N pp1C pp1) :
    Calls Try.prog 175 #[.agg #[.int .i64 pp0, .slice pp1A pp1N pp1C]] w (Ret fun v w' => v = .agg #[.int .i64 ((F_Poset_frame pp0 pp1).1), .slice pp1A pp1N pp1C] ∧ Ext w w') := by
  obtain rfl : pp1N = pp1.length := pp1R.len1.symm
  have pp1Le := pp1R.le
  have hS := St.nil w
  have hS1 := St.rd0 hS rfl pp1R; clear hS
  refine enter (args := [.agg #[.int .i64 pp0, .slice pp1A pp1.length pp1C]]) Try.func175 rfl rfl ?_
  rw [Try.ntmps175]; intro a hE
  have hE := hE.sub (L' := [(0, .agg #[.int .i64 pp0, .slice pp1A pp1.length pp1C])]) ⟨rfl, trivial⟩
  refine c_seq ?_
  refine c_reg ?_
  refine l_step hE rfl (l_box (v := .agg #[.int .i64 pp0, .slice pp1A pp1.length pp1C]) (cs := #[.int .i64 pp0, .slice pp1A pp1.length pp1C]) hS1 hE rfl rfl rfl ?_)
  intro b2 w3 hS6 he7 a4 hE5; clear hS1 hE
  refine l_step hE5 rfl (l_alloc (z := .agg #[.int .i64 0, .slice none 0 0]) (cs := #[.int .i64 0, .slice none 0 0]) hS6 hE5 (fun _ => by kernel_rfl) rfl rfl ?_)
  intro b8 w9 hS12 he13 a10 hE11; clear hS6 hE5
  refine c_nil ?_
  have hE14 := hE11.sub (L' := [(1, .pointer (some ⟨b2, 0, none⟩)), (2, .pointer (some ⟨b8, 0, none⟩))]) ⟨rfl, rfl, trivial⟩; clear hE11
  refine p_tn ?_
  refine c_seq ?_
  refine c_reg ?_
  refine q_step (v := .pointer (some ⟨b2, 1, none⟩)) hE14 (y_field rfl (fun _ => by kernel_rfl)) rfl rfl rfl ?_; intro a15 hE16; clear hE14
  refine q_step (v := .slice pp1A pp1.length pp1C) hE16 (y_load (fun _ => by kernel_rfl) rfl (St.cell (i := 1) hS12 rfl rfl)) rfl rfl rfl ?_; intro a17 hE18; clear hE16
  refine l_step hE18 rfl (l_call (f := 106) (argv := [.slice pp1A pp1.length pp1C]) hE18 (fun _ => cf_frameOf _ _) rfl rfl (c_frameOf pp1A pp1.length pp1C pp1 w9 (St.rdR (i := 2) hS12 rfl)) ?_)
  rintro _ w20 ⟨rfl, he24⟩ a21 hE22; clear hE18
  have hS23 := St.go hS12 he24; clear hS12
  refine l_step hE22 rfl (l_storeS (k := 0) (cs' := #[.int .i64 ((F_frameOf pp1).1), .slice pp1A pp1.length pp1C]) hS23 hE22 (by kernel_rfl) rfl rfl (by kernel_rfl) rfl rfl ?_)
  intro w26 hS29 a27 hE28; clear hS23 hE22
  refine c_nil ?_
  have hE31 := hE28.sub (L' := [(2, .pointer (some ⟨b8, 0, none⟩))]) ⟨rfl, trivial⟩; clear hE28
  refine p_tn ?_
  refine wp_ret ?_
  have hF : F_Poset_frame pp0 pp1 = ((F_frameOf pp1).1, pp1) := by unfold F_Poset_frame; rfl
  refine c_retC hE31 rfl rfl Try.underlying30 rfl (by kernel_rfl) (St.row (i := 0) hS29 rfl _ (Ext.refl _)) ?_
  exact ⟨(by rw [hF]; first | done | (dsimp only; done) | rfl), hS29.ext⟩

def F_l16Is (pp0 : Int) (pp1 : List Int) : Bool :=
  bif ((!(F_l01In pp0 0 8)) || ((!decide ((pp1.length : Int) = pp0)) || (!(F_l01Masks pp0 pp1)))) then false else ((F_l05Flag pp0 pp1 0) && ((F_l05Flag pp0 pp1 2) && (F_l05Flag pp0 pp1 8)))
theorem cf_l16Is (args : Array Value) (w : World) : (callFunc 98 args).run Try.prog w = .ok (.enter 98 args) w := by kernel_rfl
set_option maxRecDepth 100000 in
theorem c_l16Is (pp0 : Int) (pp1A : Option Addr) (pp1N pp1C : Nat) (pp1 : List Int) (w : World) (pp1R : RdS w 1 pp1A pp1N pp1C pp1) :
    Calls Try.prog 98 #[.agg #[.int .i64 pp0, .slice pp1A pp1N pp1C]] w (Ret fun v w' => v = .bool (F_l16Is pp0 pp1) ∧ Ext w w') := by
  obtain rfl : pp1N = pp1.length := pp1R.len1.symm
  have pp1Le := pp1R.le
  have hS := St.nil w
  have hS1 := St.rd0 hS rfl pp1R; clear hS
  refine enter (args := [.agg #[.int .i64 pp0, .slice pp1A pp1.length pp1C]]) Try.func98 rfl rfl ?_
  rw [Try.ntmps98]; intro a hE
  have hE := hE.sub (L' := [(0, .agg #[.int .i64 pp0, .slice pp1A pp1.length pp1C])]) ⟨rfl, trivial⟩
  refine c_seq ?_
  refine c_reg ?_
  refine l_step hE rfl (l_box (v := .agg #[.int .i64 pp0, .slice pp1A pp1.length pp1C]) (cs := #[.int .i64 pp0, .slice pp1A pp1.length pp1C]) hS1 hE rfl rfl rfl ?_)
  intro b2 w3 hS6 he7 a4 hE5; clear hS1 hE
  refine q_step (v := .bool false) hE5 (y_assign rfl) rfl rfl rfl ?_; intro a8 hE9; clear hE5
  refine c_nil ?_
  have hE10 := hE9.sub (L' := [(1, .pointer (some ⟨b2, 0, none⟩))]) ⟨rfl, trivial⟩; clear hE9
  refine p_tn ?_
  refine c_seq ?_
  refine c_cut (fun a' w' => E a' 39 [(1, .pointer (some ⟨b2, 0, none⟩)), (23, .bool ((!(F_l01In pp0 0 8)) || ((!decide ((pp1.length : Int) = pp0)) || (!(F_l01Masks pp0 pp1)))))] ∧ St w w' [.rd 1 pp1A pp1.length pp1C pp1, .blk b2 #[.int .i64 pp0, .slice pp1A pp1.length pp1C] 54]) ?_ ?_
  ·
   refine c_reg ?_
   refine q_step (v := .pointer (some ⟨b2, 0, none⟩)) hE10 (y_field rfl (fun _ => by kernel_rfl)) rfl rfl rfl ?_; intro a11 hE12; clear hE10
   refine q_step (v := .int .i64 pp0) hE12 (y_load (fun _ => by kernel_rfl) rfl (St.cell (i := 0) hS6 rfl rfl)) rfl rfl rfl ?_; intro a13 hE14; clear hE12
   refine l_step hE14 rfl (l_call (f := 85) (argv := [.int .i64 pp0, .int .i64 0, .int .i64 8]) hE14 (fun _ => cf_l01In _ _) rfl rfl (c_l01In pp0 0 8 w3) ?_)
   rintro _ _ ⟨rfl, rfl⟩ a17 hE18; clear hE14
   refine q_step (v := .bool (!(F_l01In pp0 0 8))) hE18 (y_not rfl) rfl rfl rfl ?_; intro a21 hE22; clear hE18
   refine q_step (v := .bool (!(F_l01In pp0 0 8))) hE22 (y_move rfl) rfl rfl rfl ?_; intro a23 hE24; clear hE22
   rcases Bool.eq_false_or_eq_true (!(F_l01In pp0 0 8)) with hb25 | hb25
   ·
    have hE26 := hE24; (try rw [hb25] at hE26); clear hE24
    have ht27 := bn_t hb25
    refine q_skip hE26 rfl rfl rfl ?_; intro a28 hE29; clear hE26
    refine q_skip hE29 rfl rfl rfl ?_; intro a30 hE31; clear hE29
    refine q_skip hE31 rfl rfl rfl ?_; intro a32 hE33; clear hE31
    refine q_skip hE33 rfl rfl rfl ?_; intro a34 hE35; clear hE33
    refine q_skip hE35 rfl rfl rfl ?_; intro a36 hE37; clear hE35
    refine q_skip hE37 rfl rfl rfl ?_; intro a38 hE39; clear hE37
    refine q_step (v := .bool true) hE39 (y_pick (b := true) rfl rfl) rfl rfl rfl ?_; intro a40 hE41; clear hE39
    refine q_step (v := .bool true) hE41 (y_move rfl) rfl rfl rfl ?_; intro a42 hE43; clear hE41
    refine q_skip hE43 rfl rfl rfl ?_; intro a44 hE45; clear hE43
    refine q_skip hE45 rfl rfl rfl ?_; intro a46 hE47; clear hE45
    refine q_skip hE47 rfl rfl rfl ?_; intro a48 hE49; clear hE47
    refine q_skip hE49 rfl rfl rfl ?_; intro a50 hE51; clear hE49
    refine q_skip hE51 rfl rfl rfl ?_; intro a52 hE53; clear hE51
    refine q_skip hE53 rfl rfl rfl ?_; intro a54 hE55; clear hE53
    refine q_step (v := .bool true) hE55 (y_pick (b := true) rfl rfl) rfl rfl rfl ?_; intro a56 hE57; clear hE55
    refine c_nil ?_
    have hE58 := hE57.sub (L' := [(1, .pointer (some ⟨b2, 0, none⟩)), (23, .bool true)]) ⟨rfl, rfl, trivial⟩; clear hE57
    refine p_tn ?_
    have hE59 := hE58.sub (L' := [(1, .pointer (some ⟨b2, 0, none⟩)), (23, .bool true)]) ⟨rfl, rfl, trivial⟩
    have hS60 := (St.pick (Γ' := [.rd 1 pp1A pp1.length pp1C pp1, .blk b2 #[.int .i64 pp0, .slice pp1A pp1.length pp1C] 54]) hS6 [1, 0] (by decide) rfl)
    exact ⟨(by rw [hb25]; exact hE59), hS60⟩
   ·
    have hE61 := hE24; (try rw [hb25] at hE61); clear hE24
    have ht62 := bn_f hb25
    have hp63 := F_l01In_t ht62
    refine q_step (v := .pointer (some ⟨b2, 1, none⟩)) hE61 (y_field rfl (fun _ => by kernel_rfl)) rfl rfl rfl ?_; intro a64 hE65; clear hE61
    refine q_step (v := .slice pp1A pp1.length pp1C) hE65 (y_load (fun _ => by kernel_rfl) rfl (St.cell (i := 0) hS6 rfl rfl)) rfl rfl rfl ?_; intro a66 hE67; clear hE65
    refine q_step (v := .int .i64 (pp1.length : Int)) hE67 (y_len (e := 2) (by kernel_rfl) rfl) rfl rfl rfl ?_; intro a68 hE69; clear hE67
    refine q_step (v := .pointer (some ⟨b2, 0, none⟩)) hE69 (y_field rfl (fun _ => by kernel_rfl)) rfl rfl rfl ?_; intro a70 hE71; clear hE69
    refine q_step (v := .int .i64 pp0) hE71 (y_load (fun _ => by kernel_rfl) rfl (St.cell (i := 0) hS6 rfl rfl)) rfl rfl rfl ?_; intro a72 hE73; clear hE71
    refine q_step (v := .bool (!decide ((pp1.length : Int) = pp0))) hE73 (y_neq rfl rfl) rfl rfl rfl ?_; intro a74 hE75; clear hE73
    refine q_step (v := .bool (!decide ((pp1.length : Int) = pp0))) hE75 (y_pick (b := false) rfl rfl) rfl rfl rfl ?_; intro a76 hE77; clear hE75
    refine q_step (v := .bool (!decide ((pp1.length : Int) = pp0))) hE77 (y_move rfl) rfl rfl rfl ?_; intro a78 hE79; clear hE77
    rcases Bool.eq_false_or_eq_true (!decide ((pp1.length : Int) = pp0)) with hb80 | hb80
    ·
     have hE81 := hE79; (try rw [hb80] at hE81); clear hE79
     have ht82 := bn_t hb80
     have hp83 := of_decide_eq_false ht82
     refine q_skip hE81 rfl rfl rfl ?_; intro a84 hE85; clear hE81
     refine q_skip hE85 rfl rfl rfl ?_; intro a86 hE87; clear hE85
     refine q_skip hE87 rfl rfl rfl ?_; intro a88 hE89; clear hE87
     refine q_skip hE89 rfl rfl rfl ?_; intro a90 hE91; clear hE89
     refine q_skip hE91 rfl rfl rfl ?_; intro a92 hE93; clear hE91
     refine q_skip hE93 rfl rfl rfl ?_; intro a94 hE95; clear hE93
     refine q_step (v := .bool true) hE95 (y_pick (b := true) rfl rfl) rfl rfl rfl ?_; intro a96 hE97; clear hE95
     refine c_nil ?_
     have hE98 := hE97.sub (L' := [(1, .pointer (some ⟨b2, 0, none⟩)), (23, .bool true)]) ⟨rfl, rfl, trivial⟩; clear hE97
     refine p_tn ?_
     have hE99 := hE98.sub (L' := [(1, .pointer (some ⟨b2, 0, none⟩)), (23, .bool true)]) ⟨rfl, rfl, trivial⟩
     have hS100 := (St.pick (Γ' := [.rd 1 pp1A pp1.length pp1C pp1, .blk b2 #[.int .i64 pp0, .slice pp1A pp1.length pp1C] 54]) hS6 [1, 0] (by decide) rfl)
     exact ⟨(by rw [hb80, hb25]; exact hE99), hS100⟩
    ·
     have hE101 := hE79; (try rw [hb80] at hE101); clear hE79
     have ht102 := bn_f hb80
     have hp103 := of_decide_eq_true ht102
     refine q_step (v := .pointer (some ⟨b2, 0, none⟩)) hE101 (y_field rfl (fun _ => by kernel_rfl)) rfl rfl rfl ?_; intro a104 hE105; clear hE101
     refine q_step (v := .int .i64 pp0) hE105 (y_load (fun _ => by kernel_rfl) rfl (St.cell (i := 0) hS6 rfl rfl)) rfl rfl rfl ?_; intro a106 hE107; clear hE105
     refine q_step (v := .pointer (some ⟨b2, 1, none⟩)) hE107 (y_field rfl (fun _ => by kernel_rfl)) rfl rfl rfl ?_; intro a108 hE109; clear hE107
     refine q_step (v := .slice pp1A pp1.length pp1C) hE109 (y_load (fun _ => by kernel_rfl) rfl (St.cell (i := 0) hS6 rfl rfl)) rfl rfl rfl ?_; intro a110 hE111; clear hE109
     refine l_step hE111 rfl (l_call (f := 162) (argv := [.int .i64 pp0, .slice pp1A pp1.length pp1C]) hE111 (fun _ => cf_l01Masks _ _) rfl rfl (c_l01Masks pp0 pp1A pp1.length pp1C pp1 w3 (St.rdR (i := 1) hS6 rfl) (by omega) (by omega)) ?_)
     rintro _ w113 ⟨rfl, he117⟩ a114 hE115; clear hE111
     have hS116 := St.go hS6 he117; clear hS6
     refine q_step (v := .bool (!(F_l01Masks pp0 pp1))) hE115 (y_not rfl) rfl rfl rfl ?_; intro a118 hE119; clear hE115
     refine q_step (v := .bool (!(F_l01Masks pp0 pp1))) hE119 (y_pick (b := false) rfl rfl) rfl rfl rfl ?_; intro a120 hE121; clear hE119
     refine c_nil ?_
     have hE122 := hE121.sub (L' := [(1, .pointer (some ⟨b2, 0, none⟩)), (23, .bool (!(F_l01Masks pp0 pp1)))]) ⟨rfl, rfl, trivial⟩; clear hE121
     refine p_tn ?_
     have hE123 := hE122.sub (L' := [(1, .pointer (some ⟨b2, 0, none⟩)), (23, .bool (!(F_l01Masks pp0 pp1)))]) ⟨rfl, rfl, trivial⟩
     have hS124 := (St.pick (Γ' := [.rd 1 pp1A pp1.length pp1C pp1, .blk b2 #[.int .i64 pp0, .slice pp1A pp1.length pp1C] 54]) hS116 [1, 0] (by decide) rfl)
     exact ⟨(by rw [hb80, hb25]; exact hE123), hS124⟩
  ·
   rintro a125 w126 ⟨hE127, hS128⟩; clear hE10 hS6
   refine c_cond hE127 rfl (fun ht130 => ?_) (fun ht130 => ?_)
   ·
    have hE131 := hE127; rw [ht130] at hE131; clear hE127
    refine c_seq ?_
    refine c_reg ?_
    refine q_step (v := .bool false) hE131 (y_assign rfl) rfl rfl rfl ?_; intro a132 hE133; clear hE131
    refine c_nil ?_
    have hE134 := hE133.sub (L' := [(2, .bool false)]) ⟨rfl, trivial⟩; clear hE133
    refine p_tn ?_
    refine wp_ret ?_
    refine p_tr ?_
    have hF : F_l16Is pp0 pp1 = false := by unfold F_l16Is; rw [ht130]; first | done | rfl
    refine c_ret1 hE134 rfl rfl ?_
    exact ⟨(by rw [hF]; first | done | (dsimp only; done) | rfl), hS128.ext⟩
   ·
    obtain ⟨ht135, ht136⟩ := bor_f ht130
    have ht137 := bn_f ht135
    have hp138 := F_l01In_t ht137
    obtain ⟨ht139, ht140⟩ := bor_f ht136
    have ht141 := bn_f ht139
    have hp142 := of_decide_eq_true ht141
    have ht143 := bn_f ht140
    have hp144 := masks_mem ht143
    have hE145 := hE127; rw [ht130] at hE145; clear hE127
    refine wp_skip ?_
    refine p_tn ?_
    refine c_seq ?_
    refine c_reg ?_
    refine q_step (v := .pointer (some ⟨b2, 0, none⟩)) hE145 (y_field rfl (fun _ => by kernel_rfl)) rfl rfl rfl ?_; intro a146 hE147; clear hE145
    refine q_step (v := .int .i64 pp0) hE147 (y_load (fun _ => by kernel_rfl) rfl (St.cell (i := 1) hS128 rfl rfl)) rfl rfl rfl ?_; intro a148 hE149; clear hE147
    refine q_step (v := .pointer (some ⟨b2, 1, none⟩)) hE149 (y_field rfl (fun _ => by kernel_rfl)) rfl rfl rfl ?_; intro a150 hE151; clear hE149
    refine q_step (v := .slice pp1A pp1.length pp1C) hE151 (y_load (fun _ => by kernel_rfl) rfl (St.cell (i := 1) hS128 rfl rfl)) rfl rfl rfl ?_; intro a152 hE153; clear hE151
    refine q_step (v := .agg #[.int .i64 pp0, .slice pp1A pp1.length pp1C]) hE153 (y_build (vs := #[(0, .int .i64 pp0), (1, .slice pp1A pp1.length pp1C)]) (fun a n hE => by simp only [hE.eval (x := .tmp 25) (v := .int .i64 pp0) rfl, hE.eval (x := .tmp 27) (v := .slice pp1A pp1.length pp1C) rfl, List.map_toArray, List.map_cons, List.map_nil]) (fun _ => by kernel_rfl)) rfl rfl rfl ?_; intro a154 hE155; clear hE153
    refine l_step hE155 rfl (l_alloc (z := .agg #[.int .i64 0, .slice none 0 0]) (cs := #[.int .i64 0, .slice none 0 0]) hS128 hE155 (fun _ => by kernel_rfl) rfl rfl ?_)
    intro b156 w157 hS160 he161 a158 hE159; clear hS128 hE155
    refine l_step hE159 rfl (l_storeS (k := 0) (cs' := #[.int .i64 pp0, .slice pp1A pp1.length pp1C]) hS160 hE159 (by kernel_rfl) rfl rfl (by kernel_rfl) rfl rfl ?_)
    intro w163 hS166 a164 hE165; clear hS160 hE159
    refine c_nil ?_
    have hE168 := hE165.sub (L' := [(3, .pointer (some ⟨b156, 0, none⟩))]) ⟨rfl, trivial⟩; clear hE165
    refine p_tn ?_
    refine c_cut (fun a' w' => E a' 39 [(2, .bool ((F_l05Flag pp0 pp1 0) && ((F_l05Flag pp0 pp1 2) && (F_l05Flag pp0 pp1 8))))] ∧ St w w' [.rd 1 pp1A pp1.length pp1C pp1, .blk b156 #[.int .i64 pp0, .slice pp1A pp1.length pp1C] 30, .blk b2 #[.int .i64 pp0, .slice pp1A pp1.length pp1C] 54]) ?_ ?_
    ·
     refine c_reg ?_
     refine q_step (v := .agg #[.int .i64 pp0, .slice pp1A pp1.length pp1C]) hE168 (y_loadS Try.underlying30 rfl (by kernel_rfl) rfl (St.row (i := 0) hS166 rfl)) rfl rfl rfl ?_; intro a169 hE170; clear hE168
     refine l_step hE170 rfl (l_call (f := 171) (argv := [.agg #[.int .i64 pp0, .slice pp1A pp1.length pp1C], .int .i64 0]) hE170 (fun _ => cf_l05Flag _ _) rfl rfl (c_l05Flag pp0 pp1A pp1.length pp1C pp1 0 w163 (St.rdR (i := 1) hS166 rfl) (by omega) (by omega) (by assumption)) ?_)
     rintro _ w172 ⟨rfl, he176⟩ a173 hE174; clear hE170
     have hS175 := St.go hS166 he176; clear hS166
     refine q_step (v := .bool (F_l05Flag pp0 pp1 0)) hE174 (y_move rfl) rfl rfl rfl ?_; intro a177 hE178; clear hE174
     rcases Bool.eq_false_or_eq_true (F_l05Flag pp0 pp1 0) with hb179 | hb179
     ·
      have hE180 := hE178; (try rw [hb179] at hE180); clear hE178
      refine q_step (v := .agg #[.int .i64 pp0, .slice pp1A pp1.length pp1C]) hE180 (y_loadS Try.underlying30 rfl (by kernel_rfl) rfl (St.row (i := 0) hS175 rfl)) rfl rfl rfl ?_; intro a181 hE182; clear hE180
      refine l_step hE182 rfl (l_call (f := 171) (argv := [.agg #[.int .i64 pp0, .slice pp1A pp1.length pp1C], .int .i64 2]) hE182 (fun _ => cf_l05Flag _ _) rfl rfl (c_l05Flag pp0 pp1A pp1.length pp1C pp1 2 w172 (St.rdR (i := 1) hS175 rfl) (by omega) (by omega) (by assumption)) ?_)
      rintro _ w184 ⟨rfl, he188⟩ a185 hE186; clear hE182
      have hS187 := St.go hS175 he188; clear hS175
      refine q_step (v := .bool (F_l05Flag pp0 pp1 2)) hE186 (y_pick (b := true) rfl rfl) rfl rfl rfl ?_; intro a189 hE190; clear hE186
      refine q_step (v := .bool (F_l05Flag pp0 pp1 2)) hE190 (y_move rfl) rfl rfl rfl ?_; intro a191 hE192; clear hE190
      rcases Bool.eq_false_or_eq_true (F_l05Flag pp0 pp1 2) with hb193 | hb193
      ·
       have hE194 := hE192; (try rw [hb193] at hE194); clear hE192
       refine q_step (v := .agg #[.int .i64 pp0, .slice pp1A pp1.length pp1C]) hE194 (y_loadS Try.underlying30 rfl (by kernel_rfl) rfl (St.row (i := 0) hS187 rfl)) rfl rfl rfl ?_; intro a195 hE196; clear hE194
       refine l_step hE196 rfl (l_call (f := 171) (argv := [.agg #[.int .i64 pp0, .slice pp1A pp1.length pp1C], .int .i64 8]) hE196 (fun _ => cf_l05Flag _ _) rfl rfl (c_l05Flag pp0 pp1A pp1.length pp1C pp1 8 w184 (St.rdR (i := 1) hS187 rfl) (by omega) (by omega) (by assumption)) ?_)
       rintro _ w198 ⟨rfl, he202⟩ a199 hE200; clear hE196
       have hS201 := St.go hS187 he202; clear hS187
       refine q_step (v := .bool (F_l05Flag pp0 pp1 8)) hE200 (y_pick (b := true) rfl rfl) rfl rfl rfl ?_; intro a203 hE204; clear hE200
       refine q_step (v := .bool (F_l05Flag pp0 pp1 8)) hE204 (y_assign rfl) rfl rfl rfl ?_; intro a205 hE206; clear hE204
       refine c_nil ?_
       have hE207 := hE206.sub (L' := [(2, .bool (F_l05Flag pp0 pp1 8))]) ⟨rfl, trivial⟩; clear hE206
       refine p_tn ?_
       have hE208 := hE207.sub (L' := [(2, .bool (F_l05Flag pp0 pp1 8))]) ⟨rfl, trivial⟩
       have hS209 := (St.pick (Γ' := [.rd 1 pp1A pp1.length pp1C pp1, .blk b156 #[.int .i64 pp0, .slice pp1A pp1.length pp1C] 30, .blk b2 #[.int .i64 pp0, .slice pp1A pp1.length pp1C] 54]) hS201 [1, 0, 2] (by decide) rfl)
       exact ⟨(by rw [hb193, hb179]; exact hE208), hS209⟩
      ·
       have hE210 := hE192; (try rw [hb193] at hE210); clear hE192
       refine q_skip hE210 rfl rfl rfl ?_; intro a211 hE212; clear hE210
       refine q_skip hE212 rfl rfl rfl ?_; intro a213 hE214; clear hE212
       refine q_step (v := .bool false) hE214 (y_pick (b := false) rfl rfl) rfl rfl rfl ?_; intro a215 hE216; clear hE214
       refine q_step (v := .bool false) hE216 (y_assign rfl) rfl rfl rfl ?_; intro a217 hE218; clear hE216
       refine c_nil ?_
       have hE219 := hE218.sub (L' := [(2, .bool false)]) ⟨rfl, trivial⟩; clear hE218
       refine p_tn ?_
       have hE220 := hE219.sub (L' := [(2, .bool false)]) ⟨rfl, trivial⟩
       have hS221 := (St.pick (Γ' := [.rd 1 pp1A pp1.length pp1C pp1, .blk b156 #[.int .i64 pp0, .slice pp1A pp1.length pp1C] 30, .blk b2 #[.int .i64 pp0, .slice pp1A pp1.length pp1C] 54]) hS187 [1, 0, 2] (by decide) rfl)
       exact ⟨(by rw [hb193, hb179]; exact hE220), hS221⟩
     ·
      have hE222 := hE178; (try rw [hb179] at hE222); clear hE178
      refine q_skip hE222 rfl rfl rfl ?_; intro a223 hE224; clear hE222
      refine q_skip hE224 rfl rfl rfl ?_; intro a225 hE226; clear hE224
      refine q_step (v := .bool false) hE226 (y_pick (b := false) rfl rfl) rfl rfl rfl ?_; intro a227 hE228; clear hE226
      refine q_step (v := .bool false) hE228 (y_move rfl) rfl rfl rfl ?_; intro a229 hE230; clear hE228
      refine q_skip hE230 rfl rfl rfl ?_; intro a231 hE232; clear hE230
      refine q_skip hE232 rfl rfl rfl ?_; intro a233 hE234; clear hE232
      refine q_step (v := .bool false) hE234 (y_pick (b := false) rfl rfl) rfl rfl rfl ?_; intro a235 hE236; clear hE234
      refine q_step (v := .bool false) hE236 (y_assign rfl) rfl rfl rfl ?_; intro a237 hE238; clear hE236
      refine c_nil ?_
      have hE239 := hE238.sub (L' := [(2, .bool false)]) ⟨rfl, trivial⟩; clear hE238
      refine p_tn ?_
      have hE240 := hE239.sub (L' := [(2, .bool false)]) ⟨rfl, trivial⟩
      have hS241 := (St.pick (Γ' := [.rd 1 pp1A pp1.length pp1C pp1, .blk b156 #[.int .i64 pp0, .slice pp1A pp1.length pp1C] 30, .blk b2 #[.int .i64 pp0, .slice pp1A pp1.length pp1C] 54]) hS175 [1, 0, 2] (by decide) rfl)
      exact ⟨(by rw [hb179]; exact hE240), hS241⟩
    ·
     rintro a242 w243 ⟨hE244, hS245⟩; clear hE168 hS166
     refine wp_ret ?_
     have hF : F_l16Is pp0 pp1 = ((F_l05Flag pp0 pp1 0) && ((F_l05Flag pp0 pp1 2) && (F_l05Flag pp0 pp1 8))) := by unfold F_l16Is; rw [ht130]; first | done | rfl
     refine c_ret1 hE244 rfl rfl ?_
     exact ⟨(by rw [hF]; first | done | (dsimp only; done) | rfl), hS245.ext⟩

theorem l16Is_t {p0 : Int} {p1 : List Int} (h : F_l16Is p0 p1 = true) : (0 ≤ p0 ∧ p0 ≤ 8) ∧ (p1.length : Int) = p0 ∧ ∀ m : Int, 0 ≤ m → m < (p1.length : Int) → 0 ≤ gI p1 m ∧ gI p1 m ≤ fullI p0 := by
  unfold F_l16Is at h
  cases h1 : ((!(F_l01In p0 0 8)) || ((!decide ((p1.length : Int) = p0)) || (!(F_l01Masks p0 p1))))
  · obtain ⟨h2, h3⟩ := bor_f h1
    obtain ⟨h3, h4⟩ := bor_f h3
    exact ⟨F_l01In_t (bn_f h2), of_decide_eq_true (bn_f h3), masks_mem (bn_f h4)⟩
  · rw [h1] at h; cases h
theorem isRel_p {a : List Int} (h : F_isRelation a = true) (h8 : (a.length : Int) ≤ 8) (_h0 : 0 ≤ (a.length : Int)) : ∀ m : Int, 0 ≤ m → m < (a.length : Int) → 0 ≤ gI a m ∧ gI a m ≤ fullI (a.length : Int) := by
  rw [isRel_eq (by omega)] at h; exact masks_mem h

def F_isPoset (pp0 : Int) (pp1 : List Int) : Bool :=
  bif ((!(F_inRange pp0 0 8)) || ((!decide ((pp1.length : Int) = pp0)) || (!(F_isRelation pp1)))) then false else ((F_Frame_hasFlag ((F_Poset_frame pp0 pp1).1) pp1 0) && ((F_Frame_hasFlag ((F_Poset_frame pp0 pp1).1) pp1 2) && (F_Frame_hasFlag ((F_Poset_frame pp0 pp1).1) pp1 8)))
theorem cf_isPoset (args : Array Value) (w : World) : (callFunc 100 args).run Try.prog w = .ok (.enter 100 args) w := by kernel_rfl
set_option maxRecDepth 100000 in
theorem c_isPoset (pp0 : Int) (pp1A : Option Addr) (pp1N pp1C : Nat) (pp1 : List Int) (w : World) (pp1R : RdS w 1 pp1A pp1N pp1C pp1) :
    Calls Try.prog 100 #[.agg #[.int .i64 pp0, .slice pp1A pp1N pp1C]] w (Ret fun v w' => v = .bool (F_isPoset pp0 pp1) ∧ Ext w w') := by
  obtain rfl : pp1N = pp1.length := pp1R.len1.symm
  have pp1Le := pp1R.le
  have hS := St.nil w
  have hS1 := St.rd0 hS rfl pp1R; clear hS
  refine enter (args := [.agg #[.int .i64 pp0, .slice pp1A pp1.length pp1C]]) Try.func100 rfl rfl ?_
  rw [Try.ntmps100]; intro a hE
  have hE := hE.sub (L' := [(0, .agg #[.int .i64 pp0, .slice pp1A pp1.length pp1C])]) ⟨rfl, trivial⟩
  refine c_seq ?_
  refine c_reg ?_
  refine l_step hE rfl (l_box (v := .agg #[.int .i64 pp0, .slice pp1A pp1.length pp1C]) (cs := #[.int .i64 pp0, .slice pp1A pp1.length pp1C]) hS1 hE rfl rfl rfl ?_)
  intro b2 w3 hS6 he7 a4 hE5; clear hS1 hE
  refine q_step (v := .bool false) hE5 (y_assign rfl) rfl rfl rfl ?_; intro a8 hE9; clear hE5
  refine c_nil ?_
  have hE10 := hE9.sub (L' := [(1, .pointer (some ⟨b2, 0, none⟩))]) ⟨rfl, trivial⟩; clear hE9
  refine p_tn ?_
  refine c_seq ?_
  refine c_cut (fun a' w' => E a' 34 [(1, .pointer (some ⟨b2, 0, none⟩)), (21, .bool ((!(F_inRange pp0 0 8)) || ((!decide ((pp1.length : Int) = pp0)) || (!(F_isRelation pp1)))))] ∧ St w w' [.rd 1 pp1A pp1.length pp1C pp1, .blk b2 #[.int .i64 pp0, .slice pp1A pp1.length pp1C] 54]) ?_ ?_
  ·
   refine d_start (fun w w' => (fun w' => w'.cell? ⟨b2, 0, none⟩ = some (.int .i64 pp0) ∧ w'.cell? ⟨b2, 1, none⟩ = some (.slice pp1A pp1.length pp1C) ∧ w'.cell? ⟨b2, 0, none⟩ = some (.int .i64 pp0) ∧ w'.cell? ⟨b2, 1, none⟩ = some (.slice pp1A pp1.length pp1C) ∧ True) w → (fun w' => w'.cell? ⟨b2, 0, none⟩ = some (.int .i64 pp0) ∧ w'.cell? ⟨b2, 1, none⟩ = some (.slice pp1A pp1.length pp1C) ∧ w'.cell? ⟨b2, 0, none⟩ = some (.int .i64 pp0) ∧ w'.cell? ⟨b2, 1, none⟩ = some (.slice pp1A pp1.length pp1C) ∧ True) w') [1, 6, 9, 14] 18 (by kernel_rfl) rfl ?_
   intro w11 he12; have hS13 := St.go hS6 he12; clear hS6
   refine d_pure (fun _ h => h) (v := .pointer (some ⟨b2, 0, none⟩)) 0 rfl hE10 (y_field rfl (fun _ => by kernel_rfl)) rfl (by kernel_rfl) (by kernel_rfl) (by kernel_rfl) rfl rfl (fun _ _ _ h => h) ?_; intro a14 hE15; clear hE10
   refine d_take (fun _ h => h) (fun _ _ h k => h k) (v := .int .i64 pp0) 1 rfl hE15 (S := fun w' => w'.cell? ⟨b2, 0, none⟩ = some (.int .i64 pp0) ∧ w'.cell? ⟨b2, 1, none⟩ = some (.slice pp1A pp1.length pp1C) ∧ w'.cell? ⟨b2, 0, none⟩ = some (.int .i64 pp0) ∧ w'.cell? ⟨b2, 1, none⟩ = some (.slice pp1A pp1.length pp1C) ∧ True) ⟨(St.cell (i := 0) hS13 rfl rfl _ (Ext.refl _)), (St.cell (i := 0) hS13 rfl rfl _ (Ext.refl _)), (St.cell (i := 0) hS13 rfl rfl _ (Ext.refl _)), (St.cell (i := 0) hS13 rfl rfl _ (Ext.refl _)), trivial⟩ (y_load (fun _ => by kernel_rfl) rfl (fun _ h => h.1)) rfl rfl (by kernel_rfl) (by kernel_rfl) (by kernel_rfl) (by kernel_rfl) rfl rfl (fun _ _ _ h => h) ?_; intro a16 hE17; clear hE15
   refine d_only 2 (by kernel_rfl) rfl hE17 rfl (l_call (f := 87) (argv := [.int .i64 pp0, .int .i64 0, .int .i64 8]) hE17 (fun _ => cf_inRange _ _) rfl rfl (c_inRange pp0 0 8 w11) ?_)
   rintro _ _ ⟨rfl, rfl⟩ a20 hE21; clear hE17
   refine ⟨fun _ _ => ⟨(St.cell (i := 0) hS13 rfl rfl _ (Ext.refl _)), (St.cell (i := 0) hS13 rfl rfl _ (Ext.refl _)), (St.cell (i := 0) hS13 rfl rfl _ (Ext.refl _)), (St.cell (i := 0) hS13 rfl rfl _ (Ext.refl _)), trivial⟩, ?_⟩
   refine d_pure (fun _ h => h) (v := .bool (!(F_inRange pp0 0 8))) 3 rfl hE21 (y_not rfl) rfl (by kernel_rfl) (by kernel_rfl) (by kernel_rfl) rfl rfl (fun _ _ _ h => h) ?_; intro a24 hE25; clear hE21
   refine d_pure (fun _ h => h) (v := .bool (!(F_inRange pp0 0 8))) 4 rfl hE25 (y_move rfl) rfl (by kernel_rfl) (by kernel_rfl) (by kernel_rfl) rfl rfl (fun _ _ _ h => h) ?_; intro a26 hE27; clear hE25
   rcases Bool.eq_false_or_eq_true (!(F_inRange pp0 0 8)) with hb28 | hb28
   ·
    have hE29 := hE27; (try rw [hb28] at hE29); clear hE27
    have ht30 := bn_t hb28
    refine d_skip (fun _ h => h) 5 rfl hE29 rfl (by kernel_rfl) (by kernel_rfl) (by kernel_rfl) rfl rfl (fun _ _ _ h => h) ?_; intro a31 hE32; clear hE29
    refine d_skip (fun _ h => h) 6 rfl hE32 rfl (by kernel_rfl) (by kernel_rfl) (by kernel_rfl) rfl rfl (fun _ _ _ h => h) ?_; intro a33 hE34; clear hE32
    refine d_skip (fun _ h => h) 7 rfl hE34 rfl (by kernel_rfl) (by kernel_rfl) (by kernel_rfl) rfl rfl (fun _ _ _ h => h) ?_; intro a35 hE36; clear hE34
    refine d_skip (fun _ h => h) 8 rfl hE36 rfl (by kernel_rfl) (by kernel_rfl) (by kernel_rfl) rfl rfl (fun _ _ _ h => h) ?_; intro a37 hE38; clear hE36
    refine d_skip (fun _ h => h) 9 rfl hE38 rfl (by kernel_rfl) (by kernel_rfl) (by kernel_rfl) rfl rfl (fun _ _ _ h => h) ?_; intro a39 hE40; clear hE38
    refine d_skip (fun _ h => h) 10 rfl hE40 rfl (by kernel_rfl) (by kernel_rfl) (by kernel_rfl) rfl rfl (fun _ _ _ h => h) ?_; intro a41 hE42; clear hE40
    refine d_pure (fun _ h => h) (v := .bool true) 11 rfl hE42 (y_pick (b := true) rfl rfl) rfl (by kernel_rfl) (by kernel_rfl) (by kernel_rfl) rfl rfl (fun _ _ _ h => h) ?_; intro a43 hE44; clear hE42
    refine d_pure (fun _ h => h) (v := .bool true) 12 rfl hE44 (y_move rfl) rfl (by kernel_rfl) (by kernel_rfl) (by kernel_rfl) rfl rfl (fun _ _ _ h => h) ?_; intro a45 hE46; clear hE44
    refine d_skip (fun _ h => h) 13 rfl hE46 rfl (by kernel_rfl) (by kernel_rfl) (by kernel_rfl) rfl rfl (fun _ _ _ h => h) ?_; intro a47 hE48; clear hE46
    refine d_skip (fun _ h => h) 14 rfl hE48 rfl (by kernel_rfl) (by kernel_rfl) (by kernel_rfl) rfl rfl (fun _ _ _ h => h) ?_; intro a49 hE50; clear hE48
    refine d_skip (fun _ h => h) 15 rfl hE50 rfl (by kernel_rfl) (by kernel_rfl) (by kernel_rfl) rfl rfl (fun _ _ _ h => h) ?_; intro a51 hE52; clear hE50
    refine d_skip (fun _ h => h) 16 rfl hE52 rfl (by kernel_rfl) (by kernel_rfl) (by kernel_rfl) rfl rfl (fun _ _ _ h => h) ?_; intro a53 hE54; clear hE52
    refine d_pure (fun _ h => h) (v := .bool true) 17 rfl hE54 (y_pick (b := true) rfl rfl) rfl (by kernel_rfl) (by kernel_rfl) (by kernel_rfl) rfl rfl (fun _ _ _ h => h) ?_; intro a55 hE56; clear hE54
    refine d_done (by kernel_rfl) ?_
    have hE57 := hE56.sub (L' := [(1, .pointer (some ⟨b2, 0, none⟩)), (21, .bool true)]) ⟨rfl, rfl, trivial⟩; clear hE56
    refine p_tn ?_
    have hE58 := hE57.sub (L' := [(1, .pointer (some ⟨b2, 0, none⟩)), (21, .bool true)]) ⟨rfl, rfl, trivial⟩
    have hS59 := (St.pick (Γ' := [.rd 1 pp1A pp1.length pp1C pp1, .blk b2 #[.int .i64 pp0, .slice pp1A pp1.length pp1C] 54]) hS13 [1, 0] (by decide) rfl)
    exact ⟨(by rw [hb28]; exact hE58), hS59⟩
   ·
    have hE60 := hE27; (try rw [hb28] at hE60); clear hE27
    have ht61 := bn_f hb28
    have hp62 := F_inRange_t ht61
    refine d_pure (fun _ h => h) (v := .pointer (some ⟨b2, 1, none⟩)) 5 rfl hE60 (y_field rfl (fun _ => by kernel_rfl)) rfl (by kernel_rfl) (by kernel_rfl) (by kernel_rfl) rfl rfl (fun _ _ _ h => h) ?_; intro a63 hE64; clear hE60
    refine d_take (fun _ h => h) (fun _ _ h k => h k) (v := .slice pp1A pp1.length pp1C) 6 rfl hE64 (S := fun w' => w'.cell? ⟨b2, 0, none⟩ = some (.int .i64 pp0) ∧ w'.cell? ⟨b2, 1, none⟩ = some (.slice pp1A pp1.length pp1C) ∧ w'.cell? ⟨b2, 0, none⟩ = some (.int .i64 pp0) ∧ w'.cell? ⟨b2, 1, none⟩ = some (.slice pp1A pp1.length pp1C) ∧ True) ⟨(St.cell (i := 0) hS13 rfl rfl _ (Ext.refl _)), (St.cell (i := 0) hS13 rfl rfl _ (Ext.refl _)), (St.cell (i := 0) hS13 rfl rfl _ (Ext.refl _)), (St.cell (i := 0) hS13 rfl rfl _ (Ext.refl _)), trivial⟩ (y_load (fun _ => by kernel_rfl) rfl (fun _ h => h.2.1)) rfl rfl (by kernel_rfl) (by kernel_rfl) (by kernel_rfl) (by kernel_rfl) rfl rfl (fun _ _ _ h => h) ?_; intro a65 hE66; clear hE64
    refine d_pure (fun _ h => h) (v := .pointer (some ⟨b2, 0, none⟩)) 8 rfl hE66 (y_field rfl (fun _ => by kernel_rfl)) rfl (by kernel_rfl) (by kernel_rfl) (by kernel_rfl) rfl rfl (fun _ _ _ h => h) ?_; intro a67 hE68; clear hE66
    refine d_take (fun _ h => h) (fun _ _ h k => h k) (v := .int .i64 pp0) 9 rfl hE68 (S := fun w' => w'.cell? ⟨b2, 0, none⟩ = some (.int .i64 pp0) ∧ w'.cell? ⟨b2, 1, none⟩ = some (.slice pp1A pp1.length pp1C) ∧ w'.cell? ⟨b2, 0, none⟩ = some (.int .i64 pp0) ∧ w'.cell? ⟨b2, 1, none⟩ = some (.slice pp1A pp1.length pp1C) ∧ True) ⟨(St.cell (i := 0) hS13 rfl rfl _ (Ext.refl _)), (St.cell (i := 0) hS13 rfl rfl _ (Ext.refl _)), (St.cell (i := 0) hS13 rfl rfl _ (Ext.refl _)), (St.cell (i := 0) hS13 rfl rfl _ (Ext.refl _)), trivial⟩ (y_load (fun _ => by kernel_rfl) rfl (fun _ h => h.2.2.1)) rfl rfl (by kernel_rfl) (by kernel_rfl) (by kernel_rfl) (by kernel_rfl) rfl rfl (fun _ _ _ h => h) ?_; intro a69 hE70; clear hE68
    refine d_only 7 (by kernel_rfl) rfl hE70 rfl (l_call (f := 165) (argv := [.slice pp1A pp1.length pp1C]) hE70 (fun _ => cf_size _ _) rfl rfl (d_size pp1A pp1.length pp1C pp1 w11 (St.rdR (i := 1) hS13 rfl)) ?_)
    rintro _ _ ⟨rfl, rfl⟩ a73 hE74; clear hE70
    refine ⟨fun _ _ => ⟨(St.cell (i := 0) hS13 rfl rfl _ (Ext.refl _)), (St.cell (i := 0) hS13 rfl rfl _ (Ext.refl _)), (St.cell (i := 0) hS13 rfl rfl _ (Ext.refl _)), (St.cell (i := 0) hS13 rfl rfl _ (Ext.refl _)), trivial⟩, ?_⟩
    refine d_pure (fun _ h => h) (v := .bool (!decide ((pp1.length : Int) = pp0))) 10 rfl hE74 (y_neq rfl rfl) rfl (by kernel_rfl) (by kernel_rfl) (by kernel_rfl) rfl rfl (fun _ _ _ h => h) ?_; intro a77 hE78; clear hE74
    refine d_pure (fun _ h => h) (v := .bool (!decide ((pp1.length : Int) = pp0))) 11 rfl hE78 (y_pick (b := false) rfl rfl) rfl (by kernel_rfl) (by kernel_rfl) (by kernel_rfl) rfl rfl (fun _ _ _ h => h) ?_; intro a79 hE80; clear hE78
    refine d_pure (fun _ h => h) (v := .bool (!decide ((pp1.length : Int) = pp0))) 12 rfl hE80 (y_move rfl) rfl (by kernel_rfl) (by kernel_rfl) (by kernel_rfl) rfl rfl (fun _ _ _ h => h) ?_; intro a81 hE82; clear hE80
    rcases Bool.eq_false_or_eq_true (!decide ((pp1.length : Int) = pp0)) with hb83 | hb83
    ·
     have hE84 := hE82; (try rw [hb83] at hE84); clear hE82
     have ht85 := bn_t hb83
     have hp86 := of_decide_eq_false ht85
     refine d_skip (fun _ h => h) 13 rfl hE84 rfl (by kernel_rfl) (by kernel_rfl) (by kernel_rfl) rfl rfl (fun _ _ _ h => h) ?_; intro a87 hE88; clear hE84
     refine d_skip (fun _ h => h) 14 rfl hE88 rfl (by kernel_rfl) (by kernel_rfl) (by kernel_rfl) rfl rfl (fun _ _ _ h => h) ?_; intro a89 hE90; clear hE88
     refine d_skip (fun _ h => h) 15 rfl hE90 rfl (by kernel_rfl) (by kernel_rfl) (by kernel_rfl) rfl rfl (fun _ _ _ h => h) ?_; intro a91 hE92; clear hE90
     refine d_skip (fun _ h => h) 16 rfl hE92 rfl (by kernel_rfl) (by kernel_rfl) (by kernel_rfl) rfl rfl (fun _ _ _ h => h) ?_; intro a93 hE94; clear hE92
     refine d_pure (fun _ h => h) (v := .bool true) 17 rfl hE94 (y_pick (b := true) rfl rfl) rfl (by kernel_rfl) (by kernel_rfl) (by kernel_rfl) rfl rfl (fun _ _ _ h => h) ?_; intro a95 hE96; clear hE94
     refine d_done (by kernel_rfl) ?_
     have hE97 := hE96.sub (L' := [(1, .pointer (some ⟨b2, 0, none⟩)), (21, .bool true)]) ⟨rfl, rfl, trivial⟩; clear hE96
     refine p_tn ?_
     have hE98 := hE97.sub (L' := [(1, .pointer (some ⟨b2, 0, none⟩)), (21, .bool true)]) ⟨rfl, rfl, trivial⟩
     have hS99 := (St.pick (Γ' := [.rd 1 pp1A pp1.length pp1C pp1, .blk b2 #[.int .i64 pp0, .slice pp1A pp1.length pp1C] 54]) hS13 [1, 0] (by decide) rfl)
     exact ⟨(by rw [hb83, hb28]; exact hE98), hS99⟩
    ·
     have hE100 := hE82; (try rw [hb83] at hE100); clear hE82
     have ht101 := bn_f hb83
     have hp102 := of_decide_eq_true ht101
     refine d_pure (fun _ h => h) (v := .pointer (some ⟨b2, 1, none⟩)) 13 rfl hE100 (y_field rfl (fun _ => by kernel_rfl)) rfl (by kernel_rfl) (by kernel_rfl) (by kernel_rfl) rfl rfl (fun _ _ _ h => h) ?_; intro a103 hE104; clear hE100
     refine d_take (fun _ h => h) (fun _ _ h k => h k) (v := .slice pp1A pp1.length pp1C) 14 rfl hE104 (S := fun w' => w'.cell? ⟨b2, 0, none⟩ = some (.int .i64 pp0) ∧ w'.cell? ⟨b2, 1, none⟩ = some (.slice pp1A pp1.length pp1C) ∧ w'.cell? ⟨b2, 0, none⟩ = some (.int .i64 pp0) ∧ w'.cell? ⟨b2, 1, none⟩ = some (.slice pp1A pp1.length pp1C) ∧ True) ⟨(St.cell (i := 0) hS13 rfl rfl _ (Ext.refl _)), (St.cell (i := 0) hS13 rfl rfl _ (Ext.refl _)), (St.cell (i := 0) hS13 rfl rfl _ (Ext.refl _)), (St.cell (i := 0) hS13 rfl rfl _ (Ext.refl _)), trivial⟩ (y_load (fun _ => by kernel_rfl) rfl (fun _ h => h.2.2.2.1)) rfl rfl (by kernel_rfl) (by kernel_rfl) (by kernel_rfl) (by kernel_rfl) rfl rfl (fun _ _ _ h => h) ?_; intro a105 hE106; clear hE104
     refine d_only 15 (by kernel_rfl) rfl hE106 rfl (l_call (f := 166) (argv := [.slice pp1A pp1.length pp1C]) hE106 (fun _ => cf_isRelation _ _) rfl rfl (c_isRelation pp1A pp1.length pp1C pp1 w11 (St.rdR (i := 1) hS13 rfl)) ?_)
     rintro _ w108 ⟨rfl, he112⟩ a109 hE110; clear hE106
     have hS111 := St.go hS13 he112; clear hS13
     refine ⟨fun h => Bool.noConfusion (h.symm.trans (show exm _ _ _ = true by kernel_rfl)), ?_⟩
     refine d_pure (fun _ h => h) (v := .bool (!(F_isRelation pp1))) 16 rfl hE110 (y_not rfl) rfl (by kernel_rfl) (by kernel_rfl) (by kernel_rfl) rfl rfl (fun _ _ _ h => h) ?_; intro a113 hE114; clear hE110
     refine d_pure (fun _ h => h) (v := .bool (!(F_isRelation pp1))) 17 rfl hE114 (y_pick (b := false) rfl rfl) rfl (by kernel_rfl) (by kernel_rfl) (by kernel_rfl) rfl rfl (fun _ _ _ h => h) ?_; intro a115 hE116; clear hE114
     refine d_done (by kernel_rfl) ?_
     have hE117 := hE116.sub (L' := [(1, .pointer (some ⟨b2, 0, none⟩)), (21, .bool (!(F_isRelation pp1)))]) ⟨rfl, rfl, trivial⟩; clear hE116
     refine p_tn ?_
     have hE118 := hE117.sub (L' := [(1, .pointer (some ⟨b2, 0, none⟩)), (21, .bool (!(F_isRelation pp1)))]) ⟨rfl, rfl, trivial⟩
     have hS119 := (St.pick (Γ' := [.rd 1 pp1A pp1.length pp1C pp1, .blk b2 #[.int .i64 pp0, .slice pp1A pp1.length pp1C] 54]) hS111 [1, 0] (by decide) rfl)
     exact ⟨(by rw [hb83, hb28]; exact hE118), hS119⟩
  ·
   rintro a120 w121 ⟨hE122, hS123⟩; clear hE10 hS6
   refine c_cond hE122 rfl (fun ht125 => ?_) (fun ht125 => ?_)
   ·
    have hE126 := hE122; rw [ht125] at hE126; clear hE122
    refine c_seq ?_
    refine c_reg ?_
    refine q_step (v := .bool false) hE126 (y_assign rfl) rfl rfl rfl ?_; intro a127 hE128; clear hE126
    refine c_nil ?_
    have hE129 := hE128.sub (L' := [(2, .bool false)]) ⟨rfl, trivial⟩; clear hE128
    refine p_tn ?_
    refine wp_ret ?_
    refine p_tr ?_
    have hF : F_isPoset pp0 pp1 = false := by unfold F_isPoset; rw [ht125]; first | done | rfl
    refine c_ret1 hE129 rfl rfl ?_
    exact ⟨(by rw [hF]; first | done | (dsimp only; done) | rfl), hS123.ext⟩
   ·
    obtain ⟨ht130, ht131⟩ := bor_f ht125
    have ht132 := bn_f ht130
    have hp133 := F_inRange_t ht132
    obtain ⟨ht134, ht135⟩ := bor_f ht131
    have ht136 := bn_f ht134
    have hp137 := of_decide_eq_true ht136
    have ht138 := bn_f ht135
    have hE139 := hE122; rw [ht125] at hE139; clear hE122
    refine wp_skip ?_
    refine p_tn ?_
    refine c_seq ?_
    refine c_reg ?_
    refine q_step (v := .agg #[.int .i64 pp0, .slice pp1A pp1.length pp1C]) hE139 (y_loadS Try.underlying54 rfl (by kernel_rfl) rfl (St.row (i := 1) hS123 rfl)) rfl rfl rfl ?_; intro a140 hE141; clear hE139
    refine l_step hE141 rfl (l_call (f := 175) (argv := [.agg #[.int .i64 pp0, .slice pp1A pp1.length pp1C]]) hE141 (fun _ => cf_Poset_frame _ _) rfl rfl (c_Poset_frame pp0 pp1A pp1.length pp1C pp1 w121 (St.rdR (i := 0) hS123 rfl)) ?_)
    rintro _ w143 ⟨rfl, he147⟩ a144 hE145; clear hE141
    have hS146 := St.go hS123 he147; clear hS123
    refine l_step hE145 rfl (l_alloc (z := .agg #[.int .i64 0, .slice none 0 0]) (cs := #[.int .i64 0, .slice none 0 0]) hS146 hE145 (fun _ => by kernel_rfl) rfl rfl ?_)
    intro b148 w149 hS152 he153 a150 hE151; clear hS146 hE145
    refine l_step hE151 rfl (l_storeS (k := 0) (cs' := #[.int .i64 ((F_Poset_frame pp0 pp1).1), .slice pp1A pp1.length pp1C]) hS152 hE151 (by kernel_rfl) rfl rfl (by kernel_rfl) rfl rfl ?_)
    intro w155 hS158 a156 hE157; clear hS152 hE151
    refine c_nil ?_
    have hE160 := hE157.sub (L' := [(3, .pointer (some ⟨b148, 0, none⟩))]) ⟨rfl, trivial⟩; clear hE157
    refine p_tn ?_
    refine c_cut (fun a' w' => E a' 34 [(2, .bool ((F_Frame_hasFlag ((F_Poset_frame pp0 pp1).1) pp1 0) && ((F_Frame_hasFlag ((F_Poset_frame pp0 pp1).1) pp1 2) && (F_Frame_hasFlag ((F_Poset_frame pp0 pp1).1) pp1 8))))] ∧ St w w' [.rd 1 pp1A pp1.length pp1C pp1, .blk b148 #[.int .i64 ((F_Poset_frame pp0 pp1).1), .slice pp1A pp1.length pp1C] 30, .blk b2 #[.int .i64 pp0, .slice pp1A pp1.length pp1C] 54]) ?_ ?_
    ·
     refine c_reg ?_
     refine q_step (v := .agg #[.int .i64 ((F_Poset_frame pp0 pp1).1), .slice pp1A pp1.length pp1C]) hE160 (y_loadS Try.underlying30 rfl (by kernel_rfl) rfl (St.row (i := 0) hS158 rfl)) rfl rfl rfl ?_; intro a161 hE162; clear hE160
     refine l_step hE162 rfl (l_call (f := 176) (argv := [.agg #[.int .i64 ((F_Poset_frame pp0 pp1).1), .slice pp1A pp1.length pp1C], .int .i64 0]) hE162 (fun _ => cf_Frame_hasFlag _ _) rfl rfl (c_Frame_hasFlag ((F_Poset_frame pp0 pp1).1) pp1A pp1.length pp1C pp1 0 w155 (St.rdR (i := 1) hS158 rfl) (show 0 ≤ (pp1.length : Int) ∧ (pp1.length : Int) ≤ 8 by omega) rfl (isRel_p (by assumption) (by omega) (by omega))) ?_)
     rintro _ w164 ⟨rfl, he168⟩ a165 hE166; clear hE162
     have hS167 := St.go hS158 he168; clear hS158
     refine q_step (v := .bool (F_Frame_hasFlag ((F_Poset_frame pp0 pp1).1) pp1 0)) hE166 (y_move rfl) rfl rfl rfl ?_; intro a169 hE170; clear hE166
     rcases Bool.eq_false_or_eq_true (F_Frame_hasFlag ((F_Poset_frame pp0 pp1).1) pp1 0) with hb171 | hb171
     ·
      have hE172 := hE170; (try rw [hb171] at hE172); clear hE170
      refine q_step (v := .agg #[.int .i64 ((F_Poset_frame pp0 pp1).1), .slice pp1A pp1.length pp1C]) hE172 (y_loadS Try.underlying30 rfl (by kernel_rfl) rfl (St.row (i := 0) hS167 rfl)) rfl rfl rfl ?_; intro a173 hE174; clear hE172
      refine l_step hE174 rfl (l_call (f := 176) (argv := [.agg #[.int .i64 ((F_Poset_frame pp0 pp1).1), .slice pp1A pp1.length pp1C], .int .i64 2]) hE174 (fun _ => cf_Frame_hasFlag _ _) rfl rfl (c_Frame_hasFlag ((F_Poset_frame pp0 pp1).1) pp1A pp1.length pp1C pp1 2 w164 (St.rdR (i := 1) hS167 rfl) (show 0 ≤ (pp1.length : Int) ∧ (pp1.length : Int) ≤ 8 by omega) rfl (isRel_p (by assumption) (by omega) (by omega))) ?_)
      rintro _ w176 ⟨rfl, he180⟩ a177 hE178; clear hE174
      have hS179 := St.go hS167 he180; clear hS167
      refine q_step (v := .bool (F_Frame_hasFlag ((F_Poset_frame pp0 pp1).1) pp1 2)) hE178 (y_pick (b := true) rfl rfl) rfl rfl rfl ?_; intro a181 hE182; clear hE178
      refine q_step (v := .bool (F_Frame_hasFlag ((F_Poset_frame pp0 pp1).1) pp1 2)) hE182 (y_move rfl) rfl rfl rfl ?_; intro a183 hE184; clear hE182
      rcases Bool.eq_false_or_eq_true (F_Frame_hasFlag ((F_Poset_frame pp0 pp1).1) pp1 2) with hb185 | hb185
      ·
       have hE186 := hE184; (try rw [hb185] at hE186); clear hE184
       refine q_step (v := .agg #[.int .i64 ((F_Poset_frame pp0 pp1).1), .slice pp1A pp1.length pp1C]) hE186 (y_loadS Try.underlying30 rfl (by kernel_rfl) rfl (St.row (i := 0) hS179 rfl)) rfl rfl rfl ?_; intro a187 hE188; clear hE186
       refine l_step hE188 rfl (l_call (f := 176) (argv := [.agg #[.int .i64 ((F_Poset_frame pp0 pp1).1), .slice pp1A pp1.length pp1C], .int .i64 8]) hE188 (fun _ => cf_Frame_hasFlag _ _) rfl rfl (c_Frame_hasFlag ((F_Poset_frame pp0 pp1).1) pp1A pp1.length pp1C pp1 8 w176 (St.rdR (i := 1) hS179 rfl) (show 0 ≤ (pp1.length : Int) ∧ (pp1.length : Int) ≤ 8 by omega) rfl (isRel_p (by assumption) (by omega) (by omega))) ?_)
       rintro _ w190 ⟨rfl, he194⟩ a191 hE192; clear hE188
       have hS193 := St.go hS179 he194; clear hS179
       refine q_step (v := .bool (F_Frame_hasFlag ((F_Poset_frame pp0 pp1).1) pp1 8)) hE192 (y_pick (b := true) rfl rfl) rfl rfl rfl ?_; intro a195 hE196; clear hE192
       refine q_step (v := .bool (F_Frame_hasFlag ((F_Poset_frame pp0 pp1).1) pp1 8)) hE196 (y_assign rfl) rfl rfl rfl ?_; intro a197 hE198; clear hE196
       refine c_nil ?_
       have hE199 := hE198.sub (L' := [(2, .bool (F_Frame_hasFlag ((F_Poset_frame pp0 pp1).1) pp1 8))]) ⟨rfl, trivial⟩; clear hE198
       refine p_tn ?_
       have hE200 := hE199.sub (L' := [(2, .bool (F_Frame_hasFlag ((F_Poset_frame pp0 pp1).1) pp1 8))]) ⟨rfl, trivial⟩
       have hS201 := (St.pick (Γ' := [.rd 1 pp1A pp1.length pp1C pp1, .blk b148 #[.int .i64 ((F_Poset_frame pp0 pp1).1), .slice pp1A pp1.length pp1C] 30, .blk b2 #[.int .i64 pp0, .slice pp1A pp1.length pp1C] 54]) hS193 [1, 0, 2] (by decide) rfl)
       exact ⟨(by rw [hb185, hb171]; exact hE200), hS201⟩
      ·
       have hE202 := hE184; (try rw [hb185] at hE202); clear hE184
       refine q_skip hE202 rfl rfl rfl ?_; intro a203 hE204; clear hE202
       refine q_skip hE204 rfl rfl rfl ?_; intro a205 hE206; clear hE204
       refine q_step (v := .bool false) hE206 (y_pick (b := false) rfl rfl) rfl rfl rfl ?_; intro a207 hE208; clear hE206
       refine q_step (v := .bool false) hE208 (y_assign rfl) rfl rfl rfl ?_; intro a209 hE210; clear hE208
       refine c_nil ?_
       have hE211 := hE210.sub (L' := [(2, .bool false)]) ⟨rfl, trivial⟩; clear hE210
       refine p_tn ?_
       have hE212 := hE211.sub (L' := [(2, .bool false)]) ⟨rfl, trivial⟩
       have hS213 := (St.pick (Γ' := [.rd 1 pp1A pp1.length pp1C pp1, .blk b148 #[.int .i64 ((F_Poset_frame pp0 pp1).1), .slice pp1A pp1.length pp1C] 30, .blk b2 #[.int .i64 pp0, .slice pp1A pp1.length pp1C] 54]) hS179 [1, 0, 2] (by decide) rfl)
       exact ⟨(by rw [hb185, hb171]; exact hE212), hS213⟩
     ·
      have hE214 := hE170; (try rw [hb171] at hE214); clear hE170
      refine q_skip hE214 rfl rfl rfl ?_; intro a215 hE216; clear hE214
      refine q_skip hE216 rfl rfl rfl ?_; intro a217 hE218; clear hE216
      refine q_step (v := .bool false) hE218 (y_pick (b := false) rfl rfl) rfl rfl rfl ?_; intro a219 hE220; clear hE218
      refine q_step (v := .bool false) hE220 (y_move rfl) rfl rfl rfl ?_; intro a221 hE222; clear hE220
      refine q_skip hE222 rfl rfl rfl ?_; intro a223 hE224; clear hE222
      refine q_skip hE224 rfl rfl rfl ?_; intro a225 hE226; clear hE224
      refine q_step (v := .bool false) hE226 (y_pick (b := false) rfl rfl) rfl rfl rfl ?_; intro a227 hE228; clear hE226
      refine q_step (v := .bool false) hE228 (y_assign rfl) rfl rfl rfl ?_; intro a229 hE230; clear hE228
      refine c_nil ?_
      have hE231 := hE230.sub (L' := [(2, .bool false)]) ⟨rfl, trivial⟩; clear hE230
      refine p_tn ?_
      have hE232 := hE231.sub (L' := [(2, .bool false)]) ⟨rfl, trivial⟩
      have hS233 := (St.pick (Γ' := [.rd 1 pp1A pp1.length pp1C pp1, .blk b148 #[.int .i64 ((F_Poset_frame pp0 pp1).1), .slice pp1A pp1.length pp1C] 30, .blk b2 #[.int .i64 pp0, .slice pp1A pp1.length pp1C] 54]) hS167 [1, 0, 2] (by decide) rfl)
      exact ⟨(by rw [hb171]; exact hE232), hS233⟩
    ·
     rintro a234 w235 ⟨hE236, hS237⟩; clear hE160 hS158
     refine wp_ret ?_
     have hF : F_isPoset pp0 pp1 = ((F_Frame_hasFlag ((F_Poset_frame pp0 pp1).1) pp1 0) && ((F_Frame_hasFlag ((F_Poset_frame pp0 pp1).1) pp1 2) && (F_Frame_hasFlag ((F_Poset_frame pp0 pp1).1) pp1 8))) := by unfold F_isPoset; rw [ht125]; first | done | rfl
     refine c_ret1 hE236 rfl rfl ?_
     exact ⟨(by rw [hF]; first | done | (dsimp only; done) | rfl), hS237.ext⟩

theorem isPoset_eq (p0 : Int) (p1 : List Int) : F_isPoset p0 p1 = F_l16Is p0 p1 := by
  unfold F_isPoset F_l16Is
  rw [show F_inRange p0 0 8 = F_l01In p0 0 8 from rfl]
  cases hr : F_l01In p0 0 8
  · simp only [Bool.not_false, Bool.true_or, cond_true]
  · have hr' := F_l01In_t hr
    by_cases hl : (p1.length : Int) = p0
    · rw [decide_eq_true hl, isRel_eq (by omega), hl]
      cases hm : F_l01Masks p0 p1
      · simp only [Bool.not_true, Bool.not_false, Bool.false_or, cond_true]
      · simp only [Bool.not_true, Bool.false_or, cond_false]
        have hR := rl_of hr'.1 hl (masks_mem hm)
        have hq : (F_Poset_frame p0 p1).1 = p0 := hl
        rw [hq, hasFlag_eq (n := p0.toNat) (by omega) (by omega) hR (by omega) (by omega), hasFlag_eq (n := p0.toNat) (by omega) (by omega) hR (by omega) (by omega), hasFlag_eq (n := p0.toNat) (by omega) (by omega) hR (by omega) (by omega)]
    · rw [decide_eq_false hl]
      simp only [Bool.not_true, Bool.not_false, Bool.true_or, Bool.false_or, cond_true]
theorem isPoset_t {p0 : Int} {p1 : List Int} (h : F_isPoset p0 p1 = true) : (0 ≤ p0 ∧ p0 ≤ 8) ∧ (p1.length : Int) = p0 ∧ ∀ m : Int, 0 ≤ m → m < (p1.length : Int) → 0 ≤ gI p1 m ∧ gI p1 m ≤ fullI p0 := by
  rw [isPoset_eq] at h; exact l16Is_t h
theorem poset_mm {p0 : Int} {p1 : List Int} (h : F_isPoset p0 p1 = true) : ∀ m : Int, 0 ≤ m → m < (p1.length : Int) → 0 ≤ gI p1 m ∧ gI p1 m ≤ fullI (p1.length : Int) := by
  have := isPoset_t h
  intro m h0 h1
  rw [this.2.1]; exact this.2.2 m h0 h1
theorem l16_rl {p0 : Int} {p1 : List Int} (h : F_l16Is p0 p1 = true) : Rl p0.toNat p1 ∧ p0.toNat ≤ 8 := by
  have := l16Is_t h
  exact ⟨rl_of this.1.1 this.2.1 this.2.2, by omega⟩


end Go.Proofs.Ytlbonhloeefnmaa
