/- GPR: models and contracts, printed by wip/gen/gen.py -/
import Derived.Test.YthogljcjjmclcaaGPO
set_option linter.unusedVariables false
set_option linter.unusedSimpArgs false
namespace Go.Proofs.Ythogljcjjmclcaa
open Go.RowKit

def F_s_OrderOf (rel : List Int) : (Int × List Int) × (Int) :=
  bif ((decide (8 < (rel.length : Int))) || (!(F_l01Masks (rel.length : Int) rel))) then ((0, []), 1) else (bif (!(F_l16Is ((F_l01Closure (F_l01Reflexive rel)).length : Int) (F_l01Closure (F_l01Reflexive rel)))) then ((0, []), 5) else ((((F_l01Closure (F_l01Reflexive rel)).length : Int), (F_l01Closure (F_l01Reflexive rel))), 0))
theorem cf_s_OrderOf (args : Array Value) (w : World) : (callFunc 29 args).run Try.prog w = .ok (.enter 29 args) w := by kernel_rfl
set_option maxRecDepth 100000 in
theorem c_s_OrderOf (relA : Option Addr) (relN relC : Nat) (rel : List Int) (w : World) (relR : RdS w 1 relA relN relC rel) :
    Calls Try.prog 29 #[.slice relA relN relC] w (Ret fun v w' => ∃ b1 : Option Addr, ∃ c1 : Nat, v = .tuple #[.agg #[.int .i64 (((F_s_OrderOf rel).1).1), .slice b1 (((F_s_OrderOf rel).1).2).length c1], .int .i64 ((F_s_OrderOf rel).2)] ∧ OwnS w' w.heap.size 2 1 b1 (((F_s_OrderOf rel).1).2).length c1 (((F_s_OrderOf rel).1).2) ∧ Ext w w') := by
  obtain rfl : relN = rel.length := relR.len1.symm
  have relLe := relR.le
  have hS := St.nil w
  have hS1 := St.rd0 hS rfl relR; clear hS
  refine enter (args := [.slice relA rel.length relC]) Try.func29 rfl rfl ?_
  rw [Try.ntmps29]; intro a hE
  have hE := hE.sub (L' := [(0, .slice relA rel.length relC)]) ⟨rfl, trivial⟩
  refine c_seq ?_
  refine c_reg ?_
  refine l_step hE rfl (l_alloc (z := .agg #[.int .i64 0, .slice none 0 0]) (cs := #[.int .i64 0, .slice none 0 0]) hS1 hE (fun _ => by kernel_rfl) rfl rfl ?_)
  intro b2 w3 hS6 he7 a4 hE5; clear hS1 hE
  refine q_step (v := .int .i64 0) hE5 (y_assign rfl) rfl rfl rfl ?_; intro a8 hE9; clear hE5
  refine c_nil ?_
  have hE10 := hE9.sub (L' := [(0, .slice relA rel.length relC), (2, .pointer (some ⟨b2, 0, none⟩))]) ⟨rfl, rfl, trivial⟩; clear hE9
  refine p_tn ?_
  refine c_seq ?_
  refine c_cut (fun a' w' => E a' 25 [(0, .slice relA rel.length relC), (2, .pointer (some ⟨b2, 0, none⟩)), (14, .bool ((decide (8 < (rel.length : Int))) || (!(F_l01Masks (rel.length : Int) rel))))] ∧ St w w' [.blk b2 #[.int .i64 0, .slice none 0 0] 27, .rd 1 relA rel.length relC rel]) ?_ ?_
  ·
    refine c_reg ?_
    refine q_step (v := .slice relA rel.length relC) hE10 (y_move rfl) rfl rfl rfl ?_; intro a11 hE12; clear hE10
    refine q_step (v := .int .i64 (rel.length : Int)) hE12 (y_len (e := 2) (by kernel_rfl) rfl) rfl rfl rfl ?_; intro a13 hE14; clear hE12
    refine q_step (v := .bool (decide (8 < (rel.length : Int)))) hE14 (y_gtr rfl rfl) rfl rfl rfl ?_; intro a15 hE16; clear hE14
    refine q_step (v := .bool (decide (8 < (rel.length : Int)))) hE16 (y_move rfl) rfl rfl rfl ?_; intro a17 hE18; clear hE16
    rcases Bool.eq_false_or_eq_true (decide (8 < (rel.length : Int))) with hb19 | hb19
    ·
      have hE20 := hE18; rw [hb19] at hE20; clear hE18
      have hp21 := of_decide_eq_true hb19
      refine q_skip hE20 rfl rfl rfl ?_; intro a22 hE23; clear hE20
      refine q_skip hE23 rfl rfl rfl ?_; intro a24 hE25; clear hE23
      refine q_skip hE25 rfl rfl rfl ?_; intro a26 hE27; clear hE25
      refine q_skip hE27 rfl rfl rfl ?_; intro a28 hE29; clear hE27
      refine q_skip hE29 rfl rfl rfl ?_; intro a30 hE31; clear hE29
      refine q_step (v := .bool true) hE31 (y_pick (b := true) rfl rfl) rfl rfl rfl ?_; intro a32 hE33; clear hE31
      refine c_nil ?_
      have hE34 := hE33.sub (L' := [(0, .slice relA rel.length relC), (2, .pointer (some ⟨b2, 0, none⟩)), (14, .bool true)]) ⟨rfl, rfl, rfl, trivial⟩; clear hE33
      refine p_tn ?_
      have hE35 := hE34.sub (L' := [(0, .slice relA rel.length relC), (2, .pointer (some ⟨b2, 0, none⟩)), (14, .bool true)]) ⟨rfl, rfl, rfl, trivial⟩
      have hS36 := (St.pick (Γ' := [.blk b2 #[.int .i64 0, .slice none 0 0] 27, .rd 1 relA rel.length relC rel]) hS6 [0, 1] (by decide) rfl)
      exact ⟨(by rw [hb19]; exact hE35), hS36⟩
    ·
      have hE37 := hE18; rw [hb19] at hE37; clear hE18
      have hp38 := of_decide_eq_false hb19
      refine q_step (v := .slice relA rel.length relC) hE37 (y_move rfl) rfl rfl rfl ?_; intro a39 hE40; clear hE37
      refine q_step (v := .int .i64 (rel.length : Int)) hE40 (y_len (e := 2) (by kernel_rfl) rfl) rfl rfl rfl ?_; intro a41 hE42; clear hE40
      refine q_step (v := .slice relA rel.length relC) hE42 (y_move rfl) rfl rfl rfl ?_; intro a43 hE44; clear hE42
      refine l_step hE44 rfl (l_call (f := 64) (argv := [.int .i64 (rel.length : Int), .slice relA rel.length relC]) hE44 (fun _ => cf_l01Masks _ _) rfl rfl (c_l01Masks (rel.length : Int) relA rel.length relC rel w3 (St.rdR (i := 1) hS6 rfl) (by omega) (by omega)) ?_)
      rintro _ w46 ⟨rfl, he50⟩ a47 hE48; clear hE44
      have hS49 := St.go hS6 he50; clear hS6
      refine q_step (v := .bool (!(F_l01Masks (rel.length : Int) rel))) hE48 (y_not rfl) rfl rfl rfl ?_; intro a51 hE52; clear hE48
      refine q_step (v := .bool (!(F_l01Masks (rel.length : Int) rel))) hE52 (y_pick (b := false) rfl rfl) rfl rfl rfl ?_; intro a53 hE54; clear hE52
      refine c_nil ?_
      have hE55 := hE54.sub (L' := [(0, .slice relA rel.length relC), (2, .pointer (some ⟨b2, 0, none⟩)), (14, .bool (!(F_l01Masks (rel.length : Int) rel)))]) ⟨rfl, rfl, rfl, trivial⟩; clear hE54
      refine p_tn ?_
      have hE56 := hE55.sub (L' := [(0, .slice relA rel.length relC), (2, .pointer (some ⟨b2, 0, none⟩)), (14, .bool (!(F_l01Masks (rel.length : Int) rel)))]) ⟨rfl, rfl, rfl, trivial⟩
      have hS57 := (St.pick (Γ' := [.blk b2 #[.int .i64 0, .slice none 0 0] 27, .rd 1 relA rel.length relC rel]) hS49 [0, 1] (by decide) rfl)
      exact ⟨(by rw [hb19]; exact hE56), hS57⟩
  ·
    rintro a58 w59 ⟨hE60, hS61⟩; clear hE10 hS6
    refine c_cond hE60 rfl (fun ht63 => ?_) (fun ht63 => ?_)
    ·
      have hE64 := hE60; rw [ht63] at hE64; clear hE60
      refine c_seq ?_
      refine c_reg ?_
      refine q_step (v := .agg #[.int .i64 0, .slice none 0 0]) hE64 (y_build (vs := #[]) (fun a n hE => by simp) (fun _ => by kernel_rfl)) rfl rfl rfl ?_; intro a65 hE66; clear hE64
      refine l_step hE66 rfl (l_storeS (k := 0) (cs' := #[.int .i64 0, .slice none 0 0]) hS61 hE66 (by kernel_rfl) rfl rfl (by kernel_rfl) rfl rfl ?_)
      intro w68 hS71 a69 hE70; clear hS61 hE66
      refine q_step (v := .int .i64 1) hE70 (y_assign rfl) rfl rfl rfl ?_; intro a73 hE74; clear hE70
      refine c_nil ?_
      have hE75 := hE74.sub (L' := [(2, .pointer (some ⟨b2, 0, none⟩)), (3, .int .i64 1)]) ⟨rfl, rfl, trivial⟩; clear hE74
      refine p_tn ?_
      refine wp_ret ?_
      refine p_tr ?_
      have hF : F_s_OrderOf rel = ((0, []), 1) := by unfold F_s_OrderOf; rw [ht63]; first | done | rfl
      refine c_retC2 hE75 rfl rfl rfl Try.underlying27 rfl (by kernel_rfl) (St.row (i := 0) hS71 rfl _ (Ext.refl _)) ?_
      exact ⟨none, 0, (by rw [hF]; first | done | rfl), (by rw [hF]; exact OwnS.nilS _ _ _ _), hS71.ext⟩
    ·
      obtain ⟨ht76, ht77⟩ := bor_f ht63
      have hp78 := of_decide_eq_false ht76
      have ht79 := bn_f ht77
      have hE80 := hE60; rw [ht63] at hE80; clear hE60
      refine wp_skip ?_
      refine p_tn ?_
      refine c_seq ?_
      refine c_reg ?_
      refine q_step (v := .slice relA rel.length relC) hE80 (y_move rfl) rfl rfl rfl ?_; intro a81 hE82; clear hE80
      refine l_step hE82 rfl (l_call (f := 66) (argv := [.slice relA rel.length relC]) hE82 (fun _ => cf_l01Reflexive _ _) rfl rfl (c_l01Reflexive relA rel.length relC rel w59 (St.rdR (i := 1) hS61 rfl) (by omega)) ?_)
      rintro _ w84 ⟨b89, c90, rfl, ho91, he88⟩ a85 hE86; clear hE82
      have hf92 := l01Reflexive_len rel
      have hS87 := St.own hS61 he88 ho91; clear hS61
      refine l_step hE86 rfl (l_call (f := 65) (argv := [.slice b89 ((F_l01Reflexive rel).length) c90]) hE86 (fun _ => cf_l01Closure _ _) rfl rfl (c_l01Closure b89 ((F_l01Reflexive rel).length) c90 (F_l01Reflexive rel) w84 (St.rdO (i := 0) hS87 rfl) (by omega)) ?_)
      rintro _ w94 ⟨b99, c100, rfl, ho101, he98⟩ a95 hE96; clear hE86
      have hf102 := l01Closure_len (F_l01Reflexive rel)
      have hS97 := St.own hS87 he98 ho101; clear hS87
      refine l_step hE96 rfl (l_call (f := 58) (argv := [.slice b99 ((F_l01Closure (F_l01Reflexive rel)).length) c100]) hE96 (fun _ => cf_l16Make _ _) rfl rfl (d_l16Make b99 ((F_l01Closure (F_l01Reflexive rel)).length) c100 (F_l01Closure (F_l01Reflexive rel)) w94 (St.rdO (i := 0) hS97 rfl) (by omega)) ?_)
      rintro _ w104 ⟨b109, c110, rfl, ho111, he108⟩ a105 hE106; clear hE96
      have hS107 := St.own hS97 he108 ho111; clear hS97
      refine l_step hE106 rfl (l_alloc (z := .agg #[.int .i64 0, .slice none 0 0]) (cs := #[.int .i64 0, .slice none 0 0]) hS107 hE106 (fun _ => by kernel_rfl) rfl rfl ?_)
      intro b112 w113 hS116 he117 a114 hE115; clear hS107 hE106
      refine l_step hE115 rfl (l_storeS (k := 0) (cs' := #[.int .i64 ((F_l01Closure (F_l01Reflexive rel)).length : Int), .slice b109 (((F_l01Closure (F_l01Reflexive rel))).length) c110]) hS116 hE115 (by kernel_rfl) rfl rfl (by kernel_rfl) rfl rfl ?_)
      intro w119 hS122 a120 hE121; clear hS116 hE115
      refine c_nil ?_
      have hE124 := hE121.sub (L' := [(2, .pointer (some ⟨b2, 0, none⟩)), (4, .pointer (some ⟨b112, 0, none⟩))]) ⟨rfl, rfl, trivial⟩; clear hE121
      refine p_tn ?_
      refine c_seq ?_
      refine c_seq ?_
      refine c_reg ?_
      refine q_step (v := .agg #[.int .i64 ((F_l01Closure (F_l01Reflexive rel)).length : Int), .slice b109 (((F_l01Closure (F_l01Reflexive rel))).length) c110]) hE124 (y_loadS Try.underlying27 rfl (by kernel_rfl) rfl (St.row (i := 0) hS122 rfl)) rfl rfl rfl ?_; intro a125 hE126; clear hE124
      refine l_step hE126 rfl (l_call (f := 50) (argv := [.agg #[.int .i64 ((F_l01Closure (F_l01Reflexive rel)).length : Int), .slice b109 (((F_l01Closure (F_l01Reflexive rel))).length) c110]]) hE126 (fun _ => cf_l16Is _ _) rfl rfl (c_l16Is ((F_l01Closure (F_l01Reflexive rel)).length : Int) b109 (((F_l01Closure (F_l01Reflexive rel))).length) c110 (F_l01Closure (F_l01Reflexive rel)) w119 (St.rdO (i := 1) hS122 rfl)) ?_)
      rintro _ w128 ⟨rfl, he132⟩ a129 hE130; clear hE126
      have hS131 := St.go hS122 he132; clear hS122
      refine q_step (v := .bool (!(F_l16Is ((F_l01Closure (F_l01Reflexive rel)).length : Int) (F_l01Closure (F_l01Reflexive rel))))) hE130 (y_not rfl) rfl rfl rfl ?_; intro a133 hE134; clear hE130
      refine c_nil ?_
      have hE135 := hE134.sub (L' := [(2, .pointer (some ⟨b2, 0, none⟩)), (4, .pointer (some ⟨b112, 0, none⟩)), (22, .bool (!(F_l16Is ((F_l01Closure (F_l01Reflexive rel)).length : Int) (F_l01Closure (F_l01Reflexive rel)))))]) ⟨rfl, rfl, rfl, trivial⟩; clear hE134
      refine p_tn ?_
      refine c_cond hE135 rfl (fun ht136 => ?_) (fun ht136 => ?_)
      ·
        have ht137 := bn_t ht136
        have hE138 := hE135; rw [ht136] at hE138; clear hE135
        refine c_seq ?_
        refine c_reg ?_
        refine q_step (v := .agg #[.int .i64 0, .slice none 0 0]) hE138 (y_build (vs := #[]) (fun a n hE => by simp) (fun _ => by kernel_rfl)) rfl rfl rfl ?_; intro a139 hE140; clear hE138
        refine l_step hE140 rfl (l_storeS (k := 4) (cs' := #[.int .i64 0, .slice none 0 0]) hS131 hE140 (by kernel_rfl) rfl rfl (by kernel_rfl) rfl rfl ?_)
        intro w142 hS145 a143 hE144; clear hS131 hE140
        refine q_step (v := .int .i64 5) hE144 (y_assign rfl) rfl rfl rfl ?_; intro a147 hE148; clear hE144
        refine c_nil ?_
        have hE149 := hE148.sub (L' := [(2, .pointer (some ⟨b2, 0, none⟩)), (3, .int .i64 5)]) ⟨rfl, rfl, trivial⟩; clear hE148
        refine p_tn ?_
        refine wp_ret ?_
        refine p_tr ?_
        have hF : F_s_OrderOf rel = ((0, []), 5) := by unfold F_s_OrderOf; rw [ht136, ht63]; first | done | rfl
        refine c_retC2 hE149 rfl rfl rfl Try.underlying27 rfl (by kernel_rfl) (St.row (i := 4) hS145 rfl _ (Ext.refl _)) ?_
        exact ⟨none, 0, (by rw [hF]; first | done | rfl), (by rw [hF]; exact OwnS.nilS _ _ _ _), hS145.ext⟩
      ·
        have ht150 := bn_f ht136
        have hE151 := hE135; rw [ht136] at hE151; clear hE135
        refine wp_skip ?_
        refine p_tn ?_
        refine c_seq ?_
        refine c_reg ?_
        refine q_step (v := .agg #[.int .i64 ((F_l01Closure (F_l01Reflexive rel)).length : Int), .slice b109 (((F_l01Closure (F_l01Reflexive rel))).length) c110]) hE151 (y_loadS Try.underlying27 rfl (by kernel_rfl) rfl (St.row (i := 0) hS131 rfl)) rfl rfl rfl ?_; intro a152 hE153; clear hE151
        refine l_step hE153 rfl (l_storeS (k := 4) (cs' := #[.int .i64 ((F_l01Closure (F_l01Reflexive rel)).length : Int), .slice b109 (((F_l01Closure (F_l01Reflexive rel))).length) c110]) hS131 hE153 (by kernel_rfl) rfl rfl (by kernel_rfl) rfl rfl ?_)
        intro w155 hS158 a156 hE157; clear hS131 hE153
        refine q_step (v := .int .i64 0) hE157 (y_assign rfl) rfl rfl rfl ?_; intro a160 hE161; clear hE157
        refine c_nil ?_
        have hE162 := hE161.sub (L' := [(2, .pointer (some ⟨b2, 0, none⟩)), (3, .int .i64 0)]) ⟨rfl, rfl, trivial⟩; clear hE161
        refine p_tn ?_
        refine wp_ret ?_
        have hF : F_s_OrderOf rel = ((((F_l01Closure (F_l01Reflexive rel)).length : Int), (F_l01Closure (F_l01Reflexive rel))), 0) := by unfold F_s_OrderOf; rw [ht136, ht63]; first | done | rfl
        refine c_retC2 hE162 rfl rfl rfl Try.underlying27 rfl (by kernel_rfl) (St.row (i := 4) hS158 rfl _ (Ext.refl _)) ?_
        exact ⟨b109, c110, (by rw [hF]; first | done | rfl), (by rw [hF]; exact hS158.ok 1 _ rfl), hS158.ext⟩

def F_ordered (rel : List Int) : (Int × List Int) × (Bool) :=
  (((F_posetOf (F_reflexive (F_transitive rel))).1, F_reflexive (F_transitive rel)), F_isPoset ((F_posetOf (F_reflexive (F_transitive rel))).1) (F_reflexive (F_transitive rel)))
theorem cf_ordered (args : Array Value) (w : World) : (callFunc 68 args).run Try.prog w = .ok (.enter 68 args) w := by kernel_rfl
set_option maxRecDepth 100000 in
theorem c_ordered (relA : Option Addr) (relN relC : Nat) (rel : List Int) (w : World) (relR : RdS w 1 relA relN relC rel) (hl : rel.length ≤ 8) :
    Calls Try.prog 68 #[.slice relA relN relC] w (Ret fun v w' => ∃ b1 : Option Addr, ∃ c1 : Nat, v = .tuple #[.agg #[.int .i64 (((F_ordered rel).1).1), .slice b1 (((F_ordered rel).1).2).length c1], .bool ((F_ordered rel).2)] ∧ OwnS w' w.heap.size 2 1 b1 (((F_ordered rel).1).2).length c1 (((F_ordered rel).1).2) ∧ Ext w w') := by
  obtain rfl : relN = rel.length := relR.len1.symm
  have relLe := relR.le
  have hS := St.nil w
  have hS1 := St.rd0 hS rfl relR; clear hS
  refine enter (args := [.slice relA rel.length relC]) Try.func68 rfl rfl ?_
  rw [Try.ntmps68]; intro a hE
  have hE := hE.sub (L' := [(0, .slice relA rel.length relC)]) ⟨rfl, trivial⟩
  refine c_seq ?_
  refine c_reg ?_
  refine l_step hE rfl (l_alloc (z := .agg #[.int .i64 0, .slice none 0 0]) (cs := #[.int .i64 0, .slice none 0 0]) hS1 hE (fun _ => by kernel_rfl) rfl rfl ?_)
  intro b2 w3 hS6 he7 a4 hE5; clear hS1 hE
  refine q_step (v := .bool false) hE5 (y_assign rfl) rfl rfl rfl ?_; intro a8 hE9; clear hE5
  refine c_nil ?_
  have hE10 := hE9.sub (L' := [(0, .slice relA rel.length relC), (2, .pointer (some ⟨b2, 0, none⟩))]) ⟨rfl, rfl, trivial⟩; clear hE9
  refine p_tn ?_
  refine c_seq ?_
  refine c_reg ?_
  refine q_step (v := .slice relA rel.length relC) hE10 (y_move rfl) rfl rfl rfl ?_; intro a11 hE12; clear hE10
  refine l_step hE12 rfl (l_call (f := 98) (argv := [.slice relA rel.length relC]) hE12 (fun _ => cf_transitive _ _) rfl rfl (c_transitive relA rel.length relC rel w3 (St.rdR (i := 1) hS6 rfl) (by omega)) ?_)
  rintro _ w14 ⟨b19, c20, rfl, ho21, he18⟩ a15 hE16; clear hE12
  have hf22 := transitive_len rel
  have hS17 := St.own hS6 he18 ho21; clear hS6
  refine l_step hE16 rfl (l_call (f := 97) (argv := [.slice b19 ((F_transitive rel).length) c20]) hE16 (fun _ => cf_reflexive _ _) rfl rfl (c_reflexive b19 ((F_transitive rel).length) c20 (F_transitive rel) w14 (St.rdO (i := 0) hS17 rfl) (by omega)) ?_)
  rintro _ w24 ⟨b29, c30, rfl, ho31, he28⟩ a25 hE26; clear hE16
  have hf32 := reflexive_len (F_transitive rel)
  have hS27 := St.own hS17 he28 ho31; clear hS17
  refine l_step hE26 rfl (l_call (f := 60) (argv := [.slice b29 ((F_reflexive (F_transitive rel)).length) c30]) hE26 (fun _ => cf_posetOf _ _) rfl rfl (c_posetOf b29 ((F_reflexive (F_transitive rel)).length) c30 (F_reflexive (F_transitive rel)) w24 (St.rdO (i := 0) hS27 rfl)) ?_)
  rintro _ w34 ⟨rfl, he38⟩ a35 hE36; clear hE26
  have hS37 := St.go hS27 he38; clear hS27
  refine l_step hE36 rfl (l_alloc (z := .agg #[.int .i64 0, .slice none 0 0]) (cs := #[.int .i64 0, .slice none 0 0]) hS37 hE36 (fun _ => by kernel_rfl) rfl rfl ?_)
  intro b39 w40 hS43 he44 a41 hE42; clear hS37 hE36
  refine l_step hE42 rfl (l_storeS (k := 0) (cs' := #[.int .i64 ((F_posetOf (F_reflexive (F_transitive rel))).1), .slice b29 ((F_reflexive (F_transitive rel)).length) c30]) hS43 hE42 (by kernel_rfl) rfl rfl (by kernel_rfl) rfl rfl ?_)
  intro w46 hS49 a47 hE48; clear hS43 hE42
  refine c_nil ?_
  have hE51 := hE48.sub (L' := [(2, .pointer (some ⟨b2, 0, none⟩)), (4, .pointer (some ⟨b39, 0, none⟩))]) ⟨rfl, rfl, trivial⟩; clear hE48
  refine p_tn ?_
  refine c_seq ?_
  refine d_start (fun w w' => (fun w' => w'.heap[b39]? = some (.cells #[.int .i64 ((F_posetOf (F_reflexive (F_transitive rel))).1), .slice b29 ((F_reflexive (F_transitive rel)).length) c30] 27 (0, 0)) ∧ w'.heap[b39]? = some (.cells #[.int .i64 ((F_posetOf (F_reflexive (F_transitive rel))).1), .slice b29 ((F_reflexive (F_transitive rel)).length) c30] 27 (0, 0)) ∧ True) w → (fun w' => w'.heap[b39]? = some (.cells #[.int .i64 ((F_posetOf (F_reflexive (F_transitive rel))).1), .slice b29 ((F_reflexive (F_transitive rel)).length) c30] 27 (0, 0)) ∧ w'.heap[b39]? = some (.cells #[.int .i64 ((F_posetOf (F_reflexive (F_transitive rel))).1), .slice b29 ((F_reflexive (F_transitive rel)).length) c30] 27 (0, 0)) ∧ True) w') [0, 1] 5 (by kernel_rfl) rfl ?_
  intro w52 he53; have hS54 := St.go hS49 he53; clear hS49
  refine d_take (fun _ h => h) (fun _ _ h k => h k) (v := .agg #[.int .i64 ((F_posetOf (F_reflexive (F_transitive rel))).1), .slice b29 ((F_reflexive (F_transitive rel)).length) c30]) 0 rfl hE51 (S := fun w' => w'.heap[b39]? = some (.cells #[.int .i64 ((F_posetOf (F_reflexive (F_transitive rel))).1), .slice b29 ((F_reflexive (F_transitive rel)).length) c30] 27 (0, 0)) ∧ w'.heap[b39]? = some (.cells #[.int .i64 ((F_posetOf (F_reflexive (F_transitive rel))).1), .slice b29 ((F_reflexive (F_transitive rel)).length) c30] 27 (0, 0)) ∧ True) ⟨(St.row (i := 0) hS54 rfl _ (Ext.refl _)), (St.row (i := 0) hS54 rfl _ (Ext.refl _)), trivial⟩ (y_loadS Try.underlying27 rfl (by kernel_rfl) rfl (fun _ h => h.1)) rfl rfl (by kernel_rfl) (by kernel_rfl) (by kernel_rfl) (by kernel_rfl) rfl rfl (fun _ _ _ h => h) ?_; intro a55 hE56; clear hE51
  refine d_take (fun _ h => h) (fun _ _ h k => h k) (v := .agg #[.int .i64 ((F_posetOf (F_reflexive (F_transitive rel))).1), .slice b29 ((F_reflexive (F_transitive rel)).length) c30]) 1 rfl hE56 (S := fun w' => w'.heap[b39]? = some (.cells #[.int .i64 ((F_posetOf (F_reflexive (F_transitive rel))).1), .slice b29 ((F_reflexive (F_transitive rel)).length) c30] 27 (0, 0)) ∧ w'.heap[b39]? = some (.cells #[.int .i64 ((F_posetOf (F_reflexive (F_transitive rel))).1), .slice b29 ((F_reflexive (F_transitive rel)).length) c30] 27 (0, 0)) ∧ True) ⟨(St.row (i := 0) hS54 rfl _ (Ext.refl _)), (St.row (i := 0) hS54 rfl _ (Ext.refl _)), trivial⟩ (y_loadS Try.underlying27 rfl (by kernel_rfl) rfl (fun _ h => h.2.1)) rfl rfl (by kernel_rfl) (by kernel_rfl) (by kernel_rfl) (by kernel_rfl) rfl rfl (fun _ _ _ h => h) ?_; intro a57 hE58; clear hE56
  refine d_only 2 (by kernel_rfl) rfl hE58 rfl (l_call (f := 51) (argv := [.agg #[.int .i64 ((F_posetOf (F_reflexive (F_transitive rel))).1), .slice b29 ((F_reflexive (F_transitive rel)).length) c30]]) hE58 (fun _ => cf_isPoset _ _) rfl rfl (c_isPoset ((F_posetOf (F_reflexive (F_transitive rel))).1) b29 ((F_reflexive (F_transitive rel)).length) c30 (F_reflexive (F_transitive rel)) w52 (St.rdO (i := 1) hS54 rfl)) ?_)
  rintro _ w60 ⟨rfl, he64⟩ a61 hE62; clear hE58
  have hS63 := St.go hS54 he64; clear hS54
  refine ⟨fun _ _ => ⟨(St.row (i := 0) hS63 rfl _ (Ext.refl _)), (St.row (i := 0) hS63 rfl _ (Ext.refl _)), trivial⟩, ?_⟩
  refine d_only 3 (by kernel_rfl) rfl hE62 rfl (l_storeS (k := 3) (cs' := #[.int .i64 ((F_posetOf (F_reflexive (F_transitive rel))).1), .slice b29 ((F_reflexive (F_transitive rel)).length) c30]) hS63 hE62 (by kernel_rfl) rfl rfl (by kernel_rfl) rfl rfl ?_)
  intro w66 hS69 a67 hE68; clear hS63 hE62
  refine ⟨fun h => Bool.noConfusion (h.symm.trans (show exm _ _ _ = true by kernel_rfl)), ?_⟩
  refine d_pure (fun _ h => h) (v := .bool (F_isPoset ((F_posetOf (F_reflexive (F_transitive rel))).1) (F_reflexive (F_transitive rel)))) 4 rfl hE68 (y_assign rfl) rfl (by kernel_rfl) (by kernel_rfl) (by kernel_rfl) rfl rfl (fun _ _ _ h => h) ?_; intro a71 hE72; clear hE68
  refine d_done (by kernel_rfl) ?_
  have hE73 := hE72.sub (L' := [(2, .pointer (some ⟨b2, 0, none⟩)), (3, .bool (F_isPoset ((F_posetOf (F_reflexive (F_transitive rel))).1) (F_reflexive (F_transitive rel))))]) ⟨rfl, rfl, trivial⟩; clear hE72
  refine p_tn ?_
  refine wp_ret ?_
  have hF : F_ordered rel = (((F_posetOf (F_reflexive (F_transitive rel))).1, F_reflexive (F_transitive rel)), F_isPoset ((F_posetOf (F_reflexive (F_transitive rel))).1) (F_reflexive (F_transitive rel))) := by unfold F_ordered; rfl
  refine c_retC2 hE73 rfl rfl rfl Try.underlying27 rfl (by kernel_rfl) (St.row (i := 3) hS69 rfl _ (Ext.refl _)) ?_
  exact ⟨b29, c30, (by rw [hF]; first | done | rfl), (by rw [hF]; exact hS69.ok 1 _ rfl), hS69.ext⟩

def F_OrderOf (rel : List Int) : (Int × List Int) × (Int) :=
  bif ((decide (8 < (rel.length : Int))) || (!(F_isRelation rel))) then ((0, []), 1) else (bif (!((F_ordered rel).2)) then ((0, []), 5) else ((((F_ordered rel).1).1, ((F_ordered rel).1).2), 0))
theorem cf_OrderOf (args : Array Value) (w : World) : (callFunc 31 args).run Try.prog w = .ok (.enter 31 args) w := by kernel_rfl
set_option maxRecDepth 100000 in
theorem c_OrderOf (relA : Option Addr) (relN relC : Nat) (rel : List Int) (w : World) (relR : RdS w 1 relA relN relC rel) :
    Calls Try.prog 31 #[.slice relA relN relC] w (Ret fun v w' => ∃ b1 : Option Addr, ∃ c1 : Nat, v = .tuple #[.agg #[.int .i64 (((F_OrderOf rel).1).1), .slice b1 (((F_OrderOf rel).1).2).length c1], .int .i64 ((F_OrderOf rel).2)] ∧ OwnS w' w.heap.size 2 1 b1 (((F_OrderOf rel).1).2).length c1 (((F_OrderOf rel).1).2) ∧ Ext w w') := by
  obtain rfl : relN = rel.length := relR.len1.symm
  have relLe := relR.le
  have hS := St.nil w
  have hS1 := St.rd0 hS rfl relR; clear hS
  refine enter (args := [.slice relA rel.length relC]) Try.func31 rfl rfl ?_
  rw [Try.ntmps31]; intro a hE
  have hE := hE.sub (L' := [(0, .slice relA rel.length relC)]) ⟨rfl, trivial⟩
  refine c_seq ?_
  refine c_reg ?_
  refine l_step hE rfl (l_alloc (z := .agg #[.int .i64 0, .slice none 0 0]) (cs := #[.int .i64 0, .slice none 0 0]) hS1 hE (fun _ => by kernel_rfl) rfl rfl ?_)
  intro b2 w3 hS6 he7 a4 hE5; clear hS1 hE
  refine q_step (v := .int .i64 0) hE5 (y_assign rfl) rfl rfl rfl ?_; intro a8 hE9; clear hE5
  refine c_nil ?_
  have hE10 := hE9.sub (L' := [(0, .slice relA rel.length relC), (2, .pointer (some ⟨b2, 0, none⟩))]) ⟨rfl, rfl, trivial⟩; clear hE9
  refine p_tn ?_
  refine c_seq ?_
  refine c_cut (fun a' w' => E a' 24 [(0, .slice relA rel.length relC), (2, .pointer (some ⟨b2, 0, none⟩)), (13, .bool ((decide (8 < (rel.length : Int))) || (!(F_isRelation rel))))] ∧ St w w' [.blk b2 #[.int .i64 0, .slice none 0 0] 27, .rd 1 relA rel.length relC rel]) ?_ ?_
  ·
    refine c_reg ?_
    refine q_step (v := .slice relA rel.length relC) hE10 (y_move rfl) rfl rfl rfl ?_; intro a11 hE12; clear hE10
    refine q_step (v := .int .i64 (rel.length : Int)) hE12 (y_len (e := 2) (by kernel_rfl) rfl) rfl rfl rfl ?_; intro a13 hE14; clear hE12
    refine q_step (v := .bool (decide (8 < (rel.length : Int)))) hE14 (y_gtr rfl rfl) rfl rfl rfl ?_; intro a15 hE16; clear hE14
    refine q_step (v := .bool (decide (8 < (rel.length : Int)))) hE16 (y_move rfl) rfl rfl rfl ?_; intro a17 hE18; clear hE16
    rcases Bool.eq_false_or_eq_true (decide (8 < (rel.length : Int))) with hb19 | hb19
    ·
      have hE20 := hE18; rw [hb19] at hE20; clear hE18
      have hp21 := of_decide_eq_true hb19
      refine q_skip hE20 rfl rfl rfl ?_; intro a22 hE23; clear hE20
      refine q_skip hE23 rfl rfl rfl ?_; intro a24 hE25; clear hE23
      refine q_skip hE25 rfl rfl rfl ?_; intro a26 hE27; clear hE25
      refine q_step (v := .bool true) hE27 (y_pick (b := true) rfl rfl) rfl rfl rfl ?_; intro a28 hE29; clear hE27
      refine c_nil ?_
      have hE30 := hE29.sub (L' := [(0, .slice relA rel.length relC), (2, .pointer (some ⟨b2, 0, none⟩)), (13, .bool true)]) ⟨rfl, rfl, rfl, trivial⟩; clear hE29
      refine p_tn ?_
      have hE31 := hE30.sub (L' := [(0, .slice relA rel.length relC), (2, .pointer (some ⟨b2, 0, none⟩)), (13, .bool true)]) ⟨rfl, rfl, rfl, trivial⟩
      have hS32 := (St.pick (Γ' := [.blk b2 #[.int .i64 0, .slice none 0 0] 27, .rd 1 relA rel.length relC rel]) hS6 [0, 1] (by decide) rfl)
      exact ⟨(by rw [hb19]; exact hE31), hS32⟩
    ·
      have hE33 := hE18; rw [hb19] at hE33; clear hE18
      have hp34 := of_decide_eq_false hb19
      refine q_step (v := .slice relA rel.length relC) hE33 (y_move rfl) rfl rfl rfl ?_; intro a35 hE36; clear hE33
      refine l_step hE36 rfl (l_call (f := 67) (argv := [.slice relA rel.length relC]) hE36 (fun _ => cf_isRelation _ _) rfl rfl (c_isRelation relA rel.length relC rel w3 (St.rdR (i := 1) hS6 rfl)) ?_)
      rintro _ w38 ⟨rfl, he42⟩ a39 hE40; clear hE36
      have hS41 := St.go hS6 he42; clear hS6
      refine q_step (v := .bool (!(F_isRelation rel))) hE40 (y_not rfl) rfl rfl rfl ?_; intro a43 hE44; clear hE40
      refine q_step (v := .bool (!(F_isRelation rel))) hE44 (y_pick (b := false) rfl rfl) rfl rfl rfl ?_; intro a45 hE46; clear hE44
      refine c_nil ?_
      have hE47 := hE46.sub (L' := [(0, .slice relA rel.length relC), (2, .pointer (some ⟨b2, 0, none⟩)), (13, .bool (!(F_isRelation rel)))]) ⟨rfl, rfl, rfl, trivial⟩; clear hE46
      refine p_tn ?_
      have hE48 := hE47.sub (L' := [(0, .slice relA rel.length relC), (2, .pointer (some ⟨b2, 0, none⟩)), (13, .bool (!(F_isRelation rel)))]) ⟨rfl, rfl, rfl, trivial⟩
      have hS49 := (St.pick (Γ' := [.blk b2 #[.int .i64 0, .slice none 0 0] 27, .rd 1 relA rel.length relC rel]) hS41 [0, 1] (by decide) rfl)
      exact ⟨(by rw [hb19]; exact hE48), hS49⟩
  ·
    rintro a50 w51 ⟨hE52, hS53⟩; clear hE10 hS6
    refine c_cond hE52 rfl (fun ht55 => ?_) (fun ht55 => ?_)
    ·
      have hE56 := hE52; rw [ht55] at hE56; clear hE52
      refine c_seq ?_
      refine c_reg ?_
      refine q_step (v := .agg #[.int .i64 0, .slice none 0 0]) hE56 (y_build (vs := #[]) (fun a n hE => by simp) (fun _ => by kernel_rfl)) rfl rfl rfl ?_; intro a57 hE58; clear hE56
      refine l_step hE58 rfl (l_storeS (k := 0) (cs' := #[.int .i64 0, .slice none 0 0]) hS53 hE58 (by kernel_rfl) rfl rfl (by kernel_rfl) rfl rfl ?_)
      intro w60 hS63 a61 hE62; clear hS53 hE58
      refine q_step (v := .int .i64 1) hE62 (y_assign rfl) rfl rfl rfl ?_; intro a65 hE66; clear hE62
      refine c_nil ?_
      have hE67 := hE66.sub (L' := [(2, .pointer (some ⟨b2, 0, none⟩)), (3, .int .i64 1)]) ⟨rfl, rfl, trivial⟩; clear hE66
      refine p_tn ?_
      refine wp_ret ?_
      refine p_tr ?_
      have hF : F_OrderOf rel = ((0, []), 1) := by unfold F_OrderOf; rw [ht55]; first | done | rfl
      refine c_retC2 hE67 rfl rfl rfl Try.underlying27 rfl (by kernel_rfl) (St.row (i := 0) hS63 rfl _ (Ext.refl _)) ?_
      exact ⟨none, 0, (by rw [hF]; first | done | rfl), (by rw [hF]; exact OwnS.nilS _ _ _ _), hS63.ext⟩
    ·
      obtain ⟨ht68, ht69⟩ := bor_f ht55
      have hp70 := of_decide_eq_false ht68
      have ht71 := bn_f ht69
      have hE72 := hE52; rw [ht55] at hE72; clear hE52
      refine wp_skip ?_
      refine p_tn ?_
      refine c_seq ?_
      refine c_reg ?_
      refine q_step (v := .slice relA rel.length relC) hE72 (y_move rfl) rfl rfl rfl ?_; intro a73 hE74; clear hE72
      refine l_step hE74 rfl (l_call (f := 68) (argv := [.slice relA rel.length relC]) hE74 (fun _ => cf_ordered _ _) rfl rfl (c_ordered relA rel.length relC rel w51 (St.rdR (i := 1) hS53 rfl) (by omega)) ?_)
      rintro _ w76 ⟨b81, c82, rfl, ho83, he80⟩ a77 hE78; clear hE74
      have hS79 := St.own hS53 he80 ho83; clear hS53
      refine q_step (v := .tuple #[.agg #[.int .i64 (((F_ordered rel).1).1), .slice b81 ((((F_ordered rel).1).2).length) c82], .bool ((F_ordered rel).2)]) hE78 (y_move rfl) rfl rfl rfl ?_; intro a84 hE85; clear hE78
      refine q_step (v := .agg #[.int .i64 (((F_ordered rel).1).1), .slice b81 ((((F_ordered rel).1).2).length) c82]) hE85 (y_extract rfl rfl) rfl rfl rfl ?_; intro a86 hE87; clear hE85
      refine q_step (v := .bool ((F_ordered rel).2)) hE87 (y_extract rfl rfl) rfl rfl rfl ?_; intro a88 hE89; clear hE87
      refine l_step hE89 rfl (l_alloc (z := .agg #[.int .i64 0, .slice none 0 0]) (cs := #[.int .i64 0, .slice none 0 0]) hS79 hE89 (fun _ => by kernel_rfl) rfl rfl ?_)
      intro b90 w91 hS94 he95 a92 hE93; clear hS79 hE89
      refine l_step hE93 rfl (l_storeS (k := 0) (cs' := #[.int .i64 (((F_ordered rel).1).1), .slice b81 ((((F_ordered rel).1).2).length) c82]) hS94 hE93 (by kernel_rfl) rfl rfl (by kernel_rfl) rfl rfl ?_)
      intro w97 hS100 a98 hE99; clear hS94 hE93
      refine q_step (v := .bool ((F_ordered rel).2)) hE99 (y_assign rfl) rfl rfl rfl ?_; intro a102 hE103; clear hE99
      refine c_nil ?_
      have hE104 := hE103.sub (L' := [(2, .pointer (some ⟨b2, 0, none⟩)), (4, .pointer (some ⟨b90, 0, none⟩)), (5, .bool ((F_ordered rel).2))]) ⟨rfl, rfl, rfl, trivial⟩; clear hE103
      refine p_tn ?_
      refine c_seq ?_
      refine c_seq ?_
      refine c_reg ?_
      refine q_step (v := .bool ((F_ordered rel).2)) hE104 (y_move rfl) rfl rfl rfl ?_; intro a105 hE106; clear hE104
      refine q_step (v := .bool (!((F_ordered rel).2))) hE106 (y_not rfl) rfl rfl rfl ?_; intro a107 hE108; clear hE106
      refine c_nil ?_
      have hE109 := hE108.sub (L' := [(2, .pointer (some ⟨b2, 0, none⟩)), (4, .pointer (some ⟨b90, 0, none⟩)), (21, .bool (!((F_ordered rel).2)))]) ⟨rfl, rfl, rfl, trivial⟩; clear hE108
      refine p_tn ?_
      refine c_cond hE109 rfl (fun ht110 => ?_) (fun ht110 => ?_)
      ·
        have ht111 := bn_t ht110
        have hE112 := hE109; rw [ht110] at hE112; clear hE109
        refine c_seq ?_
        refine c_reg ?_
        refine q_step (v := .agg #[.int .i64 0, .slice none 0 0]) hE112 (y_build (vs := #[]) (fun a n hE => by simp) (fun _ => by kernel_rfl)) rfl rfl rfl ?_; intro a113 hE114; clear hE112
        refine l_step hE114 rfl (l_storeS (k := 2) (cs' := #[.int .i64 0, .slice none 0 0]) hS100 hE114 (by kernel_rfl) rfl rfl (by kernel_rfl) rfl rfl ?_)
        intro w116 hS119 a117 hE118; clear hS100 hE114
        refine q_step (v := .int .i64 5) hE118 (y_assign rfl) rfl rfl rfl ?_; intro a121 hE122; clear hE118
        refine c_nil ?_
        have hE123 := hE122.sub (L' := [(2, .pointer (some ⟨b2, 0, none⟩)), (3, .int .i64 5)]) ⟨rfl, rfl, trivial⟩; clear hE122
        refine p_tn ?_
        refine wp_ret ?_
        refine p_tr ?_
        have hF : F_OrderOf rel = ((0, []), 5) := by unfold F_OrderOf; rw [ht110, ht55]; first | done | rfl
        refine c_retC2 hE123 rfl rfl rfl Try.underlying27 rfl (by kernel_rfl) (St.row (i := 2) hS119 rfl _ (Ext.refl _)) ?_
        exact ⟨none, 0, (by rw [hF]; first | done | rfl), (by rw [hF]; exact OwnS.nilS _ _ _ _), hS119.ext⟩
      ·
        have ht124 := bn_f ht110
        have hE125 := hE109; rw [ht110] at hE125; clear hE109
        refine wp_skip ?_
        refine p_tn ?_
        refine c_seq ?_
        refine c_reg ?_
        refine q_step (v := .agg #[.int .i64 (((F_ordered rel).1).1), .slice b81 ((((F_ordered rel).1).2).length) c82]) hE125 (y_loadS Try.underlying27 rfl (by kernel_rfl) rfl (St.row (i := 0) hS100 rfl)) rfl rfl rfl ?_; intro a126 hE127; clear hE125
        refine l_step hE127 rfl (l_storeS (k := 2) (cs' := #[.int .i64 (((F_ordered rel).1).1), .slice b81 ((((F_ordered rel).1).2).length) c82]) hS100 hE127 (by kernel_rfl) rfl rfl (by kernel_rfl) rfl rfl ?_)
        intro w129 hS132 a130 hE131; clear hS100 hE127
        refine q_step (v := .int .i64 0) hE131 (y_assign rfl) rfl rfl rfl ?_; intro a134 hE135; clear hE131
        refine c_nil ?_
        have hE136 := hE135.sub (L' := [(2, .pointer (some ⟨b2, 0, none⟩)), (3, .int .i64 0)]) ⟨rfl, rfl, trivial⟩; clear hE135
        refine p_tn ?_
        refine wp_ret ?_
        have hF : F_OrderOf rel = ((((F_ordered rel).1).1, ((F_ordered rel).1).2), 0) := by unfold F_OrderOf; rw [ht110, ht55]; first | done | rfl
        refine c_retC2 hE136 rfl rfl rfl Try.underlying27 rfl (by kernel_rfl) (St.row (i := 2) hS132 rfl _ (Ext.refl _)) ?_
        exact ⟨b81, c82, (by rw [hF]; first | done | rfl), (by rw [hF]; exact hS132.ok 1 _ rfl), hS132.ext⟩

theorem refl_trans {n : Nat} (hn : n ≤ 8) {r : List Int} (hR : Rl n r) : F_reflexive (F_transitive r) = F_l01Closure (F_l01Reflexive r) := by
  have hl := hR.1
  rw [← reflexive_eq (by omega), l01Closure_eq]
  have T := transitive_tc (n := n) (by omega) hR
  obtain ⟨a1, a2⟩ := reflexive_bits (n := n) (by omega) T.rel
  obtain ⟨b1, b2⟩ := reflexive_bits (n := n) (by omega) hR
  have U := transitive_tc (n := n) (by omega) b1
  refine rl_ext a1 U.rel fun i j hi => ?_
  rw [a2 i j hi, Bool.eq_iff_iff, Bool.or_eq_true, decide_eq_true_iff]
  constructor
  · rintro (h | rfl)
    · exact (transitive_least (n := n) (by omega) hR (fun i j => i < n ∧ rb (F_transitive (F_reflexive r)) i j = true) (fun i k j h1 h2 => ⟨h1.1, U.tra i k j h1.1 h1.2 h2.2⟩) (fun i j hi hij => ⟨hi, U.sup i j hi (by rw [b2 i j hi, hij]; rfl)⟩) i j hi h).2
    · exact U.sup i i hi (by rw [b2 i i hi]; simp)
  · intro h
    have := (transitive_least (n := n) (by omega) b1 (fun i j => i < n ∧ (rb (F_transitive r) i j = true ∨ i = j)) (fun i k j h1 h2 => ⟨h1.1, by
      rcases h1.2 with h3 | h3
      · rcases h2.2 with h4 | h4
        · exact .inl (T.tra i k j h1.1 h3 h4)
        · subst h4; exact .inl h3
      · subst h3; exact h2.2⟩) (fun i j hi hij => ⟨hi, by
      rw [b2 i j hi, Bool.or_eq_true, decide_eq_true_iff] at hij
      exact hij.imp (T.sup i j hi) id⟩) i j hi h).2
    exact this
theorem OrderOf_both (r : List Int) : F_OrderOf r = F_s_OrderOf r ∧ (F_OrderOf r).1.2.length ≤ 8 := by
  unfold F_OrderOf F_s_OrderOf F_ordered F_posetOf
  by_cases h8 : 8 < (r.length : Int)
  · rw [decide_eq_true h8]; simp
  · rw [decide_eq_false h8, isRel_eq (by omega)]
    cases hm : F_l01Masks (r.length : Int) r
    · simp
    · simp only [Bool.not_true, Bool.or_false, cond_false]
      have hR : Rl r.length r := rl_ofL (masks_mem hm)
      have hlen : (F_l01Closure (F_l01Reflexive r)).length = r.length := by rw [l01Closure_len, l01Reflexive_len]
      rw [refl_trans (by omega) hR, isPoset_eq]
      cases F_l16Is ((F_l01Closure (F_l01Reflexive r)).length : Int) (F_l01Closure (F_l01Reflexive r))
      · simp
      · simp only [Bool.not_true, cond_false]
        refine ⟨trivial, ?_⟩
        show (F_l01Closure (F_l01Reflexive r)).length ≤ 8
        omega
theorem OrderOf_len (r : List Int) : (F_OrderOf r).1.2.length ≤ 8 := (OrderOf_both r).2

end Go.Proofs.Ythogljcjjmclcaa
