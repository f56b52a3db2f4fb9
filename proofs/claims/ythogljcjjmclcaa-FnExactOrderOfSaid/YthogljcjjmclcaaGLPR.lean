/- GLPR: models and contracts, printed by wip/gen/gen.py -/
import Derived.Test.YthogljcjjmclcaaGA
import Derived.Test.YthogljcjjmclcaaGPR
set_option linter.unusedVariables false
set_option linter.unusedSimpArgs false
namespace Go.Proofs.Ythogljcjjmclcaa
open Go.RowKit

def F_l_FnExactOrderOf (rel : List Int) : Bool :=
  bif (decide (1048576 < (rel.length : Int))) then true else (bif ((!(decide (((((F_OrderOf rel).1).1), (((F_OrderOf rel).1).2)) = ((((F_s_OrderOf rel).1).1), (((F_s_OrderOf rel).1).2))))) || (!decide (((F_OrderOf rel).2) = ((F_s_OrderOf rel).2)))) then false else (bif (!(decide (rel = rel))) then false else (bif ((decide ((1 + (rel.length : Int)) < 0)) || ((!(decide (((((F_OrderOf rel).1).1), (((F_OrderOf rel).1).2)) = ((((F_s_OrderOf rel).1).1), (((F_s_OrderOf rel).1).2))))) || (!decide (((F_OrderOf rel).2) = ((F_s_OrderOf rel).2))))) then false else (bif (decide ((F_l_heldPoset (((F_OrderOf rel).1).1) (marked (((F_OrderOf rel).1).2).length 1) 1) < 0)) then false else (bif (!decide ((F_l_heldPoset (((F_OrderOf rel).1).1) (marked (((F_OrderOf rel).1).2).length 1) 1) = (1 + ((((F_OrderOf rel).1).2).length : Int)))) then false else true)))))
theorem cf_l_FnExactOrderOf (args : Array Value) (w : World) : (callFunc 8 args).run Try.prog w = .ok (.enter 8 args) w := by kernel_rfl
set_option maxRecDepth 100000 in
theorem c_l_FnExactOrderOf (relA : Option Addr) (relN relC : Nat) (rel : List Int) (w : World) (relR : RdS w 1 relA relN relC rel) :
    Calls Try.prog 8 #[.slice relA relN relC] w (Ret fun v w' => v = .bool (F_l_FnExactOrderOf rel) ∧ Ext w w') := by
  obtain rfl : relN = rel.length := relR.len1.symm
  have relLe := relR.le
  have hS := St.nil w
  have hS1 := St.rd0 hS rfl relR; clear hS
  refine enter (args := [.slice relA rel.length relC]) Try.func8 rfl rfl ?_
  rw [Try.ntmps8]; intro a hE
  have hE := hE.sub (L' := [(0, .slice relA rel.length relC)]) ⟨rfl, trivial⟩
  refine c_seq ?_
  refine c_reg ?_
  refine q_step (v := .bool false) hE (y_assign rfl) rfl rfl rfl ?_; intro a2 hE3; clear hE
  refine c_nil ?_
  have hE4 := hE3.sub (L' := [(0, .slice relA rel.length relC)]) ⟨rfl, trivial⟩; clear hE3
  refine p_tn ?_
  refine c_seq ?_
  refine c_seq ?_
  refine c_reg ?_
  refine q_step (v := .slice relA rel.length relC) hE4 (y_move rfl) rfl rfl rfl ?_; intro a5 hE6; clear hE4
  refine q_step (v := .int .i64 (rel.length : Int)) hE6 (y_len (e := 2) (by kernel_rfl) rfl) rfl rfl rfl ?_; intro a7 hE8; clear hE6
  refine q_step (v := .bool (decide (1048576 < (rel.length : Int)))) hE8 (y_gtr rfl rfl) rfl rfl rfl ?_; intro a9 hE10; clear hE8
  refine c_nil ?_
  have hE11 := hE10.sub (L' := [(0, .slice relA rel.length relC), (15, .bool (decide (1048576 < (rel.length : Int))))]) ⟨rfl, rfl, trivial⟩; clear hE10
  refine p_tn ?_
  refine c_cond hE11 rfl (fun ht12 => ?_) (fun ht12 => ?_)
  ·
    have hp13 := of_decide_eq_true ht12
    have hE14 := hE11; rw [ht12] at hE14; clear hE11
    refine c_seq ?_
    refine c_reg ?_
    refine q_step (v := .bool true) hE14 (y_assign rfl) rfl rfl rfl ?_; intro a15 hE16; clear hE14
    refine c_nil ?_
    have hE17 := hE16.sub (L' := [(2, .bool true)]) ⟨rfl, trivial⟩; clear hE16
    refine p_tn ?_
    refine wp_ret ?_
    refine p_tr ?_
    have hF : F_l_FnExactOrderOf rel = true := by unfold F_l_FnExactOrderOf; rw [ht12]; first | done | rfl
    refine c_ret1 hE17 rfl rfl ?_
    exact ⟨(by rw [hF]; first | done | rfl), hS1.ext⟩
  ·
    have hp18 := of_decide_eq_false ht12
    have hE19 := hE11; rw [ht12] at hE19; clear hE11
    refine wp_skip ?_
    refine p_tn ?_
    refine c_seq ?_
    refine c_reg ?_
    refine q_step (v := .slice relA rel.length relC) hE19 (y_move rfl) rfl rfl rfl ?_; intro a20 hE21; clear hE19
    refine l_step hE21 rfl (l_call (f := 30) (argv := [.slice relA rel.length relC]) hE21 (fun _ => cf_l_toInt64S _ _) rfl rfl (d_l_toInt64S relA rel.length relC rel w (St.rdR (i := 0) hS1 rfl) (by first | omega | (simp only [marked_len]; omega) | (simp only [marked_len] at *; omega))) ?_)
    rintro _ w23 ⟨b28, c29, rfl, ho30, he27⟩ a24 hE25; clear hE21
    have hS26 := St.own hS1 he27 ho30; clear hS1
    refine l_step hE25 rfl (l_call (f := 29) (argv := [.slice b28 ((rel).length) c29]) hE25 (fun _ => cf_s_OrderOf _ _) rfl rfl (c_s_OrderOf b28 ((rel).length) c29 rel w23 (St.rdO (i := 0) hS26 rfl)) ?_)
    rintro _ w32 ⟨b37, c38, rfl, ho39, he36⟩ a33 hE34; clear hE25
    have hS35 := St.own hS26 he36 ho39; clear hS26
    refine q_step (v := .tuple #[.agg #[.int .i64 (((F_s_OrderOf rel).1).1), .slice b37 ((((F_s_OrderOf rel).1).2).length) c38], .int .i64 ((F_s_OrderOf rel).2)]) hE34 (y_move rfl) rfl rfl rfl ?_; intro a40 hE41; clear hE34
    refine q_step (v := .agg #[.int .i64 (((F_s_OrderOf rel).1).1), .slice b37 ((((F_s_OrderOf rel).1).2).length) c38]) hE41 (y_extract rfl rfl) rfl rfl rfl ?_; intro a42 hE43; clear hE41
    refine q_step (v := .int .i64 ((F_s_OrderOf rel).2)) hE43 (y_extract rfl rfl) rfl rfl rfl ?_; intro a44 hE45; clear hE43
    refine l_step hE45 rfl (l_alloc (z := .agg #[.int .i64 0, .slice none 0 0]) (cs := #[.int .i64 0, .slice none 0 0]) hS35 hE45 (fun _ => by kernel_rfl) rfl rfl ?_)
    intro b46 w47 hS50 he51 a48 hE49; clear hS35 hE45
    refine l_step hE49 rfl (l_storeS (k := 0) (cs' := #[.int .i64 (((F_s_OrderOf rel).1).1), .slice b37 ((((F_s_OrderOf rel).1).2).length) c38]) hS50 hE49 (by kernel_rfl) rfl rfl (by kernel_rfl) rfl rfl ?_)
    intro w53 hS56 a54 hE55; clear hS50 hE49
    refine q_step (v := .int .i64 ((F_s_OrderOf rel).2)) hE55 (y_assign rfl) rfl rfl rfl ?_; intro a58 hE59; clear hE55
    refine c_nil ?_
    have hE60 := hE59.sub (L' := [(0, .slice relA rel.length relC), (3, .pointer (some ⟨b46, 0, none⟩)), (4, .int .i64 ((F_s_OrderOf rel).2))]) ⟨rfl, rfl, rfl, trivial⟩; clear hE59
    refine p_tn ?_
    refine c_seq ?_
    refine c_reg ?_
    refine q_step (v := .slice relA rel.length relC) hE60 (y_move rfl) rfl rfl rfl ?_; intro a61 hE62; clear hE60
    refine l_step hE62 rfl (l_call (f := 30) (argv := [.slice relA rel.length relC]) hE62 (fun _ => cf_l_toInt64S _ _) rfl rfl (d_l_toInt64S relA rel.length relC rel w53 (St.rdR (i := 3) hS56 rfl) (by first | omega | (simp only [marked_len]; omega) | (simp only [marked_len] at *; omega))) ?_)
    rintro _ w64 ⟨b69, c70, rfl, ho71, he68⟩ a65 hE66; clear hE62
    have hS67 := St.own hS56 he68 ho71; clear hS56
    refine q_step (v := .slice b69 ((rel).length) c70) hE66 (y_assign rfl) rfl rfl rfl ?_; intro a72 hE73; clear hE66
    refine c_nil ?_
    have hE74 := hE73.sub (L' := [(0, .slice relA rel.length relC), (3, .pointer (some ⟨b46, 0, none⟩)), (4, .int .i64 ((F_s_OrderOf rel).2)), (5, .slice b69 ((rel).length) c70)]) ⟨rfl, rfl, rfl, rfl, trivial⟩; clear hE73
    refine p_tn ?_
    refine c_seq ?_
    refine c_reg ?_
    refine q_step (v := .slice b69 ((rel).length) c70) hE74 (y_move rfl) rfl rfl rfl ?_; intro a75 hE76; clear hE74
    refine l_step hE76 rfl (l_call (f := 31) (argv := [.slice b69 ((rel).length) c70]) hE76 (fun _ => cf_OrderOf _ _) rfl rfl (c_OrderOf b69 ((rel).length) c70 rel w64 (St.rdO (i := 0) hS67 rfl)) ?_)
    rintro _ w78 ⟨b83, c84, rfl, ho85, he82⟩ a79 hE80; clear hE76
    have hf86 := OrderOf_len rel
    have hS81 := St.own hS67 he82 ho85; clear hS67
    refine q_step (v := .tuple #[.agg #[.int .i64 (((F_OrderOf rel).1).1), .slice b83 ((((F_OrderOf rel).1).2).length) c84], .int .i64 ((F_OrderOf rel).2)]) hE80 (y_move rfl) rfl rfl rfl ?_; intro a87 hE88; clear hE80
    refine q_step (v := .agg #[.int .i64 (((F_OrderOf rel).1).1), .slice b83 ((((F_OrderOf rel).1).2).length) c84]) hE88 (y_extract rfl rfl) rfl rfl rfl ?_; intro a89 hE90; clear hE88
    refine q_step (v := .int .i64 ((F_OrderOf rel).2)) hE90 (y_extract rfl rfl) rfl rfl rfl ?_; intro a91 hE92; clear hE90
    refine l_step hE92 rfl (l_alloc (z := .agg #[.int .i64 0, .slice none 0 0]) (cs := #[.int .i64 0, .slice none 0 0]) hS81 hE92 (fun _ => by kernel_rfl) rfl rfl ?_)
    intro b93 w94 hS97 he98 a95 hE96; clear hS81 hE92
    refine l_step hE96 rfl (l_storeS (k := 0) (cs' := #[.int .i64 (((F_OrderOf rel).1).1), .slice b83 ((((F_OrderOf rel).1).2).length) c84]) hS97 hE96 (by kernel_rfl) rfl rfl (by kernel_rfl) rfl rfl ?_)
    intro w100 hS103 a101 hE102; clear hS97 hE96
    refine q_step (v := .int .i64 ((F_OrderOf rel).2)) hE102 (y_assign rfl) rfl rfl rfl ?_; intro a105 hE106; clear hE102
    refine c_nil ?_
    have hE107 := hE106.sub (L' := [(0, .slice relA rel.length relC), (3, .pointer (some ⟨b46, 0, none⟩)), (4, .int .i64 ((F_s_OrderOf rel).2)), (5, .slice b69 ((rel).length) c70), (6, .pointer (some ⟨b93, 0, none⟩)), (7, .int .i64 ((F_OrderOf rel).2))]) ⟨rfl, rfl, rfl, rfl, rfl, rfl, trivial⟩; clear hE106
    refine p_tn ?_
    refine c_seq ?_
    refine c_cut (fun a' w' => E a' 93 [(0, .slice relA rel.length relC), (3, .pointer (some ⟨b46, 0, none⟩)), (4, .int .i64 ((F_s_OrderOf rel).2)), (5, .slice b69 ((rel).length) c70), (6, .pointer (some ⟨b93, 0, none⟩)), (7, .int .i64 ((F_OrderOf rel).2)), (37, .bool ((!(decide (((((F_OrderOf rel).1).1), (((F_OrderOf rel).1).2)) = ((((F_s_OrderOf rel).1).1), (((F_s_OrderOf rel).1).2))))) || (!decide (((F_OrderOf rel).2) = ((F_s_OrderOf rel).2)))))] ∧ St w w' [.own 2 1 b83 ((((F_OrderOf rel).1).2).length) c84 (((F_OrderOf rel).1).2), .blk b93 #[.int .i64 (((F_OrderOf rel).1).1), .slice b83 ((((F_OrderOf rel).1).2).length) c84] 27, .own 2 1 b69 ((rel).length) c70 rel, .own 2 1 b37 ((((F_s_OrderOf rel).1).2).length) c38 (((F_s_OrderOf rel).1).2), .blk b46 #[.int .i64 (((F_s_OrderOf rel).1).1), .slice b37 ((((F_s_OrderOf rel).1).2).length) c38] 27, .own 2 1 b28 ((rel).length) c29 rel, .rd 1 relA rel.length relC rel]) ?_ ?_
    ·
      refine c_reg ?_
      refine q_step (v := .agg #[.int .i64 (((F_OrderOf rel).1).1), .slice b83 ((((F_OrderOf rel).1).2).length) c84]) hE107 (y_loadS Try.underlying27 rfl (by kernel_rfl) rfl (St.row (i := 0) hS103 rfl)) rfl rfl rfl ?_; intro a108 hE109; clear hE107
      refine q_step (v := .agg #[.int .i64 (((F_s_OrderOf rel).1).1), .slice b37 ((((F_s_OrderOf rel).1).2).length) c38]) hE109 (y_loadS Try.underlying27 rfl (by kernel_rfl) rfl (St.row (i := 3) hS103 rfl)) rfl rfl rfl ?_; intro a110 hE111; clear hE109
      refine l_step hE111 rfl (l_call (f := 18) (argv := [.agg #[.int .i64 (((F_OrderOf rel).1).1), .slice b83 ((((F_OrderOf rel).1).2).length) c84], .agg #[.int .i64 (((F_s_OrderOf rel).1).1), .slice b37 ((((F_s_OrderOf rel).1).2).length) c38]]) hE111 (fun _ => cf_l_eqPoset _ _) rfl rfl (d_l_eqPoset (((F_OrderOf rel).1).1) b83 ((((F_OrderOf rel).1).2).length) c84 (((F_OrderOf rel).1).2) (((F_s_OrderOf rel).1).1) b37 ((((F_s_OrderOf rel).1).2).length) c38 (((F_s_OrderOf rel).1).2) w100 (St.rdO (i := 1) hS103 rfl) (St.rdO (i := 4) hS103 rfl)) ?_)
      rintro _ w113 ⟨rfl, he117⟩ a114 hE115; clear hE111
      have hS116 := St.go hS103 he117; clear hS103
      refine q_step (v := .bool (!(decide (((((F_OrderOf rel).1).1), (((F_OrderOf rel).1).2)) = ((((F_s_OrderOf rel).1).1), (((F_s_OrderOf rel).1).2)))))) hE115 (y_not rfl) rfl rfl rfl ?_; intro a118 hE119; clear hE115
      refine q_step (v := .bool (!(decide (((((F_OrderOf rel).1).1), (((F_OrderOf rel).1).2)) = ((((F_s_OrderOf rel).1).1), (((F_s_OrderOf rel).1).2)))))) hE119 (y_move rfl) rfl rfl rfl ?_; intro a120 hE121; clear hE119
      rcases Bool.eq_false_or_eq_true (!(decide (((((F_OrderOf rel).1).1), (((F_OrderOf rel).1).2)) = ((((F_s_OrderOf rel).1).1), (((F_s_OrderOf rel).1).2))))) with hb122 | hb122
      ·
        have hE123 := hE121; rw [hb122] at hE123; clear hE121
        have ht124 := bn_t hb122
        have hp125 := of_decide_eq_false ht124
        refine q_skip hE123 rfl rfl rfl ?_; intro a126 hE127; clear hE123
        refine q_skip hE127 rfl rfl rfl ?_; intro a128 hE129; clear hE127
        refine q_skip hE129 rfl rfl rfl ?_; intro a130 hE131; clear hE129
        refine q_step (v := .bool true) hE131 (y_pick (b := true) rfl rfl) rfl rfl rfl ?_; intro a132 hE133; clear hE131
        refine c_nil ?_
        have hE134 := hE133.sub (L' := [(0, .slice relA rel.length relC), (3, .pointer (some ⟨b46, 0, none⟩)), (4, .int .i64 ((F_s_OrderOf rel).2)), (5, .slice b69 ((rel).length) c70), (6, .pointer (some ⟨b93, 0, none⟩)), (7, .int .i64 ((F_OrderOf rel).2)), (37, .bool true)]) ⟨rfl, rfl, rfl, rfl, rfl, rfl, rfl, trivial⟩; clear hE133
        refine p_tn ?_
        have hE135 := hE134.sub (L' := [(0, .slice relA rel.length relC), (3, .pointer (some ⟨b46, 0, none⟩)), (4, .int .i64 ((F_s_OrderOf rel).2)), (5, .slice b69 ((rel).length) c70), (6, .pointer (some ⟨b93, 0, none⟩)), (7, .int .i64 ((F_OrderOf rel).2)), (37, .bool true)]) ⟨rfl, rfl, rfl, rfl, rfl, rfl, rfl, trivial⟩
        have hS136 := (St.pick (Γ' := [.own 2 1 b83 ((((F_OrderOf rel).1).2).length) c84 (((F_OrderOf rel).1).2), .blk b93 #[.int .i64 (((F_OrderOf rel).1).1), .slice b83 ((((F_OrderOf rel).1).2).length) c84] 27, .own 2 1 b69 ((rel).length) c70 rel, .own 2 1 b37 ((((F_s_OrderOf rel).1).2).length) c38 (((F_s_OrderOf rel).1).2), .blk b46 #[.int .i64 (((F_s_OrderOf rel).1).1), .slice b37 ((((F_s_OrderOf rel).1).2).length) c38] 27, .own 2 1 b28 ((rel).length) c29 rel, .rd 1 relA rel.length relC rel]) hS116 [1, 0, 2, 4, 3, 5, 6] (by decide) rfl)
        exact ⟨(by rw [hb122]; exact hE135), hS136⟩
      ·
        have hE137 := hE121; rw [hb122] at hE137; clear hE121
        have ht138 := bn_f hb122
        have hp139 := of_decide_eq_true ht138
        refine q_step (v := .int .i64 ((F_OrderOf rel).2)) hE137 (y_move rfl) rfl rfl rfl ?_; intro a140 hE141; clear hE137
        refine q_step (v := .int .i64 ((F_s_OrderOf rel).2)) hE141 (y_move rfl) rfl rfl rfl ?_; intro a142 hE143; clear hE141
        refine q_step (v := .bool (!decide (((F_OrderOf rel).2) = ((F_s_OrderOf rel).2)))) hE143 (y_neq rfl rfl) rfl rfl rfl ?_; intro a144 hE145; clear hE143
        refine q_step (v := .bool (!decide (((F_OrderOf rel).2) = ((F_s_OrderOf rel).2)))) hE145 (y_pick (b := false) rfl rfl) rfl rfl rfl ?_; intro a146 hE147; clear hE145
        refine c_nil ?_
        have hE148 := hE147.sub (L' := [(0, .slice relA rel.length relC), (3, .pointer (some ⟨b46, 0, none⟩)), (4, .int .i64 ((F_s_OrderOf rel).2)), (5, .slice b69 ((rel).length) c70), (6, .pointer (some ⟨b93, 0, none⟩)), (7, .int .i64 ((F_OrderOf rel).2)), (37, .bool (!decide (((F_OrderOf rel).2) = ((F_s_OrderOf rel).2))))]) ⟨rfl, rfl, rfl, rfl, rfl, rfl, rfl, trivial⟩; clear hE147
        refine p_tn ?_
        have hE149 := hE148.sub (L' := [(0, .slice relA rel.length relC), (3, .pointer (some ⟨b46, 0, none⟩)), (4, .int .i64 ((F_s_OrderOf rel).2)), (5, .slice b69 ((rel).length) c70), (6, .pointer (some ⟨b93, 0, none⟩)), (7, .int .i64 ((F_OrderOf rel).2)), (37, .bool (!decide (((F_OrderOf rel).2) = ((F_s_OrderOf rel).2))))]) ⟨rfl, rfl, rfl, rfl, rfl, rfl, rfl, trivial⟩
        have hS150 := (St.pick (Γ' := [.own 2 1 b83 ((((F_OrderOf rel).1).2).length) c84 (((F_OrderOf rel).1).2), .blk b93 #[.int .i64 (((F_OrderOf rel).1).1), .slice b83 ((((F_OrderOf rel).1).2).length) c84] 27, .own 2 1 b69 ((rel).length) c70 rel, .own 2 1 b37 ((((F_s_OrderOf rel).1).2).length) c38 (((F_s_OrderOf rel).1).2), .blk b46 #[.int .i64 (((F_s_OrderOf rel).1).1), .slice b37 ((((F_s_OrderOf rel).1).2).length) c38] 27, .own 2 1 b28 ((rel).length) c29 rel, .rd 1 relA rel.length relC rel]) hS116 [1, 0, 2, 4, 3, 5, 6] (by decide) rfl)
        exact ⟨(by rw [hb122]; exact hE149), hS150⟩
    ·
      rintro a151 w152 ⟨hE153, hS154⟩; clear hE107 hS103
      refine c_cond hE153 rfl (fun ht156 => ?_) (fun ht156 => ?_)
      ·
        have hE157 := hE153; rw [ht156] at hE157; clear hE153
        refine c_seq ?_
        refine c_reg ?_
        refine q_step (v := .bool false) hE157 (y_assign rfl) rfl rfl rfl ?_; intro a158 hE159; clear hE157
        refine c_nil ?_
        have hE160 := hE159.sub (L' := [(2, .bool false)]) ⟨rfl, trivial⟩; clear hE159
        refine p_tn ?_
        refine wp_ret ?_
        refine p_tr ?_
        have hF : F_l_FnExactOrderOf rel = false := by unfold F_l_FnExactOrderOf; rw [ht156, ht12]; first | done | rfl
        refine c_ret1 hE160 rfl rfl ?_
        exact ⟨(by rw [hF]; first | done | rfl), hS154.ext⟩
      ·
        obtain ⟨ht161, ht162⟩ := bor_f ht156
        have ht163 := bn_f ht161
        have hp164 := of_decide_eq_true ht163
        have ht165 := bn_f ht162
        have hp166 := of_decide_eq_true ht165
        have hE167 := hE153; rw [ht156] at hE167; clear hE153
        refine wp_skip ?_
        refine p_tn ?_
        refine c_seq ?_
        refine c_seq ?_
        refine c_reg ?_
        refine q_step (v := .slice b69 ((rel).length) c70) hE167 (y_move rfl) rfl rfl rfl ?_; intro a168 hE169; clear hE167
        refine q_step (v := .slice relA rel.length relC) hE169 (y_move rfl) rfl rfl rfl ?_; intro a170 hE171; clear hE169
        refine l_step hE171 rfl (l_call (f := 30) (argv := [.slice relA rel.length relC]) hE171 (fun _ => cf_l_toInt64S _ _) rfl rfl (d_l_toInt64S relA rel.length relC rel w152 (St.rdR (i := 6) hS154 rfl) (by first | omega | (simp only [marked_len]; omega) | (simp only [marked_len] at *; omega))) ?_)
        rintro _ w173 ⟨b178, c179, rfl, ho180, he177⟩ a174 hE175; clear hE171
        have hS176 := St.own hS154 he177 ho180; clear hS154
        refine l_step hE175 rfl (l_call (f := 32) (argv := [.slice b69 ((rel).length) c70, .slice b178 ((rel).length) c179]) hE175 (fun _ => cf_l_eqInt64S _ _) rfl rfl (d_l_eqInt64S b69 ((rel).length) c70 rel b178 ((rel).length) c179 rel w173 (St.rdO (i := 3) hS176 rfl) (St.rdO (i := 0) hS176 rfl)) ?_)
        rintro _ w182 ⟨rfl, he186⟩ a183 hE184; clear hE175
        have hS185 := St.go hS176 he186; clear hS176
        refine q_step (v := .bool (!(decide (rel = rel)))) hE184 (y_not rfl) rfl rfl rfl ?_; intro a187 hE188; clear hE184
        refine c_nil ?_
        have hE189 := hE188.sub (L' := [(0, .slice relA rel.length relC), (3, .pointer (some ⟨b46, 0, none⟩)), (4, .int .i64 ((F_s_OrderOf rel).2)), (5, .slice b69 ((rel).length) c70), (6, .pointer (some ⟨b93, 0, none⟩)), (7, .int .i64 ((F_OrderOf rel).2)), (42, .bool (!(decide (rel = rel))))]) ⟨rfl, rfl, rfl, rfl, rfl, rfl, rfl, trivial⟩; clear hE188
        refine p_tn ?_
        refine c_cond hE189 rfl (fun ht190 => ?_) (fun ht190 => ?_)
        ·
          have ht191 := bn_t ht190
          have hp192 := of_decide_eq_false ht191
          have hE193 := hE189; rw [ht190] at hE193; clear hE189
          refine c_seq ?_
          refine c_reg ?_
          refine q_step (v := .bool false) hE193 (y_assign rfl) rfl rfl rfl ?_; intro a194 hE195; clear hE193
          refine c_nil ?_
          have hE196 := hE195.sub (L' := [(2, .bool false)]) ⟨rfl, trivial⟩; clear hE195
          refine p_tn ?_
          refine wp_ret ?_
          refine p_tr ?_
          have hF : F_l_FnExactOrderOf rel = false := by unfold F_l_FnExactOrderOf; rw [ht190, ht156, ht12]; first | done | rfl
          refine c_ret1 hE196 rfl rfl ?_
          exact ⟨(by rw [hF]; first | done | rfl), hS185.ext⟩
        ·
          have ht197 := bn_f ht190
          have hp198 := of_decide_eq_true ht197
          have hE199 := hE189; rw [ht190] at hE199; clear hE189
          refine wp_skip ?_
          refine p_tn ?_
          refine c_seq ?_
          refine c_reg ?_
          refine q_step (v := .int .i64 1) hE199 (y_assign rfl) rfl rfl rfl ?_; intro a200 hE201; clear hE199
          refine c_nil ?_
          have hE202 := hE201.sub (L' := [(0, .slice relA rel.length relC), (3, .pointer (some ⟨b46, 0, none⟩)), (4, .int .i64 ((F_s_OrderOf rel).2)), (5, .slice b69 ((rel).length) c70), (6, .pointer (some ⟨b93, 0, none⟩)), (7, .int .i64 ((F_OrderOf rel).2)), (8, .int .i64 1)]) ⟨rfl, rfl, rfl, rfl, rfl, rfl, rfl, trivial⟩; clear hE201
          refine p_tn ?_
          refine c_seq ?_
          refine c_reg ?_
          refine q_step (v := .slice b69 ((rel).length) c70) hE202 (y_move rfl) rfl rfl rfl ?_; intro a203 hE204; clear hE202
          refine q_step (v := .int .i64 1) hE204 (y_move rfl) rfl rfl rfl ?_; intro a205 hE206; clear hE204
          have hS213 := (St.pick (Γ' := [.own 2 1 b69 ((rel).length) c70 rel, .own 2 1 b178 ((rel).length) c179 rel, .own 2 1 b83 ((((F_OrderOf rel).1).2).length) c84 (((F_OrderOf rel).1).2), .blk b93 #[.int .i64 (((F_OrderOf rel).1).1), .slice b83 ((((F_OrderOf rel).1).2).length) c84] 27, .own 2 1 b37 ((((F_s_OrderOf rel).1).2).length) c38 (((F_s_OrderOf rel).1).2), .blk b46 #[.int .i64 (((F_s_OrderOf rel).1).1), .slice b37 ((((F_s_OrderOf rel).1).2).length) c38] 27, .own 2 1 b28 ((rel).length) c29 rel, .rd 1 relA rel.length relC rel]) hS185 [3, 0, 1, 2, 4, 5, 6, 7] (by decide) rfl); clear hS185
          refine l_step hE206 rfl (l_call (f := 33) (argv := [.slice b69 ((rel).length) c70, .int .i64 1]) hE206 (fun _ => cf_l_markInt64S _ _) rfl rfl (d_l_markInt64S b69 ((rel).length) c70 rel 1 w182 w [.own 2 1 b178 ((rel).length) c179 rel, .own 2 1 b83 ((((F_OrderOf rel).1).2).length) c84 (((F_OrderOf rel).1).2), .blk b93 #[.int .i64 (((F_OrderOf rel).1).1), .slice b83 ((((F_OrderOf rel).1).2).length) c84] 27, .own 2 1 b37 ((((F_s_OrderOf rel).1).2).length) c38 (((F_s_OrderOf rel).1).2), .blk b46 #[.int .i64 (((F_s_OrderOf rel).1).1), .slice b37 ((((F_s_OrderOf rel).1).2).length) c38] 27, .own 2 1 b28 ((rel).length) c29 rel, .rd 1 relA rel.length relC rel] hS213 (by first | omega | (simp only [marked_len]; omega) | (simp only [marked_len] at *; omega)) (by first | omega | (simp only [marked_len]; omega) | (simp only [marked_len] at *; omega)) (by first | omega | (simp only [marked_len]; omega) | (simp only [marked_len] at *; omega))) ?_)
          rintro _ w208 ⟨rfl, hS211⟩ a209 hE210; clear hE206 hS213
          refine q_step (v := .int .i64 (1 + (rel.length : Int))) hE210 (y_assign rfl) rfl rfl rfl ?_; intro a214 hE215; clear hE210
          refine c_nil ?_
          have hE216 := hE215.sub (L' := [(0, .slice relA rel.length relC), (3, .pointer (some ⟨b46, 0, none⟩)), (4, .int .i64 ((F_s_OrderOf rel).2)), (6, .pointer (some ⟨b93, 0, none⟩)), (7, .int .i64 ((F_OrderOf rel).2)), (8, .int .i64 (1 + (rel.length : Int)))]) ⟨rfl, rfl, rfl, rfl, rfl, rfl, trivial⟩; clear hE215
          refine p_tn ?_
          refine c_seq ?_
          refine c_cut (fun a' w' => E a' 93 [(0, .slice relA rel.length relC), (3, .pointer (some ⟨b46, 0, none⟩)), (4, .int .i64 ((F_s_OrderOf rel).2)), (6, .pointer (some ⟨b93, 0, none⟩)), (58, .bool ((decide ((1 + (rel.length : Int)) < 0)) || ((!(decide (((((F_OrderOf rel).1).1), (((F_OrderOf rel).1).2)) = ((((F_s_OrderOf rel).1).1), (((F_s_OrderOf rel).1).2))))) || (!decide (((F_OrderOf rel).2) = ((F_s_OrderOf rel).2))))))] ∧ St w w' [.own 2 1 b69 ((rel).length) c70 (marked rel.length 1), .own 2 1 b178 ((rel).length) c179 rel, .own 2 1 b83 ((((F_OrderOf rel).1).2).length) c84 (((F_OrderOf rel).1).2), .blk b93 #[.int .i64 (((F_OrderOf rel).1).1), .slice b83 ((((F_OrderOf rel).1).2).length) c84] 27, .own 2 1 b37 ((((F_s_OrderOf rel).1).2).length) c38 (((F_s_OrderOf rel).1).2), .blk b46 #[.int .i64 (((F_s_OrderOf rel).1).1), .slice b37 ((((F_s_OrderOf rel).1).2).length) c38] 27, .own 2 1 b28 ((rel).length) c29 rel, .rd 1 relA rel.length relC rel]) ?_ ?_
          ·
            refine c_reg ?_
            refine q_step (v := .int .i64 (1 + (rel.length : Int))) hE216 (y_move rfl) rfl rfl rfl ?_; intro a217 hE218; clear hE216
            refine q_step (v := .bool (decide ((1 + (rel.length : Int)) < 0))) hE218 (y_lss rfl rfl) rfl rfl rfl ?_; intro a219 hE220; clear hE218
            refine q_step (v := .bool (decide ((1 + (rel.length : Int)) < 0))) hE220 (y_move rfl) rfl rfl rfl ?_; intro a221 hE222; clear hE220
            rcases Bool.eq_false_or_eq_true (decide ((1 + (rel.length : Int)) < 0)) with hb223 | hb223
            ·
              have hE224 := hE222; rw [hb223] at hE224; clear hE222
              have hp225 := of_decide_eq_true hb223
              refine q_skip hE224 rfl rfl rfl ?_; intro a226 hE227; clear hE224
              refine q_skip hE227 rfl rfl rfl ?_; intro a228 hE229; clear hE227
              refine q_skip hE229 rfl rfl rfl ?_; intro a230 hE231; clear hE229
              refine q_skip hE231 rfl rfl rfl ?_; intro a232 hE233; clear hE231
              refine q_step (v := .bool true) hE233 (y_pick (b := true) rfl rfl) rfl rfl rfl ?_; intro a234 hE235; clear hE233
              refine q_step (v := .bool true) hE235 (y_move rfl) rfl rfl rfl ?_; intro a236 hE237; clear hE235
              refine q_skip hE237 rfl rfl rfl ?_; intro a238 hE239; clear hE237
              refine q_skip hE239 rfl rfl rfl ?_; intro a240 hE241; clear hE239
              refine q_skip hE241 rfl rfl rfl ?_; intro a242 hE243; clear hE241
              refine q_step (v := .bool true) hE243 (y_pick (b := true) rfl rfl) rfl rfl rfl ?_; intro a244 hE245; clear hE243
              refine c_nil ?_
              have hE246 := hE245.sub (L' := [(0, .slice relA rel.length relC), (3, .pointer (some ⟨b46, 0, none⟩)), (4, .int .i64 ((F_s_OrderOf rel).2)), (6, .pointer (some ⟨b93, 0, none⟩)), (58, .bool true)]) ⟨rfl, rfl, rfl, rfl, rfl, trivial⟩; clear hE245
              refine p_tn ?_
              have hE247 := hE246.sub (L' := [(0, .slice relA rel.length relC), (3, .pointer (some ⟨b46, 0, none⟩)), (4, .int .i64 ((F_s_OrderOf rel).2)), (6, .pointer (some ⟨b93, 0, none⟩)), (58, .bool true)]) ⟨rfl, rfl, rfl, rfl, rfl, trivial⟩
              have hS248 := (St.pick (Γ' := [.own 2 1 b69 ((rel).length) c70 (marked rel.length 1), .own 2 1 b178 ((rel).length) c179 rel, .own 2 1 b83 ((((F_OrderOf rel).1).2).length) c84 (((F_OrderOf rel).1).2), .blk b93 #[.int .i64 (((F_OrderOf rel).1).1), .slice b83 ((((F_OrderOf rel).1).2).length) c84] 27, .own 2 1 b37 ((((F_s_OrderOf rel).1).2).length) c38 (((F_s_OrderOf rel).1).2), .blk b46 #[.int .i64 (((F_s_OrderOf rel).1).1), .slice b37 ((((F_s_OrderOf rel).1).2).length) c38] 27, .own 2 1 b28 ((rel).length) c29 rel, .rd 1 relA rel.length relC rel]) hS211 [0, 1, 2, 3, 4, 5, 6, 7] (by decide) rfl)
              exact ⟨(by rw [hb223]; exact hE247), hS248⟩
            ·
              have hE249 := hE222; rw [hb223] at hE249; clear hE222
              have hp250 := of_decide_eq_false hb223
              refine q_step (v := .agg #[.int .i64 (((F_OrderOf rel).1).1), .slice b83 ((((F_OrderOf rel).1).2).length) c84]) hE249 (y_loadS Try.underlying27 rfl (by kernel_rfl) rfl (St.row (i := 3) hS211 rfl)) rfl rfl rfl ?_; intro a251 hE252; clear hE249
              refine q_step (v := .agg #[.int .i64 (((F_s_OrderOf rel).1).1), .slice b37 ((((F_s_OrderOf rel).1).2).length) c38]) hE252 (y_loadS Try.underlying27 rfl (by kernel_rfl) rfl (St.row (i := 5) hS211 rfl)) rfl rfl rfl ?_; intro a253 hE254; clear hE252
              refine l_step hE254 rfl (l_call (f := 18) (argv := [.agg #[.int .i64 (((F_OrderOf rel).1).1), .slice b83 ((((F_OrderOf rel).1).2).length) c84], .agg #[.int .i64 (((F_s_OrderOf rel).1).1), .slice b37 ((((F_s_OrderOf rel).1).2).length) c38]]) hE254 (fun _ => cf_l_eqPoset _ _) rfl rfl (d_l_eqPoset (((F_OrderOf rel).1).1) b83 ((((F_OrderOf rel).1).2).length) c84 (((F_OrderOf rel).1).2) (((F_s_OrderOf rel).1).1) b37 ((((F_s_OrderOf rel).1).2).length) c38 (((F_s_OrderOf rel).1).2) w208 (St.rdO (i := 2) hS211 rfl) (St.rdO (i := 4) hS211 rfl)) ?_)
              rintro _ w256 ⟨rfl, he260⟩ a257 hE258; clear hE254
              have hS259 := St.go hS211 he260; clear hS211
              refine q_step (v := .bool (!(decide (((((F_OrderOf rel).1).1), (((F_OrderOf rel).1).2)) = ((((F_s_OrderOf rel).1).1), (((F_s_OrderOf rel).1).2)))))) hE258 (y_not rfl) rfl rfl rfl ?_; intro a261 hE262; clear hE258
              refine q_step (v := .bool (!(decide (((((F_OrderOf rel).1).1), (((F_OrderOf rel).1).2)) = ((((F_s_OrderOf rel).1).1), (((F_s_OrderOf rel).1).2)))))) hE262 (y_pick (b := false) rfl rfl) rfl rfl rfl ?_; intro a263 hE264; clear hE262
              refine q_step (v := .bool (!(decide (((((F_OrderOf rel).1).1), (((F_OrderOf rel).1).2)) = ((((F_s_OrderOf rel).1).1), (((F_s_OrderOf rel).1).2)))))) hE264 (y_move rfl) rfl rfl rfl ?_; intro a265 hE266; clear hE264
              rcases Bool.eq_false_or_eq_true (!(decide (((((F_OrderOf rel).1).1), (((F_OrderOf rel).1).2)) = ((((F_s_OrderOf rel).1).1), (((F_s_OrderOf rel).1).2))))) with hb267 | hb267
              ·
                have hE268 := hE266; rw [hb267] at hE268; clear hE266
                have ht269 := bn_t hb267
                have hp270 := of_decide_eq_false ht269
                refine q_skip hE268 rfl rfl rfl ?_; intro a271 hE272; clear hE268
                refine q_skip hE272 rfl rfl rfl ?_; intro a273 hE274; clear hE272
                refine q_skip hE274 rfl rfl rfl ?_; intro a275 hE276; clear hE274
                refine q_step (v := .bool true) hE276 (y_pick (b := true) rfl rfl) rfl rfl rfl ?_; intro a277 hE278; clear hE276
                refine c_nil ?_
                have hE279 := hE278.sub (L' := [(0, .slice relA rel.length relC), (3, .pointer (some ⟨b46, 0, none⟩)), (4, .int .i64 ((F_s_OrderOf rel).2)), (6, .pointer (some ⟨b93, 0, none⟩)), (58, .bool true)]) ⟨rfl, rfl, rfl, rfl, rfl, trivial⟩; clear hE278
                refine p_tn ?_
                have hE280 := hE279.sub (L' := [(0, .slice relA rel.length relC), (3, .pointer (some ⟨b46, 0, none⟩)), (4, .int .i64 ((F_s_OrderOf rel).2)), (6, .pointer (some ⟨b93, 0, none⟩)), (58, .bool true)]) ⟨rfl, rfl, rfl, rfl, rfl, trivial⟩
                have hS281 := (St.pick (Γ' := [.own 2 1 b69 ((rel).length) c70 (marked rel.length 1), .own 2 1 b178 ((rel).length) c179 rel, .own 2 1 b83 ((((F_OrderOf rel).1).2).length) c84 (((F_OrderOf rel).1).2), .blk b93 #[.int .i64 (((F_OrderOf rel).1).1), .slice b83 ((((F_OrderOf rel).1).2).length) c84] 27, .own 2 1 b37 ((((F_s_OrderOf rel).1).2).length) c38 (((F_s_OrderOf rel).1).2), .blk b46 #[.int .i64 (((F_s_OrderOf rel).1).1), .slice b37 ((((F_s_OrderOf rel).1).2).length) c38] 27, .own 2 1 b28 ((rel).length) c29 rel, .rd 1 relA rel.length relC rel]) hS259 [0, 1, 2, 3, 4, 5, 6, 7] (by decide) rfl)
                exact ⟨(by rw [hb267, hb223]; exact hE280), hS281⟩
              ·
                have hE282 := hE266; rw [hb267] at hE282; clear hE266
                have ht283 := bn_f hb267
                have hp284 := of_decide_eq_true ht283
                refine q_step (v := .int .i64 ((F_OrderOf rel).2)) hE282 (y_move rfl) rfl rfl rfl ?_; intro a285 hE286; clear hE282
                refine q_step (v := .int .i64 ((F_s_OrderOf rel).2)) hE286 (y_move rfl) rfl rfl rfl ?_; intro a287 hE288; clear hE286
                refine q_step (v := .bool (!decide (((F_OrderOf rel).2) = ((F_s_OrderOf rel).2)))) hE288 (y_neq rfl rfl) rfl rfl rfl ?_; intro a289 hE290; clear hE288
                refine q_step (v := .bool (!decide (((F_OrderOf rel).2) = ((F_s_OrderOf rel).2)))) hE290 (y_pick (b := false) rfl rfl) rfl rfl rfl ?_; intro a291 hE292; clear hE290
                refine c_nil ?_
                have hE293 := hE292.sub (L' := [(0, .slice relA rel.length relC), (3, .pointer (some ⟨b46, 0, none⟩)), (4, .int .i64 ((F_s_OrderOf rel).2)), (6, .pointer (some ⟨b93, 0, none⟩)), (58, .bool (!decide (((F_OrderOf rel).2) = ((F_s_OrderOf rel).2))))]) ⟨rfl, rfl, rfl, rfl, rfl, trivial⟩; clear hE292
                refine p_tn ?_
                have hE294 := hE293.sub (L' := [(0, .slice relA rel.length relC), (3, .pointer (some ⟨b46, 0, none⟩)), (4, .int .i64 ((F_s_OrderOf rel).2)), (6, .pointer (some ⟨b93, 0, none⟩)), (58, .bool (!decide (((F_OrderOf rel).2) = ((F_s_OrderOf rel).2))))]) ⟨rfl, rfl, rfl, rfl, rfl, trivial⟩
                have hS295 := (St.pick (Γ' := [.own 2 1 b69 ((rel).length) c70 (marked rel.length 1), .own 2 1 b178 ((rel).length) c179 rel, .own 2 1 b83 ((((F_OrderOf rel).1).2).length) c84 (((F_OrderOf rel).1).2), .blk b93 #[.int .i64 (((F_OrderOf rel).1).1), .slice b83 ((((F_OrderOf rel).1).2).length) c84] 27, .own 2 1 b37 ((((F_s_OrderOf rel).1).2).length) c38 (((F_s_OrderOf rel).1).2), .blk b46 #[.int .i64 (((F_s_OrderOf rel).1).1), .slice b37 ((((F_s_OrderOf rel).1).2).length) c38] 27, .own 2 1 b28 ((rel).length) c29 rel, .rd 1 relA rel.length relC rel]) hS259 [0, 1, 2, 3, 4, 5, 6, 7] (by decide) rfl)
                exact ⟨(by rw [hb267, hb223]; exact hE294), hS295⟩
          ·
            rintro a296 w297 ⟨hE298, hS299⟩; clear hE216 hS211
            refine c_cond hE298 rfl (fun ht301 => ?_) (fun ht301 => ?_)
            ·
              have hE302 := hE298; rw [ht301] at hE302; clear hE298
              refine c_seq ?_
              refine c_reg ?_
              refine q_step (v := .bool false) hE302 (y_assign rfl) rfl rfl rfl ?_; intro a303 hE304; clear hE302
              refine c_nil ?_
              have hE305 := hE304.sub (L' := [(2, .bool false)]) ⟨rfl, trivial⟩; clear hE304
              refine p_tn ?_
              refine wp_ret ?_
              refine p_tr ?_
              have hF : F_l_FnExactOrderOf rel = false := by unfold F_l_FnExactOrderOf; rw [ht301, ht190, ht156, ht12]; first | done | rfl
              refine c_ret1 hE305 rfl rfl ?_
              exact ⟨(by rw [hF]; first | done | rfl), hS299.ext⟩
            ·
              obtain ⟨ht306, ht307⟩ := bor_f ht301
              have hp308 := of_decide_eq_false ht306
              obtain ⟨ht309, ht310⟩ := bor_f ht307
              have ht311 := bn_f ht309
              have hp312 := of_decide_eq_true ht311
              have ht313 := bn_f ht310
              have hp314 := of_decide_eq_true ht313
              have hE315 := hE298; rw [ht301] at hE315; clear hE298
              refine wp_skip ?_
              refine p_tn ?_
              refine c_seq ?_
              refine c_reg ?_
              refine q_step (v := .int .i64 1) hE315 (y_assign rfl) rfl rfl rfl ?_; intro a316 hE317; clear hE315
              refine c_nil ?_
              have hE318 := hE317.sub (L' := [(0, .slice relA rel.length relC), (3, .pointer (some ⟨b46, 0, none⟩)), (4, .int .i64 ((F_s_OrderOf rel).2)), (6, .pointer (some ⟨b93, 0, none⟩)), (9, .int .i64 1)]) ⟨rfl, rfl, rfl, rfl, rfl, trivial⟩; clear hE317
              refine p_tn ?_
              refine c_seq ?_
              refine c_reg ?_
              refine q_step (v := .agg #[.int .i64 (((F_OrderOf rel).1).1), .slice b83 ((((F_OrderOf rel).1).2).length) c84]) hE318 (y_loadS Try.underlying27 rfl (by kernel_rfl) rfl (St.row (i := 3) hS299 rfl)) rfl rfl rfl ?_; intro a319 hE320; clear hE318
              refine q_step (v := .int .i64 1) hE320 (y_move rfl) rfl rfl rfl ?_; intro a321 hE322; clear hE320
              have hS329 := (St.pick (Γ' := [.own 2 1 b83 ((((F_OrderOf rel).1).2).length) c84 (((F_OrderOf rel).1).2), .own 2 1 b69 ((rel).length) c70 (marked rel.length 1), .own 2 1 b178 ((rel).length) c179 rel, .blk b93 #[.int .i64 (((F_OrderOf rel).1).1), .slice b83 ((((F_OrderOf rel).1).2).length) c84] 27, .own 2 1 b37 ((((F_s_OrderOf rel).1).2).length) c38 (((F_s_OrderOf rel).1).2), .blk b46 #[.int .i64 (((F_s_OrderOf rel).1).1), .slice b37 ((((F_s_OrderOf rel).1).2).length) c38] 27, .own 2 1 b28 ((rel).length) c29 rel, .rd 1 relA rel.length relC rel]) hS299 [2, 0, 1, 3, 4, 5, 6, 7] (by decide) rfl); clear hS299
              refine l_step hE322 rfl (l_call (f := 25) (argv := [.agg #[.int .i64 (((F_OrderOf rel).1).1), .slice b83 ((((F_OrderOf rel).1).2).length) c84], .int .i64 1]) hE322 (fun _ => cf_l_markPoset _ _) rfl rfl (d_l_markPoset (((F_OrderOf rel).1).1) b83 ((((F_OrderOf rel).1).2).length) c84 (((F_OrderOf rel).1).2) 1 w297 w [.own 2 1 b69 ((rel).length) c70 (marked rel.length 1), .own 2 1 b178 ((rel).length) c179 rel, .blk b93 #[.int .i64 (((F_OrderOf rel).1).1), .slice b83 ((((F_OrderOf rel).1).2).length) c84] 27, .own 2 1 b37 ((((F_s_OrderOf rel).1).2).length) c38 (((F_s_OrderOf rel).1).2), .blk b46 #[.int .i64 (((F_s_OrderOf rel).1).1), .slice b37 ((((F_s_OrderOf rel).1).2).length) c38] 27, .own 2 1 b28 ((rel).length) c29 rel, .rd 1 relA rel.length relC rel] hS329 (by first | omega | (simp only [marked_len]; omega) | (simp only [marked_len] at *; omega)) (by first | omega | (simp only [marked_len]; omega) | (simp only [marked_len] at *; omega)) (by first | omega | (simp only [marked_len]; omega) | (simp only [marked_len] at *; omega))) ?_)
              rintro _ w324 ⟨rfl, hS327⟩ a325 hE326; clear hE322 hS329
              refine q_step (v := .int .i64 (1 + ((((F_OrderOf rel).1).2).length : Int))) hE326 (y_assign rfl) rfl rfl rfl ?_; intro a330 hE331; clear hE326
              refine c_nil ?_
              have hE332 := hE331.sub (L' := [(0, .slice relA rel.length relC), (3, .pointer (some ⟨b46, 0, none⟩)), (4, .int .i64 ((F_s_OrderOf rel).2)), (6, .pointer (some ⟨b93, 0, none⟩)), (9, .int .i64 (1 + ((((F_OrderOf rel).1).2).length : Int)))]) ⟨rfl, rfl, rfl, rfl, rfl, trivial⟩; clear hE331
              refine p_tn ?_
              refine c_seq ?_
              refine c_reg ?_
              refine q_step (v := .int .i64 1) hE332 (y_assign rfl) rfl rfl rfl ?_; intro a333 hE334; clear hE332
              refine c_nil ?_
              have hE335 := hE334.sub (L' := [(0, .slice relA rel.length relC), (3, .pointer (some ⟨b46, 0, none⟩)), (4, .int .i64 ((F_s_OrderOf rel).2)), (6, .pointer (some ⟨b93, 0, none⟩)), (9, .int .i64 (1 + ((((F_OrderOf rel).1).2).length : Int))), (10, .int .i64 1)]) ⟨rfl, rfl, rfl, rfl, rfl, rfl, trivial⟩; clear hE334
              refine p_tn ?_
              refine c_seq ?_
              refine c_reg ?_
              refine q_step (v := .agg #[.int .i64 (((F_OrderOf rel).1).1), .slice b83 ((((F_OrderOf rel).1).2).length) c84]) hE335 (y_loadS Try.underlying27 rfl (by kernel_rfl) rfl (St.row (i := 3) hS327 rfl)) rfl rfl rfl ?_; intro a336 hE337; clear hE335
              refine q_step (v := .int .i64 1) hE337 (y_move rfl) rfl rfl rfl ?_; intro a338 hE339; clear hE337
              refine l_step hE339 rfl (l_call (f := 26) (argv := [.agg #[.int .i64 (((F_OrderOf rel).1).1), .slice b83 ((((F_OrderOf rel).1).2).length) c84], .int .i64 1]) hE339 (fun _ => cf_l_heldPoset _ _) rfl rfl (c_l_heldPoset (((F_OrderOf rel).1).1) b83 ((((F_OrderOf rel).1).2).length) c84 (marked (((F_OrderOf rel).1).2).length 1) 1 w324 (St.rdO (i := 0) hS327 rfl) (by first | omega | (simp only [marked_len]; omega) | (simp only [marked_len] at *; omega)) (by first | omega | (simp only [marked_len]; omega) | (simp only [marked_len] at *; omega)) (by first | omega | (simp only [marked_len]; omega) | (simp only [marked_len] at *; omega))) ?_)
              rintro _ w341 ⟨rfl, he345⟩ a342 hE343; clear hE339
              have hS344 := St.go hS327 he345; clear hS327
              refine q_step (v := .int .i64 (F_l_heldPoset (((F_OrderOf rel).1).1) (marked (((F_OrderOf rel).1).2).length 1) 1)) hE343 (y_assign rfl) rfl rfl rfl ?_; intro a346 hE347; clear hE343
              refine c_nil ?_
              have hE348 := hE347.sub (L' := [(0, .slice relA rel.length relC), (3, .pointer (some ⟨b46, 0, none⟩)), (4, .int .i64 ((F_s_OrderOf rel).2)), (6, .pointer (some ⟨b93, 0, none⟩)), (9, .int .i64 (1 + ((((F_OrderOf rel).1).2).length : Int))), (10, .int .i64 (F_l_heldPoset (((F_OrderOf rel).1).1) (marked (((F_OrderOf rel).1).2).length 1) 1))]) ⟨rfl, rfl, rfl, rfl, rfl, rfl, trivial⟩; clear hE347
              refine p_tn ?_
              refine c_seq ?_
              refine c_seq ?_
              refine c_reg ?_
              refine q_step (v := .int .i64 (F_l_heldPoset (((F_OrderOf rel).1).1) (marked (((F_OrderOf rel).1).2).length 1) 1)) hE348 (y_move rfl) rfl rfl rfl ?_; intro a349 hE350; clear hE348
              refine q_step (v := .bool (decide ((F_l_heldPoset (((F_OrderOf rel).1).1) (marked (((F_OrderOf rel).1).2).length 1) 1) < 0))) hE350 (y_lss rfl rfl) rfl rfl rfl ?_; intro a351 hE352; clear hE350
              refine c_nil ?_
              have hE353 := hE352.sub (L' := [(0, .slice relA rel.length relC), (3, .pointer (some ⟨b46, 0, none⟩)), (4, .int .i64 ((F_s_OrderOf rel).2)), (6, .pointer (some ⟨b93, 0, none⟩)), (9, .int .i64 (1 + ((((F_OrderOf rel).1).2).length : Int))), (10, .int .i64 (F_l_heldPoset (((F_OrderOf rel).1).1) (marked (((F_OrderOf rel).1).2).length 1) 1)), (66, .bool (decide ((F_l_heldPoset (((F_OrderOf rel).1).1) (marked (((F_OrderOf rel).1).2).length 1) 1) < 0)))]) ⟨rfl, rfl, rfl, rfl, rfl, rfl, rfl, trivial⟩; clear hE352
              refine p_tn ?_
              refine c_cond hE353 rfl (fun ht354 => ?_) (fun ht354 => ?_)
              ·
                have hp355 := of_decide_eq_true ht354
                have hE356 := hE353; rw [ht354] at hE356; clear hE353
                refine c_seq ?_
                refine c_reg ?_
                refine q_step (v := .bool false) hE356 (y_assign rfl) rfl rfl rfl ?_; intro a357 hE358; clear hE356
                refine c_nil ?_
                have hE359 := hE358.sub (L' := [(2, .bool false)]) ⟨rfl, trivial⟩; clear hE358
                refine p_tn ?_
                refine wp_ret ?_
                refine p_tr ?_
                have hF : F_l_FnExactOrderOf rel = false := by unfold F_l_FnExactOrderOf; rw [ht354, ht301, ht190, ht156, ht12]; first | done | rfl
                refine c_ret1 hE359 rfl rfl ?_
                exact ⟨(by rw [hF]; first | done | rfl), hS344.ext⟩
              ·
                have hp360 := of_decide_eq_false ht354
                have hE361 := hE353; rw [ht354] at hE361; clear hE353
                refine wp_skip ?_
                refine p_tn ?_
                refine c_seq ?_
                refine c_seq ?_
                refine c_reg ?_
                refine q_step (v := .int .i64 (F_l_heldPoset (((F_OrderOf rel).1).1) (marked (((F_OrderOf rel).1).2).length 1) 1)) hE361 (y_move rfl) rfl rfl rfl ?_; intro a362 hE363; clear hE361
                refine q_step (v := .int .i64 (1 + ((((F_OrderOf rel).1).2).length : Int))) hE363 (y_move rfl) rfl rfl rfl ?_; intro a364 hE365; clear hE363
                refine q_step (v := .bool (!decide ((F_l_heldPoset (((F_OrderOf rel).1).1) (marked (((F_OrderOf rel).1).2).length 1) 1) = (1 + ((((F_OrderOf rel).1).2).length : Int))))) hE365 (y_neq rfl rfl) rfl rfl rfl ?_; intro a366 hE367; clear hE365
                refine c_nil ?_
                have hE368 := hE367.sub (L' := [(0, .slice relA rel.length relC), (3, .pointer (some ⟨b46, 0, none⟩)), (4, .int .i64 ((F_s_OrderOf rel).2)), (6, .pointer (some ⟨b93, 0, none⟩)), (9, .int .i64 (1 + ((((F_OrderOf rel).1).2).length : Int))), (69, .bool (!decide ((F_l_heldPoset (((F_OrderOf rel).1).1) (marked (((F_OrderOf rel).1).2).length 1) 1) = (1 + ((((F_OrderOf rel).1).2).length : Int)))))]) ⟨rfl, rfl, rfl, rfl, rfl, rfl, trivial⟩; clear hE367
                refine p_tn ?_
                refine c_cond hE368 rfl (fun ht369 => ?_) (fun ht369 => ?_)
                ·
                  have ht370 := bn_t ht369
                  have hp371 := of_decide_eq_false ht370
                  have hE372 := hE368; rw [ht369] at hE372; clear hE368
                  refine c_seq ?_
                  refine c_reg ?_
                  refine q_step (v := .bool false) hE372 (y_assign rfl) rfl rfl rfl ?_; intro a373 hE374; clear hE372
                  refine c_nil ?_
                  have hE375 := hE374.sub (L' := [(2, .bool false)]) ⟨rfl, trivial⟩; clear hE374
                  refine p_tn ?_
                  refine wp_ret ?_
                  refine p_tr ?_
                  have hF : F_l_FnExactOrderOf rel = false := by unfold F_l_FnExactOrderOf; rw [ht369, ht354, ht301, ht190, ht156, ht12]; first | done | rfl
                  refine c_ret1 hE375 rfl rfl ?_
                  exact ⟨(by rw [hF]; first | done | rfl), hS344.ext⟩
                ·
                  have ht376 := bn_f ht369
                  have hp377 := of_decide_eq_true ht376
                  have hE378 := hE368; rw [ht369] at hE378; clear hE368
                  refine wp_skip ?_
                  refine p_tn ?_
                  refine c_seq ?_
                  refine c_reg ?_
                  refine q_step (v := .slice relA rel.length relC) hE378 (y_move rfl) rfl rfl rfl ?_; intro a379 hE380; clear hE378
                  refine l_step hE380 rfl (l_call (f := 30) (argv := [.slice relA rel.length relC]) hE380 (fun _ => cf_l_toInt64S _ _) rfl rfl (d_l_toInt64S relA rel.length relC rel w341 (St.rdR (i := 7) hS344 rfl) (by first | omega | (simp only [marked_len]; omega) | (simp only [marked_len] at *; omega))) ?_)
                  rintro _ w382 ⟨b387, c388, rfl, ho389, he386⟩ a383 hE384; clear hE380
                  have hS385 := St.own hS344 he386 ho389; clear hS344
                  refine l_step hE384 rfl (l_call (f := 31) (argv := [.slice b387 ((rel).length) c388]) hE384 (fun _ => cf_OrderOf _ _) rfl rfl (c_OrderOf b387 ((rel).length) c388 rel w382 (St.rdO (i := 0) hS385 rfl)) ?_)
                  rintro _ w391 ⟨b396, c397, rfl, ho398, he395⟩ a392 hE393; clear hE384
                  have hf399 := OrderOf_len rel
                  have hS394 := St.own hS385 he395 ho398; clear hS385
                  refine q_step (v := .tuple #[.agg #[.int .i64 (((F_OrderOf rel).1).1), .slice b396 ((((F_OrderOf rel).1).2).length) c397], .int .i64 ((F_OrderOf rel).2)]) hE393 (y_move rfl) rfl rfl rfl ?_; intro a400 hE401; clear hE393
                  refine q_step (v := .agg #[.int .i64 (((F_OrderOf rel).1).1), .slice b396 ((((F_OrderOf rel).1).2).length) c397]) hE401 (y_extract rfl rfl) rfl rfl rfl ?_; intro a402 hE403; clear hE401
                  refine q_step (v := .int .i64 ((F_OrderOf rel).2)) hE403 (y_extract rfl rfl) rfl rfl rfl ?_; intro a404 hE405; clear hE403
                  refine l_step hE405 rfl (l_alloc (z := .agg #[.int .i64 0, .slice none 0 0]) (cs := #[.int .i64 0, .slice none 0 0]) hS394 hE405 (fun _ => by kernel_rfl) rfl rfl ?_)
                  intro b406 w407 hS410 he411 a408 hE409; clear hS394 hE405
                  refine l_step hE409 rfl (l_storeS (k := 0) (cs' := #[.int .i64 (((F_OrderOf rel).1).1), .slice b396 ((((F_OrderOf rel).1).2).length) c397]) hS410 hE409 (by kernel_rfl) rfl rfl (by kernel_rfl) rfl rfl ?_)
                  intro w413 hS416 a414 hE415; clear hS410 hE409
                  refine q_step (v := .int .i64 ((F_OrderOf rel).2)) hE415 (y_assign rfl) rfl rfl rfl ?_; intro a418 hE419; clear hE415
                  refine c_nil ?_
                  have hE420 := hE419.sub (L' := [(3, .pointer (some ⟨b46, 0, none⟩)), (4, .int .i64 ((F_s_OrderOf rel).2)), (6, .pointer (some ⟨b93, 0, none⟩)), (9, .int .i64 (1 + ((((F_OrderOf rel).1).2).length : Int))), (11, .pointer (some ⟨b406, 0, none⟩)), (12, .int .i64 ((F_OrderOf rel).2))]) ⟨rfl, rfl, rfl, rfl, rfl, rfl, trivial⟩; clear hE419
                  refine p_tn ?_
                  refine c_seq ?_
                  refine c_cut (fun a' w' => E a' 93 [(6, .pointer (some ⟨b93, 0, none⟩)), (9, .int .i64 (1 + ((((F_OrderOf rel).1).2).length : Int))), (84, .bool ((!(decide (((((F_OrderOf rel).1).1), (((F_OrderOf rel).1).2)) = ((((F_s_OrderOf rel).1).1), (((F_s_OrderOf rel).1).2))))) || (!decide (((F_OrderOf rel).2) = ((F_s_OrderOf rel).2)))))] ∧ St w w' [.own 2 1 b396 ((((F_OrderOf rel).1).2).length) c397 (((F_OrderOf rel).1).2), .blk b406 #[.int .i64 (((F_OrderOf rel).1).1), .slice b396 ((((F_OrderOf rel).1).2).length) c397] 27, .own 2 1 b387 ((rel).length) c388 rel, .own 2 1 b83 ((((F_OrderOf rel).1).2).length) c84 (marked (((F_OrderOf rel).1).2).length 1), .own 2 1 b69 ((rel).length) c70 (marked rel.length 1), .own 2 1 b178 ((rel).length) c179 rel, .blk b93 #[.int .i64 (((F_OrderOf rel).1).1), .slice b83 ((((F_OrderOf rel).1).2).length) c84] 27, .own 2 1 b37 ((((F_s_OrderOf rel).1).2).length) c38 (((F_s_OrderOf rel).1).2), .blk b46 #[.int .i64 (((F_s_OrderOf rel).1).1), .slice b37 ((((F_s_OrderOf rel).1).2).length) c38] 27, .own 2 1 b28 ((rel).length) c29 rel, .rd 1 relA rel.length relC rel]) ?_ ?_
                  ·
                    refine c_reg ?_
                    refine q_step (v := .agg #[.int .i64 (((F_OrderOf rel).1).1), .slice b396 ((((F_OrderOf rel).1).2).length) c397]) hE420 (y_loadS Try.underlying27 rfl (by kernel_rfl) rfl (St.row (i := 0) hS416 rfl)) rfl rfl rfl ?_; intro a421 hE422; clear hE420
                    refine q_step (v := .agg #[.int .i64 (((F_s_OrderOf rel).1).1), .slice b37 ((((F_s_OrderOf rel).1).2).length) c38]) hE422 (y_loadS Try.underlying27 rfl (by kernel_rfl) rfl (St.row (i := 8) hS416 rfl)) rfl rfl rfl ?_; intro a423 hE424; clear hE422
                    refine l_step hE424 rfl (l_call (f := 18) (argv := [.agg #[.int .i64 (((F_OrderOf rel).1).1), .slice b396 ((((F_OrderOf rel).1).2).length) c397], .agg #[.int .i64 (((F_s_OrderOf rel).1).1), .slice b37 ((((F_s_OrderOf rel).1).2).length) c38]]) hE424 (fun _ => cf_l_eqPoset _ _) rfl rfl (d_l_eqPoset (((F_OrderOf rel).1).1) b396 ((((F_OrderOf rel).1).2).length) c397 (((F_OrderOf rel).1).2) (((F_s_OrderOf rel).1).1) b37 ((((F_s_OrderOf rel).1).2).length) c38 (((F_s_OrderOf rel).1).2) w413 (St.rdO (i := 1) hS416 rfl) (St.rdO (i := 7) hS416 rfl)) ?_)
                    rintro _ w426 ⟨rfl, he430⟩ a427 hE428; clear hE424
                    have hS429 := St.go hS416 he430; clear hS416
                    refine q_step (v := .bool (!(decide (((((F_OrderOf rel).1).1), (((F_OrderOf rel).1).2)) = ((((F_s_OrderOf rel).1).1), (((F_s_OrderOf rel).1).2)))))) hE428 (y_not rfl) rfl rfl rfl ?_; intro a431 hE432; clear hE428
                    refine q_step (v := .bool (!(decide (((((F_OrderOf rel).1).1), (((F_OrderOf rel).1).2)) = ((((F_s_OrderOf rel).1).1), (((F_s_OrderOf rel).1).2)))))) hE432 (y_move rfl) rfl rfl rfl ?_; intro a433 hE434; clear hE432
                    rcases Bool.eq_false_or_eq_true (!(decide (((((F_OrderOf rel).1).1), (((F_OrderOf rel).1).2)) = ((((F_s_OrderOf rel).1).1), (((F_s_OrderOf rel).1).2))))) with hb435 | hb435
                    ·
                      have hE436 := hE434; rw [hb435] at hE436; clear hE434
                      have ht437 := bn_t hb435
                      have hp438 := of_decide_eq_false ht437
                      refine q_skip hE436 rfl rfl rfl ?_; intro a439 hE440; clear hE436
                      refine q_skip hE440 rfl rfl rfl ?_; intro a441 hE442; clear hE440
                      refine q_skip hE442 rfl rfl rfl ?_; intro a443 hE444; clear hE442
                      refine q_step (v := .bool true) hE444 (y_pick (b := true) rfl rfl) rfl rfl rfl ?_; intro a445 hE446; clear hE444
                      refine c_nil ?_
                      have hE447 := hE446.sub (L' := [(6, .pointer (some ⟨b93, 0, none⟩)), (9, .int .i64 (1 + ((((F_OrderOf rel).1).2).length : Int))), (84, .bool true)]) ⟨rfl, rfl, rfl, trivial⟩; clear hE446
                      refine p_tn ?_
                      have hE448 := hE447.sub (L' := [(6, .pointer (some ⟨b93, 0, none⟩)), (9, .int .i64 (1 + ((((F_OrderOf rel).1).2).length : Int))), (84, .bool true)]) ⟨rfl, rfl, rfl, trivial⟩
                      have hS449 := (St.pick (Γ' := [.own 2 1 b396 ((((F_OrderOf rel).1).2).length) c397 (((F_OrderOf rel).1).2), .blk b406 #[.int .i64 (((F_OrderOf rel).1).1), .slice b396 ((((F_OrderOf rel).1).2).length) c397] 27, .own 2 1 b387 ((rel).length) c388 rel, .own 2 1 b83 ((((F_OrderOf rel).1).2).length) c84 (marked (((F_OrderOf rel).1).2).length 1), .own 2 1 b69 ((rel).length) c70 (marked rel.length 1), .own 2 1 b178 ((rel).length) c179 rel, .blk b93 #[.int .i64 (((F_OrderOf rel).1).1), .slice b83 ((((F_OrderOf rel).1).2).length) c84] 27, .own 2 1 b37 ((((F_s_OrderOf rel).1).2).length) c38 (((F_s_OrderOf rel).1).2), .blk b46 #[.int .i64 (((F_s_OrderOf rel).1).1), .slice b37 ((((F_s_OrderOf rel).1).2).length) c38] 27, .own 2 1 b28 ((rel).length) c29 rel, .rd 1 relA rel.length relC rel]) hS429 [1, 0, 2, 3, 4, 5, 6, 7, 8, 9, 10] (by decide) rfl)
                      exact ⟨(by rw [hb435]; exact hE448), hS449⟩
                    ·
                      have hE450 := hE434; rw [hb435] at hE450; clear hE434
                      have ht451 := bn_f hb435
                      have hp452 := of_decide_eq_true ht451
                      refine q_step (v := .int .i64 ((F_OrderOf rel).2)) hE450 (y_move rfl) rfl rfl rfl ?_; intro a453 hE454; clear hE450
                      refine q_step (v := .int .i64 ((F_s_OrderOf rel).2)) hE454 (y_move rfl) rfl rfl rfl ?_; intro a455 hE456; clear hE454
                      refine q_step (v := .bool (!decide (((F_OrderOf rel).2) = ((F_s_OrderOf rel).2)))) hE456 (y_neq rfl rfl) rfl rfl rfl ?_; intro a457 hE458; clear hE456
                      refine q_step (v := .bool (!decide (((F_OrderOf rel).2) = ((F_s_OrderOf rel).2)))) hE458 (y_pick (b := false) rfl rfl) rfl rfl rfl ?_; intro a459 hE460; clear hE458
                      refine c_nil ?_
                      have hE461 := hE460.sub (L' := [(6, .pointer (some ⟨b93, 0, none⟩)), (9, .int .i64 (1 + ((((F_OrderOf rel).1).2).length : Int))), (84, .bool (!decide (((F_OrderOf rel).2) = ((F_s_OrderOf rel).2))))]) ⟨rfl, rfl, rfl, trivial⟩; clear hE460
                      refine p_tn ?_
                      have hE462 := hE461.sub (L' := [(6, .pointer (some ⟨b93, 0, none⟩)), (9, .int .i64 (1 + ((((F_OrderOf rel).1).2).length : Int))), (84, .bool (!decide (((F_OrderOf rel).2) = ((F_s_OrderOf rel).2))))]) ⟨rfl, rfl, rfl, trivial⟩
                      have hS463 := (St.pick (Γ' := [.own 2 1 b396 ((((F_OrderOf rel).1).2).length) c397 (((F_OrderOf rel).1).2), .blk b406 #[.int .i64 (((F_OrderOf rel).1).1), .slice b396 ((((F_OrderOf rel).1).2).length) c397] 27, .own 2 1 b387 ((rel).length) c388 rel, .own 2 1 b83 ((((F_OrderOf rel).1).2).length) c84 (marked (((F_OrderOf rel).1).2).length 1), .own 2 1 b69 ((rel).length) c70 (marked rel.length 1), .own 2 1 b178 ((rel).length) c179 rel, .blk b93 #[.int .i64 (((F_OrderOf rel).1).1), .slice b83 ((((F_OrderOf rel).1).2).length) c84] 27, .own 2 1 b37 ((((F_s_OrderOf rel).1).2).length) c38 (((F_s_OrderOf rel).1).2), .blk b46 #[.int .i64 (((F_s_OrderOf rel).1).1), .slice b37 ((((F_s_OrderOf rel).1).2).length) c38] 27, .own 2 1 b28 ((rel).length) c29 rel, .rd 1 relA rel.length relC rel]) hS429 [1, 0, 2, 3, 4, 5, 6, 7, 8, 9, 10] (by decide) rfl)
                      exact ⟨(by rw [hb435]; exact hE462), hS463⟩
                  ·
                    rintro a464 w465 ⟨hE466, hS467⟩; clear hE420 hS416
                    have hE469 := hE466; rw [ht156] at hE469; clear hE466
                    refine c_false hE469 rfl ?_
                    refine wp_skip ?_
                    refine p_tn ?_
                    refine c_seq ?_
                    refine c_reg ?_
                    refine q_step (v := .int .i64 1) hE469 (y_assign rfl) rfl rfl rfl ?_; intro a470 hE471; clear hE469
                    refine c_nil ?_
                    have hE472 := hE471.sub (L' := [(6, .pointer (some ⟨b93, 0, none⟩)), (9, .int .i64 (1 + ((((F_OrderOf rel).1).2).length : Int))), (10, .int .i64 1)]) ⟨rfl, rfl, rfl, trivial⟩; clear hE471
                    refine p_tn ?_
                    refine c_seq ?_
                    refine c_reg ?_
                    refine q_step (v := .agg #[.int .i64 (((F_OrderOf rel).1).1), .slice b83 ((((F_OrderOf rel).1).2).length) c84]) hE472 (y_loadS Try.underlying27 rfl (by kernel_rfl) rfl (St.row (i := 6) hS467 rfl)) rfl rfl rfl ?_; intro a473 hE474; clear hE472
                    refine q_step (v := .int .i64 1) hE474 (y_move rfl) rfl rfl rfl ?_; intro a475 hE476; clear hE474
                    refine l_step hE476 rfl (l_call (f := 26) (argv := [.agg #[.int .i64 (((F_OrderOf rel).1).1), .slice b83 ((((F_OrderOf rel).1).2).length) c84], .int .i64 1]) hE476 (fun _ => cf_l_heldPoset _ _) rfl rfl (c_l_heldPoset (((F_OrderOf rel).1).1) b83 ((((F_OrderOf rel).1).2).length) c84 (marked (((F_OrderOf rel).1).2).length 1) 1 w465 (St.rdO (i := 3) hS467 rfl) (by first | omega | (simp only [marked_len]; omega) | (simp only [marked_len] at *; omega)) (by first | omega | (simp only [marked_len]; omega) | (simp only [marked_len] at *; omega)) (by first | omega | (simp only [marked_len]; omega) | (simp only [marked_len] at *; omega))) ?_)
                    rintro _ w478 ⟨rfl, he482⟩ a479 hE480; clear hE476
                    have hS481 := St.go hS467 he482; clear hS467
                    refine q_step (v := .int .i64 (F_l_heldPoset (((F_OrderOf rel).1).1) (marked (((F_OrderOf rel).1).2).length 1) 1)) hE480 (y_assign rfl) rfl rfl rfl ?_; intro a483 hE484; clear hE480
                    refine c_nil ?_
                    have hE485 := hE484.sub (L' := [(9, .int .i64 (1 + ((((F_OrderOf rel).1).2).length : Int))), (10, .int .i64 (F_l_heldPoset (((F_OrderOf rel).1).1) (marked (((F_OrderOf rel).1).2).length 1) 1))]) ⟨rfl, rfl, trivial⟩; clear hE484
                    refine p_tn ?_
                    refine c_seq ?_
                    refine c_seq ?_
                    refine c_reg ?_
                    refine q_step (v := .int .i64 (F_l_heldPoset (((F_OrderOf rel).1).1) (marked (((F_OrderOf rel).1).2).length 1) 1)) hE485 (y_move rfl) rfl rfl rfl ?_; intro a486 hE487; clear hE485
                    refine q_step (v := .bool (decide ((F_l_heldPoset (((F_OrderOf rel).1).1) (marked (((F_OrderOf rel).1).2).length 1) 1) < 0))) hE487 (y_lss rfl rfl) rfl rfl rfl ?_; intro a488 hE489; clear hE487
                    refine c_nil ?_
                    have hE490 := hE489.sub (L' := [(9, .int .i64 (1 + ((((F_OrderOf rel).1).2).length : Int))), (10, .int .i64 (F_l_heldPoset (((F_OrderOf rel).1).1) (marked (((F_OrderOf rel).1).2).length 1) 1)), (89, .bool (decide ((F_l_heldPoset (((F_OrderOf rel).1).1) (marked (((F_OrderOf rel).1).2).length 1) 1) < 0)))]) ⟨rfl, rfl, rfl, trivial⟩; clear hE489
                    refine p_tn ?_
                    have hE491 := hE490; rw [ht354] at hE491; clear hE490
                    refine c_false hE491 rfl ?_
                    refine wp_skip ?_
                    refine p_tn ?_
                    refine c_seq ?_
                    refine c_seq ?_
                    refine c_reg ?_
                    refine q_step (v := .int .i64 (F_l_heldPoset (((F_OrderOf rel).1).1) (marked (((F_OrderOf rel).1).2).length 1) 1)) hE491 (y_move rfl) rfl rfl rfl ?_; intro a492 hE493; clear hE491
                    refine q_step (v := .int .i64 (1 + ((((F_OrderOf rel).1).2).length : Int))) hE493 (y_move rfl) rfl rfl rfl ?_; intro a494 hE495; clear hE493
                    refine q_step (v := .bool (!decide ((F_l_heldPoset (((F_OrderOf rel).1).1) (marked (((F_OrderOf rel).1).2).length 1) 1) = (1 + ((((F_OrderOf rel).1).2).length : Int))))) hE495 (y_neq rfl rfl) rfl rfl rfl ?_; intro a496 hE497; clear hE495
                    refine c_nil ?_
                    have hE498 := hE497.sub (L' := [(92, .bool (!decide ((F_l_heldPoset (((F_OrderOf rel).1).1) (marked (((F_OrderOf rel).1).2).length 1) 1) = (1 + ((((F_OrderOf rel).1).2).length : Int)))))]) ⟨rfl, trivial⟩; clear hE497
                    refine p_tn ?_
                    have hE499 := hE498; rw [ht369] at hE499; clear hE498
                    refine c_false hE499 rfl ?_
                    refine wp_skip ?_
                    refine p_tn ?_
                    refine c_seq ?_
                    refine c_reg ?_
                    refine q_step (v := .bool true) hE499 (y_assign rfl) rfl rfl rfl ?_; intro a500 hE501; clear hE499
                    refine c_nil ?_
                    have hE502 := hE501.sub (L' := [(2, .bool true)]) ⟨rfl, trivial⟩; clear hE501
                    refine p_tn ?_
                    refine wp_ret ?_
                    have hF : F_l_FnExactOrderOf rel = true := by unfold F_l_FnExactOrderOf; rw [ht369, ht354, ht301, ht190, ht156, ht12]; first | done | rfl
                    refine c_ret1 hE502 rfl rfl ?_
                    exact ⟨(by rw [hF]; first | done | rfl), hS481.ext⟩

theorem FnExactOrderOf_true (rel : List Int) : F_l_FnExactOrderOf rel = true := by
  unfold F_l_FnExactOrderOf
  rw [(OrderOf_both rel).1, heldPoset_eq _ _ _ (by omega)]
  have h1 : decide (1 + (rel.length : Int) < 0) = false := decide_eq_false (by omega)
  have h2 : decide ((1 : Int) + ((F_s_OrderOf rel).1.2.length : Int) < 0) = false := decide_eq_false (by omega)
  simp [h1, h2]

end Go.Proofs.Ythogljcjjmclcaa
