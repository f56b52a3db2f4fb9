/- GT: models and contracts, printed by wip/gen/gen.py -/
import Derived.Test.YtgcmfjliklcbdaaGL
set_option linter.unusedVariables false
set_option linter.unusedSimpArgs false
namespace Go.Proofs.Ytgcmfjliklcbdaa
open Go.RowKit

def F_s_ThenMorphisms_L1b (first : List Int) (second : List Int) (rec : (List Int) → Int → (List Int) × Int) (out12 : List Int) (x13 : Int) : (List Int) × Int :=
  bif (decide (x13 < (first.length : Int))) then (rec (out12 ++ ([gI second (gI first x13)])) (x13 + 1)) else (out12, x13)
def F_s_ThenMorphisms_L1 (first : List Int) (second : List Int) : Nat → (List Int) → Int → (List Int) × Int
  | 0, out12, x13 => (out12, x13)
  | r + 1, out12, x13 => F_s_ThenMorphisms_L1b first second (F_s_ThenMorphisms_L1 first second r) out12 x13
def F_s_ThenMorphisms (f0 : Int) (f1 : List Int) (g0 : Int) (g1 : List Int) (kp0 : Int) (kp1 : List Int) (first : List Int) (second : List Int) : (List Int) × (Int) :=
  bif ((!decide ((F_l08Code f0 f1 g0 g1 first) = 0)) || (!decide ((F_l08Code g0 g1 kp0 kp1 second) = 0))) then ([], 1) else (bif ((!(F_l08Is f0 f1 g0 g1 first)) || (!(F_l08Is g0 g1 kp0 kp1 second))) then ([], 5) else ((F_s_ThenMorphisms_L1 first second (Int.toNat ((first.length : Int) - 0) + 1) ([]) 0).1, 0))
theorem cf_s_ThenMorphisms (args : Array Value) (w : World) : (callFunc 22 args).run Try.prog w = .ok (.enter 22 args) w := by kernel_rfl
set_option maxRecDepth 100000 in
theorem c_s_ThenMorphisms (f0 : Int) (f1A : Option Addr) (f1N f1C : Nat) (f1 : List Int) (g0 : Int) (g1A : Option Addr) (g1N g1C : Nat) (g1 : List Int) (kp0 : Int) (kp1A : Option Addr) (kp1N kp1C : Nat) (kp1 : List Int) (firstA : Option Addr) (firstN firstC : Nat) (first : List Int) (secondA : Option Addr) (secondN secondC : Nat) (second : List Int) (w : World) (f1R : RdS w 1 f1A f1N f1C f1) (g1R : RdS w 1 g1A g1N g1C g1) (kp1R : RdS w 1 kp1A kp1N kp1C kp1) (firstR : RdS w 1 firstA firstN firstC first) (secondR : RdS w 1 secondA secondN secondC second) :
    Calls Try.prog 22 #[.agg #[.int .i64 f0, .slice f1A f1N f1C], .agg #[.int .i64 g0, .slice g1A g1N g1C], .agg #[.int .i64 kp0, .slice kp1A kp1N kp1C], .slice firstA firstN firstC, .slice secondA secondN secondC] w (Ret fun v w' => ∃ b1 : Option Addr, ∃ c1 : Nat, v = .tuple #[.slice b1 ((F_s_ThenMorphisms f0 f1 g0 g1 kp0 kp1 first second).1).length c1, .int .i64 ((F_s_ThenMorphisms f0 f1 g0 g1 kp0 kp1 first second).2)] ∧ OwnS w' w.heap.size 2 1 b1 ((F_s_ThenMorphisms f0 f1 g0 g1 kp0 kp1 first second).1).length c1 ((F_s_ThenMorphisms f0 f1 g0 g1 kp0 kp1 first second).1) ∧ Ext w w') := by
  obtain rfl : f1N = f1.length := f1R.len1.symm
  have f1Le := f1R.le
  obtain rfl : g1N = g1.length := g1R.len1.symm
  have g1Le := g1R.le
  obtain rfl : kp1N = kp1.length := kp1R.len1.symm
  have kp1Le := kp1R.le
  obtain rfl : firstN = first.length := firstR.len1.symm
  have firstLe := firstR.le
  obtain rfl : secondN = second.length := secondR.len1.symm
  have secondLe := secondR.le
  have hS := St.nil w
  have hS1 := St.rd0 hS rfl f1R; clear hS
  have hS2 := St.rd0 hS1 rfl g1R; clear hS1
  have hS3 := St.rd0 hS2 rfl kp1R; clear hS2
  have hS4 := St.rd0 hS3 rfl firstR; clear hS3
  have hS5 := St.rd0 hS4 rfl secondR; clear hS4
  refine enter (args := [.agg #[.int .i64 f0, .slice f1A f1.length f1C], .agg #[.int .i64 g0, .slice g1A g1.length g1C], .agg #[.int .i64 kp0, .slice kp1A kp1.length kp1C], .slice firstA first.length firstC, .slice secondA second.length secondC]) Try.func22 rfl rfl ?_
  rw [Try.ntmps22]; intro a hE
  have hE := hE.sub (L' := [(0, .agg #[.int .i64 f0, .slice f1A f1.length f1C]), (1, .agg #[.int .i64 g0, .slice g1A g1.length g1C]), (2, .agg #[.int .i64 kp0, .slice kp1A kp1.length kp1C]), (3, .slice firstA first.length firstC), (4, .slice secondA second.length secondC)]) ⟨rfl, rfl, rfl, rfl, rfl, trivial⟩
  refine c_seq ?_
  refine c_reg ?_
  refine l_step hE rfl (l_box (v := .agg #[.int .i64 f0, .slice f1A f1.length f1C]) (cs := #[.int .i64 f0, .slice f1A f1.length f1C]) hS5 hE rfl rfl rfl ?_)
  intro b6 w7 hS10 he11 a8 hE9; clear hS5 hE
  refine l_step hE9 rfl (l_box (v := .agg #[.int .i64 g0, .slice g1A g1.length g1C]) (cs := #[.int .i64 g0, .slice g1A g1.length g1C]) hS10 hE9 rfl rfl rfl ?_)
  intro b12 w13 hS16 he17 a14 hE15; clear hS10 hE9
  refine l_step hE15 rfl (l_box (v := .agg #[.int .i64 kp0, .slice kp1A kp1.length kp1C]) (cs := #[.int .i64 kp0, .slice kp1A kp1.length kp1C]) hS16 hE15 rfl rfl rfl ?_)
  intro b18 w19 hS22 he23 a20 hE21; clear hS16 hE15
  refine q_step (v := .slice none 0 0) hE21 (y_assign rfl) rfl rfl rfl ?_; intro a24 hE25; clear hE21
  refine q_step (v := .int .i64 0) hE25 (y_assign rfl) rfl rfl rfl ?_; intro a26 hE27; clear hE25
  refine c_nil ?_
  have hE28 := hE27.sub (L' := [(3, .slice firstA first.length firstC), (4, .slice secondA second.length secondC), (5, .pointer (some ⟨b6, 0, none⟩)), (6, .pointer (some ⟨b12, 0, none⟩)), (7, .pointer (some ⟨b18, 0, none⟩))]) ⟨rfl, rfl, rfl, rfl, rfl, trivial⟩; clear hE27
  refine p_tn ?_
  refine c_seq ?_
  refine c_cut (fun a' w' => E a' 56 [(3, .slice firstA first.length firstC), (4, .slice secondA second.length secondC), (5, .pointer (some ⟨b6, 0, none⟩)), (6, .pointer (some ⟨b12, 0, none⟩)), (7, .pointer (some ⟨b18, 0, none⟩)), (25, .bool ((!decide ((F_l08Code f0 f1 g0 g1 first) = 0)) || (!decide ((F_l08Code g0 g1 kp0 kp1 second) = 0))))] ∧ St w w' [.rd 1 kp1A kp1.length kp1C kp1, .blk b18 #[.int .i64 kp0, .slice kp1A kp1.length kp1C] 26, .rd 1 g1A g1.length g1C g1, .blk b12 #[.int .i64 g0, .slice g1A g1.length g1C] 26, .rd 1 f1A f1.length f1C f1, .blk b6 #[.int .i64 f0, .slice f1A f1.length f1C] 26, .rd 1 secondA second.length secondC second, .rd 1 firstA first.length firstC first]) ?_ ?_
  ·
    refine c_reg ?_
    refine q_step (v := .agg #[.int .i64 f0, .slice f1A f1.length f1C]) hE28 (y_loadS Try.underlying26 rfl (by kernel_rfl) rfl (St.row (i := 2) hS22 rfl)) rfl rfl rfl ?_; intro a29 hE30; clear hE28
    refine q_step (v := .agg #[.int .i64 g0, .slice g1A g1.length g1C]) hE30 (y_loadS Try.underlying26 rfl (by kernel_rfl) rfl (St.row (i := 1) hS22 rfl)) rfl rfl rfl ?_; intro a31 hE32; clear hE30
    refine q_step (v := .slice firstA first.length firstC) hE32 (y_move rfl) rfl rfl rfl ?_; intro a33 hE34; clear hE32
    refine l_step hE34 rfl (l_call (f := 64) (argv := [.agg #[.int .i64 f0, .slice f1A f1.length f1C], .agg #[.int .i64 g0, .slice g1A g1.length g1C], .slice firstA first.length firstC]) hE34 (fun _ => cf_l08Code _ _) rfl rfl (c_l08Code f0 f1A f1.length f1C f1 g0 g1A g1.length g1C g1 firstA first.length firstC first w19 (St.rdR (i := 7) hS22 rfl) (St.rdR (i := 6) hS22 rfl) (St.rdR (i := 4) hS22 rfl)) ?_)
    rintro _ w36 ⟨rfl, he40⟩ a37 hE38; clear hE34
    have hS39 := St.go hS22 he40; clear hS22
    refine q_step (v := .bool (!decide ((F_l08Code f0 f1 g0 g1 first) = 0))) hE38 (y_neq rfl rfl) rfl rfl rfl ?_; intro a41 hE42; clear hE38
    refine q_step (v := .bool (!decide ((F_l08Code f0 f1 g0 g1 first) = 0))) hE42 (y_move rfl) rfl rfl rfl ?_; intro a43 hE44; clear hE42
    rcases Bool.eq_false_or_eq_true (!decide ((F_l08Code f0 f1 g0 g1 first) = 0)) with hb45 | hb45
    ·
      have hE46 := hE44; rw [hb45] at hE46; clear hE44
      have ht47 := bn_t hb45
      have hp48 := of_decide_eq_false ht47
      refine q_skip hE46 rfl rfl rfl ?_; intro a49 hE50; clear hE46
      refine q_skip hE50 rfl rfl rfl ?_; intro a51 hE52; clear hE50
      refine q_skip hE52 rfl rfl rfl ?_; intro a53 hE54; clear hE52
      refine q_skip hE54 rfl rfl rfl ?_; intro a55 hE56; clear hE54
      refine q_skip hE56 rfl rfl rfl ?_; intro a57 hE58; clear hE56
      refine q_step (v := .bool true) hE58 (y_pick (b := true) rfl rfl) rfl rfl rfl ?_; intro a59 hE60; clear hE58
      refine c_nil ?_
      have hE61 := hE60.sub (L' := [(3, .slice firstA first.length firstC), (4, .slice secondA second.length secondC), (5, .pointer (some ⟨b6, 0, none⟩)), (6, .pointer (some ⟨b12, 0, none⟩)), (7, .pointer (some ⟨b18, 0, none⟩)), (25, .bool true)]) ⟨rfl, rfl, rfl, rfl, rfl, rfl, trivial⟩; clear hE60
      refine p_tn ?_
      have hE62 := hE61.sub (L' := [(3, .slice firstA first.length firstC), (4, .slice secondA second.length secondC), (5, .pointer (some ⟨b6, 0, none⟩)), (6, .pointer (some ⟨b12, 0, none⟩)), (7, .pointer (some ⟨b18, 0, none⟩)), (25, .bool true)]) ⟨rfl, rfl, rfl, rfl, rfl, rfl, trivial⟩
      have hS63 := (St.pick (Γ' := [.rd 1 kp1A kp1.length kp1C kp1, .blk b18 #[.int .i64 kp0, .slice kp1A kp1.length kp1C] 26, .rd 1 g1A g1.length g1C g1, .blk b12 #[.int .i64 g0, .slice g1A g1.length g1C] 26, .rd 1 f1A f1.length f1C f1, .blk b6 #[.int .i64 f0, .slice f1A f1.length f1C] 26, .rd 1 secondA second.length secondC second, .rd 1 firstA first.length firstC first]) hS39 [5, 0, 6, 1, 7, 2, 3, 4] (by decide) rfl)
      exact ⟨(by rw [hb45]; exact hE62), hS63⟩
    ·
      have hE64 := hE44; rw [hb45] at hE64; clear hE44
      have ht65 := bn_f hb45
      have hp66 := of_decide_eq_true ht65
      have hq67 := l08Code_t hp66
      refine q_step (v := .agg #[.int .i64 g0, .slice g1A g1.length g1C]) hE64 (y_loadS Try.underlying26 rfl (by kernel_rfl) rfl (St.row (i := 1) hS39 rfl)) rfl rfl rfl ?_; intro a68 hE69; clear hE64
      refine q_step (v := .agg #[.int .i64 kp0, .slice kp1A kp1.length kp1C]) hE69 (y_loadS Try.underlying26 rfl (by kernel_rfl) rfl (St.row (i := 0) hS39 rfl)) rfl rfl rfl ?_; intro a70 hE71; clear hE69
      refine q_step (v := .slice secondA second.length secondC) hE71 (y_move rfl) rfl rfl rfl ?_; intro a72 hE73; clear hE71
      refine l_step hE73 rfl (l_call (f := 64) (argv := [.agg #[.int .i64 g0, .slice g1A g1.length g1C], .agg #[.int .i64 kp0, .slice kp1A kp1.length kp1C], .slice secondA second.length secondC]) hE73 (fun _ => cf_l08Code _ _) rfl rfl (c_l08Code g0 g1A g1.length g1C g1 kp0 kp1A kp1.length kp1C kp1 secondA second.length secondC second w36 (St.rdR (i := 6) hS39 rfl) (St.rdR (i := 5) hS39 rfl) (St.rdR (i := 3) hS39 rfl)) ?_)
      rintro _ w75 ⟨rfl, he79⟩ a76 hE77; clear hE73
      have hS78 := St.go hS39 he79; clear hS39
      refine q_step (v := .bool (!decide ((F_l08Code g0 g1 kp0 kp1 second) = 0))) hE77 (y_neq rfl rfl) rfl rfl rfl ?_; intro a80 hE81; clear hE77
      refine q_step (v := .bool (!decide ((F_l08Code g0 g1 kp0 kp1 second) = 0))) hE81 (y_pick (b := false) rfl rfl) rfl rfl rfl ?_; intro a82 hE83; clear hE81
      refine c_nil ?_
      have hE84 := hE83.sub (L' := [(3, .slice firstA first.length firstC), (4, .slice secondA second.length secondC), (5, .pointer (some ⟨b6, 0, none⟩)), (6, .pointer (some ⟨b12, 0, none⟩)), (7, .pointer (some ⟨b18, 0, none⟩)), (25, .bool (!decide ((F_l08Code g0 g1 kp0 kp1 second) = 0)))]) ⟨rfl, rfl, rfl, rfl, rfl, rfl, trivial⟩; clear hE83
      refine p_tn ?_
      have hE85 := hE84.sub (L' := [(3, .slice firstA first.length firstC), (4, .slice secondA second.length secondC), (5, .pointer (some ⟨b6, 0, none⟩)), (6, .pointer (some ⟨b12, 0, none⟩)), (7, .pointer (some ⟨b18, 0, none⟩)), (25, .bool (!decide ((F_l08Code g0 g1 kp0 kp1 second) = 0)))]) ⟨rfl, rfl, rfl, rfl, rfl, rfl, trivial⟩
      have hS86 := (St.pick (Γ' := [.rd 1 kp1A kp1.length kp1C kp1, .blk b18 #[.int .i64 kp0, .slice kp1A kp1.length kp1C] 26, .rd 1 g1A g1.length g1C g1, .blk b12 #[.int .i64 g0, .slice g1A g1.length g1C] 26, .rd 1 f1A f1.length f1C f1, .blk b6 #[.int .i64 f0, .slice f1A f1.length f1C] 26, .rd 1 secondA second.length secondC second, .rd 1 firstA first.length firstC first]) hS78 [5, 0, 6, 1, 7, 2, 3, 4] (by decide) rfl)
      exact ⟨(by rw [hb45]; exact hE85), hS86⟩
  ·
    rintro a87 w88 ⟨hE89, hS90⟩; clear hE28 hS22
    refine c_cond hE89 rfl (fun ht91 => ?_) (fun ht91 => ?_)
    ·
      have hE92 := hE89; rw [ht91] at hE92; clear hE89
      refine c_seq ?_
      refine c_reg ?_
      refine q_step (v := .slice none 0 0) hE92 (y_assign rfl) rfl rfl rfl ?_; intro a93 hE94; clear hE92
      refine q_step (v := .int .i64 1) hE94 (y_assign rfl) rfl rfl rfl ?_; intro a95 hE96; clear hE94
      refine c_nil ?_
      have hE97 := hE96.sub (L' := [(10, .slice none 0 0), (11, .int .i64 1)]) ⟨rfl, rfl, trivial⟩; clear hE96
      refine p_tn ?_
      refine wp_ret ?_
      refine p_tr ?_
      have hF : F_s_ThenMorphisms f0 f1 g0 g1 kp0 kp1 first second = ([], 1) := by unfold F_s_ThenMorphisms; rw [ht91]; first | done | rfl
      refine c_ret2 hE97 rfl rfl rfl ?_
      exact ⟨none, 0, (by rw [hF]; first | done | rfl), (by rw [hF]; exact OwnS.nilS _ _ _ _), hS90.ext⟩
    ·
      obtain ⟨ht98, ht99⟩ := bor_f ht91
      have ht100 := bn_f ht98
      have hp101 := of_decide_eq_true ht100
      have hq102 := l08Code_t hp101
      have ht103 := bn_f ht99
      have hp104 := of_decide_eq_true ht103
      have hq105 := l08Code_t hp104
      have hE106 := hE89; rw [ht91] at hE106; clear hE89
      refine wp_skip ?_
      refine p_tn ?_
      refine c_seq ?_
      refine c_cut (fun a' w' => E a' 56 [(3, .slice firstA first.length firstC), (4, .slice secondA second.length secondC), (37, .bool ((!(F_l08Is f0 f1 g0 g1 first)) || (!(F_l08Is g0 g1 kp0 kp1 second))))] ∧ St w w' [.rd 1 kp1A kp1.length kp1C kp1, .blk b18 #[.int .i64 kp0, .slice kp1A kp1.length kp1C] 26, .rd 1 g1A g1.length g1C g1, .blk b12 #[.int .i64 g0, .slice g1A g1.length g1C] 26, .rd 1 f1A f1.length f1C f1, .blk b6 #[.int .i64 f0, .slice f1A f1.length f1C] 26, .rd 1 secondA second.length secondC second, .rd 1 firstA first.length firstC first]) ?_ ?_
      ·
        refine c_reg ?_
        refine q_step (v := .agg #[.int .i64 f0, .slice f1A f1.length f1C]) hE106 (y_loadS Try.underlying26 rfl (by kernel_rfl) rfl (St.row (i := 5) hS90 rfl)) rfl rfl rfl ?_; intro a107 hE108; clear hE106
        refine q_step (v := .agg #[.int .i64 g0, .slice g1A g1.length g1C]) hE108 (y_loadS Try.underlying26 rfl (by kernel_rfl) rfl (St.row (i := 3) hS90 rfl)) rfl rfl rfl ?_; intro a109 hE110; clear hE108
        refine q_step (v := .slice firstA first.length firstC) hE110 (y_move rfl) rfl rfl rfl ?_; intro a111 hE112; clear hE110
        refine l_step hE112 rfl (l_call (f := 65) (argv := [.agg #[.int .i64 f0, .slice f1A f1.length f1C], .agg #[.int .i64 g0, .slice g1A g1.length g1C], .slice firstA first.length firstC]) hE112 (fun _ => cf_l08Is _ _) rfl rfl (c_l08Is f0 f1A f1.length f1C f1 g0 g1A g1.length g1C g1 firstA first.length firstC first w88 (St.rdR (i := 4) hS90 rfl) (St.rdR (i := 2) hS90 rfl) (St.rdR (i := 7) hS90 rfl) (by omega) (by omega) (by omega) (by omega) (by omega) ((l08Code_t (by assumption)).2.2.2.2.2)) ?_)
        rintro _ w114 ⟨rfl, he118⟩ a115 hE116; clear hE112
        have hS117 := St.go hS90 he118; clear hS90
        refine q_step (v := .bool (!(F_l08Is f0 f1 g0 g1 first))) hE116 (y_not rfl) rfl rfl rfl ?_; intro a119 hE120; clear hE116
        refine q_step (v := .bool (!(F_l08Is f0 f1 g0 g1 first))) hE120 (y_move rfl) rfl rfl rfl ?_; intro a121 hE122; clear hE120
        rcases Bool.eq_false_or_eq_true (!(F_l08Is f0 f1 g0 g1 first)) with hb123 | hb123
        ·
          have hE124 := hE122; rw [hb123] at hE124; clear hE122
          have ht125 := bn_t hb123
          refine q_skip hE124 rfl rfl rfl ?_; intro a126 hE127; clear hE124
          refine q_skip hE127 rfl rfl rfl ?_; intro a128 hE129; clear hE127
          refine q_skip hE129 rfl rfl rfl ?_; intro a130 hE131; clear hE129
          refine q_skip hE131 rfl rfl rfl ?_; intro a132 hE133; clear hE131
          refine q_skip hE133 rfl rfl rfl ?_; intro a134 hE135; clear hE133
          refine q_step (v := .bool true) hE135 (y_pick (b := true) rfl rfl) rfl rfl rfl ?_; intro a136 hE137; clear hE135
          refine c_nil ?_
          have hE138 := hE137.sub (L' := [(3, .slice firstA first.length firstC), (4, .slice secondA second.length secondC), (37, .bool true)]) ⟨rfl, rfl, rfl, trivial⟩; clear hE137
          refine p_tn ?_
          have hE139 := hE138.sub (L' := [(3, .slice firstA first.length firstC), (4, .slice secondA second.length secondC), (37, .bool true)]) ⟨rfl, rfl, rfl, trivial⟩
          have hS140 := (St.pick (Γ' := [.rd 1 kp1A kp1.length kp1C kp1, .blk b18 #[.int .i64 kp0, .slice kp1A kp1.length kp1C] 26, .rd 1 g1A g1.length g1C g1, .blk b12 #[.int .i64 g0, .slice g1A g1.length g1C] 26, .rd 1 f1A f1.length f1C f1, .blk b6 #[.int .i64 f0, .slice f1A f1.length f1C] 26, .rd 1 secondA second.length secondC second, .rd 1 firstA first.length firstC first]) hS117 [0, 1, 2, 3, 4, 5, 6, 7] (by decide) rfl)
          exact ⟨(by rw [hb123]; exact hE139), hS140⟩
        ·
          have hE141 := hE122; rw [hb123] at hE141; clear hE122
          have ht142 := bn_f hb123
          refine q_step (v := .agg #[.int .i64 g0, .slice g1A g1.length g1C]) hE141 (y_loadS Try.underlying26 rfl (by kernel_rfl) rfl (St.row (i := 3) hS117 rfl)) rfl rfl rfl ?_; intro a143 hE144; clear hE141
          refine q_step (v := .agg #[.int .i64 kp0, .slice kp1A kp1.length kp1C]) hE144 (y_loadS Try.underlying26 rfl (by kernel_rfl) rfl (St.row (i := 1) hS117 rfl)) rfl rfl rfl ?_; intro a145 hE146; clear hE144
          refine q_step (v := .slice secondA second.length secondC) hE146 (y_move rfl) rfl rfl rfl ?_; intro a147 hE148; clear hE146
          refine l_step hE148 rfl (l_call (f := 65) (argv := [.agg #[.int .i64 g0, .slice g1A g1.length g1C], .agg #[.int .i64 kp0, .slice kp1A kp1.length kp1C], .slice secondA second.length secondC]) hE148 (fun _ => cf_l08Is _ _) rfl rfl (c_l08Is g0 g1A g1.length g1C g1 kp0 kp1A kp1.length kp1C kp1 secondA second.length secondC second w114 (St.rdR (i := 2) hS117 rfl) (St.rdR (i := 0) hS117 rfl) (St.rdR (i := 6) hS117 rfl) (by omega) (by omega) (by omega) (by omega) (by omega) ((l08Code_t (by assumption)).2.2.2.2.2)) ?_)
          rintro _ w150 ⟨rfl, he154⟩ a151 hE152; clear hE148
          have hS153 := St.go hS117 he154; clear hS117
          refine q_step (v := .bool (!(F_l08Is g0 g1 kp0 kp1 second))) hE152 (y_not rfl) rfl rfl rfl ?_; intro a155 hE156; clear hE152
          refine q_step (v := .bool (!(F_l08Is g0 g1 kp0 kp1 second))) hE156 (y_pick (b := false) rfl rfl) rfl rfl rfl ?_; intro a157 hE158; clear hE156
          refine c_nil ?_
          have hE159 := hE158.sub (L' := [(3, .slice firstA first.length firstC), (4, .slice secondA second.length secondC), (37, .bool (!(F_l08Is g0 g1 kp0 kp1 second)))]) ⟨rfl, rfl, rfl, trivial⟩; clear hE158
          refine p_tn ?_
          have hE160 := hE159.sub (L' := [(3, .slice firstA first.length firstC), (4, .slice secondA second.length secondC), (37, .bool (!(F_l08Is g0 g1 kp0 kp1 second)))]) ⟨rfl, rfl, rfl, trivial⟩
          have hS161 := (St.pick (Γ' := [.rd 1 kp1A kp1.length kp1C kp1, .blk b18 #[.int .i64 kp0, .slice kp1A kp1.length kp1C] 26, .rd 1 g1A g1.length g1C g1, .blk b12 #[.int .i64 g0, .slice g1A g1.length g1C] 26, .rd 1 f1A f1.length f1C f1, .blk b6 #[.int .i64 f0, .slice f1A f1.length f1C] 26, .rd 1 secondA second.length secondC second, .rd 1 firstA first.length firstC first]) hS153 [0, 1, 2, 3, 4, 5, 6, 7] (by decide) rfl)
          exact ⟨(by rw [hb123]; exact hE160), hS161⟩
      ·
        rintro a162 w163 ⟨hE164, hS165⟩; clear hE106 hS90
        refine c_cond hE164 rfl (fun ht166 => ?_) (fun ht166 => ?_)
        ·
          have hE167 := hE164; rw [ht166] at hE167; clear hE164
          refine c_seq ?_
          refine c_reg ?_
          refine q_step (v := .slice none 0 0) hE167 (y_assign rfl) rfl rfl rfl ?_; intro a168 hE169; clear hE167
          refine q_step (v := .int .i64 5) hE169 (y_assign rfl) rfl rfl rfl ?_; intro a170 hE171; clear hE169
          refine c_nil ?_
          have hE172 := hE171.sub (L' := [(10, .slice none 0 0), (11, .int .i64 5)]) ⟨rfl, rfl, trivial⟩; clear hE171
          refine p_tn ?_
          refine wp_ret ?_
          refine p_tr ?_
          have hF : F_s_ThenMorphisms f0 f1 g0 g1 kp0 kp1 first second = ([], 5) := by unfold F_s_ThenMorphisms; rw [ht166, ht91]; first | done | rfl
          refine c_ret2 hE172 rfl rfl rfl ?_
          exact ⟨none, 0, (by rw [hF]; first | done | rfl), (by rw [hF]; exact OwnS.nilS _ _ _ _), hS165.ext⟩
        ·
          obtain ⟨ht173, ht174⟩ := bor_f ht166
          have ht175 := bn_f ht173
          have ht176 := bn_f ht174
          have hE177 := hE164; rw [ht166] at hE177; clear hE164
          refine wp_skip ?_
          refine p_tn ?_
          refine c_seq ?_
          refine c_reg ?_
          refine l_step hE177 rfl (l_lit (e := 2) (s := 1) (xs := []) (vs := []) hS165 hE177 rfl (fun _ => by kernel_rfl) rfl rfl rfl ?_)
          intro b178 w179 hS182 he183 a180 hE181; clear hS165 hE177
          refine q_step (v := .slice (some ⟨b178, 0, none⟩) 0 0) hE181 (y_assign rfl) rfl rfl rfl ?_; intro a184 hE185; clear hE181
          refine c_nil ?_
          have hE186 := hE185.sub (L' := [(3, .slice firstA first.length firstC), (4, .slice secondA second.length secondC), (12, .slice (some ⟨b178, 0, none⟩) 0 0)]) ⟨rfl, rfl, rfl, trivial⟩; clear hE185
          refine p_tn ?_
          refine c_seq ?_
          refine c_seq ?_
          refine c_reg ?_
          refine q_step (v := .int .i64 0) hE186 (y_assign rfl) rfl rfl rfl ?_; intro a187 hE188; clear hE186
          refine c_nil ?_
          have hE189 := hE188.sub (L' := [(3, .slice firstA first.length firstC), (4, .slice secondA second.length secondC), (12, .slice (some ⟨b178, 0, none⟩) 0 0), (13, .int .i64 0)]) ⟨rfl, rfl, rfl, rfl, trivial⟩; clear hE188
          refine p_tn ?_
          refine c_cut1 (fun a' w' => ∃ out12A_190 : Option Addr, ∃ out12C_190 : Nat, (0 ≤ ((F_s_ThenMorphisms_L1 first second (Int.toNat ((first.length : Int) - 0) + 1) ([]) 0).2)) ∧ (((F_s_ThenMorphisms_L1 first second (Int.toNat ((first.length : Int) - 0) + 1) ([]) 0).2) ≤ (first.length : Int)) ∧ ((((F_s_ThenMorphisms_L1 first second (Int.toNat ((first.length : Int) - 0) + 1) ([]) 0).1).length : Int) ≤ ((F_s_ThenMorphisms_L1 first second (Int.toNat ((first.length : Int) - 0) + 1) ([]) 0).2)) ∧ E a' 56 [(3, .slice firstA first.length firstC), (4, .slice secondA second.length secondC), (12, .slice out12A_190 (((F_s_ThenMorphisms_L1 first second (Int.toNat ((first.length : Int) - 0) + 1) ([]) 0).1).length) out12C_190), (13, .int .i64 ((F_s_ThenMorphisms_L1 first second (Int.toNat ((first.length : Int) - 0) + 1) ([]) 0).2))] ∧ St w w' [.own 2 1 out12A_190 (((F_s_ThenMorphisms_L1 first second (Int.toNat ((first.length : Int) - 0) + 1) ([]) 0).1).length) out12C_190 ((F_s_ThenMorphisms_L1 first second (Int.toNat ((first.length : Int) - 0) + 1) ([]) 0).1), .rd 1 kp1A kp1.length kp1C kp1, .blk b18 #[.int .i64 kp0, .slice kp1A kp1.length kp1C] 26, .rd 1 g1A g1.length g1C g1, .blk b12 #[.int .i64 g0, .slice g1A g1.length g1C] 26, .rd 1 f1A f1.length f1C f1, .blk b6 #[.int .i64 f0, .slice f1A f1.length f1C] 26, .rd 1 secondA second.length secondC second, .rd 1 firstA first.length firstC first]) ?_ ?_
          ·
            refine wp_block ?_
            refine c_loop (fun r a' w' => ∃ out12 : List Int, ∃ x13 : Int, ∃ out12A : Option Addr, ∃ out12C : Nat, F_s_ThenMorphisms_L1 first second r out12 x13 = F_s_ThenMorphisms_L1 first second (Int.toNat ((first.length : Int) - 0) + 1) ([]) 0 ∧ Int.toNat ((first.length : Int) - x13) < r ∧ (0 ≤ x13) ∧ (x13 ≤ (first.length : Int)) ∧ ((out12.length : Int) ≤ x13) ∧ E a' 56 [(3, .slice firstA first.length firstC), (4, .slice secondA second.length secondC), (12, .slice out12A ((out12).length) out12C), (13, .int .i64 x13)] ∧ St w w' [.own 2 1 out12A ((out12).length) out12C out12, .rd 1 kp1A kp1.length kp1C kp1, .blk b18 #[.int .i64 kp0, .slice kp1A kp1.length kp1C] 26, .rd 1 g1A g1.length g1C g1, .blk b12 #[.int .i64 g0, .slice g1A g1.length g1C] 26, .rd 1 f1A f1.length f1C f1, .blk b6 #[.int .i64 f0, .slice f1A f1.length f1C] 26, .rd 1 secondA second.length secondC second, .rd 1 firstA first.length firstC first]) (r := (Int.toNat ((first.length : Int) - 0) + 1)) ?_ ?_
            · exact ⟨[], 0, some ⟨b178, 0, none⟩, 0, rfl, Nat.lt_succ_self _, (by first | omega | (simp only [List.length_append, List.length_cons, List.length_nil, sI_len, cond_true, cond_false]; omega) | (simp only [List.length_append, List.length_cons, List.length_nil, sI_len, cond_eq_ite, apply_ite List.length]; split <;> simp only [List.length_append, List.length_cons, List.length_nil, sI_len] <;> omega) | grind), (by first | omega | (simp only [List.length_append, List.length_cons, List.length_nil, sI_len, cond_true, cond_false]; omega) | (simp only [List.length_append, List.length_cons, List.length_nil, sI_len, cond_eq_ite, apply_ite List.length]; split <;> simp only [List.length_append, List.length_cons, List.length_nil, sI_len] <;> omega) | grind), (by first | omega | (simp only [List.length_append, List.length_cons, List.length_nil, sI_len, cond_true, cond_false]; omega) | (simp only [List.length_append, List.length_cons, List.length_nil, sI_len, cond_eq_ite, apply_ite List.length]; split <;> simp only [List.length_append, List.length_cons, List.length_nil, sI_len] <;> omega) | grind), (hE189.sub (L' := [(3, .slice firstA first.length firstC), (4, .slice secondA second.length secondC), (12, .slice (some ⟨b178, 0, none⟩) 0 0), (13, .int .i64 0)]) ⟨rfl, rfl, rfl, rfl, trivial⟩), (St.pick (Γ' := [.own 2 1 (some ⟨b178, 0, none⟩) 0 0 ([]), .rd 1 kp1A kp1.length kp1C kp1, .blk b18 #[.int .i64 kp0, .slice kp1A kp1.length kp1C] 26, .rd 1 g1A g1.length g1C g1, .blk b12 #[.int .i64 g0, .slice g1A g1.length g1C] 26, .rd 1 f1A f1.length f1C f1, .blk b6 #[.int .i64 f0, .slice f1A f1.length f1C] 26, .rd 1 secondA second.length secondC second, .rd 1 firstA first.length firstC first]) hS182 [0, 1, 2, 3, 4, 5, 6, 7, 8] (by decide) rfl)⟩
            ·
              clear hE189 hS182
              rintro r200 a191 w192 ⟨out12, x13, out12A, out12C, hT195, hr196, hi197, hi198, hi199, hE193, hS194⟩
              obtain ⟨r200, rfl⟩ : ∃ r', r200 = r' + 1 := ⟨r200 - 1, by omega⟩
              refine c_seq ?_
              refine c_seq ?_
              refine c_reg ?_
              refine q_step (v := .int .i64 x13) hE193 (y_move rfl) rfl rfl rfl ?_; intro a201 hE202; clear hE193
              refine q_step (v := .slice firstA first.length firstC) hE202 (y_move rfl) rfl rfl rfl ?_; intro a203 hE204; clear hE202
              refine q_step (v := .int .i64 (first.length : Int)) hE204 (y_len (e := 2) (by kernel_rfl) rfl) rfl rfl rfl ?_; intro a205 hE206; clear hE204
              refine q_step (v := .bool (decide (x13 < (first.length : Int)))) hE206 (y_lss rfl rfl) rfl rfl rfl ?_; intro a207 hE208; clear hE206
              refine c_nil ?_
              have hE209 := hE208.sub (L' := [(3, .slice firstA first.length firstC), (4, .slice secondA second.length secondC), (12, .slice out12A ((out12).length) out12C), (13, .int .i64 x13), (42, .bool (decide (x13 < (first.length : Int))))]) ⟨rfl, rfl, rfl, rfl, rfl, trivial⟩; clear hE208
              refine p_tn ?_
              refine c_cond hE209 rfl (fun ht210 => ?_) (fun ht210 => ?_)
              ·
                have hp211 := of_decide_eq_true ht210
                have hE212 := hE209; rw [ht210] at hE212; clear hE209
                have hx1 := (l08Code_t (images := first) (by assumption)).2.2.2.2.2 x13 (by omega) (by omega)
                refine wp_skip ?_
                refine p_tn ?_
                refine c_seq ?_
                refine wp_block ?_
                refine c_reg ?_
                refine q_step (v := .slice out12A ((out12).length) out12C) hE212 (y_move rfl) rfl rfl rfl ?_; intro a213 hE214; clear hE212
                refine q_step (v := .slice secondA second.length secondC) hE214 (y_move rfl) rfl rfl rfl ?_; intro a215 hE216; clear hE214
                refine q_step (v := .slice firstA first.length firstC) hE216 (y_move rfl) rfl rfl rfl ?_; intro a217 hE218; clear hE216
                refine q_step (v := .int .i64 x13) hE218 (y_move rfl) rfl rfl rfl ?_; intro a219 hE220; clear hE218
                refine q_step (v := .pointer (some (adr firstA (Int.toNat x13)))) hE220 (y_idx (by kernel_rfl) (fun _ => by kernel_rfl) rfl rfl (RdS.isS (m := x13) (St.rdR (i := 8) hS194 rfl) (by omega) (by omega)) (by omega) (by omega) (Nat.mul_one _).symm) rfl rfl rfl ?_; intro a221 hE222; clear hE220
                refine q_step (v := .int .i64 (gI first x13)) hE222 (y_load (fun _ => by kernel_rfl) rfl (RdS.elt (St.rdR (i := 8) hS194 rfl) (by omega) (by omega))) rfl rfl rfl ?_; intro a223 hE224; clear hE222
                refine q_step (v := .pointer (some (adr secondA (Int.toNat (gI first x13))))) hE224 (y_idx (by kernel_rfl) (fun _ => by kernel_rfl) rfl rfl (RdS.isS (m := gI first x13) (St.rdR (i := 7) hS194 rfl) (by omega) (by omega)) (by omega) (by omega) (Nat.mul_one _).symm) rfl rfl rfl ?_; intro a225 hE226; clear hE224
                refine q_step (v := .int .i64 (gI second (gI first x13))) hE226 (y_load (fun _ => by kernel_rfl) rfl (RdS.elt (St.rdR (i := 7) hS194 rfl) (by omega) (by omega))) rfl rfl rfl ?_; intro a227 hE228; clear hE226
                refine l_step hE228 rfl (l_lit (e := 2) (s := 1) (xs := [gI second (gI first x13)]) (vs := [.int .i64 (gI second (gI first x13))]) hS194 hE228 rfl (fun _ => by kernel_rfl) rfl rfl rfl ?_)
                intro b229 w230 hS233 he234 a231 hE232; clear hS194 hE228
                obtain ⟨_, hi1, hi2, hi3, hi4⟩ := info_parts (show (Try.prog.info? 2).map (fun i => (i.zero, i.size, i.bytes)) = some (some (.int .i64 0), 1, 8) by kernel_rfl)
                refine l_step hE232 rfl (l_append (k := 1) (n' := (out12 ++ ([gI second (gI first x13)])).length) hS233 hE232 (by kernel_rfl) hi1 hi2 hi3 rfl (by decide) (by rw [hi4]; decide) rfl rfl rfl (St.rdO (i := 0) hS233 rfl) (by first | omega | (simp only [List.length_append, List.length_cons, List.length_nil]; omega)) (by have h1 := (St.rdO (i := 1) hS233 rfl).len1; have h2 := (St.rdO (i := 0) hS233 rfl).len1; rw [List.length_append, h1, h2]) rfl ?_)
                intro b235 c241 w236 hS239 a237 hE238; clear hS233 hE232 hi1 hi2 hi3 hi4
                refine q_step (v := .slice b235 ((out12 ++ ([gI second (gI first x13)])).length) c241) hE238 (y_assign rfl) rfl rfl rfl ?_; intro a242 hE243; clear hE238
                refine c_nil ?_
                have hE244 := hE243.sub (L' := [(3, .slice firstA first.length firstC), (4, .slice secondA second.length secondC), (12, .slice b235 ((out12 ++ ([gI second (gI first x13)])).length) c241), (13, .int .i64 x13)]) ⟨rfl, rfl, rfl, rfl, trivial⟩; clear hE243
                refine p_bn ?_
                refine p_tn ?_
                refine c_reg ?_
                refine q_step (v := .int .i64 x13) hE244 (y_move rfl) rfl rfl rfl ?_; intro a245 hE246; clear hE244
                refine q_step (v := .int .i64 (x13 + 1)) hE246 (y_add rfl rfl ⟨(by omega), (by omega)⟩) rfl rfl rfl ?_; intro a247 hE248; clear hE246
                refine q_step (v := .int .i64 (x13 + 1)) hE248 (y_assign rfl) rfl rfl rfl ?_; intro a249 hE250; clear hE248
                refine c_nil ?_
                have hE251 := hE250.sub (L' := [(3, .slice firstA first.length firstC), (4, .slice secondA second.length secondC), (12, .slice b235 ((out12 ++ ([gI second (gI first x13)])).length) c241), (13, .int .i64 (x13 + 1))]) ⟨rfl, rfl, rfl, rfl, trivial⟩; clear hE250
                refine p_tn ⟨r200, Nat.lt_succ_self _, out12 ++ ([gI second (gI first x13)]), x13 + 1, b235, c241, (hT195.symm.trans (show F_s_ThenMorphisms_L1b first second (F_s_ThenMorphisms_L1 first second r200) out12 x13 = F_s_ThenMorphisms_L1 first second r200 (out12 ++ ([gI second (gI first x13)])) (x13 + 1) by unfold F_s_ThenMorphisms_L1b; rw [ht210]; first | done | rfl)).symm, (by omega), (by first | omega | (simp only [List.length_append, List.length_cons, List.length_nil, sI_len, cond_true, cond_false]; omega) | (simp only [List.length_append, List.length_cons, List.length_nil, sI_len, cond_eq_ite, apply_ite List.length]; split <;> simp only [List.length_append, List.length_cons, List.length_nil, sI_len] <;> omega) | grind), (by first | omega | (simp only [List.length_append, List.length_cons, List.length_nil, sI_len, cond_true, cond_false]; omega) | (simp only [List.length_append, List.length_cons, List.length_nil, sI_len, cond_eq_ite, apply_ite List.length]; split <;> simp only [List.length_append, List.length_cons, List.length_nil, sI_len] <;> omega) | grind), (by first | omega | (simp only [List.length_append, List.length_cons, List.length_nil, sI_len, cond_true, cond_false]; omega) | (simp only [List.length_append, List.length_cons, List.length_nil, sI_len, cond_eq_ite, apply_ite List.length]; split <;> simp only [List.length_append, List.length_cons, List.length_nil, sI_len] <;> omega) | grind), (hE251.sub (L' := [(3, .slice firstA first.length firstC), (4, .slice secondA second.length secondC), (12, .slice b235 ((out12 ++ ([gI second (gI first x13)])).length) c241), (13, .int .i64 (x13 + 1))]) ⟨rfl, rfl, rfl, rfl, trivial⟩), (St.pick (Γ' := [.own 2 1 b235 ((out12 ++ ([gI second (gI first x13)])).length) c241 (out12 ++ ([gI second (gI first x13)])), .rd 1 kp1A kp1.length kp1C kp1, .blk b18 #[.int .i64 kp0, .slice kp1A kp1.length kp1C] 26, .rd 1 g1A g1.length g1C g1, .blk b12 #[.int .i64 g0, .slice g1A g1.length g1C] 26, .rd 1 f1A f1.length f1C f1, .blk b6 #[.int .i64 f0, .slice f1A f1.length f1C] 26, .rd 1 secondA second.length secondC second, .rd 1 firstA first.length firstC first]) hS239 [1, 2, 3, 4, 5, 6, 7, 8, 9] (by decide) rfl)⟩
              ·
                have hp252 := of_decide_eq_false ht210
                have hE253 := hE209; rw [ht210] at hE253; clear hE209
                refine wp_exit ?_
                refine p_te ?_
                have hX254 : F_s_ThenMorphisms_L1 first second (Int.toNat ((first.length : Int) - 0) + 1) ([]) 0 = (out12, x13) := hT195.symm.trans (show F_s_ThenMorphisms_L1b first second (F_s_ThenMorphisms_L1 first second r200) out12 x13 = (out12, x13) by unfold F_s_ThenMorphisms_L1b; rw [ht210]; first | done | rfl)
                refine p_te (p_be (p_tn ?_))
                exact ⟨out12A, out12C, (by rw [hX254]; exact (show 0 ≤ x13 from (by first | omega | (simp only [List.length_append, List.length_cons, List.length_nil, sI_len, cond_true, cond_false]; omega) | (simp only [List.length_append, List.length_cons, List.length_nil, sI_len, cond_eq_ite, apply_ite List.length]; split <;> simp only [List.length_append, List.length_cons, List.length_nil, sI_len] <;> omega) | grind))), (by rw [hX254]; exact (show x13 ≤ (first.length : Int) from (by first | omega | (simp only [List.length_append, List.length_cons, List.length_nil, sI_len, cond_true, cond_false]; omega) | (simp only [List.length_append, List.length_cons, List.length_nil, sI_len, cond_eq_ite, apply_ite List.length]; split <;> simp only [List.length_append, List.length_cons, List.length_nil, sI_len] <;> omega) | grind))), (by rw [hX254]; exact (show (out12.length : Int) ≤ x13 from (by first | omega | (simp only [List.length_append, List.length_cons, List.length_nil, sI_len, cond_true, cond_false]; omega) | (simp only [List.length_append, List.length_cons, List.length_nil, sI_len, cond_eq_ite, apply_ite List.length]; split <;> simp only [List.length_append, List.length_cons, List.length_nil, sI_len] <;> omega) | grind))), (by rw [hX254]; exact (hE253.sub (L' := [(3, .slice firstA first.length firstC), (4, .slice secondA second.length secondC), (12, .slice out12A ((out12).length) out12C), (13, .int .i64 x13)]) ⟨rfl, rfl, rfl, rfl, trivial⟩)), (by rw [hX254]; exact (St.pick (Γ' := [.own 2 1 out12A ((out12).length) out12C out12, .rd 1 kp1A kp1.length kp1C kp1, .blk b18 #[.int .i64 kp0, .slice kp1A kp1.length kp1C] 26, .rd 1 g1A g1.length g1C g1, .blk b12 #[.int .i64 g0, .slice g1A g1.length g1C] 26, .rd 1 f1A f1.length f1C f1, .blk b6 #[.int .i64 f0, .slice f1A f1.length f1C] 26, .rd 1 secondA second.length secondC second, .rd 1 firstA first.length firstC first]) hS194 [0, 1, 2, 3, 4, 5, 6, 7, 8] (by decide) rfl))⟩
          ·
            rintro a255 w256 ⟨out12A_190, out12C_190, hi260, hi261, hi262, hE257, hS258⟩; clear hE189 hS182
            refine p_tn ?_
            refine c_seq ?_
            refine c_reg ?_
            refine q_step (v := .slice out12A_190 (((F_s_ThenMorphisms_L1 first second (Int.toNat ((first.length : Int) - 0) + 1) ([]) 0).1).length) out12C_190) hE257 (y_move rfl) rfl rfl rfl ?_; intro a263 hE264; clear hE257
            refine q_step (v := .slice out12A_190 (((F_s_ThenMorphisms_L1 first second (Int.toNat ((first.length : Int) - 0) + 1) ([]) 0).1).length) out12C_190) hE264 (y_assign rfl) rfl rfl rfl ?_; intro a265 hE266; clear hE264
            refine q_step (v := .int .i64 0) hE266 (y_assign rfl) rfl rfl rfl ?_; intro a267 hE268; clear hE266
            refine c_nil ?_
            have hE269 := hE268.sub (L' := [(10, .slice out12A_190 (((F_s_ThenMorphisms_L1 first second (Int.toNat ((first.length : Int) - 0) + 1) ([]) 0).1).length) out12C_190), (11, .int .i64 0)]) ⟨rfl, rfl, trivial⟩; clear hE268
            refine p_tn ?_
            refine wp_ret ?_
            have hF : F_s_ThenMorphisms f0 f1 g0 g1 kp0 kp1 first second = ((F_s_ThenMorphisms_L1 first second (Int.toNat ((first.length : Int) - 0) + 1) ([]) 0).1, 0) := by unfold F_s_ThenMorphisms; rw [ht166, ht91]; first | done | rfl
            refine c_ret2 hE269 rfl rfl rfl ?_
            exact ⟨out12A_190, out12C_190, (by rw [hF]; first | done | rfl), (by rw [hF]; exact hS258.ok 0 _ rfl), hS258.ext⟩

def F_ThenMorphisms_L1b (first : List Int) (second : List Int) (rec : (List Int) → Int → (List Int) × Int) (out12 : List Int) (t41 : Int) : (List Int) × Int :=
  bif (decide (t41 < (first.length : Int))) then (rec (out12 ++ ([gI second (gI first t41)])) (t41 + 1)) else (out12, t41)
def F_ThenMorphisms_L1 (first : List Int) (second : List Int) : Nat → (List Int) → Int → (List Int) × Int
  | 0, out12, t41 => (out12, t41)
  | r + 1, out12, t41 => F_ThenMorphisms_L1b first second (F_ThenMorphisms_L1 first second r) out12 t41
def F_ThenMorphisms (f0 : Int) (f1 : List Int) (g0 : Int) (g1 : List Int) (kp0 : Int) (kp1 : List Int) (first : List Int) (second : List Int) : (List Int) × (Int) :=
  bif ((!decide ((F_mapCode f0 f1 g0 g1 first) = 0)) || (!decide ((F_mapCode g0 g1 kp0 kp1 second) = 0))) then ([], 1) else (bif ((!(F_isMorphism f0 f1 g0 g1 first)) || (!(F_isMorphism g0 g1 kp0 kp1 second))) then ([], 5) else ((F_ThenMorphisms_L1 first second (Int.toNat ((first.length : Int) - 0) + 1) ([]) 0).1, 0))
theorem cf_ThenMorphisms (args : Array Value) (w : World) : (callFunc 24 args).run Try.prog w = .ok (.enter 24 args) w := by kernel_rfl
set_option maxRecDepth 100000 in
theorem c_ThenMorphisms (f0 : Int) (f1A : Option Addr) (f1N f1C : Nat) (f1 : List Int) (g0 : Int) (g1A : Option Addr) (g1N g1C : Nat) (g1 : List Int) (kp0 : Int) (kp1A : Option Addr) (kp1N kp1C : Nat) (kp1 : List Int) (firstA : Option Addr) (firstN firstC : Nat) (first : List Int) (secondA : Option Addr) (secondN secondC : Nat) (second : List Int) (w : World) (f1R : RdS w 1 f1A f1N f1C f1) (g1R : RdS w 1 g1A g1N g1C g1) (kp1R : RdS w 1 kp1A kp1N kp1C kp1) (firstR : RdS w 1 firstA firstN firstC first) (secondR : RdS w 1 secondA secondN secondC second) :
    Calls Try.prog 24 #[.agg #[.int .i64 f0, .slice f1A f1N f1C], .agg #[.int .i64 g0, .slice g1A g1N g1C], .agg #[.int .i64 kp0, .slice kp1A kp1N kp1C], .slice firstA firstN firstC, .slice secondA secondN secondC] w (Ret fun v w' => ∃ b1 : Option Addr, ∃ c1 : Nat, v = .tuple #[.slice b1 ((F_ThenMorphisms f0 f1 g0 g1 kp0 kp1 first second).1).length c1, .int .i64 ((F_ThenMorphisms f0 f1 g0 g1 kp0 kp1 first second).2)] ∧ OwnS w' w.heap.size 2 1 b1 ((F_ThenMorphisms f0 f1 g0 g1 kp0 kp1 first second).1).length c1 ((F_ThenMorphisms f0 f1 g0 g1 kp0 kp1 first second).1) ∧ Ext w w') := by
  obtain rfl : f1N = f1.length := f1R.len1.symm
  have f1Le := f1R.le
  obtain rfl : g1N = g1.length := g1R.len1.symm
  have g1Le := g1R.le
  obtain rfl : kp1N = kp1.length := kp1R.len1.symm
  have kp1Le := kp1R.le
  obtain rfl : firstN = first.length := firstR.len1.symm
  have firstLe := firstR.le
  obtain rfl : secondN = second.length := secondR.len1.symm
  have secondLe := secondR.le
  have hS := St.nil w
  have hS1 := St.rd0 hS rfl f1R; clear hS
  have hS2 := St.rd0 hS1 rfl g1R; clear hS1
  have hS3 := St.rd0 hS2 rfl kp1R; clear hS2
  have hS4 := St.rd0 hS3 rfl firstR; clear hS3
  have hS5 := St.rd0 hS4 rfl secondR; clear hS4
  refine enter (args := [.agg #[.int .i64 f0, .slice f1A f1.length f1C], .agg #[.int .i64 g0, .slice g1A g1.length g1C], .agg #[.int .i64 kp0, .slice kp1A kp1.length kp1C], .slice firstA first.length firstC, .slice secondA second.length secondC]) Try.func24 rfl rfl ?_
  rw [Try.ntmps24]; intro a hE
  have hE := hE.sub (L' := [(0, .agg #[.int .i64 f0, .slice f1A f1.length f1C]), (1, .agg #[.int .i64 g0, .slice g1A g1.length g1C]), (2, .agg #[.int .i64 kp0, .slice kp1A kp1.length kp1C]), (3, .slice firstA first.length firstC), (4, .slice secondA second.length secondC)]) ⟨rfl, rfl, rfl, rfl, rfl, trivial⟩
  refine c_seq ?_
  refine c_reg ?_
  refine l_step hE rfl (l_box (v := .agg #[.int .i64 f0, .slice f1A f1.length f1C]) (cs := #[.int .i64 f0, .slice f1A f1.length f1C]) hS5 hE rfl rfl rfl ?_)
  intro b6 w7 hS10 he11 a8 hE9; clear hS5 hE
  refine l_step hE9 rfl (l_box (v := .agg #[.int .i64 g0, .slice g1A g1.length g1C]) (cs := #[.int .i64 g0, .slice g1A g1.length g1C]) hS10 hE9 rfl rfl rfl ?_)
  intro b12 w13 hS16 he17 a14 hE15; clear hS10 hE9
  refine l_step hE15 rfl (l_box (v := .agg #[.int .i64 kp0, .slice kp1A kp1.length kp1C]) (cs := #[.int .i64 kp0, .slice kp1A kp1.length kp1C]) hS16 hE15 rfl rfl rfl ?_)
  intro b18 w19 hS22 he23 a20 hE21; clear hS16 hE15
  refine q_step (v := .slice none 0 0) hE21 (y_assign rfl) rfl rfl rfl ?_; intro a24 hE25; clear hE21
  refine q_step (v := .int .i64 0) hE25 (y_assign rfl) rfl rfl rfl ?_; intro a26 hE27; clear hE25
  refine c_nil ?_
  have hE28 := hE27.sub (L' := [(3, .slice firstA first.length firstC), (4, .slice secondA second.length secondC), (5, .pointer (some ⟨b6, 0, none⟩)), (6, .pointer (some ⟨b12, 0, none⟩)), (7, .pointer (some ⟨b18, 0, none⟩))]) ⟨rfl, rfl, rfl, rfl, rfl, trivial⟩; clear hE27
  refine p_tn ?_
  refine c_seq ?_
  refine c_cut (fun a' w' => E a' 54 [(3, .slice firstA first.length firstC), (4, .slice secondA second.length secondC), (5, .pointer (some ⟨b6, 0, none⟩)), (6, .pointer (some ⟨b12, 0, none⟩)), (7, .pointer (some ⟨b18, 0, none⟩)), (26, .bool ((!decide ((F_mapCode f0 f1 g0 g1 first) = 0)) || (!decide ((F_mapCode g0 g1 kp0 kp1 second) = 0))))] ∧ St w w' [.rd 1 kp1A kp1.length kp1C kp1, .blk b18 #[.int .i64 kp0, .slice kp1A kp1.length kp1C] 26, .rd 1 g1A g1.length g1C g1, .blk b12 #[.int .i64 g0, .slice g1A g1.length g1C] 26, .rd 1 f1A f1.length f1C f1, .blk b6 #[.int .i64 f0, .slice f1A f1.length f1C] 26, .rd 1 secondA second.length secondC second, .rd 1 firstA first.length firstC first]) ?_ ?_
  ·
    refine c_reg ?_
    refine q_step (v := .agg #[.int .i64 f0, .slice f1A f1.length f1C]) hE28 (y_loadS Try.underlying26 rfl (by kernel_rfl) rfl (St.row (i := 2) hS22 rfl)) rfl rfl rfl ?_; intro a29 hE30; clear hE28
    refine q_step (v := .agg #[.int .i64 g0, .slice g1A g1.length g1C]) hE30 (y_loadS Try.underlying26 rfl (by kernel_rfl) rfl (St.row (i := 1) hS22 rfl)) rfl rfl rfl ?_; intro a31 hE32; clear hE30
    refine q_step (v := .slice firstA first.length firstC) hE32 (y_move rfl) rfl rfl rfl ?_; intro a33 hE34; clear hE32
    refine l_step hE34 rfl (l_call (f := 66) (argv := [.agg #[.int .i64 f0, .slice f1A f1.length f1C], .agg #[.int .i64 g0, .slice g1A g1.length g1C], .slice firstA first.length firstC]) hE34 (fun _ => cf_mapCode _ _) rfl rfl (c_mapCode f0 f1A f1.length f1C f1 g0 g1A g1.length g1C g1 firstA first.length firstC first w19 (St.rdR (i := 7) hS22 rfl) (St.rdR (i := 6) hS22 rfl) (St.rdR (i := 4) hS22 rfl)) ?_)
    rintro _ w36 ⟨rfl, he40⟩ a37 hE38; clear hE34
    have hS39 := St.go hS22 he40; clear hS22
    refine q_step (v := .bool (!decide ((F_mapCode f0 f1 g0 g1 first) = 0))) hE38 (y_neq rfl rfl) rfl rfl rfl ?_; intro a41 hE42; clear hE38
    refine q_step (v := .bool (!decide ((F_mapCode f0 f1 g0 g1 first) = 0))) hE42 (y_move rfl) rfl rfl rfl ?_; intro a43 hE44; clear hE42
    rcases Bool.eq_false_or_eq_true (!decide ((F_mapCode f0 f1 g0 g1 first) = 0)) with hb45 | hb45
    ·
      have hE46 := hE44; rw [hb45] at hE46; clear hE44
      have ht47 := bn_t hb45
      have hp48 := of_decide_eq_false ht47
      refine q_skip hE46 rfl rfl rfl ?_; intro a49 hE50; clear hE46
      refine q_skip hE50 rfl rfl rfl ?_; intro a51 hE52; clear hE50
      refine q_skip hE52 rfl rfl rfl ?_; intro a53 hE54; clear hE52
      refine q_skip hE54 rfl rfl rfl ?_; intro a55 hE56; clear hE54
      refine q_skip hE56 rfl rfl rfl ?_; intro a57 hE58; clear hE56
      refine q_step (v := .bool true) hE58 (y_pick (b := true) rfl rfl) rfl rfl rfl ?_; intro a59 hE60; clear hE58
      refine c_nil ?_
      have hE61 := hE60.sub (L' := [(3, .slice firstA first.length firstC), (4, .slice secondA second.length secondC), (5, .pointer (some ⟨b6, 0, none⟩)), (6, .pointer (some ⟨b12, 0, none⟩)), (7, .pointer (some ⟨b18, 0, none⟩)), (26, .bool true)]) ⟨rfl, rfl, rfl, rfl, rfl, rfl, trivial⟩; clear hE60
      refine p_tn ?_
      have hE62 := hE61.sub (L' := [(3, .slice firstA first.length firstC), (4, .slice secondA second.length secondC), (5, .pointer (some ⟨b6, 0, none⟩)), (6, .pointer (some ⟨b12, 0, none⟩)), (7, .pointer (some ⟨b18, 0, none⟩)), (26, .bool true)]) ⟨rfl, rfl, rfl, rfl, rfl, rfl, trivial⟩
      have hS63 := (St.pick (Γ' := [.rd 1 kp1A kp1.length kp1C kp1, .blk b18 #[.int .i64 kp0, .slice kp1A kp1.length kp1C] 26, .rd 1 g1A g1.length g1C g1, .blk b12 #[.int .i64 g0, .slice g1A g1.length g1C] 26, .rd 1 f1A f1.length f1C f1, .blk b6 #[.int .i64 f0, .slice f1A f1.length f1C] 26, .rd 1 secondA second.length secondC second, .rd 1 firstA first.length firstC first]) hS39 [5, 0, 6, 1, 7, 2, 3, 4] (by decide) rfl)
      exact ⟨(by rw [hb45]; exact hE62), hS63⟩
    ·
      have hE64 := hE44; rw [hb45] at hE64; clear hE44
      have ht65 := bn_f hb45
      have hp66 := of_decide_eq_true ht65
      have hq67 := mapCode_t hp66
      refine q_step (v := .agg #[.int .i64 g0, .slice g1A g1.length g1C]) hE64 (y_loadS Try.underlying26 rfl (by kernel_rfl) rfl (St.row (i := 1) hS39 rfl)) rfl rfl rfl ?_; intro a68 hE69; clear hE64
      refine q_step (v := .agg #[.int .i64 kp0, .slice kp1A kp1.length kp1C]) hE69 (y_loadS Try.underlying26 rfl (by kernel_rfl) rfl (St.row (i := 0) hS39 rfl)) rfl rfl rfl ?_; intro a70 hE71; clear hE69
      refine q_step (v := .slice secondA second.length secondC) hE71 (y_move rfl) rfl rfl rfl ?_; intro a72 hE73; clear hE71
      refine l_step hE73 rfl (l_call (f := 66) (argv := [.agg #[.int .i64 g0, .slice g1A g1.length g1C], .agg #[.int .i64 kp0, .slice kp1A kp1.length kp1C], .slice secondA second.length secondC]) hE73 (fun _ => cf_mapCode _ _) rfl rfl (c_mapCode g0 g1A g1.length g1C g1 kp0 kp1A kp1.length kp1C kp1 secondA second.length secondC second w36 (St.rdR (i := 6) hS39 rfl) (St.rdR (i := 5) hS39 rfl) (St.rdR (i := 3) hS39 rfl)) ?_)
      rintro _ w75 ⟨rfl, he79⟩ a76 hE77; clear hE73
      have hS78 := St.go hS39 he79; clear hS39
      refine q_step (v := .bool (!decide ((F_mapCode g0 g1 kp0 kp1 second) = 0))) hE77 (y_neq rfl rfl) rfl rfl rfl ?_; intro a80 hE81; clear hE77
      refine q_step (v := .bool (!decide ((F_mapCode g0 g1 kp0 kp1 second) = 0))) hE81 (y_pick (b := false) rfl rfl) rfl rfl rfl ?_; intro a82 hE83; clear hE81
      refine c_nil ?_
      have hE84 := hE83.sub (L' := [(3, .slice firstA first.length firstC), (4, .slice secondA second.length secondC), (5, .pointer (some ⟨b6, 0, none⟩)), (6, .pointer (some ⟨b12, 0, none⟩)), (7, .pointer (some ⟨b18, 0, none⟩)), (26, .bool (!decide ((F_mapCode g0 g1 kp0 kp1 second) = 0)))]) ⟨rfl, rfl, rfl, rfl, rfl, rfl, trivial⟩; clear hE83
      refine p_tn ?_
      have hE85 := hE84.sub (L' := [(3, .slice firstA first.length firstC), (4, .slice secondA second.length secondC), (5, .pointer (some ⟨b6, 0, none⟩)), (6, .pointer (some ⟨b12, 0, none⟩)), (7, .pointer (some ⟨b18, 0, none⟩)), (26, .bool (!decide ((F_mapCode g0 g1 kp0 kp1 second) = 0)))]) ⟨rfl, rfl, rfl, rfl, rfl, rfl, trivial⟩
      have hS86 := (St.pick (Γ' := [.rd 1 kp1A kp1.length kp1C kp1, .blk b18 #[.int .i64 kp0, .slice kp1A kp1.length kp1C] 26, .rd 1 g1A g1.length g1C g1, .blk b12 #[.int .i64 g0, .slice g1A g1.length g1C] 26, .rd 1 f1A f1.length f1C f1, .blk b6 #[.int .i64 f0, .slice f1A f1.length f1C] 26, .rd 1 secondA second.length secondC second, .rd 1 firstA first.length firstC first]) hS78 [5, 0, 6, 1, 7, 2, 3, 4] (by decide) rfl)
      exact ⟨(by rw [hb45]; exact hE85), hS86⟩
  ·
    rintro a87 w88 ⟨hE89, hS90⟩; clear hE28 hS22
    refine c_cond hE89 rfl (fun ht91 => ?_) (fun ht91 => ?_)
    ·
      have hE92 := hE89; rw [ht91] at hE92; clear hE89
      refine c_seq ?_
      refine c_reg ?_
      refine q_step (v := .slice none 0 0) hE92 (y_assign rfl) rfl rfl rfl ?_; intro a93 hE94; clear hE92
      refine q_step (v := .int .i64 1) hE94 (y_assign rfl) rfl rfl rfl ?_; intro a95 hE96; clear hE94
      refine c_nil ?_
      have hE97 := hE96.sub (L' := [(10, .slice none 0 0), (11, .int .i64 1)]) ⟨rfl, rfl, trivial⟩; clear hE96
      refine p_tn ?_
      refine wp_ret ?_
      refine p_tr ?_
      have hF : F_ThenMorphisms f0 f1 g0 g1 kp0 kp1 first second = ([], 1) := by unfold F_ThenMorphisms; rw [ht91]; first | done | rfl
      refine c_ret2 hE97 rfl rfl rfl ?_
      exact ⟨none, 0, (by rw [hF]; first | done | rfl), (by rw [hF]; exact OwnS.nilS _ _ _ _), hS90.ext⟩
    ·
      obtain ⟨ht98, ht99⟩ := bor_f ht91
      have ht100 := bn_f ht98
      have hp101 := of_decide_eq_true ht100
      have hq102 := mapCode_t hp101
      have ht103 := bn_f ht99
      have hp104 := of_decide_eq_true ht103
      have hq105 := mapCode_t hp104
      have hE106 := hE89; rw [ht91] at hE106; clear hE89
      refine wp_skip ?_
      refine p_tn ?_
      refine c_seq ?_
      refine c_cut (fun a' w' => E a' 54 [(3, .slice firstA first.length firstC), (4, .slice secondA second.length secondC), (38, .bool ((!(F_isMorphism f0 f1 g0 g1 first)) || (!(F_isMorphism g0 g1 kp0 kp1 second))))] ∧ St w w' [.rd 1 kp1A kp1.length kp1C kp1, .blk b18 #[.int .i64 kp0, .slice kp1A kp1.length kp1C] 26, .rd 1 g1A g1.length g1C g1, .blk b12 #[.int .i64 g0, .slice g1A g1.length g1C] 26, .rd 1 f1A f1.length f1C f1, .blk b6 #[.int .i64 f0, .slice f1A f1.length f1C] 26, .rd 1 secondA second.length secondC second, .rd 1 firstA first.length firstC first]) ?_ ?_
      ·
        refine c_reg ?_
        refine q_step (v := .agg #[.int .i64 f0, .slice f1A f1.length f1C]) hE106 (y_loadS Try.underlying26 rfl (by kernel_rfl) rfl (St.row (i := 5) hS90 rfl)) rfl rfl rfl ?_; intro a107 hE108; clear hE106
        refine q_step (v := .agg #[.int .i64 g0, .slice g1A g1.length g1C]) hE108 (y_loadS Try.underlying26 rfl (by kernel_rfl) rfl (St.row (i := 3) hS90 rfl)) rfl rfl rfl ?_; intro a109 hE110; clear hE108
        refine q_step (v := .slice firstA first.length firstC) hE110 (y_move rfl) rfl rfl rfl ?_; intro a111 hE112; clear hE110
        refine l_step hE112 rfl (l_call (f := 67) (argv := [.agg #[.int .i64 f0, .slice f1A f1.length f1C], .agg #[.int .i64 g0, .slice g1A g1.length g1C], .slice firstA first.length firstC]) hE112 (fun _ => cf_isMorphism _ _) rfl rfl (c_isMorphism f0 f1A f1.length f1C f1 g0 g1A g1.length g1C g1 firstA first.length firstC first w88 (St.rdR (i := 4) hS90 rfl) (St.rdR (i := 2) hS90 rfl) (St.rdR (i := 7) hS90 rfl) (by omega) (by omega) (by omega) (by omega) (by omega) (by omega) ((mapCode_t (by assumption)).2.2.2.2.2) (l05Is_m (mapCode_t (by assumption)).2.2.1)) ?_)
        rintro _ w114 ⟨rfl, he118⟩ a115 hE116; clear hE112
        have hS117 := St.go hS90 he118; clear hS90
        refine q_step (v := .bool (!(F_isMorphism f0 f1 g0 g1 first))) hE116 (y_not rfl) rfl rfl rfl ?_; intro a119 hE120; clear hE116
        refine q_step (v := .bool (!(F_isMorphism f0 f1 g0 g1 first))) hE120 (y_move rfl) rfl rfl rfl ?_; intro a121 hE122; clear hE120
        rcases Bool.eq_false_or_eq_true (!(F_isMorphism f0 f1 g0 g1 first)) with hb123 | hb123
        ·
          have hE124 := hE122; rw [hb123] at hE124; clear hE122
          have ht125 := bn_t hb123
          refine q_skip hE124 rfl rfl rfl ?_; intro a126 hE127; clear hE124
          refine q_skip hE127 rfl rfl rfl ?_; intro a128 hE129; clear hE127
          refine q_skip hE129 rfl rfl rfl ?_; intro a130 hE131; clear hE129
          refine q_skip hE131 rfl rfl rfl ?_; intro a132 hE133; clear hE131
          refine q_skip hE133 rfl rfl rfl ?_; intro a134 hE135; clear hE133
          refine q_step (v := .bool true) hE135 (y_pick (b := true) rfl rfl) rfl rfl rfl ?_; intro a136 hE137; clear hE135
          refine c_nil ?_
          have hE138 := hE137.sub (L' := [(3, .slice firstA first.length firstC), (4, .slice secondA second.length secondC), (38, .bool true)]) ⟨rfl, rfl, rfl, trivial⟩; clear hE137
          refine p_tn ?_
          have hE139 := hE138.sub (L' := [(3, .slice firstA first.length firstC), (4, .slice secondA second.length secondC), (38, .bool true)]) ⟨rfl, rfl, rfl, trivial⟩
          have hS140 := (St.pick (Γ' := [.rd 1 kp1A kp1.length kp1C kp1, .blk b18 #[.int .i64 kp0, .slice kp1A kp1.length kp1C] 26, .rd 1 g1A g1.length g1C g1, .blk b12 #[.int .i64 g0, .slice g1A g1.length g1C] 26, .rd 1 f1A f1.length f1C f1, .blk b6 #[.int .i64 f0, .slice f1A f1.length f1C] 26, .rd 1 secondA second.length secondC second, .rd 1 firstA first.length firstC first]) hS117 [0, 1, 2, 3, 4, 5, 6, 7] (by decide) rfl)
          exact ⟨(by rw [hb123]; exact hE139), hS140⟩
        ·
          have hE141 := hE122; rw [hb123] at hE141; clear hE122
          have ht142 := bn_f hb123
          refine q_step (v := .agg #[.int .i64 g0, .slice g1A g1.length g1C]) hE141 (y_loadS Try.underlying26 rfl (by kernel_rfl) rfl (St.row (i := 3) hS117 rfl)) rfl rfl rfl ?_; intro a143 hE144; clear hE141
          refine q_step (v := .agg #[.int .i64 kp0, .slice kp1A kp1.length kp1C]) hE144 (y_loadS Try.underlying26 rfl (by kernel_rfl) rfl (St.row (i := 1) hS117 rfl)) rfl rfl rfl ?_; intro a145 hE146; clear hE144
          refine q_step (v := .slice secondA second.length secondC) hE146 (y_move rfl) rfl rfl rfl ?_; intro a147 hE148; clear hE146
          refine l_step hE148 rfl (l_call (f := 67) (argv := [.agg #[.int .i64 g0, .slice g1A g1.length g1C], .agg #[.int .i64 kp0, .slice kp1A kp1.length kp1C], .slice secondA second.length secondC]) hE148 (fun _ => cf_isMorphism _ _) rfl rfl (c_isMorphism g0 g1A g1.length g1C g1 kp0 kp1A kp1.length kp1C kp1 secondA second.length secondC second w114 (St.rdR (i := 2) hS117 rfl) (St.rdR (i := 0) hS117 rfl) (St.rdR (i := 6) hS117 rfl) (by omega) (by omega) (by omega) (by omega) (by omega) (by omega) ((mapCode_t (by assumption)).2.2.2.2.2) (l05Is_m (mapCode_t (by assumption)).2.2.1)) ?_)
          rintro _ w150 ⟨rfl, he154⟩ a151 hE152; clear hE148
          have hS153 := St.go hS117 he154; clear hS117
          refine q_step (v := .bool (!(F_isMorphism g0 g1 kp0 kp1 second))) hE152 (y_not rfl) rfl rfl rfl ?_; intro a155 hE156; clear hE152
          refine q_step (v := .bool (!(F_isMorphism g0 g1 kp0 kp1 second))) hE156 (y_pick (b := false) rfl rfl) rfl rfl rfl ?_; intro a157 hE158; clear hE156
          refine c_nil ?_
          have hE159 := hE158.sub (L' := [(3, .slice firstA first.length firstC), (4, .slice secondA second.length secondC), (38, .bool (!(F_isMorphism g0 g1 kp0 kp1 second)))]) ⟨rfl, rfl, rfl, trivial⟩; clear hE158
          refine p_tn ?_
          have hE160 := hE159.sub (L' := [(3, .slice firstA first.length firstC), (4, .slice secondA second.length secondC), (38, .bool (!(F_isMorphism g0 g1 kp0 kp1 second)))]) ⟨rfl, rfl, rfl, trivial⟩
          have hS161 := (St.pick (Γ' := [.rd 1 kp1A kp1.length kp1C kp1, .blk b18 #[.int .i64 kp0, .slice kp1A kp1.length kp1C] 26, .rd 1 g1A g1.length g1C g1, .blk b12 #[.int .i64 g0, .slice g1A g1.length g1C] 26, .rd 1 f1A f1.length f1C f1, .blk b6 #[.int .i64 f0, .slice f1A f1.length f1C] 26, .rd 1 secondA second.length secondC second, .rd 1 firstA first.length firstC first]) hS153 [0, 1, 2, 3, 4, 5, 6, 7] (by decide) rfl)
          exact ⟨(by rw [hb123]; exact hE160), hS161⟩
      ·
        rintro a162 w163 ⟨hE164, hS165⟩; clear hE106 hS90
        refine c_cond hE164 rfl (fun ht166 => ?_) (fun ht166 => ?_)
        ·
          have hE167 := hE164; rw [ht166] at hE167; clear hE164
          refine c_seq ?_
          refine c_reg ?_
          refine q_step (v := .slice none 0 0) hE167 (y_assign rfl) rfl rfl rfl ?_; intro a168 hE169; clear hE167
          refine q_step (v := .int .i64 5) hE169 (y_assign rfl) rfl rfl rfl ?_; intro a170 hE171; clear hE169
          refine c_nil ?_
          have hE172 := hE171.sub (L' := [(10, .slice none 0 0), (11, .int .i64 5)]) ⟨rfl, rfl, trivial⟩; clear hE171
          refine p_tn ?_
          refine wp_ret ?_
          refine p_tr ?_
          have hF : F_ThenMorphisms f0 f1 g0 g1 kp0 kp1 first second = ([], 5) := by unfold F_ThenMorphisms; rw [ht166, ht91]; first | done | rfl
          refine c_ret2 hE172 rfl rfl rfl ?_
          exact ⟨none, 0, (by rw [hF]; first | done | rfl), (by rw [hF]; exact OwnS.nilS _ _ _ _), hS165.ext⟩
        ·
          obtain ⟨ht173, ht174⟩ := bor_f ht166
          have ht175 := bn_f ht173
          have ht176 := bn_f ht174
          have hE177 := hE164; rw [ht166] at hE177; clear hE164
          refine wp_skip ?_
          refine p_tn ?_
          refine c_seq ?_
          refine c_reg ?_
          refine q_step (v := .slice none 0 0) hE177 (y_assign rfl) rfl rfl rfl ?_; intro a178 hE179; clear hE177
          refine c_nil ?_
          have hE180 := hE179.sub (L' := [(3, .slice firstA first.length firstC), (4, .slice secondA second.length secondC), (12, .slice none 0 0)]) ⟨rfl, rfl, rfl, trivial⟩; clear hE179
          refine p_tn ?_
          refine c_seq ?_
          refine c_seq ?_
          refine c_reg ?_
          refine q_step (v := .slice firstA first.length firstC) hE180 (y_move rfl) rfl rfl rfl ?_; intro a181 hE182; clear hE180
          refine q_step (v := .int .i64 (first.length : Int)) hE182 (y_len (e := 2) (by kernel_rfl) rfl) rfl rfl rfl ?_; intro a183 hE184; clear hE182
          refine q_step (v := .int .i64 0) hE184 (y_move rfl) rfl rfl rfl ?_; intro a185 hE186; clear hE184
          refine c_nil ?_
          have hE187 := hE186.sub (L' := [(4, .slice secondA second.length secondC), (12, .slice none 0 0), (39, .slice firstA first.length firstC), (40, .int .i64 (first.length : Int)), (41, .int .i64 0)]) ⟨rfl, rfl, rfl, rfl, rfl, trivial⟩; clear hE186
          refine p_tn ?_
          have hS188 := St.nils hS165 2 1; clear hS165
          refine c_cut1 (fun a' w' => ∃ out12A_189 : Option Addr, ∃ out12C_189 : Nat, (0 ≤ ((F_ThenMorphisms_L1 first second (Int.toNat ((first.length : Int) - 0) + 1) ([]) 0).2)) ∧ (((F_ThenMorphisms_L1 first second (Int.toNat ((first.length : Int) - 0) + 1) ([]) 0).2) ≤ (first.length : Int)) ∧ ((((F_ThenMorphisms_L1 first second (Int.toNat ((first.length : Int) - 0) + 1) ([]) 0).1).length : Int) ≤ ((F_ThenMorphisms_L1 first second (Int.toNat ((first.length : Int) - 0) + 1) ([]) 0).2)) ∧ E a' 54 [(4, .slice secondA second.length secondC), (12, .slice out12A_189 (((F_ThenMorphisms_L1 first second (Int.toNat ((first.length : Int) - 0) + 1) ([]) 0).1).length) out12C_189), (39, .slice firstA first.length firstC), (40, .int .i64 (first.length : Int)), (41, .int .i64 ((F_ThenMorphisms_L1 first second (Int.toNat ((first.length : Int) - 0) + 1) ([]) 0).2))] ∧ St w w' [.own 2 1 out12A_189 (((F_ThenMorphisms_L1 first second (Int.toNat ((first.length : Int) - 0) + 1) ([]) 0).1).length) out12C_189 ((F_ThenMorphisms_L1 first second (Int.toNat ((first.length : Int) - 0) + 1) ([]) 0).1), .rd 1 kp1A kp1.length kp1C kp1, .blk b18 #[.int .i64 kp0, .slice kp1A kp1.length kp1C] 26, .rd 1 g1A g1.length g1C g1, .blk b12 #[.int .i64 g0, .slice g1A g1.length g1C] 26, .rd 1 f1A f1.length f1C f1, .blk b6 #[.int .i64 f0, .slice f1A f1.length f1C] 26, .rd 1 secondA second.length secondC second, .rd 1 firstA first.length firstC first]) ?_ ?_
          ·
            refine wp_block ?_
            refine c_loop (fun r a' w' => ∃ out12 : List Int, ∃ t41 : Int, ∃ out12A : Option Addr, ∃ out12C : Nat, F_ThenMorphisms_L1 first second r out12 t41 = F_ThenMorphisms_L1 first second (Int.toNat ((first.length : Int) - 0) + 1) ([]) 0 ∧ Int.toNat ((first.length : Int) - t41) < r ∧ (0 ≤ t41) ∧ (t41 ≤ (first.length : Int)) ∧ ((out12.length : Int) ≤ t41) ∧ E a' 54 [(4, .slice secondA second.length secondC), (12, .slice out12A ((out12).length) out12C), (39, .slice firstA first.length firstC), (40, .int .i64 (first.length : Int)), (41, .int .i64 t41)] ∧ St w w' [.own 2 1 out12A ((out12).length) out12C out12, .rd 1 kp1A kp1.length kp1C kp1, .blk b18 #[.int .i64 kp0, .slice kp1A kp1.length kp1C] 26, .rd 1 g1A g1.length g1C g1, .blk b12 #[.int .i64 g0, .slice g1A g1.length g1C] 26, .rd 1 f1A f1.length f1C f1, .blk b6 #[.int .i64 f0, .slice f1A f1.length f1C] 26, .rd 1 secondA second.length secondC second, .rd 1 firstA first.length firstC first]) (r := (Int.toNat ((first.length : Int) - 0) + 1)) ?_ ?_
            · exact ⟨[], 0, none, 0, rfl, Nat.lt_succ_self _, (by first | omega | (simp only [List.length_append, List.length_cons, List.length_nil, sI_len, cond_true, cond_false]; omega) | (simp only [List.length_append, List.length_cons, List.length_nil, sI_len, cond_eq_ite, apply_ite List.length]; split <;> simp only [List.length_append, List.length_cons, List.length_nil, sI_len] <;> omega) | grind), (by first | omega | (simp only [List.length_append, List.length_cons, List.length_nil, sI_len, cond_true, cond_false]; omega) | (simp only [List.length_append, List.length_cons, List.length_nil, sI_len, cond_eq_ite, apply_ite List.length]; split <;> simp only [List.length_append, List.length_cons, List.length_nil, sI_len] <;> omega) | grind), (by first | omega | (simp only [List.length_append, List.length_cons, List.length_nil, sI_len, cond_true, cond_false]; omega) | (simp only [List.length_append, List.length_cons, List.length_nil, sI_len, cond_eq_ite, apply_ite List.length]; split <;> simp only [List.length_append, List.length_cons, List.length_nil, sI_len] <;> omega) | grind), (hE187.sub (L' := [(4, .slice secondA second.length secondC), (12, .slice none 0 0), (39, .slice firstA first.length firstC), (40, .int .i64 (first.length : Int)), (41, .int .i64 0)]) ⟨rfl, rfl, rfl, rfl, rfl, trivial⟩), (St.pick (Γ' := [.own 2 1 none 0 0 ([]), .rd 1 kp1A kp1.length kp1C kp1, .blk b18 #[.int .i64 kp0, .slice kp1A kp1.length kp1C] 26, .rd 1 g1A g1.length g1C g1, .blk b12 #[.int .i64 g0, .slice g1A g1.length g1C] 26, .rd 1 f1A f1.length f1C f1, .blk b6 #[.int .i64 f0, .slice f1A f1.length f1C] 26, .rd 1 secondA second.length secondC second, .rd 1 firstA first.length firstC first]) hS188 [0, 1, 2, 3, 4, 5, 6, 7, 8] (by decide) rfl)⟩
            ·
              clear hE187 hS188
              rintro r199 a190 w191 ⟨out12, t41, out12A, out12C, hT194, hr195, hi196, hi197, hi198, hE192, hS193⟩
              obtain ⟨r199, rfl⟩ : ∃ r', r199 = r' + 1 := ⟨r199 - 1, by omega⟩
              refine c_seq ?_
              refine c_reg ?_
              refine q_step (v := .bool (decide (t41 < (first.length : Int)))) hE192 (y_lss rfl rfl) rfl rfl rfl ?_; intro a200 hE201; clear hE192
              refine c_nil ?_
              have hE202 := hE201.sub (L' := [(4, .slice secondA second.length secondC), (12, .slice out12A ((out12).length) out12C), (39, .slice firstA first.length firstC), (40, .int .i64 (first.length : Int)), (41, .int .i64 t41), (42, .bool (decide (t41 < (first.length : Int))))]) ⟨rfl, rfl, rfl, rfl, rfl, rfl, trivial⟩; clear hE201
              refine p_tn ?_
              refine c_seq ?_
              refine c_cond hE202 rfl (fun ht203 => ?_) (fun ht203 => ?_)
              ·
                have hp204 := of_decide_eq_true ht203
                have hE205 := hE202; rw [ht203] at hE205; clear hE202
                have hx1 := (mapCode_t (images := first) (by assumption)).2.2.2.2.2 t41 (by omega) (by omega)
                refine wp_skip ?_
                refine p_tn ?_
                refine c_seq ?_
                refine wp_block ?_
                refine c_seq ?_
                refine c_reg ?_
                refine q_step (v := .pointer (some (adr firstA (Int.toNat t41)))) hE205 (y_idx (by kernel_rfl) (fun _ => by kernel_rfl) rfl rfl (RdS.isS (m := t41) (St.rdR (i := 8) hS193 rfl) (by omega) (by omega)) (by omega) (by omega) (Nat.mul_one _).symm) rfl rfl rfl ?_; intro a206 hE207; clear hE205
                refine q_step (v := .int .i64 (gI first t41)) hE207 (y_load (fun _ => by kernel_rfl) rfl (RdS.elt (St.rdR (i := 8) hS193 rfl) (by omega) (by omega))) rfl rfl rfl ?_; intro a208 hE209; clear hE207
                refine q_step (v := .int .i64 (gI first t41)) hE209 (y_assign rfl) rfl rfl rfl ?_; intro a210 hE211; clear hE209
                refine c_nil ?_
                have hE212 := hE211.sub (L' := [(4, .slice secondA second.length secondC), (12, .slice out12A ((out12).length) out12C), (14, .int .i64 (gI first t41)), (39, .slice firstA first.length firstC), (40, .int .i64 (first.length : Int)), (41, .int .i64 t41)]) ⟨rfl, rfl, rfl, rfl, rfl, rfl, trivial⟩; clear hE211
                refine p_tn ?_
                refine c_reg ?_
                refine q_step (v := .slice out12A ((out12).length) out12C) hE212 (y_move rfl) rfl rfl rfl ?_; intro a213 hE214; clear hE212
                refine q_step (v := .slice secondA second.length secondC) hE214 (y_move rfl) rfl rfl rfl ?_; intro a215 hE216; clear hE214
                refine q_step (v := .int .i64 (gI first t41)) hE216 (y_move rfl) rfl rfl rfl ?_; intro a217 hE218; clear hE216
                refine q_step (v := .pointer (some (adr secondA (Int.toNat (gI first t41))))) hE218 (y_idx (by kernel_rfl) (fun _ => by kernel_rfl) rfl rfl (RdS.isS (m := gI first t41) (St.rdR (i := 7) hS193 rfl) (by omega) (by omega)) (by omega) (by omega) (Nat.mul_one _).symm) rfl rfl rfl ?_; intro a219 hE220; clear hE218
                refine q_step (v := .int .i64 (gI second (gI first t41))) hE220 (y_load (fun _ => by kernel_rfl) rfl (RdS.elt (St.rdR (i := 7) hS193 rfl) (by omega) (by omega))) rfl rfl rfl ?_; intro a221 hE222; clear hE220
                refine l_step hE222 rfl (l_lit (e := 2) (s := 1) (xs := [gI second (gI first t41)]) (vs := [.int .i64 (gI second (gI first t41))]) hS193 hE222 rfl (fun _ => by kernel_rfl) rfl rfl rfl ?_)
                intro b223 w224 hS227 he228 a225 hE226; clear hS193 hE222
                obtain ⟨_, hi1, hi2, hi3, hi4⟩ := info_parts (show (Try.prog.info? 2).map (fun i => (i.zero, i.size, i.bytes)) = some (some (.int .i64 0), 1, 8) by kernel_rfl)
                refine l_step hE226 rfl (l_append (k := 1) (n' := (out12 ++ ([gI second (gI first t41)])).length) hS227 hE226 (by kernel_rfl) hi1 hi2 hi3 rfl (by decide) (by rw [hi4]; decide) rfl rfl rfl (St.rdO (i := 0) hS227 rfl) (by first | omega | (simp only [List.length_append, List.length_cons, List.length_nil]; omega)) (by have h1 := (St.rdO (i := 1) hS227 rfl).len1; have h2 := (St.rdO (i := 0) hS227 rfl).len1; rw [List.length_append, h1, h2]) rfl ?_)
                intro b229 c235 w230 hS233 a231 hE232; clear hS227 hE226 hi1 hi2 hi3 hi4
                refine q_step (v := .slice b229 ((out12 ++ ([gI second (gI first t41)])).length) c235) hE232 (y_assign rfl) rfl rfl rfl ?_; intro a236 hE237; clear hE232
                refine c_nil ?_
                have hE238 := hE237.sub (L' := [(4, .slice secondA second.length secondC), (12, .slice b229 ((out12 ++ ([gI second (gI first t41)])).length) c235), (39, .slice firstA first.length firstC), (40, .int .i64 (first.length : Int)), (41, .int .i64 t41)]) ⟨rfl, rfl, rfl, rfl, rfl, trivial⟩; clear hE237
                refine p_bn ?_
                refine p_tn ?_
                refine c_reg ?_
                refine q_step (v := .int .i64 (t41 + 1)) hE238 (y_add rfl rfl ⟨(by omega), (by omega)⟩) rfl rfl rfl ?_; intro a239 hE240; clear hE238
                refine q_step (v := .int .i64 (t41 + 1)) hE240 (y_move rfl) rfl rfl rfl ?_; intro a241 hE242; clear hE240
                refine c_nil ?_
                have hE243 := hE242.sub (L' := [(4, .slice secondA second.length secondC), (12, .slice b229 ((out12 ++ ([gI second (gI first t41)])).length) c235), (39, .slice firstA first.length firstC), (40, .int .i64 (first.length : Int)), (41, .int .i64 (t41 + 1))]) ⟨rfl, rfl, rfl, rfl, rfl, trivial⟩; clear hE242
                refine p_tn ⟨r199, Nat.lt_succ_self _, out12 ++ ([gI second (gI first t41)]), t41 + 1, b229, c235, (hT194.symm.trans (show F_ThenMorphisms_L1b first second (F_ThenMorphisms_L1 first second r199) out12 t41 = F_ThenMorphisms_L1 first second r199 (out12 ++ ([gI second (gI first t41)])) (t41 + 1) by unfold F_ThenMorphisms_L1b; rw [ht203]; first | done | rfl)).symm, (by omega), (by first | omega | (simp only [List.length_append, List.length_cons, List.length_nil, sI_len, cond_true, cond_false]; omega) | (simp only [List.length_append, List.length_cons, List.length_nil, sI_len, cond_eq_ite, apply_ite List.length]; split <;> simp only [List.length_append, List.length_cons, List.length_nil, sI_len] <;> omega) | grind), (by first | omega | (simp only [List.length_append, List.length_cons, List.length_nil, sI_len, cond_true, cond_false]; omega) | (simp only [List.length_append, List.length_cons, List.length_nil, sI_len, cond_eq_ite, apply_ite List.length]; split <;> simp only [List.length_append, List.length_cons, List.length_nil, sI_len] <;> omega) | grind), (by first | omega | (simp only [List.length_append, List.length_cons, List.length_nil, sI_len, cond_true, cond_false]; omega) | (simp only [List.length_append, List.length_cons, List.length_nil, sI_len, cond_eq_ite, apply_ite List.length]; split <;> simp only [List.length_append, List.length_cons, List.length_nil, sI_len] <;> omega) | grind), (hE243.sub (L' := [(4, .slice secondA second.length secondC), (12, .slice b229 ((out12 ++ ([gI second (gI first t41)])).length) c235), (39, .slice firstA first.length firstC), (40, .int .i64 (first.length : Int)), (41, .int .i64 (t41 + 1))]) ⟨rfl, rfl, rfl, rfl, rfl, trivial⟩), (St.pick (Γ' := [.own 2 1 b229 ((out12 ++ ([gI second (gI first t41)])).length) c235 (out12 ++ ([gI second (gI first t41)])), .rd 1 kp1A kp1.length kp1C kp1, .blk b18 #[.int .i64 kp0, .slice kp1A kp1.length kp1C] 26, .rd 1 g1A g1.length g1C g1, .blk b12 #[.int .i64 g0, .slice g1A g1.length g1C] 26, .rd 1 f1A f1.length f1C f1, .blk b6 #[.int .i64 f0, .slice f1A f1.length f1C] 26, .rd 1 secondA second.length secondC second, .rd 1 firstA first.length firstC first]) hS233 [1, 2, 3, 4, 5, 6, 7, 8, 9] (by decide) rfl)⟩
              ·
                have hp244 := of_decide_eq_false ht203
                have hE245 := hE202; rw [ht203] at hE245; clear hE202
                refine wp_exit ?_
                refine p_te ?_
                have hX246 : F_ThenMorphisms_L1 first second (Int.toNat ((first.length : Int) - 0) + 1) ([]) 0 = (out12, t41) := hT194.symm.trans (show F_ThenMorphisms_L1b first second (F_ThenMorphisms_L1 first second r199) out12 t41 = (out12, t41) by unfold F_ThenMorphisms_L1b; rw [ht203]; first | done | rfl)
                refine p_te (p_be (p_tn ?_))
                exact ⟨out12A, out12C, (by rw [hX246]; exact (show 0 ≤ t41 from (by first | omega | (simp only [List.length_append, List.length_cons, List.length_nil, sI_len, cond_true, cond_false]; omega) | (simp only [List.length_append, List.length_cons, List.length_nil, sI_len, cond_eq_ite, apply_ite List.length]; split <;> simp only [List.length_append, List.length_cons, List.length_nil, sI_len] <;> omega) | grind))), (by rw [hX246]; exact (show t41 ≤ (first.length : Int) from (by first | omega | (simp only [List.length_append, List.length_cons, List.length_nil, sI_len, cond_true, cond_false]; omega) | (simp only [List.length_append, List.length_cons, List.length_nil, sI_len, cond_eq_ite, apply_ite List.length]; split <;> simp only [List.length_append, List.length_cons, List.length_nil, sI_len] <;> omega) | grind))), (by rw [hX246]; exact (show (out12.length : Int) ≤ t41 from (by first | omega | (simp only [List.length_append, List.length_cons, List.length_nil, sI_len, cond_true, cond_false]; omega) | (simp only [List.length_append, List.length_cons, List.length_nil, sI_len, cond_eq_ite, apply_ite List.length]; split <;> simp only [List.length_append, List.length_cons, List.length_nil, sI_len] <;> omega) | grind))), (by rw [hX246]; exact (hE245.sub (L' := [(4, .slice secondA second.length secondC), (12, .slice out12A ((out12).length) out12C), (39, .slice firstA first.length firstC), (40, .int .i64 (first.length : Int)), (41, .int .i64 t41)]) ⟨rfl, rfl, rfl, rfl, rfl, trivial⟩)), (by rw [hX246]; exact (St.pick (Γ' := [.own 2 1 out12A ((out12).length) out12C out12, .rd 1 kp1A kp1.length kp1C kp1, .blk b18 #[.int .i64 kp0, .slice kp1A kp1.length kp1C] 26, .rd 1 g1A g1.length g1C g1, .blk b12 #[.int .i64 g0, .slice g1A g1.length g1C] 26, .rd 1 f1A f1.length f1C f1, .blk b6 #[.int .i64 f0, .slice f1A f1.length f1C] 26, .rd 1 secondA second.length secondC second, .rd 1 firstA first.length firstC first]) hS193 [0, 1, 2, 3, 4, 5, 6, 7, 8] (by decide) rfl))⟩
          ·
            rintro a247 w248 ⟨out12A_189, out12C_189, hi252, hi253, hi254, hE249, hS250⟩; clear hE187 hS188
            refine p_tn ?_
            refine c_seq ?_
            refine c_reg ?_
            refine q_step (v := .slice out12A_189 (((F_ThenMorphisms_L1 first second (Int.toNat ((first.length : Int) - 0) + 1) ([]) 0).1).length) out12C_189) hE249 (y_move rfl) rfl rfl rfl ?_; intro a255 hE256; clear hE249
            refine q_step (v := .slice out12A_189 (((F_ThenMorphisms_L1 first second (Int.toNat ((first.length : Int) - 0) + 1) ([]) 0).1).length) out12C_189) hE256 (y_assign rfl) rfl rfl rfl ?_; intro a257 hE258; clear hE256
            refine q_step (v := .int .i64 0) hE258 (y_assign rfl) rfl rfl rfl ?_; intro a259 hE260; clear hE258
            refine c_nil ?_
            have hE261 := hE260.sub (L' := [(10, .slice out12A_189 (((F_ThenMorphisms_L1 first second (Int.toNat ((first.length : Int) - 0) + 1) ([]) 0).1).length) out12C_189), (11, .int .i64 0)]) ⟨rfl, rfl, trivial⟩; clear hE260
            refine p_tn ?_
            refine wp_ret ?_
            have hF : F_ThenMorphisms f0 f1 g0 g1 kp0 kp1 first second = ((F_ThenMorphisms_L1 first second (Int.toNat ((first.length : Int) - 0) + 1) ([]) 0).1, 0) := by unfold F_ThenMorphisms; rw [ht166, ht91]; first | done | rfl
            refine c_ret2 hE261 rfl rfl rfl ?_
            exact ⟨out12A_189, out12C_189, (by rw [hF]; first | done | rfl), (by rw [hF]; exact hS250.ok 0 _ rfl), hS250.ext⟩

theorem Then_loop (first second : List Int) (r : Nat) (xs : List Int) (t : Int) : F_ThenMorphisms_L1 first second r xs t = F_s_ThenMorphisms_L1 first second r xs t := by
  induction r generalizing xs t with
  | zero => rfl
  | succ r ih =>
    show F_ThenMorphisms_L1b first second _ xs t = F_s_ThenMorphisms_L1b first second _ xs t
    unfold F_ThenMorphisms_L1b F_s_ThenMorphisms_L1b
    rw [ih]
theorem ThenMorphisms_eq (f0 : Int) (f1 : List Int) (g0 : Int) (g1 : List Int) (k0 : Int) (k1 first second : List Int) : F_ThenMorphisms f0 f1 g0 g1 k0 k1 first second = F_s_ThenMorphisms f0 f1 g0 g1 k0 k1 first second := by
  unfold F_ThenMorphisms F_s_ThenMorphisms
  rw [mapCode_eq, mapCode_eq, Then_loop]
  cases h : ((!decide ((F_l08Code f0 f1 g0 g1 first) = 0)) || (!decide ((F_l08Code g0 g1 k0 k1 second) = 0)))
  · obtain ⟨h1, h2⟩ := bor_f h
    rw [isMorphism_eq (of_decide_eq_true (bn_f h1)), isMorphism_eq (of_decide_eq_true (bn_f h2))]
  · rw [cond_true, cond_true]
theorem Then_len (first second : List Int) (r : Nat) (xs : List Int) (v : Int) : (F_s_ThenMorphisms_L1 first second r xs v).1.length ≤ xs.length + r := by
  induction r generalizing xs v with
  | zero => exact Nat.le_refl _
  | succ r ih =>
    show (F_s_ThenMorphisms_L1b first second _ xs v).1.length ≤ _
    unfold F_s_ThenMorphisms_L1b
    cases decide (v < (first.length : Int))
    · simp <;> omega
    · simp only [cond_true]
      refine Nat.le_trans (ih _ _) ?_
      simp <;> omega
theorem ThenMorphisms_len (f0 : Int) (f1 : List Int) (g0 : Int) (g1 : List Int) (k0 : Int) (k1 first second : List Int) : (F_ThenMorphisms f0 f1 g0 g1 k0 k1 first second).1.length ≤ first.length + 1 := by
  rw [ThenMorphisms_eq]
  unfold F_s_ThenMorphisms
  have := Then_len first second (Int.toNat ((first.length : Int) - 0) + 1) [] 0
  cases ((!decide ((F_l08Code f0 f1 g0 g1 first) = 0)) || (!decide ((F_l08Code g0 g1 k0 k1 second) = 0)))
  · rw [cond_false]
    cases ((!(F_l08Is f0 f1 g0 g1 first)) || (!(F_l08Is g0 g1 k0 k1 second)))
    · rw [cond_false]
      refine Nat.le_trans this ?_
      simp
    · simp
  · simp

end Go.Proofs.Ytgcmfjliklcbdaa
