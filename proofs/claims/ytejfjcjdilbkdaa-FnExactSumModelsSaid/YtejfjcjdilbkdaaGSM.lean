/- GSM: models and contracts, printed by wip/gen/gen.py -/
import Derived.Test.YtejfjcjdilbkdaaGN
import Derived.Test.YtejfjcjdilbkdaaGSF
set_option linter.unusedVariables false
set_option linter.unusedSimpArgs false
namespace Go.Proofs.Ytejfjcjdilbkdaa
open Go.RowKit

def F_s_SumModels_L1b (mp0 : Int) (mp2 : List Int) (np2 : List Int) (rec : (List Int) → Int → (List Int) × Int) (values6 : List Int) (v7 : Int) : (List Int) × Int :=
  bif (decide (v7 < (mp2.length : Int))) then (rec (values6 ++ ([orI (gI mp2 v7) (shlI (gI np2 v7) mp0)])) (v7 + 1)) else (values6, v7)
def F_s_SumModels_L1 (mp0 : Int) (mp2 : List Int) (np2 : List Int) : Nat → (List Int) → Int → (List Int) × Int
  | 0, values6, v7 => (values6, v7)
  | r + 1, values6, v7 => F_s_SumModels_L1b mp0 mp2 np2 (F_s_SumModels_L1 mp0 mp2 np2 r) values6 v7
def F_s_SumModels (mp0 : Int) (mp1 : List Int) (mp2 : List Int) (np0 : Int) (np1 : List Int) (np2 : List Int) : (Int × List Int × List Int) × (Int) :=
  bif ((!(F_l06Is mp0 mp1 mp2)) || (!(F_l06Is np0 np1 np2))) then ((0, [], []), 1) else (bif (decide (8 < (mp0 + np0))) then ((0, [], []), 3) else (((F_l05Sum mp0 mp1 np0 np1).1, (F_l05Sum mp0 mp1 np0 np1).2, (F_s_SumModels_L1 mp0 mp2 np2 (Int.toNat ((mp2.length : Int) - 0) + 1) ([]) 0).1), 0))
theorem cf_s_SumModels (args : Array Value) (w : World) : (callFunc 23 args).run Try.prog w = .ok (.enter 23 args) w := by kernel_rfl
set_option maxRecDepth 100000 in
theorem c_s_SumModels (mp0 : Int) (mp1A : Option Addr) (mp1N mp1C : Nat) (mp1 : List Int) (mp2A : Option Addr) (mp2N mp2C : Nat) (mp2 : List Int) (np0 : Int) (np1A : Option Addr) (np1N np1C : Nat) (np1 : List Int) (np2A : Option Addr) (np2N np2C : Nat) (np2 : List Int) (w : World) (mp1R : RdS w 1 mp1A mp1N mp1C mp1) (mp2R : RdS w 1 mp2A mp2N mp2C mp2) (np1R : RdS w 1 np1A np1N np1C np1) (np2R : RdS w 1 np2A np2N np2C np2) :
    Calls Try.prog 23 #[.agg #[.int .i64 mp0, .slice mp1A mp1N mp1C, .slice mp2A mp2N mp2C], .agg #[.int .i64 np0, .slice np1A np1N np1C, .slice np2A np2N np2C]] w (Ret fun v w' => ∃ b1 : Option Addr, ∃ c1 : Nat, ∃ b2 : Option Addr, ∃ c2 : Nat, v = .tuple #[.agg #[.int .i64 (((F_s_SumModels mp0 mp1 mp2 np0 np1 np2).1).1), .slice b1 (((F_s_SumModels mp0 mp1 mp2 np0 np1 np2).1).2.1).length c1, .slice b2 (((F_s_SumModels mp0 mp1 mp2 np0 np1 np2).1).2.2).length c2], .int .i64 ((F_s_SumModels mp0 mp1 mp2 np0 np1 np2).2)] ∧ Own2 w' w.heap.size 2 b1 (((F_s_SumModels mp0 mp1 mp2 np0 np1 np2).1).2.1).length c1 (((F_s_SumModels mp0 mp1 mp2 np0 np1 np2).1).2.1) b2 (((F_s_SumModels mp0 mp1 mp2 np0 np1 np2).1).2.2).length c2 (((F_s_SumModels mp0 mp1 mp2 np0 np1 np2).1).2.2) ∧ Ext w w') := by
  obtain rfl : mp1N = mp1.length := mp1R.len1.symm
  have mp1Le := mp1R.le
  obtain rfl : mp2N = mp2.length := mp2R.len1.symm
  have mp2Le := mp2R.le
  obtain rfl : np1N = np1.length := np1R.len1.symm
  have np1Le := np1R.le
  obtain rfl : np2N = np2.length := np2R.len1.symm
  have np2Le := np2R.le
  have hS := St.nil w
  have hS1 := St.rd0 hS rfl mp1R; clear hS
  have hS2 := St.rd0 hS1 rfl mp2R; clear hS1
  have hS3 := St.rd0 hS2 rfl np1R; clear hS2
  have hS4 := St.rd0 hS3 rfl np2R; clear hS3
  refine enter (args := [.agg #[.int .i64 mp0, .slice mp1A mp1.length mp1C, .slice mp2A mp2.length mp2C], .agg #[.int .i64 np0, .slice np1A np1.length np1C, .slice np2A np2.length np2C]]) Try.func23 rfl rfl ?_
  rw [Try.ntmps23]; intro a hE
  have hE := hE.sub (L' := [(0, .agg #[.int .i64 mp0, .slice mp1A mp1.length mp1C, .slice mp2A mp2.length mp2C]), (1, .agg #[.int .i64 np0, .slice np1A np1.length np1C, .slice np2A np2.length np2C])]) ⟨rfl, rfl, trivial⟩
  refine c_seq ?_
  refine c_reg ?_
  refine l_step hE rfl (l_box (v := .agg #[.int .i64 mp0, .slice mp1A mp1.length mp1C, .slice mp2A mp2.length mp2C]) (cs := #[.int .i64 mp0, .slice mp1A mp1.length mp1C, .slice mp2A mp2.length mp2C]) hS4 hE rfl rfl rfl ?_)
  intro b5 w6 hS9 he10 a7 hE8; clear hS4 hE
  refine l_step hE8 rfl (l_box (v := .agg #[.int .i64 np0, .slice np1A np1.length np1C, .slice np2A np2.length np2C]) (cs := #[.int .i64 np0, .slice np1A np1.length np1C, .slice np2A np2.length np2C]) hS9 hE8 rfl rfl rfl ?_)
  intro b11 w12 hS15 he16 a13 hE14; clear hS9 hE8
  refine l_step hE14 rfl (l_alloc (z := .agg #[.int .i64 0, .slice none 0 0, .slice none 0 0]) (cs := #[.int .i64 0, .slice none 0 0, .slice none 0 0]) hS15 hE14 (fun _ => by kernel_rfl) rfl rfl ?_)
  intro b17 w18 hS21 he22 a19 hE20; clear hS15 hE14
  refine q_step (v := .int .i64 0) hE20 (y_assign rfl) rfl rfl rfl ?_; intro a23 hE24; clear hE20
  refine c_nil ?_
  have hE25 := hE24.sub (L' := [(2, .pointer (some ⟨b5, 0, none⟩)), (3, .pointer (some ⟨b11, 0, none⟩)), (4, .pointer (some ⟨b17, 0, none⟩))]) ⟨rfl, rfl, rfl, trivial⟩; clear hE24
  refine p_tn ?_
  refine c_seq ?_
  refine wp_block ?_
  refine c_cut (fun a' w' => E a' 62 [(2, .pointer (some ⟨b5, 0, none⟩)), (3, .pointer (some ⟨b11, 0, none⟩)), (4, .pointer (some ⟨b17, 0, none⟩)), (8, .bool ((!(F_l06Is mp0 mp1 mp2)) || (!(F_l06Is np0 np1 np2))))] ∧ St w w' [.blk b17 #[.int .i64 0, .slice none 0 0, .slice none 0 0] 38, .rd 1 np1A np1.length np1C np1, .rd 1 np2A np2.length np2C np2, .blk b11 #[.int .i64 np0, .slice np1A np1.length np1C, .slice np2A np2.length np2C] 38, .rd 1 mp1A mp1.length mp1C mp1, .rd 1 mp2A mp2.length mp2C mp2, .blk b5 #[.int .i64 mp0, .slice mp1A mp1.length mp1C, .slice mp2A mp2.length mp2C] 38]) ?_ ?_
  ·
    refine c_reg ?_
    refine q_step (v := .agg #[.int .i64 mp0, .slice mp1A mp1.length mp1C, .slice mp2A mp2.length mp2C]) hE25 (y_loadS Try.underlying38 rfl (by kernel_rfl) rfl (St.row (i := 2) hS21 rfl)) rfl rfl rfl ?_; intro a26 hE27; clear hE25
    refine l_step hE27 rfl (l_call (f := 63) (argv := [.agg #[.int .i64 mp0, .slice mp1A mp1.length mp1C, .slice mp2A mp2.length mp2C]]) hE27 (fun _ => cf_l06Is _ _) rfl rfl (c_l06Is mp0 mp1A mp1.length mp1C mp1 mp2A mp2.length mp2C mp2 w18 (St.rdR (i := 6) hS21 rfl) (St.rdR (i := 5) hS21 rfl)) ?_)
    rintro _ w29 ⟨rfl, he33⟩ a30 hE31; clear hE27
    have hS32 := St.go hS21 he33; clear hS21
    refine q_step (v := .bool (!(F_l06Is mp0 mp1 mp2))) hE31 (y_not rfl) rfl rfl rfl ?_; intro a34 hE35; clear hE31
    refine q_step (v := .bool (!(F_l06Is mp0 mp1 mp2))) hE35 (y_move rfl) rfl rfl rfl ?_; intro a36 hE37; clear hE35
    rcases Bool.eq_false_or_eq_true (!(F_l06Is mp0 mp1 mp2)) with hb38 | hb38
    ·
      have hE39 := hE37; rw [hb38] at hE39; clear hE37
      have ht40 := bn_t hb38
      refine q_skip hE39 rfl rfl rfl ?_; intro a41 hE42; clear hE39
      refine q_skip hE42 rfl rfl rfl ?_; intro a43 hE44; clear hE42
      refine q_skip hE44 rfl rfl rfl ?_; intro a45 hE46; clear hE44
      refine q_step (v := .bool true) hE46 (y_pick (b := true) rfl rfl) rfl rfl rfl ?_; intro a47 hE48; clear hE46
      refine q_step (v := .bool true) hE48 (y_assign rfl) rfl rfl rfl ?_; intro a49 hE50; clear hE48
      refine c_nil ?_
      have hE51 := hE50.sub (L' := [(2, .pointer (some ⟨b5, 0, none⟩)), (3, .pointer (some ⟨b11, 0, none⟩)), (4, .pointer (some ⟨b17, 0, none⟩)), (8, .bool true)]) ⟨rfl, rfl, rfl, rfl, trivial⟩; clear hE50
      refine p_tn ?_
      have hE52 := hE51.sub (L' := [(2, .pointer (some ⟨b5, 0, none⟩)), (3, .pointer (some ⟨b11, 0, none⟩)), (4, .pointer (some ⟨b17, 0, none⟩)), (8, .bool true)]) ⟨rfl, rfl, rfl, rfl, trivial⟩
      have hS53 := (St.pick (Γ' := [.blk b17 #[.int .i64 0, .slice none 0 0, .slice none 0 0] 38, .rd 1 np1A np1.length np1C np1, .rd 1 np2A np2.length np2C np2, .blk b11 #[.int .i64 np0, .slice np1A np1.length np1C, .slice np2A np2.length np2C] 38, .rd 1 mp1A mp1.length mp1C mp1, .rd 1 mp2A mp2.length mp2C mp2, .blk b5 #[.int .i64 mp0, .slice mp1A mp1.length mp1C, .slice mp2A mp2.length mp2C] 38]) hS32 [0, 4, 3, 1, 6, 5, 2] (by decide) rfl)
      exact ⟨(by rw [hb38]; exact hE52), hS53⟩
    ·
      have hE54 := hE37; rw [hb38] at hE54; clear hE37
      have ht55 := bn_f hb38
      have hp56 := l06Is_t ht55
      refine q_step (v := .agg #[.int .i64 np0, .slice np1A np1.length np1C, .slice np2A np2.length np2C]) hE54 (y_loadS Try.underlying38 rfl (by kernel_rfl) rfl (St.row (i := 1) hS32 rfl)) rfl rfl rfl ?_; intro a57 hE58; clear hE54
      refine l_step hE58 rfl (l_call (f := 63) (argv := [.agg #[.int .i64 np0, .slice np1A np1.length np1C, .slice np2A np2.length np2C]]) hE58 (fun _ => cf_l06Is _ _) rfl rfl (c_l06Is np0 np1A np1.length np1C np1 np2A np2.length np2C np2 w29 (St.rdR (i := 4) hS32 rfl) (St.rdR (i := 3) hS32 rfl)) ?_)
      rintro _ w60 ⟨rfl, he64⟩ a61 hE62; clear hE58
      have hS63 := St.go hS32 he64; clear hS32
      refine q_step (v := .bool (!(F_l06Is np0 np1 np2))) hE62 (y_not rfl) rfl rfl rfl ?_; intro a65 hE66; clear hE62
      refine q_step (v := .bool (!(F_l06Is np0 np1 np2))) hE66 (y_pick (b := false) rfl rfl) rfl rfl rfl ?_; intro a67 hE68; clear hE66
      refine q_step (v := .bool (!(F_l06Is np0 np1 np2))) hE68 (y_assign rfl) rfl rfl rfl ?_; intro a69 hE70; clear hE68
      refine c_nil ?_
      have hE71 := hE70.sub (L' := [(2, .pointer (some ⟨b5, 0, none⟩)), (3, .pointer (some ⟨b11, 0, none⟩)), (4, .pointer (some ⟨b17, 0, none⟩)), (8, .bool (!(F_l06Is np0 np1 np2)))]) ⟨rfl, rfl, rfl, rfl, trivial⟩; clear hE70
      refine p_tn ?_
      have hE72 := hE71.sub (L' := [(2, .pointer (some ⟨b5, 0, none⟩)), (3, .pointer (some ⟨b11, 0, none⟩)), (4, .pointer (some ⟨b17, 0, none⟩)), (8, .bool (!(F_l06Is np0 np1 np2)))]) ⟨rfl, rfl, rfl, rfl, trivial⟩
      have hS73 := (St.pick (Γ' := [.blk b17 #[.int .i64 0, .slice none 0 0, .slice none 0 0] 38, .rd 1 np1A np1.length np1C np1, .rd 1 np2A np2.length np2C np2, .blk b11 #[.int .i64 np0, .slice np1A np1.length np1C, .slice np2A np2.length np2C] 38, .rd 1 mp1A mp1.length mp1C mp1, .rd 1 mp2A mp2.length mp2C mp2, .blk b5 #[.int .i64 mp0, .slice mp1A mp1.length mp1C, .slice mp2A mp2.length mp2C] 38]) hS63 [0, 4, 3, 1, 6, 5, 2] (by decide) rfl)
      exact ⟨(by rw [hb38]; exact hE72), hS73⟩
  ·
    rintro a74 w75 ⟨hE76, hS77⟩; clear hE25 hS21
    refine c_cond hE76 rfl (fun ht78 => ?_) (fun ht78 => ?_)
    ·
      have hE79 := hE76; rw [ht78] at hE79; clear hE76
      refine c_seq ?_
      refine c_reg ?_
      refine q_step (v := .agg #[.int .i64 0, .slice none 0 0, .slice none 0 0]) hE79 (y_build (vs := #[]) (fun a n hE => by simp) (fun _ => by kernel_rfl)) rfl rfl rfl ?_; intro a80 hE81; clear hE79
      refine l_step hE81 rfl (l_storeS (k := 0) (cs' := #[.int .i64 0, .slice none 0 0, .slice none 0 0]) hS77 hE81 (by kernel_rfl) rfl rfl (by kernel_rfl) rfl rfl ?_)
      intro w83 hS86 a84 hE85; clear hS77 hE81
      refine q_step (v := .int .i64 1) hE85 (y_assign rfl) rfl rfl rfl ?_; intro a88 hE89; clear hE85
      refine c_nil ?_
      have hE90 := hE89.sub (L' := [(4, .pointer (some ⟨b17, 0, none⟩)), (5, .int .i64 1)]) ⟨rfl, rfl, trivial⟩; clear hE89
      refine p_tn ?_
      refine wp_ret ?_
      refine p_br ?_
      refine p_tr ?_
      have hF : F_s_SumModels mp0 mp1 mp2 np0 np1 np2 = ((0, [], []), 1) := by unfold F_s_SumModels; rw [ht78]; first | done | rfl
      refine c_retC2 hE90 rfl rfl rfl Try.underlying38 rfl (by kernel_rfl) (St.row (i := 0) hS86 rfl _ (Ext.refl _)) ?_
      have hS91 := St.nils hS86 2 1; clear hS86
      have hS92 := St.nils hS91 2 1; clear hS91
      exact ⟨none, 0, none, 0, (by rw [hF]; first | done | rfl), (by rw [hF]; exact St.own2 1 0 hS92 rfl rfl (by decide)), hS92.ext⟩
    ·
      obtain ⟨ht93, ht94⟩ := bor_f ht78
      have ht95 := bn_f ht93
      have hp96 := l06Is_t ht95
      have ht97 := bn_f ht94
      have hp98 := l06Is_t ht97
      have hE99 := hE76; rw [ht78] at hE99; clear hE76
      refine c_seq ?_
      refine c_reg ?_
      refine q_step (v := .pointer (some ⟨b5, 0, none⟩)) hE99 (y_field rfl (fun _ => by kernel_rfl)) rfl rfl rfl ?_; intro a100 hE101; clear hE99
      refine q_step (v := .pointer (some ⟨b5, 0, none⟩)) hE101 (y_field rfl (fun _ => by kernel_rfl)) rfl rfl rfl ?_; intro a102 hE103; clear hE101
      refine q_step (v := .int .i64 mp0) hE103 (y_load (fun _ => by kernel_rfl) rfl (St.cell (i := 6) hS77 rfl rfl)) rfl rfl rfl ?_; intro a104 hE105; clear hE103
      refine q_step (v := .pointer (some ⟨b11, 0, none⟩)) hE105 (y_field rfl (fun _ => by kernel_rfl)) rfl rfl rfl ?_; intro a106 hE107; clear hE105
      refine q_step (v := .pointer (some ⟨b11, 0, none⟩)) hE107 (y_field rfl (fun _ => by kernel_rfl)) rfl rfl rfl ?_; intro a108 hE109; clear hE107
      refine q_step (v := .int .i64 np0) hE109 (y_load (fun _ => by kernel_rfl) rfl (St.cell (i := 3) hS77 rfl rfl)) rfl rfl rfl ?_; intro a110 hE111; clear hE109
      refine q_step (v := .int .i64 (mp0 + np0)) hE111 (y_add rfl rfl ⟨(by omega), (by omega)⟩) rfl rfl rfl ?_; intro a112 hE113; clear hE111
      refine q_step (v := .bool (decide (8 < (mp0 + np0)))) hE113 (y_gtr rfl rfl) rfl rfl rfl ?_; intro a114 hE115; clear hE113
      refine q_step (v := .bool (decide (8 < (mp0 + np0)))) hE115 (y_assign rfl) rfl rfl rfl ?_; intro a116 hE117; clear hE115
      refine c_nil ?_
      have hE118 := hE117.sub (L' := [(2, .pointer (some ⟨b5, 0, none⟩)), (3, .pointer (some ⟨b11, 0, none⟩)), (4, .pointer (some ⟨b17, 0, none⟩)), (18, .bool (decide (8 < (mp0 + np0))))]) ⟨rfl, rfl, rfl, rfl, trivial⟩; clear hE117
      refine p_tn ?_
      refine c_cond hE118 rfl (fun ht119 => ?_) (fun ht119 => ?_)
      ·
        have hp120 := of_decide_eq_true ht119
        have hE121 := hE118; rw [ht119] at hE121; clear hE118
        refine c_seq ?_
        refine c_reg ?_
        refine q_step (v := .agg #[.int .i64 0, .slice none 0 0, .slice none 0 0]) hE121 (y_build (vs := #[]) (fun a n hE => by simp) (fun _ => by kernel_rfl)) rfl rfl rfl ?_; intro a122 hE123; clear hE121
        refine l_step hE123 rfl (l_storeS (k := 0) (cs' := #[.int .i64 0, .slice none 0 0, .slice none 0 0]) hS77 hE123 (by kernel_rfl) rfl rfl (by kernel_rfl) rfl rfl ?_)
        intro w125 hS128 a126 hE127; clear hS77 hE123
        refine q_step (v := .int .i64 3) hE127 (y_assign rfl) rfl rfl rfl ?_; intro a130 hE131; clear hE127
        refine c_nil ?_
        have hE132 := hE131.sub (L' := [(4, .pointer (some ⟨b17, 0, none⟩)), (5, .int .i64 3)]) ⟨rfl, rfl, trivial⟩; clear hE131
        refine p_tn ?_
        refine wp_ret ?_
        refine p_br ?_
        refine p_tr ?_
        have hF : F_s_SumModels mp0 mp1 mp2 np0 np1 np2 = ((0, [], []), 3) := by unfold F_s_SumModels; rw [ht119, ht78]; first | done | rfl
        refine c_retC2 hE132 rfl rfl rfl Try.underlying38 rfl (by kernel_rfl) (St.row (i := 0) hS128 rfl _ (Ext.refl _)) ?_
        have hS133 := St.nils hS128 2 1; clear hS128
        have hS134 := St.nils hS133 2 1; clear hS133
        exact ⟨none, 0, none, 0, (by rw [hF]; first | done | rfl), (by rw [hF]; exact St.own2 1 0 hS134 rfl rfl (by decide)), hS134.ext⟩
      ·
        have hp135 := of_decide_eq_false ht119
        have hE136 := hE118; rw [ht119] at hE136; clear hE118
        refine wp_skip ?_
        refine p_bn ?_
        refine p_tn ?_
        refine c_seq ?_
        refine c_reg ?_
        refine l_step hE136 rfl (l_lit (e := 2) (s := 1) (xs := []) (vs := []) hS77 hE136 rfl (fun _ => by kernel_rfl) rfl rfl rfl ?_)
        intro b137 w138 hS141 he142 a139 hE140; clear hS77 hE136
        refine q_step (v := .slice (some ⟨b137, 0, none⟩) 0 0) hE140 (y_assign rfl) rfl rfl rfl ?_; intro a143 hE144; clear hE140
        refine c_nil ?_
        have hE145 := hE144.sub (L' := [(2, .pointer (some ⟨b5, 0, none⟩)), (3, .pointer (some ⟨b11, 0, none⟩)), (4, .pointer (some ⟨b17, 0, none⟩)), (6, .slice (some ⟨b137, 0, none⟩) 0 0)]) ⟨rfl, rfl, rfl, rfl, trivial⟩; clear hE144
        refine p_tn ?_
        refine c_seq ?_
        refine c_seq ?_
        refine c_reg ?_
        refine q_step (v := .int .i64 0) hE145 (y_assign rfl) rfl rfl rfl ?_; intro a146 hE147; clear hE145
        refine c_nil ?_
        have hE148 := hE147.sub (L' := [(2, .pointer (some ⟨b5, 0, none⟩)), (3, .pointer (some ⟨b11, 0, none⟩)), (4, .pointer (some ⟨b17, 0, none⟩)), (6, .slice (some ⟨b137, 0, none⟩) 0 0), (7, .int .i64 0)]) ⟨rfl, rfl, rfl, rfl, rfl, trivial⟩; clear hE147
        refine p_tn ?_
        refine c_cut1 (fun a' w' => ∃ values6A_149 : Option Addr, ∃ values6C_149 : Nat, (0 ≤ ((F_s_SumModels_L1 mp0 mp2 np2 (Int.toNat ((mp2.length : Int) - 0) + 1) ([]) 0).2)) ∧ (((F_s_SumModels_L1 mp0 mp2 np2 (Int.toNat ((mp2.length : Int) - 0) + 1) ([]) 0).2) ≤ (mp2.length : Int)) ∧ ((((F_s_SumModels_L1 mp0 mp2 np2 (Int.toNat ((mp2.length : Int) - 0) + 1) ([]) 0).1).length : Int) ≤ ((F_s_SumModels_L1 mp0 mp2 np2 (Int.toNat ((mp2.length : Int) - 0) + 1) ([]) 0).2)) ∧ E a' 62 [(2, .pointer (some ⟨b5, 0, none⟩)), (3, .pointer (some ⟨b11, 0, none⟩)), (4, .pointer (some ⟨b17, 0, none⟩)), (6, .slice values6A_149 (((F_s_SumModels_L1 mp0 mp2 np2 (Int.toNat ((mp2.length : Int) - 0) + 1) ([]) 0).1).length) values6C_149), (7, .int .i64 ((F_s_SumModels_L1 mp0 mp2 np2 (Int.toNat ((mp2.length : Int) - 0) + 1) ([]) 0).2))] ∧ St w w' [.own 2 1 values6A_149 (((F_s_SumModels_L1 mp0 mp2 np2 (Int.toNat ((mp2.length : Int) - 0) + 1) ([]) 0).1).length) values6C_149 ((F_s_SumModels_L1 mp0 mp2 np2 (Int.toNat ((mp2.length : Int) - 0) + 1) ([]) 0).1), .blk b17 #[.int .i64 0, .slice none 0 0, .slice none 0 0] 38, .rd 1 np1A np1.length np1C np1, .rd 1 np2A np2.length np2C np2, .blk b11 #[.int .i64 np0, .slice np1A np1.length np1C, .slice np2A np2.length np2C] 38, .rd 1 mp1A mp1.length mp1C mp1, .rd 1 mp2A mp2.length mp2C mp2, .blk b5 #[.int .i64 mp0, .slice mp1A mp1.length mp1C, .slice mp2A mp2.length mp2C] 38]) ?_ ?_
        ·
          refine wp_block ?_
          refine c_loop (fun r a' w' => ∃ values6 : List Int, ∃ v7 : Int, ∃ values6A : Option Addr, ∃ values6C : Nat, F_s_SumModels_L1 mp0 mp2 np2 r values6 v7 = F_s_SumModels_L1 mp0 mp2 np2 (Int.toNat ((mp2.length : Int) - 0) + 1) ([]) 0 ∧ Int.toNat ((mp2.length : Int) - v7) < r ∧ (0 ≤ v7) ∧ (v7 ≤ (mp2.length : Int)) ∧ ((values6.length : Int) ≤ v7) ∧ E a' 62 [(2, .pointer (some ⟨b5, 0, none⟩)), (3, .pointer (some ⟨b11, 0, none⟩)), (4, .pointer (some ⟨b17, 0, none⟩)), (6, .slice values6A ((values6).length) values6C), (7, .int .i64 v7)] ∧ St w w' [.own 2 1 values6A ((values6).length) values6C values6, .blk b17 #[.int .i64 0, .slice none 0 0, .slice none 0 0] 38, .rd 1 np1A np1.length np1C np1, .rd 1 np2A np2.length np2C np2, .blk b11 #[.int .i64 np0, .slice np1A np1.length np1C, .slice np2A np2.length np2C] 38, .rd 1 mp1A mp1.length mp1C mp1, .rd 1 mp2A mp2.length mp2C mp2, .blk b5 #[.int .i64 mp0, .slice mp1A mp1.length mp1C, .slice mp2A mp2.length mp2C] 38]) (r := (Int.toNat ((mp2.length : Int) - 0) + 1)) ?_ ?_
          · exact ⟨[], 0, some ⟨b137, 0, none⟩, 0, rfl, Nat.lt_succ_self _, (by first | omega | (simp only [List.length_append, List.length_cons, List.length_nil, sI_len, cond_true, cond_false]; omega) | (simp only [List.length_append, List.length_cons, List.length_nil, sI_len, cond_eq_ite, apply_ite List.length]; split <;> simp only [List.length_append, List.length_cons, List.length_nil, sI_len] <;> omega) | grind), (by first | omega | (simp only [List.length_append, List.length_cons, List.length_nil, sI_len, cond_true, cond_false]; omega) | (simp only [List.length_append, List.length_cons, List.length_nil, sI_len, cond_eq_ite, apply_ite List.length]; split <;> simp only [List.length_append, List.length_cons, List.length_nil, sI_len] <;> omega) | grind), (by first | omega | (simp only [List.length_append, List.length_cons, List.length_nil, sI_len, cond_true, cond_false]; omega) | (simp only [List.length_append, List.length_cons, List.length_nil, sI_len, cond_eq_ite, apply_ite List.length]; split <;> simp only [List.length_append, List.length_cons, List.length_nil, sI_len] <;> omega) | grind), (hE148.sub (L' := [(2, .pointer (some ⟨b5, 0, none⟩)), (3, .pointer (some ⟨b11, 0, none⟩)), (4, .pointer (some ⟨b17, 0, none⟩)), (6, .slice (some ⟨b137, 0, none⟩) 0 0), (7, .int .i64 0)]) ⟨rfl, rfl, rfl, rfl, rfl, trivial⟩), (St.pick (Γ' := [.own 2 1 (some ⟨b137, 0, none⟩) 0 0 ([]), .blk b17 #[.int .i64 0, .slice none 0 0, .slice none 0 0] 38, .rd 1 np1A np1.length np1C np1, .rd 1 np2A np2.length np2C np2, .blk b11 #[.int .i64 np0, .slice np1A np1.length np1C, .slice np2A np2.length np2C] 38, .rd 1 mp1A mp1.length mp1C mp1, .rd 1 mp2A mp2.length mp2C mp2, .blk b5 #[.int .i64 mp0, .slice mp1A mp1.length mp1C, .slice mp2A mp2.length mp2C] 38]) hS141 [0, 1, 2, 3, 4, 5, 6, 7] (by decide) rfl)⟩
          ·
            clear hE148 hS141
            rintro r159 a150 w151 ⟨values6, v7, values6A, values6C, hT154, hr155, hi156, hi157, hi158, hE152, hS153⟩
            obtain ⟨r159, rfl⟩ : ∃ r', r159 = r' + 1 := ⟨r159 - 1, by omega⟩
            refine c_seq ?_
            refine c_seq ?_
            refine c_reg ?_
            refine q_step (v := .int .i64 v7) hE152 (y_move rfl) rfl rfl rfl ?_; intro a160 hE161; clear hE152
            refine q_step (v := .pointer (some ⟨b5, 2, none⟩)) hE161 (y_field rfl (fun _ => by kernel_rfl)) rfl rfl rfl ?_; intro a162 hE163; clear hE161
            refine q_step (v := .slice mp2A mp2.length mp2C) hE163 (y_load (fun _ => by kernel_rfl) rfl (St.cell (i := 7) hS153 rfl rfl)) rfl rfl rfl ?_; intro a164 hE165; clear hE163
            refine q_step (v := .int .i64 (mp2.length : Int)) hE165 (y_len (e := 2) (by kernel_rfl) rfl) rfl rfl rfl ?_; intro a166 hE167; clear hE165
            refine q_step (v := .bool (decide (v7 < (mp2.length : Int)))) hE167 (y_lss rfl rfl) rfl rfl rfl ?_; intro a168 hE169; clear hE167
            refine c_nil ?_
            have hE170 := hE169.sub (L' := [(2, .pointer (some ⟨b5, 0, none⟩)), (3, .pointer (some ⟨b11, 0, none⟩)), (4, .pointer (some ⟨b17, 0, none⟩)), (6, .slice values6A ((values6).length) values6C), (7, .int .i64 v7), (33, .bool (decide (v7 < (mp2.length : Int))))]) ⟨rfl, rfl, rfl, rfl, rfl, rfl, trivial⟩; clear hE169
            refine p_tn ?_
            refine c_cond hE170 rfl (fun ht171 => ?_) (fun ht171 => ?_)
            ·
              have hp172 := of_decide_eq_true ht171
              have hE173 := hE170; rw [ht171] at hE173; clear hE170
              refine wp_skip ?_
              refine p_tn ?_
              refine c_seq ?_
              refine wp_block ?_
              refine d_start (fun w' => w'.cell? ⟨b5, 2, none⟩ = some (.slice mp2A mp2.length mp2C) ∧ w'.cell? (adr mp2A (Int.toNat v7)) = some (.int .i64 (gI mp2 v7)) ∧ w'.cell? ⟨b11, 2, none⟩ = some (.slice np2A np2.length np2C) ∧ w'.cell? (adr np2A (Int.toNat v7)) = some (.int .i64 (gI np2 v7)) ∧ w'.cell? ⟨b5, 0, none⟩ = some (.int .i64 mp0) ∧ True) [2, 5, 7, 10, 13] 20 (by kernel_rfl) rfl ?_
              intro w174 he175; have hS176 := St.go hS153 he175; clear hS153
              refine d_pure (v := .slice values6A ((values6).length) values6C) 0 rfl hE173 (y_move rfl) rfl (by kernel_rfl) (by kernel_rfl) (by kernel_rfl) rfl rfl (fun _ _ _ h => h) ?_; intro a177 hE178; clear hE173
              refine d_pure (v := .pointer (some ⟨b5, 2, none⟩)) 1 rfl hE178 (y_field rfl (fun _ => by kernel_rfl)) rfl (by kernel_rfl) (by kernel_rfl) (by kernel_rfl) rfl rfl (fun _ _ _ h => h) ?_; intro a179 hE180; clear hE178
              refine d_take (v := .slice mp2A mp2.length mp2C) 2 rfl hE180 ⟨(St.cell (i := 7) hS176 rfl rfl _ (Ext.refl _)), (RdS.elt (St.rdR (i := 6) hS176 rfl) (by omega) (by omega) _ (Ext.refl _)), (St.cell (i := 4) hS176 rfl rfl _ (Ext.refl _)), (RdS.elt (St.rdR (i := 3) hS176 rfl) (by omega) (by omega) _ (Ext.refl _)), (St.cell (i := 7) hS176 rfl rfl _ (Ext.refl _)), trivial⟩ (y_load (fun _ => by kernel_rfl) rfl (fun _ h => h.1)) rfl rfl (by kernel_rfl) (by kernel_rfl) (by kernel_rfl) rfl rfl (fun _ _ _ h => h) ?_; intro a181 hE182; clear hE180
              refine d_pure (v := .int .i64 v7) 3 rfl hE182 (y_move rfl) rfl (by kernel_rfl) (by kernel_rfl) (by kernel_rfl) rfl rfl (fun _ _ _ h => h) ?_; intro a183 hE184; clear hE182
              refine d_pure (v := .pointer (some (adr mp2A (Int.toNat v7)))) 4 rfl hE184 (y_idx (by kernel_rfl) (fun _ => by kernel_rfl) rfl rfl (RdS.isS (m := v7) (St.rdR (i := 6) hS176 rfl) (by omega) (by omega)) (by omega) (by omega) (Nat.mul_one _).symm) rfl (by kernel_rfl) (by kernel_rfl) (by kernel_rfl) rfl rfl (fun _ _ _ h => h) ?_; intro a185 hE186; clear hE184
              refine d_take (v := .int .i64 (gI mp2 v7)) 5 rfl hE186 ⟨(St.cell (i := 7) hS176 rfl rfl _ (Ext.refl _)), (RdS.elt (St.rdR (i := 6) hS176 rfl) (by omega) (by omega) _ (Ext.refl _)), (St.cell (i := 4) hS176 rfl rfl _ (Ext.refl _)), (RdS.elt (St.rdR (i := 3) hS176 rfl) (by omega) (by omega) _ (Ext.refl _)), (St.cell (i := 7) hS176 rfl rfl _ (Ext.refl _)), trivial⟩ (y_load (fun _ => by kernel_rfl) rfl (fun _ h => h.2.1)) rfl rfl (by kernel_rfl) (by kernel_rfl) (by kernel_rfl) rfl rfl (fun _ _ _ h => h) ?_; intro a187 hE188; clear hE186
              refine d_pure (v := .pointer (some ⟨b11, 2, none⟩)) 6 rfl hE188 (y_field rfl (fun _ => by kernel_rfl)) rfl (by kernel_rfl) (by kernel_rfl) (by kernel_rfl) rfl rfl (fun _ _ _ h => h) ?_; intro a189 hE190; clear hE188
              refine d_take (v := .slice np2A np2.length np2C) 7 rfl hE190 ⟨(St.cell (i := 7) hS176 rfl rfl _ (Ext.refl _)), (RdS.elt (St.rdR (i := 6) hS176 rfl) (by omega) (by omega) _ (Ext.refl _)), (St.cell (i := 4) hS176 rfl rfl _ (Ext.refl _)), (RdS.elt (St.rdR (i := 3) hS176 rfl) (by omega) (by omega) _ (Ext.refl _)), (St.cell (i := 7) hS176 rfl rfl _ (Ext.refl _)), trivial⟩ (y_load (fun _ => by kernel_rfl) rfl (fun _ h => h.2.2.1)) rfl rfl (by kernel_rfl) (by kernel_rfl) (by kernel_rfl) rfl rfl (fun _ _ _ h => h) ?_; intro a191 hE192; clear hE190
              refine d_pure (v := .int .i64 v7) 8 rfl hE192 (y_move rfl) rfl (by kernel_rfl) (by kernel_rfl) (by kernel_rfl) rfl rfl (fun _ _ _ h => h) ?_; intro a193 hE194; clear hE192
              refine d_pure (v := .pointer (some (adr np2A (Int.toNat v7)))) 9 rfl hE194 (y_idx (by kernel_rfl) (fun _ => by kernel_rfl) rfl rfl (RdS.isS (m := v7) (St.rdR (i := 3) hS176 rfl) (by omega) (by omega)) (by omega) (by omega) (Nat.mul_one _).symm) rfl (by kernel_rfl) (by kernel_rfl) (by kernel_rfl) rfl rfl (fun _ _ _ h => h) ?_; intro a195 hE196; clear hE194
              refine d_take (v := .int .i64 (gI np2 v7)) 10 rfl hE196 ⟨(St.cell (i := 7) hS176 rfl rfl _ (Ext.refl _)), (RdS.elt (St.rdR (i := 6) hS176 rfl) (by omega) (by omega) _ (Ext.refl _)), (St.cell (i := 4) hS176 rfl rfl _ (Ext.refl _)), (RdS.elt (St.rdR (i := 3) hS176 rfl) (by omega) (by omega) _ (Ext.refl _)), (St.cell (i := 7) hS176 rfl rfl _ (Ext.refl _)), trivial⟩ (y_load (fun _ => by kernel_rfl) rfl (fun _ h => h.2.2.2.1)) rfl rfl (by kernel_rfl) (by kernel_rfl) (by kernel_rfl) rfl rfl (fun _ _ _ h => h) ?_; intro a197 hE198; clear hE196
              refine d_pure (v := .pointer (some ⟨b5, 0, none⟩)) 11 rfl hE198 (y_field rfl (fun _ => by kernel_rfl)) rfl (by kernel_rfl) (by kernel_rfl) (by kernel_rfl) rfl rfl (fun _ _ _ h => h) ?_; intro a199 hE200; clear hE198
              refine d_pure (v := .pointer (some ⟨b5, 0, none⟩)) 12 rfl hE200 (y_field rfl (fun _ => by kernel_rfl)) rfl (by kernel_rfl) (by kernel_rfl) (by kernel_rfl) rfl rfl (fun _ _ _ h => h) ?_; intro a201 hE202; clear hE200
              refine d_take (v := .int .i64 mp0) 13 rfl hE202 ⟨(St.cell (i := 7) hS176 rfl rfl _ (Ext.refl _)), (RdS.elt (St.rdR (i := 6) hS176 rfl) (by omega) (by omega) _ (Ext.refl _)), (St.cell (i := 4) hS176 rfl rfl _ (Ext.refl _)), (RdS.elt (St.rdR (i := 3) hS176 rfl) (by omega) (by omega) _ (Ext.refl _)), (St.cell (i := 7) hS176 rfl rfl _ (Ext.refl _)), trivial⟩ (y_load (fun _ => by kernel_rfl) rfl (fun _ h => h.2.2.2.2.1)) rfl rfl (by kernel_rfl) (by kernel_rfl) (by kernel_rfl) rfl rfl (fun _ _ _ h => h) ?_; intro a203 hE204; clear hE202
              refine d_pure (v := .int .u64 mp0) 14 rfl hE204 (y_conv (ds := .int .i64) (by kernel_rfl) (by kernel_rfl) rfl (wU64 (by omega) (by omega))) rfl (by kernel_rfl) (by kernel_rfl) (by kernel_rfl) rfl rfl (fun _ _ _ h => h) ?_; intro a205 hE206; clear hE204
              refine d_pure (v := .int .i64 (shlI (gI np2 v7) mp0)) 15 rfl hE206 (y_shl rfl rfl (by omega)) rfl (by kernel_rfl) (by kernel_rfl) (by kernel_rfl) rfl rfl (fun _ _ _ h => h) ?_; intro a207 hE208; clear hE206
              refine d_pure (v := .int .i64 (orI (gI mp2 v7) (shlI (gI np2 v7) mp0))) 16 rfl hE208 (y_or rfl rfl) rfl (by kernel_rfl) (by kernel_rfl) (by kernel_rfl) rfl rfl (fun _ _ _ h => h) ?_; intro a209 hE210; clear hE208
              refine d_only 17 (by kernel_rfl) rfl hE210 rfl (l_lit (e := 2) (s := 1) (xs := [orI (gI mp2 v7) (shlI (gI np2 v7) mp0)]) (vs := [.int .i64 (orI (gI mp2 v7) (shlI (gI np2 v7) mp0))]) hS176 hE210 rfl (fun _ => by kernel_rfl) rfl rfl rfl ?_)
              intro b211 w212 hS215 he216 a213 hE214; clear hS176 hE210
              refine ⟨fun _ _ => ⟨(St.cell (i := 8) hS215 rfl rfl _ (Ext.refl _)), (RdS.elt (St.rdR (i := 7) hS215 rfl) (by omega) (by omega) _ (Ext.refl _)), (St.cell (i := 5) hS215 rfl rfl _ (Ext.refl _)), (RdS.elt (St.rdR (i := 4) hS215 rfl) (by omega) (by omega) _ (Ext.refl _)), (St.cell (i := 8) hS215 rfl rfl _ (Ext.refl _)), trivial⟩, ?_⟩
              obtain ⟨_, hi1, hi2, hi3, hi4⟩ := info_parts (show (Try.prog.info? 2).map (fun i => (i.zero, i.size, i.bytes)) = some (some (.int .i64 0), 1, 8) by kernel_rfl)
              refine d_only 18 (by kernel_rfl) rfl hE214 rfl (l_append (k := 1) (n' := (values6 ++ ([orI (gI mp2 v7) (shlI (gI np2 v7) mp0)])).length) hS215 hE214 (by kernel_rfl) hi1 hi2 hi3 rfl (by decide) (by rw [hi4]; decide) rfl rfl rfl (St.rdO (i := 0) hS215 rfl) (by first | omega | (simp only [List.length_append, List.length_cons, List.length_nil]; omega)) (by have h1 := (St.rdO (i := 1) hS215 rfl).len1; have h2 := (St.rdO (i := 0) hS215 rfl).len1; rw [List.length_append, h1, h2]) rfl ?_)
              intro b217 c223 w218 hS221 a219 hE220; clear hS215 hE214 hi1 hi2 hi3 hi4
              refine ⟨fun _ _ => ⟨(St.cell (i := 8) hS221 rfl rfl _ (Ext.refl _)), (RdS.elt (St.rdR (i := 7) hS221 rfl) (by omega) (by omega) _ (Ext.refl _)), (St.cell (i := 5) hS221 rfl rfl _ (Ext.refl _)), (RdS.elt (St.rdR (i := 4) hS221 rfl) (by omega) (by omega) _ (Ext.refl _)), (St.cell (i := 8) hS221 rfl rfl _ (Ext.refl _)), trivial⟩, ?_⟩
              refine d_pure (v := .slice b217 ((values6 ++ ([orI (gI mp2 v7) (shlI (gI np2 v7) mp0)])).length) c223) 19 rfl hE220 (y_assign rfl) rfl (by kernel_rfl) (by kernel_rfl) (by kernel_rfl) rfl rfl (fun _ _ _ h => h) ?_; intro a224 hE225; clear hE220
              refine d_done (by kernel_rfl) ?_
              have hE226 := hE225.sub (L' := [(2, .pointer (some ⟨b5, 0, none⟩)), (3, .pointer (some ⟨b11, 0, none⟩)), (4, .pointer (some ⟨b17, 0, none⟩)), (6, .slice b217 ((values6 ++ ([orI (gI mp2 v7) (shlI (gI np2 v7) mp0)])).length) c223), (7, .int .i64 v7)]) ⟨rfl, rfl, rfl, rfl, rfl, trivial⟩; clear hE225
              refine p_bn ?_
              refine p_tn ?_
              refine c_reg ?_
              refine q_step (v := .int .i64 v7) hE226 (y_move rfl) rfl rfl rfl ?_; intro a227 hE228; clear hE226
              refine q_step (v := .int .i64 (v7 + 1)) hE228 (y_add rfl rfl ⟨(by omega), (by omega)⟩) rfl rfl rfl ?_; intro a229 hE230; clear hE228
              refine q_step (v := .int .i64 (v7 + 1)) hE230 (y_assign rfl) rfl rfl rfl ?_; intro a231 hE232; clear hE230
              refine c_nil ?_
              have hE233 := hE232.sub (L' := [(2, .pointer (some ⟨b5, 0, none⟩)), (3, .pointer (some ⟨b11, 0, none⟩)), (4, .pointer (some ⟨b17, 0, none⟩)), (6, .slice b217 ((values6 ++ ([orI (gI mp2 v7) (shlI (gI np2 v7) mp0)])).length) c223), (7, .int .i64 (v7 + 1))]) ⟨rfl, rfl, rfl, rfl, rfl, trivial⟩; clear hE232
              refine p_tn ⟨r159, Nat.lt_succ_self _, values6 ++ ([orI (gI mp2 v7) (shlI (gI np2 v7) mp0)]), v7 + 1, b217, c223, (hT154.symm.trans (show F_s_SumModels_L1b mp0 mp2 np2 (F_s_SumModels_L1 mp0 mp2 np2 r159) values6 v7 = F_s_SumModels_L1 mp0 mp2 np2 r159 (values6 ++ ([orI (gI mp2 v7) (shlI (gI np2 v7) mp0)])) (v7 + 1) by unfold F_s_SumModels_L1b; rw [ht171]; first | done | rfl)).symm, (by omega), (by first | omega | (simp only [List.length_append, List.length_cons, List.length_nil, sI_len, cond_true, cond_false]; omega) | (simp only [List.length_append, List.length_cons, List.length_nil, sI_len, cond_eq_ite, apply_ite List.length]; split <;> simp only [List.length_append, List.length_cons, List.length_nil, sI_len] <;> omega) | grind), (by first | omega | (simp only [List.length_append, List.length_cons, List.length_nil, sI_len, cond_true, cond_false]; omega) | (simp only [List.length_append, List.length_cons, List.length_nil, sI_len, cond_eq_ite, apply_ite List.length]; split <;> simp only [List.length_append, List.length_cons, List.length_nil, sI_len] <;> omega) | grind), (by first | omega | (simp only [List.length_append, List.length_cons, List.length_nil, sI_len, cond_true, cond_false]; omega) | (simp only [List.length_append, List.length_cons, List.length_nil, sI_len, cond_eq_ite, apply_ite List.length]; split <;> simp only [List.length_append, List.length_cons, List.length_nil, sI_len] <;> omega) | grind), (hE233.sub (L' := [(2, .pointer (some ⟨b5, 0, none⟩)), (3, .pointer (some ⟨b11, 0, none⟩)), (4, .pointer (some ⟨b17, 0, none⟩)), (6, .slice b217 ((values6 ++ ([orI (gI mp2 v7) (shlI (gI np2 v7) mp0)])).length) c223), (7, .int .i64 (v7 + 1))]) ⟨rfl, rfl, rfl, rfl, rfl, trivial⟩), (St.pick (Γ' := [.own 2 1 b217 ((values6 ++ ([orI (gI mp2 v7) (shlI (gI np2 v7) mp0)])).length) c223 (values6 ++ ([orI (gI mp2 v7) (shlI (gI np2 v7) mp0)])), .blk b17 #[.int .i64 0, .slice none 0 0, .slice none 0 0] 38, .rd 1 np1A np1.length np1C np1, .rd 1 np2A np2.length np2C np2, .blk b11 #[.int .i64 np0, .slice np1A np1.length np1C, .slice np2A np2.length np2C] 38, .rd 1 mp1A mp1.length mp1C mp1, .rd 1 mp2A mp2.length mp2C mp2, .blk b5 #[.int .i64 mp0, .slice mp1A mp1.length mp1C, .slice mp2A mp2.length mp2C] 38]) hS221 [1, 2, 3, 4, 5, 6, 7, 8] (by decide) rfl)⟩
            ·
              have hp234 := of_decide_eq_false ht171
              have hE235 := hE170; rw [ht171] at hE235; clear hE170
              refine wp_exit ?_
              refine p_te ?_
              have hX236 : F_s_SumModels_L1 mp0 mp2 np2 (Int.toNat ((mp2.length : Int) - 0) + 1) ([]) 0 = (values6, v7) := hT154.symm.trans (show F_s_SumModels_L1b mp0 mp2 np2 (F_s_SumModels_L1 mp0 mp2 np2 r159) values6 v7 = (values6, v7) by unfold F_s_SumModels_L1b; rw [ht171]; first | done | rfl)
              refine p_te (p_be (p_tn ?_))
              exact ⟨values6A, values6C, (by rw [hX236]; exact (show 0 ≤ v7 from (by first | omega | (simp only [List.length_append, List.length_cons, List.length_nil, sI_len, cond_true, cond_false]; omega) | (simp only [List.length_append, List.length_cons, List.length_nil, sI_len, cond_eq_ite, apply_ite List.length]; split <;> simp only [List.length_append, List.length_cons, List.length_nil, sI_len] <;> omega) | grind))), (by rw [hX236]; exact (show v7 ≤ (mp2.length : Int) from (by first | omega | (simp only [List.length_append, List.length_cons, List.length_nil, sI_len, cond_true, cond_false]; omega) | (simp only [List.length_append, List.length_cons, List.length_nil, sI_len, cond_eq_ite, apply_ite List.length]; split <;> simp only [List.length_append, List.length_cons, List.length_nil, sI_len] <;> omega) | grind))), (by rw [hX236]; exact (show (values6.length : Int) ≤ v7 from (by first | omega | (simp only [List.length_append, List.length_cons, List.length_nil, sI_len, cond_true, cond_false]; omega) | (simp only [List.length_append, List.length_cons, List.length_nil, sI_len, cond_eq_ite, apply_ite List.length]; split <;> simp only [List.length_append, List.length_cons, List.length_nil, sI_len] <;> omega) | grind))), (by rw [hX236]; exact (hE235.sub (L' := [(2, .pointer (some ⟨b5, 0, none⟩)), (3, .pointer (some ⟨b11, 0, none⟩)), (4, .pointer (some ⟨b17, 0, none⟩)), (6, .slice values6A ((values6).length) values6C), (7, .int .i64 v7)]) ⟨rfl, rfl, rfl, rfl, rfl, trivial⟩)), (by rw [hX236]; exact (St.pick (Γ' := [.own 2 1 values6A ((values6).length) values6C values6, .blk b17 #[.int .i64 0, .slice none 0 0, .slice none 0 0] 38, .rd 1 np1A np1.length np1C np1, .rd 1 np2A np2.length np2C np2, .blk b11 #[.int .i64 np0, .slice np1A np1.length np1C, .slice np2A np2.length np2C] 38, .rd 1 mp1A mp1.length mp1C mp1, .rd 1 mp2A mp2.length mp2C mp2, .blk b5 #[.int .i64 mp0, .slice mp1A mp1.length mp1C, .slice mp2A mp2.length mp2C] 38]) hS153 [0, 1, 2, 3, 4, 5, 6, 7] (by decide) rfl))⟩
        ·
          rintro a237 w238 ⟨values6A_149, values6C_149, hi242, hi243, hi244, hE239, hS240⟩; clear hE148 hS141
          refine p_tn ?_
          refine c_seq ?_
          refine c_reg ?_
          refine q_step (v := .pointer (some ⟨b5, 0, none⟩)) hE239 (y_field rfl (fun _ => by kernel_rfl)) rfl rfl rfl ?_; intro a245 hE246; clear hE239
          refine q_step (v := .agg #[.int .i64 mp0, .slice mp1A mp1.length mp1C]) hE246 (y_loadP Try.underlying28 rfl (by kernel_rfl) rfl rfl (St.row (i := 7) hS240 rfl)) rfl rfl rfl ?_; intro a247 hE248; clear hE246
          refine q_step (v := .pointer (some ⟨b11, 0, none⟩)) hE248 (y_field rfl (fun _ => by kernel_rfl)) rfl rfl rfl ?_; intro a249 hE250; clear hE248
          refine q_step (v := .agg #[.int .i64 np0, .slice np1A np1.length np1C]) hE250 (y_loadP Try.underlying28 rfl (by kernel_rfl) rfl rfl (St.row (i := 4) hS240 rfl)) rfl rfl rfl ?_; intro a251 hE252; clear hE250
          refine l_step hE252 rfl (l_call (f := 64) (argv := [.agg #[.int .i64 mp0, .slice mp1A mp1.length mp1C], .agg #[.int .i64 np0, .slice np1A np1.length np1C]]) hE252 (fun _ => cf_l05Sum _ _) rfl rfl (c_l05Sum mp0 mp1A mp1.length mp1C mp1 np0 np1A np1.length np1C np1 w238 (St.rdR (i := 5) hS240 rfl) (St.rdR (i := 2) hS240 rfl) (by omega) (by omega) (by omega) (by omega)) ?_)
          rintro _ w254 ⟨b259, c260, rfl, ho261, he258⟩ a255 hE256; clear hE252
          have hS257 := St.own hS240 he258 ho261; clear hS240
          refine q_step (v := .slice values6A_149 (((F_s_SumModels_L1 mp0 mp2 np2 (Int.toNat ((mp2.length : Int) - 0) + 1) ([]) 0).1).length) values6C_149) hE256 (y_move rfl) rfl rfl rfl ?_; intro a262 hE263; clear hE256
          refine q_step (v := .agg #[.int .i64 ((F_l05Sum mp0 mp1 np0 np1).1), .slice b259 (((F_l05Sum mp0 mp1 np0 np1).2).length) c260, .slice values6A_149 (((F_s_SumModels_L1 mp0 mp2 np2 (Int.toNat ((mp2.length : Int) - 0) + 1) ([]) 0).1).length) values6C_149]) hE263 (y_build (vs := #[(0, .agg #[.int .i64 ((F_l05Sum mp0 mp1 np0 np1).1), .slice b259 (((F_l05Sum mp0 mp1 np0 np1).2).length) c260]), (1, .slice values6A_149 (((F_s_SumModels_L1 mp0 mp2 np2 (Int.toNat ((mp2.length : Int) - 0) + 1) ([]) 0).1).length) values6C_149)]) (fun a n hE => by simp only [hE.eval (x := .tmp 59) (v := .agg #[.int .i64 ((F_l05Sum mp0 mp1 np0 np1).1), .slice b259 (((F_l05Sum mp0 mp1 np0 np1).2).length) c260]) rfl, hE.eval (x := .tmp 60) (v := .slice values6A_149 (((F_s_SumModels_L1 mp0 mp2 np2 (Int.toNat ((mp2.length : Int) - 0) + 1) ([]) 0).1).length) values6C_149) rfl, List.map_toArray, List.map_cons, List.map_nil]) (fun _ => by kernel_rfl)) rfl rfl rfl ?_; intro a264 hE265; clear hE263
          refine l_step hE265 rfl (l_storeS (k := 2) (cs' := #[.int .i64 ((F_l05Sum mp0 mp1 np0 np1).1), .slice b259 (((F_l05Sum mp0 mp1 np0 np1).2).length) c260, .slice values6A_149 (((F_s_SumModels_L1 mp0 mp2 np2 (Int.toNat ((mp2.length : Int) - 0) + 1) ([]) 0).1).length) values6C_149]) hS257 hE265 (by kernel_rfl) rfl rfl (by kernel_rfl) rfl rfl ?_)
          intro w267 hS270 a268 hE269; clear hS257 hE265
          refine q_step (v := .int .i64 0) hE269 (y_assign rfl) rfl rfl rfl ?_; intro a272 hE273; clear hE269
          refine c_nil ?_
          have hE274 := hE273.sub (L' := [(4, .pointer (some ⟨b17, 0, none⟩)), (5, .int .i64 0)]) ⟨rfl, rfl, trivial⟩; clear hE273
          refine p_tn ?_
          refine wp_ret ?_
          have hF : F_s_SumModels mp0 mp1 mp2 np0 np1 np2 = (((F_l05Sum mp0 mp1 np0 np1).1, (F_l05Sum mp0 mp1 np0 np1).2, (F_s_SumModels_L1 mp0 mp2 np2 (Int.toNat ((mp2.length : Int) - 0) + 1) ([]) 0).1), 0) := by unfold F_s_SumModels; rw [ht119, ht78]; first | done | rfl
          refine c_retC2 hE274 rfl rfl rfl Try.underlying38 rfl (by kernel_rfl) (St.row (i := 2) hS270 rfl _ (Ext.refl _)) ?_
          exact ⟨b259, c260, values6A_149, values6C_149, (by rw [hF]; first | done | rfl), (by rw [hF]; exact St.own2 0 1 hS270 rfl rfl (by decide)), hS270.ext⟩

def F_SumModels_L1b (mp0 : Int) (mp2 : List Int) (np2 : List Int) (rec : Int → (List Int) → Int × (List Int)) (t37 : Int) (q10_2 : List Int) : Int × (List Int) :=
  bif (decide (t37 < (mp2.length : Int))) then (rec (t37 + 1) (q10_2 ++ ([orI (gI mp2 t37) (shlI (gI np2 t37) mp0)]))) else (t37, q10_2)
def F_SumModels_L1 (mp0 : Int) (mp2 : List Int) (np2 : List Int) : Nat → Int → (List Int) → Int × (List Int)
  | 0, t37, q10_2 => (t37, q10_2)
  | r + 1, t37, q10_2 => F_SumModels_L1b mp0 mp2 np2 (F_SumModels_L1 mp0 mp2 np2 r) t37 q10_2
def F_SumModels (mp0 : Int) (mp1 : List Int) (mp2 : List Int) (np0 : Int) (np1 : List Int) (np2 : List Int) : (Int × List Int × List Int) × (Int) :=
  bif ((!(F_isModel mp0 mp1 mp2)) || (!(F_isModel np0 np1 np2))) then ((0, [], []), 1) else (bif (!decide (((F_SumFrames mp0 mp1 np0 np1).2) = 0)) then ((0, [], []), (F_SumFrames mp0 mp1 np0 np1).2) else ((((F_SumFrames mp0 mp1 np0 np1).1).1, ((F_SumFrames mp0 mp1 np0 np1).1).2, (F_SumModels_L1 mp0 mp2 np2 (Int.toNat ((mp2.length : Int) - 0) + 1) 0 ([])).2), 0))
theorem cf_SumModels (args : Array Value) (w : World) : (callFunc 25 args).run Try.prog w = .ok (.enter 25 args) w := by kernel_rfl
set_option maxRecDepth 100000 in
theorem c_SumModels (mp0 : Int) (mp1A : Option Addr) (mp1N mp1C : Nat) (mp1 : List Int) (mp2A : Option Addr) (mp2N mp2C : Nat) (mp2 : List Int) (np0 : Int) (np1A : Option Addr) (np1N np1C : Nat) (np1 : List Int) (np2A : Option Addr) (np2N np2C : Nat) (np2 : List Int) (w : World) (mp1R : RdS w 1 mp1A mp1N mp1C mp1) (mp2R : RdS w 1 mp2A mp2N mp2C mp2) (np1R : RdS w 1 np1A np1N np1C np1) (np2R : RdS w 1 np2A np2N np2C np2) :
    Calls Try.prog 25 #[.agg #[.int .i64 mp0, .slice mp1A mp1N mp1C, .slice mp2A mp2N mp2C], .agg #[.int .i64 np0, .slice np1A np1N np1C, .slice np2A np2N np2C]] w (Ret fun v w' => ∃ b1 : Option Addr, ∃ c1 : Nat, ∃ b2 : Option Addr, ∃ c2 : Nat, v = .tuple #[.agg #[.int .i64 (((F_SumModels mp0 mp1 mp2 np0 np1 np2).1).1), .slice b1 (((F_SumModels mp0 mp1 mp2 np0 np1 np2).1).2.1).length c1, .slice b2 (((F_SumModels mp0 mp1 mp2 np0 np1 np2).1).2.2).length c2], .int .i64 ((F_SumModels mp0 mp1 mp2 np0 np1 np2).2)] ∧ Own2 w' w.heap.size 2 b1 (((F_SumModels mp0 mp1 mp2 np0 np1 np2).1).2.1).length c1 (((F_SumModels mp0 mp1 mp2 np0 np1 np2).1).2.1) b2 (((F_SumModels mp0 mp1 mp2 np0 np1 np2).1).2.2).length c2 (((F_SumModels mp0 mp1 mp2 np0 np1 np2).1).2.2) ∧ Ext w w') := by
  obtain rfl : mp1N = mp1.length := mp1R.len1.symm
  have mp1Le := mp1R.le
  obtain rfl : mp2N = mp2.length := mp2R.len1.symm
  have mp2Le := mp2R.le
  obtain rfl : np1N = np1.length := np1R.len1.symm
  have np1Le := np1R.le
  obtain rfl : np2N = np2.length := np2R.len1.symm
  have np2Le := np2R.le
  have hS := St.nil w
  have hS1 := St.rd0 hS rfl mp1R; clear hS
  have hS2 := St.rd0 hS1 rfl mp2R; clear hS1
  have hS3 := St.rd0 hS2 rfl np1R; clear hS2
  have hS4 := St.rd0 hS3 rfl np2R; clear hS3
  refine enter (args := [.agg #[.int .i64 mp0, .slice mp1A mp1.length mp1C, .slice mp2A mp2.length mp2C], .agg #[.int .i64 np0, .slice np1A np1.length np1C, .slice np2A np2.length np2C]]) Try.func25 rfl rfl ?_
  rw [Try.ntmps25]; intro a hE
  have hE := hE.sub (L' := [(0, .agg #[.int .i64 mp0, .slice mp1A mp1.length mp1C, .slice mp2A mp2.length mp2C]), (1, .agg #[.int .i64 np0, .slice np1A np1.length np1C, .slice np2A np2.length np2C])]) ⟨rfl, rfl, trivial⟩
  refine c_seq ?_
  refine c_reg ?_
  refine l_step hE rfl (l_box (v := .agg #[.int .i64 mp0, .slice mp1A mp1.length mp1C, .slice mp2A mp2.length mp2C]) (cs := #[.int .i64 mp0, .slice mp1A mp1.length mp1C, .slice mp2A mp2.length mp2C]) hS4 hE rfl rfl rfl ?_)
  intro b5 w6 hS9 he10 a7 hE8; clear hS4 hE
  refine l_step hE8 rfl (l_box (v := .agg #[.int .i64 np0, .slice np1A np1.length np1C, .slice np2A np2.length np2C]) (cs := #[.int .i64 np0, .slice np1A np1.length np1C, .slice np2A np2.length np2C]) hS9 hE8 rfl rfl rfl ?_)
  intro b11 w12 hS15 he16 a13 hE14; clear hS9 hE8
  refine l_step hE14 rfl (l_alloc (z := .agg #[.int .i64 0, .slice none 0 0, .slice none 0 0]) (cs := #[.int .i64 0, .slice none 0 0, .slice none 0 0]) hS15 hE14 (fun _ => by kernel_rfl) rfl rfl ?_)
  intro b17 w18 hS21 he22 a19 hE20; clear hS15 hE14
  refine q_step (v := .int .i64 0) hE20 (y_assign rfl) rfl rfl rfl ?_; intro a23 hE24; clear hE20
  refine c_nil ?_
  have hE25 := hE24.sub (L' := [(2, .pointer (some ⟨b5, 0, none⟩)), (3, .pointer (some ⟨b11, 0, none⟩)), (4, .pointer (some ⟨b17, 0, none⟩))]) ⟨rfl, rfl, rfl, trivial⟩; clear hE24
  refine p_tn ?_
  refine c_seq ?_
  refine c_cut (fun a' w' => E a' 60 [(2, .pointer (some ⟨b5, 0, none⟩)), (3, .pointer (some ⟨b11, 0, none⟩)), (4, .pointer (some ⟨b17, 0, none⟩)), (18, .bool ((!(F_isModel mp0 mp1 mp2)) || (!(F_isModel np0 np1 np2))))] ∧ St w w' [.blk b17 #[.int .i64 0, .slice none 0 0, .slice none 0 0] 38, .rd 1 np1A np1.length np1C np1, .rd 1 np2A np2.length np2C np2, .blk b11 #[.int .i64 np0, .slice np1A np1.length np1C, .slice np2A np2.length np2C] 38, .rd 1 mp1A mp1.length mp1C mp1, .rd 1 mp2A mp2.length mp2C mp2, .blk b5 #[.int .i64 mp0, .slice mp1A mp1.length mp1C, .slice mp2A mp2.length mp2C] 38]) ?_ ?_
  ·
    refine c_reg ?_
    refine q_step (v := .agg #[.int .i64 mp0, .slice mp1A mp1.length mp1C, .slice mp2A mp2.length mp2C]) hE25 (y_loadS Try.underlying38 rfl (by kernel_rfl) rfl (St.row (i := 2) hS21 rfl)) rfl rfl rfl ?_; intro a26 hE27; clear hE25
    refine l_step hE27 rfl (l_call (f := 65) (argv := [.agg #[.int .i64 mp0, .slice mp1A mp1.length mp1C, .slice mp2A mp2.length mp2C]]) hE27 (fun _ => cf_isModel _ _) rfl rfl (c_isModel mp0 mp1A mp1.length mp1C mp1 mp2A mp2.length mp2C mp2 w18 (St.rdR (i := 6) hS21 rfl) (St.rdR (i := 5) hS21 rfl)) ?_)
    rintro _ w29 ⟨rfl, he33⟩ a30 hE31; clear hE27
    have hS32 := St.go hS21 he33; clear hS21
    refine q_step (v := .bool (!(F_isModel mp0 mp1 mp2))) hE31 (y_not rfl) rfl rfl rfl ?_; intro a34 hE35; clear hE31
    refine q_step (v := .bool (!(F_isModel mp0 mp1 mp2))) hE35 (y_move rfl) rfl rfl rfl ?_; intro a36 hE37; clear hE35
    rcases Bool.eq_false_or_eq_true (!(F_isModel mp0 mp1 mp2)) with hb38 | hb38
    ·
      have hE39 := hE37; rw [hb38] at hE39; clear hE37
      have ht40 := bn_t hb38
      refine q_skip hE39 rfl rfl rfl ?_; intro a41 hE42; clear hE39
      refine q_skip hE42 rfl rfl rfl ?_; intro a43 hE44; clear hE42
      refine q_skip hE44 rfl rfl rfl ?_; intro a45 hE46; clear hE44
      refine q_step (v := .bool true) hE46 (y_pick (b := true) rfl rfl) rfl rfl rfl ?_; intro a47 hE48; clear hE46
      refine c_nil ?_
      have hE49 := hE48.sub (L' := [(2, .pointer (some ⟨b5, 0, none⟩)), (3, .pointer (some ⟨b11, 0, none⟩)), (4, .pointer (some ⟨b17, 0, none⟩)), (18, .bool true)]) ⟨rfl, rfl, rfl, rfl, trivial⟩; clear hE48
      refine p_tn ?_
      have hE50 := hE49.sub (L' := [(2, .pointer (some ⟨b5, 0, none⟩)), (3, .pointer (some ⟨b11, 0, none⟩)), (4, .pointer (some ⟨b17, 0, none⟩)), (18, .bool true)]) ⟨rfl, rfl, rfl, rfl, trivial⟩
      have hS51 := (St.pick (Γ' := [.blk b17 #[.int .i64 0, .slice none 0 0, .slice none 0 0] 38, .rd 1 np1A np1.length np1C np1, .rd 1 np2A np2.length np2C np2, .blk b11 #[.int .i64 np0, .slice np1A np1.length np1C, .slice np2A np2.length np2C] 38, .rd 1 mp1A mp1.length mp1C mp1, .rd 1 mp2A mp2.length mp2C mp2, .blk b5 #[.int .i64 mp0, .slice mp1A mp1.length mp1C, .slice mp2A mp2.length mp2C] 38]) hS32 [0, 4, 3, 1, 6, 5, 2] (by decide) rfl)
      exact ⟨(by rw [hb38]; exact hE50), hS51⟩
    ·
      have hE52 := hE37; rw [hb38] at hE52; clear hE37
      have ht53 := bn_f hb38
      have hp54 := isModel_t ht53
      refine q_step (v := .agg #[.int .i64 np0, .slice np1A np1.length np1C, .slice np2A np2.length np2C]) hE52 (y_loadS Try.underlying38 rfl (by kernel_rfl) rfl (St.row (i := 1) hS32 rfl)) rfl rfl rfl ?_; intro a55 hE56; clear hE52
      refine l_step hE56 rfl (l_call (f := 65) (argv := [.agg #[.int .i64 np0, .slice np1A np1.length np1C, .slice np2A np2.length np2C]]) hE56 (fun _ => cf_isModel _ _) rfl rfl (c_isModel np0 np1A np1.length np1C np1 np2A np2.length np2C np2 w29 (St.rdR (i := 4) hS32 rfl) (St.rdR (i := 3) hS32 rfl)) ?_)
      rintro _ w58 ⟨rfl, he62⟩ a59 hE60; clear hE56
      have hS61 := St.go hS32 he62; clear hS32
      refine q_step (v := .bool (!(F_isModel np0 np1 np2))) hE60 (y_not rfl) rfl rfl rfl ?_; intro a63 hE64; clear hE60
      refine q_step (v := .bool (!(F_isModel np0 np1 np2))) hE64 (y_pick (b := false) rfl rfl) rfl rfl rfl ?_; intro a65 hE66; clear hE64
      refine c_nil ?_
      have hE67 := hE66.sub (L' := [(2, .pointer (some ⟨b5, 0, none⟩)), (3, .pointer (some ⟨b11, 0, none⟩)), (4, .pointer (some ⟨b17, 0, none⟩)), (18, .bool (!(F_isModel np0 np1 np2)))]) ⟨rfl, rfl, rfl, rfl, trivial⟩; clear hE66
      refine p_tn ?_
      have hE68 := hE67.sub (L' := [(2, .pointer (some ⟨b5, 0, none⟩)), (3, .pointer (some ⟨b11, 0, none⟩)), (4, .pointer (some ⟨b17, 0, none⟩)), (18, .bool (!(F_isModel np0 np1 np2)))]) ⟨rfl, rfl, rfl, rfl, trivial⟩
      have hS69 := (St.pick (Γ' := [.blk b17 #[.int .i64 0, .slice none 0 0, .slice none 0 0] 38, .rd 1 np1A np1.length np1C np1, .rd 1 np2A np2.length np2C np2, .blk b11 #[.int .i64 np0, .slice np1A np1.length np1C, .slice np2A np2.length np2C] 38, .rd 1 mp1A mp1.length mp1C mp1, .rd 1 mp2A mp2.length mp2C mp2, .blk b5 #[.int .i64 mp0, .slice mp1A mp1.length mp1C, .slice mp2A mp2.length mp2C] 38]) hS61 [0, 4, 3, 1, 6, 5, 2] (by decide) rfl)
      exact ⟨(by rw [hb38]; exact hE68), hS69⟩
  ·
    rintro a70 w71 ⟨hE72, hS73⟩; clear hE25 hS21
    refine c_cond hE72 rfl (fun ht74 => ?_) (fun ht74 => ?_)
    ·
      have hE75 := hE72; rw [ht74] at hE75; clear hE72
      refine c_seq ?_
      refine c_reg ?_
      refine q_step (v := .agg #[.int .i64 0, .slice none 0 0, .slice none 0 0]) hE75 (y_build (vs := #[]) (fun a n hE => by simp) (fun _ => by kernel_rfl)) rfl rfl rfl ?_; intro a76 hE77; clear hE75
      refine l_step hE77 rfl (l_storeS (k := 0) (cs' := #[.int .i64 0, .slice none 0 0, .slice none 0 0]) hS73 hE77 (by kernel_rfl) rfl rfl (by kernel_rfl) rfl rfl ?_)
      intro w79 hS82 a80 hE81; clear hS73 hE77
      refine q_step (v := .int .i64 1) hE81 (y_assign rfl) rfl rfl rfl ?_; intro a84 hE85; clear hE81
      refine c_nil ?_
      have hE86 := hE85.sub (L' := [(4, .pointer (some ⟨b17, 0, none⟩)), (5, .int .i64 1)]) ⟨rfl, rfl, trivial⟩; clear hE85
      refine p_tn ?_
      refine wp_ret ?_
      refine p_tr ?_
      have hF : F_SumModels mp0 mp1 mp2 np0 np1 np2 = ((0, [], []), 1) := by unfold F_SumModels; rw [ht74]; first | done | rfl
      refine c_retC2 hE86 rfl rfl rfl Try.underlying38 rfl (by kernel_rfl) (St.row (i := 0) hS82 rfl _ (Ext.refl _)) ?_
      have hS87 := St.nils hS82 2 1; clear hS82
      have hS88 := St.nils hS87 2 1; clear hS87
      exact ⟨none, 0, none, 0, (by rw [hF]; first | done | rfl), (by rw [hF]; exact St.own2 1 0 hS88 rfl rfl (by decide)), hS88.ext⟩
    ·
      obtain ⟨ht89, ht90⟩ := bor_f ht74
      have ht91 := bn_f ht89
      have hp92 := isModel_t ht91
      have ht93 := bn_f ht90
      have hp94 := isModel_t ht93
      have hE95 := hE72; rw [ht74] at hE95; clear hE72
      refine wp_skip ?_
      refine p_tn ?_
      refine c_seq ?_
      refine c_reg ?_
      refine q_step (v := .pointer (some ⟨b5, 0, none⟩)) hE95 (y_field rfl (fun _ => by kernel_rfl)) rfl rfl rfl ?_; intro a96 hE97; clear hE95
      refine q_step (v := .agg #[.int .i64 mp0, .slice mp1A mp1.length mp1C]) hE97 (y_loadP Try.underlying28 rfl (by kernel_rfl) rfl rfl (St.row (i := 6) hS73 rfl)) rfl rfl rfl ?_; intro a98 hE99; clear hE97
      refine q_step (v := .pointer (some ⟨b11, 0, none⟩)) hE99 (y_field rfl (fun _ => by kernel_rfl)) rfl rfl rfl ?_; intro a100 hE101; clear hE99
      refine q_step (v := .agg #[.int .i64 np0, .slice np1A np1.length np1C]) hE101 (y_loadP Try.underlying28 rfl (by kernel_rfl) rfl rfl (St.row (i := 3) hS73 rfl)) rfl rfl rfl ?_; intro a102 hE103; clear hE101
      refine l_step hE103 rfl (l_call (f := 66) (argv := [.agg #[.int .i64 mp0, .slice mp1A mp1.length mp1C], .agg #[.int .i64 np0, .slice np1A np1.length np1C]]) hE103 (fun _ => cf_SumFrames _ _) rfl rfl (c_SumFrames mp0 mp1A mp1.length mp1C mp1 np0 np1A np1.length np1C np1 w71 (St.rdR (i := 4) hS73 rfl) (St.rdR (i := 1) hS73 rfl)) ?_)
      rintro _ w105 ⟨b110, c111, rfl, ho112, he109⟩ a106 hE107; clear hE103
      have hf113 := SumFrames_len mp0 mp1 np0 np1
      have hS108 := St.own hS73 he109 ho112; clear hS73
      refine q_step (v := .tuple #[.agg #[.int .i64 (((F_SumFrames mp0 mp1 np0 np1).1).1), .slice b110 ((((F_SumFrames mp0 mp1 np0 np1).1).2).length) c111], .int .i64 ((F_SumFrames mp0 mp1 np0 np1).2)]) hE107 (y_move rfl) rfl rfl rfl ?_; intro a114 hE115; clear hE107
      refine q_step (v := .agg #[.int .i64 (((F_SumFrames mp0 mp1 np0 np1).1).1), .slice b110 ((((F_SumFrames mp0 mp1 np0 np1).1).2).length) c111]) hE115 (y_extract rfl rfl) rfl rfl rfl ?_; intro a116 hE117; clear hE115
      refine q_step (v := .int .i64 ((F_SumFrames mp0 mp1 np0 np1).2)) hE117 (y_extract rfl rfl) rfl rfl rfl ?_; intro a118 hE119; clear hE117
      refine l_step hE119 rfl (l_alloc (z := .agg #[.int .i64 0, .slice none 0 0]) (cs := #[.int .i64 0, .slice none 0 0]) hS108 hE119 (fun _ => by kernel_rfl) rfl rfl ?_)
      intro b120 w121 hS124 he125 a122 hE123; clear hS108 hE119
      refine l_step hE123 rfl (l_storeS (k := 0) (cs' := #[.int .i64 (((F_SumFrames mp0 mp1 np0 np1).1).1), .slice b110 ((((F_SumFrames mp0 mp1 np0 np1).1).2).length) c111]) hS124 hE123 (by kernel_rfl) rfl rfl (by kernel_rfl) rfl rfl ?_)
      intro w127 hS130 a128 hE129; clear hS124 hE123
      refine q_step (v := .int .i64 ((F_SumFrames mp0 mp1 np0 np1).2)) hE129 (y_assign rfl) rfl rfl rfl ?_; intro a132 hE133; clear hE129
      refine c_nil ?_
      have hE134 := hE133.sub (L' := [(2, .pointer (some ⟨b5, 0, none⟩)), (3, .pointer (some ⟨b11, 0, none⟩)), (4, .pointer (some ⟨b17, 0, none⟩)), (6, .pointer (some ⟨b120, 0, none⟩)), (7, .int .i64 ((F_SumFrames mp0 mp1 np0 np1).2))]) ⟨rfl, rfl, rfl, rfl, rfl, trivial⟩; clear hE133
      refine p_tn ?_
      refine c_seq ?_
      refine c_seq ?_
      refine c_reg ?_
      refine q_step (v := .int .i64 ((F_SumFrames mp0 mp1 np0 np1).2)) hE134 (y_move rfl) rfl rfl rfl ?_; intro a135 hE136; clear hE134
      refine q_step (v := .bool (!decide (((F_SumFrames mp0 mp1 np0 np1).2) = 0))) hE136 (y_neq rfl rfl) rfl rfl rfl ?_; intro a137 hE138; clear hE136
      refine c_nil ?_
      have hE139 := hE138.sub (L' := [(2, .pointer (some ⟨b5, 0, none⟩)), (3, .pointer (some ⟨b11, 0, none⟩)), (4, .pointer (some ⟨b17, 0, none⟩)), (6, .pointer (some ⟨b120, 0, none⟩)), (7, .int .i64 ((F_SumFrames mp0 mp1 np0 np1).2)), (29, .bool (!decide (((F_SumFrames mp0 mp1 np0 np1).2) = 0)))]) ⟨rfl, rfl, rfl, rfl, rfl, rfl, trivial⟩; clear hE138
      refine p_tn ?_
      refine c_cond hE139 rfl (fun ht140 => ?_) (fun ht140 => ?_)
      ·
        have ht141 := bn_t ht140
        have hp142 := of_decide_eq_false ht141
        have hE143 := hE139; rw [ht140] at hE143; clear hE139
        refine c_seq ?_
        refine c_reg ?_
        refine q_step (v := .agg #[.int .i64 0, .slice none 0 0, .slice none 0 0]) hE143 (y_build (vs := #[]) (fun a n hE => by simp) (fun _ => by kernel_rfl)) rfl rfl rfl ?_; intro a144 hE145; clear hE143
        refine q_step (v := .int .i64 ((F_SumFrames mp0 mp1 np0 np1).2)) hE145 (y_move rfl) rfl rfl rfl ?_; intro a146 hE147; clear hE145
        refine l_step hE147 rfl (l_storeS (k := 2) (cs' := #[.int .i64 0, .slice none 0 0, .slice none 0 0]) hS130 hE147 (by kernel_rfl) rfl rfl (by kernel_rfl) rfl rfl ?_)
        intro w149 hS152 a150 hE151; clear hS130 hE147
        refine q_step (v := .int .i64 ((F_SumFrames mp0 mp1 np0 np1).2)) hE151 (y_assign rfl) rfl rfl rfl ?_; intro a154 hE155; clear hE151
        refine c_nil ?_
        have hE156 := hE155.sub (L' := [(4, .pointer (some ⟨b17, 0, none⟩)), (5, .int .i64 ((F_SumFrames mp0 mp1 np0 np1).2))]) ⟨rfl, rfl, trivial⟩; clear hE155
        refine p_tn ?_
        refine wp_ret ?_
        refine p_tr ?_
        have hF : F_SumModels mp0 mp1 mp2 np0 np1 np2 = ((0, [], []), (F_SumFrames mp0 mp1 np0 np1).2) := by unfold F_SumModels; rw [ht140, ht74]; first | done | rfl
        refine c_retC2 hE156 rfl rfl rfl Try.underlying38 rfl (by kernel_rfl) (St.row (i := 2) hS152 rfl _ (Ext.refl _)) ?_
        have hS157 := St.nils hS152 2 1; clear hS152
        have hS158 := St.nils hS157 2 1; clear hS157
        exact ⟨none, 0, none, 0, (by rw [hF]; first | done | rfl), (by rw [hF]; exact St.own2 1 0 hS158 rfl rfl (by decide)), hS158.ext⟩
      ·
        have ht159 := bn_f ht140
        have hp160 := of_decide_eq_true ht159
        have hE161 := hE139; rw [ht140] at hE161; clear hE139
        refine wp_skip ?_
        refine p_tn ?_
        refine c_seq ?_
        refine c_reg ?_
        refine q_step (v := .agg #[.int .i64 (((F_SumFrames mp0 mp1 np0 np1).1).1), .slice b110 ((((F_SumFrames mp0 mp1 np0 np1).1).2).length) c111]) hE161 (y_loadS Try.underlying28 rfl (by kernel_rfl) rfl (St.row (i := 0) hS130 rfl)) rfl rfl rfl ?_; intro a162 hE163; clear hE161
        refine q_step (v := .agg #[.int .i64 (((F_SumFrames mp0 mp1 np0 np1).1).1), .slice b110 ((((F_SumFrames mp0 mp1 np0 np1).1).2).length) c111, .slice none 0 0]) hE163 (y_build (vs := #[(0, .agg #[.int .i64 (((F_SumFrames mp0 mp1 np0 np1).1).1), .slice b110 ((((F_SumFrames mp0 mp1 np0 np1).1).2).length) c111])]) (fun a n hE => by simp only [hE.eval (x := .tmp 32) (v := .agg #[.int .i64 (((F_SumFrames mp0 mp1 np0 np1).1).1), .slice b110 ((((F_SumFrames mp0 mp1 np0 np1).1).2).length) c111]) rfl, List.map_toArray, List.map_cons, List.map_nil]) (fun _ => by kernel_rfl)) rfl rfl rfl ?_; intro a164 hE165; clear hE163
        refine l_step hE165 rfl (l_alloc (z := .agg #[.int .i64 0, .slice none 0 0, .slice none 0 0]) (cs := #[.int .i64 0, .slice none 0 0, .slice none 0 0]) hS130 hE165 (fun _ => by kernel_rfl) rfl rfl ?_)
        intro b166 w167 hS170 he171 a168 hE169; clear hS130 hE165
        refine l_step hE169 rfl (l_storeS (k := 0) (cs' := #[.int .i64 (((F_SumFrames mp0 mp1 np0 np1).1).1), .slice b110 ((((F_SumFrames mp0 mp1 np0 np1).1).2).length) c111, .slice none 0 0]) hS170 hE169 (by kernel_rfl) rfl rfl (by kernel_rfl) rfl rfl ?_)
        intro w173 hS176 a174 hE175; clear hS170 hE169
        refine c_nil ?_
        have hE178 := hE175.sub (L' := [(2, .pointer (some ⟨b5, 0, none⟩)), (3, .pointer (some ⟨b11, 0, none⟩)), (4, .pointer (some ⟨b17, 0, none⟩)), (8, .pointer (some ⟨b166, 0, none⟩))]) ⟨rfl, rfl, rfl, rfl, trivial⟩; clear hE175
        refine p_tn ?_
        refine c_seq ?_
        refine c_seq ?_
        refine c_reg ?_
        refine q_step (v := .pointer (some ⟨b5, 2, none⟩)) hE178 (y_field rfl (fun _ => by kernel_rfl)) rfl rfl rfl ?_; intro a179 hE180; clear hE178
        refine q_step (v := .slice mp2A mp2.length mp2C) hE180 (y_load (fun _ => by kernel_rfl) rfl (St.cell (i := 9) hS176 rfl rfl)) rfl rfl rfl ?_; intro a181 hE182; clear hE180
        refine q_step (v := .int .i64 (mp2.length : Int)) hE182 (y_len (e := 2) (by kernel_rfl) rfl) rfl rfl rfl ?_; intro a183 hE184; clear hE182
        refine q_step (v := .int .i64 0) hE184 (y_move rfl) rfl rfl rfl ?_; intro a185 hE186; clear hE184
        refine c_nil ?_
        have hE187 := hE186.sub (L' := [(2, .pointer (some ⟨b5, 0, none⟩)), (3, .pointer (some ⟨b11, 0, none⟩)), (4, .pointer (some ⟨b17, 0, none⟩)), (8, .pointer (some ⟨b166, 0, none⟩)), (35, .slice mp2A mp2.length mp2C), (36, .int .i64 (mp2.length : Int)), (37, .int .i64 0)]) ⟨rfl, rfl, rfl, rfl, rfl, rfl, rfl, trivial⟩; clear hE186
        refine p_tn ?_
        have hS188 := St.nils hS176 2 1; clear hS176
        have hS189 := St.nils hS188 2 1; clear hS188
        have hS190 := St.nils hS189 2 1; clear hS189
        refine c_cut1 (fun a' w' => ∃ q10_2A_191 : Option Addr, ∃ q10_2C_191 : Nat, (0 ≤ ((F_SumModels_L1 mp0 mp2 np2 (Int.toNat ((mp2.length : Int) - 0) + 1) 0 ([])).1)) ∧ (((F_SumModels_L1 mp0 mp2 np2 (Int.toNat ((mp2.length : Int) - 0) + 1) 0 ([])).1) ≤ (mp2.length : Int)) ∧ ((((F_SumModels_L1 mp0 mp2 np2 (Int.toNat ((mp2.length : Int) - 0) + 1) 0 ([])).2).length : Int) ≤ ((F_SumModels_L1 mp0 mp2 np2 (Int.toNat ((mp2.length : Int) - 0) + 1) 0 ([])).1)) ∧ E a' 60 [(2, .pointer (some ⟨b5, 0, none⟩)), (3, .pointer (some ⟨b11, 0, none⟩)), (4, .pointer (some ⟨b17, 0, none⟩)), (8, .pointer (some ⟨b166, 0, none⟩)), (35, .slice mp2A mp2.length mp2C), (36, .int .i64 (mp2.length : Int)), (37, .int .i64 ((F_SumModels_L1 mp0 mp2 np2 (Int.toNat ((mp2.length : Int) - 0) + 1) 0 ([])).1))] ∧ St w w' [.own 2 1 none 0 0 ([]), .own 2 1 none 0 0 ([]), .own 2 1 q10_2A_191 (((F_SumModels_L1 mp0 mp2 np2 (Int.toNat ((mp2.length : Int) - 0) + 1) 0 ([])).2).length) q10_2C_191 ((F_SumModels_L1 mp0 mp2 np2 (Int.toNat ((mp2.length : Int) - 0) + 1) 0 ([])).2), .blk b166 #[.int .i64 (((F_SumFrames mp0 mp1 np0 np1).1).1), .slice b110 ((((F_SumFrames mp0 mp1 np0 np1).1).2).length) c111, .slice q10_2A_191 (((F_SumModels_L1 mp0 mp2 np2 (Int.toNat ((mp2.length : Int) - 0) + 1) 0 ([])).2).length) q10_2C_191] 38, .blk b120 #[.int .i64 (((F_SumFrames mp0 mp1 np0 np1).1).1), .slice b110 ((((F_SumFrames mp0 mp1 np0 np1).1).2).length) c111] 28, .own 2 1 b110 ((((F_SumFrames mp0 mp1 np0 np1).1).2).length) c111 (((F_SumFrames mp0 mp1 np0 np1).1).2), .blk b17 #[.int .i64 0, .slice none 0 0, .slice none 0 0] 38, .rd 1 np1A np1.length np1C np1, .rd 1 np2A np2.length np2C np2, .blk b11 #[.int .i64 np0, .slice np1A np1.length np1C, .slice np2A np2.length np2C] 38, .rd 1 mp1A mp1.length mp1C mp1, .rd 1 mp2A mp2.length mp2C mp2, .blk b5 #[.int .i64 mp0, .slice mp1A mp1.length mp1C, .slice mp2A mp2.length mp2C] 38]) ?_ ?_
        ·
          refine wp_block ?_
          refine c_loop (fun r a' w' => ∃ t37 : Int, ∃ q10_2 : List Int, ∃ q10_2A : Option Addr, ∃ q10_2C : Nat, F_SumModels_L1 mp0 mp2 np2 r t37 q10_2 = F_SumModels_L1 mp0 mp2 np2 (Int.toNat ((mp2.length : Int) - 0) + 1) 0 ([]) ∧ Int.toNat ((mp2.length : Int) - t37) < r ∧ (0 ≤ t37) ∧ (t37 ≤ (mp2.length : Int)) ∧ ((q10_2.length : Int) ≤ t37) ∧ E a' 60 [(2, .pointer (some ⟨b5, 0, none⟩)), (3, .pointer (some ⟨b11, 0, none⟩)), (4, .pointer (some ⟨b17, 0, none⟩)), (8, .pointer (some ⟨b166, 0, none⟩)), (35, .slice mp2A mp2.length mp2C), (36, .int .i64 (mp2.length : Int)), (37, .int .i64 t37)] ∧ St w w' [.own 2 1 none 0 0 ([]), .own 2 1 none 0 0 ([]), .own 2 1 q10_2A ((q10_2).length) q10_2C q10_2, .blk b166 #[.int .i64 (((F_SumFrames mp0 mp1 np0 np1).1).1), .slice b110 ((((F_SumFrames mp0 mp1 np0 np1).1).2).length) c111, .slice q10_2A ((q10_2).length) q10_2C] 38, .blk b120 #[.int .i64 (((F_SumFrames mp0 mp1 np0 np1).1).1), .slice b110 ((((F_SumFrames mp0 mp1 np0 np1).1).2).length) c111] 28, .own 2 1 b110 ((((F_SumFrames mp0 mp1 np0 np1).1).2).length) c111 (((F_SumFrames mp0 mp1 np0 np1).1).2), .blk b17 #[.int .i64 0, .slice none 0 0, .slice none 0 0] 38, .rd 1 np1A np1.length np1C np1, .rd 1 np2A np2.length np2C np2, .blk b11 #[.int .i64 np0, .slice np1A np1.length np1C, .slice np2A np2.length np2C] 38, .rd 1 mp1A mp1.length mp1C mp1, .rd 1 mp2A mp2.length mp2C mp2, .blk b5 #[.int .i64 mp0, .slice mp1A mp1.length mp1C, .slice mp2A mp2.length mp2C] 38]) (r := (Int.toNat ((mp2.length : Int) - 0) + 1)) ?_ ?_
          · exact ⟨0, [], none, 0, rfl, Nat.lt_succ_self _, (by first | omega | (simp only [List.length_append, List.length_cons, List.length_nil, sI_len, cond_true, cond_false]; omega) | (simp only [List.length_append, List.length_cons, List.length_nil, sI_len, cond_eq_ite, apply_ite List.length]; split <;> simp only [List.length_append, List.length_cons, List.length_nil, sI_len] <;> omega) | grind), (by first | omega | (simp only [List.length_append, List.length_cons, List.length_nil, sI_len, cond_true, cond_false]; omega) | (simp only [List.length_append, List.length_cons, List.length_nil, sI_len, cond_eq_ite, apply_ite List.length]; split <;> simp only [List.length_append, List.length_cons, List.length_nil, sI_len] <;> omega) | grind), (by first | omega | (simp only [List.length_append, List.length_cons, List.length_nil, sI_len, cond_true, cond_false]; omega) | (simp only [List.length_append, List.length_cons, List.length_nil, sI_len, cond_eq_ite, apply_ite List.length]; split <;> simp only [List.length_append, List.length_cons, List.length_nil, sI_len] <;> omega) | grind), (hE187.sub (L' := [(2, .pointer (some ⟨b5, 0, none⟩)), (3, .pointer (some ⟨b11, 0, none⟩)), (4, .pointer (some ⟨b17, 0, none⟩)), (8, .pointer (some ⟨b166, 0, none⟩)), (35, .slice mp2A mp2.length mp2C), (36, .int .i64 (mp2.length : Int)), (37, .int .i64 0)]) ⟨rfl, rfl, rfl, rfl, rfl, rfl, rfl, trivial⟩), (St.pick (Γ' := [.own 2 1 none 0 0 ([]), .own 2 1 none 0 0 ([]), .own 2 1 none 0 0 ([]), .blk b166 #[.int .i64 (((F_SumFrames mp0 mp1 np0 np1).1).1), .slice b110 ((((F_SumFrames mp0 mp1 np0 np1).1).2).length) c111, .slice none 0 0] 38, .blk b120 #[.int .i64 (((F_SumFrames mp0 mp1 np0 np1).1).1), .slice b110 ((((F_SumFrames mp0 mp1 np0 np1).1).2).length) c111] 28, .own 2 1 b110 ((((F_SumFrames mp0 mp1 np0 np1).1).2).length) c111 (((F_SumFrames mp0 mp1 np0 np1).1).2), .blk b17 #[.int .i64 0, .slice none 0 0, .slice none 0 0] 38, .rd 1 np1A np1.length np1C np1, .rd 1 np2A np2.length np2C np2, .blk b11 #[.int .i64 np0, .slice np1A np1.length np1C, .slice np2A np2.length np2C] 38, .rd 1 mp1A mp1.length mp1C mp1, .rd 1 mp2A mp2.length mp2C mp2, .blk b5 #[.int .i64 mp0, .slice mp1A mp1.length mp1C, .slice mp2A mp2.length mp2C] 38]) hS190 [0, 1, 2, 3, 4, 5, 6, 7, 8, 9, 10, 11, 12] (by decide) rfl)⟩
          ·
            clear hE187 hS190
            rintro r201 a192 w193 ⟨t37, q10_2, q10_2A, q10_2C, hT196, hr197, hi198, hi199, hi200, hE194, hS195⟩
            obtain ⟨r201, rfl⟩ : ∃ r', r201 = r' + 1 := ⟨r201 - 1, by omega⟩
            refine c_seq ?_
            refine c_reg ?_
            refine q_step (v := .bool (decide (t37 < (mp2.length : Int)))) hE194 (y_lss rfl rfl) rfl rfl rfl ?_; intro a202 hE203; clear hE194
            refine c_nil ?_
            have hE204 := hE203.sub (L' := [(2, .pointer (some ⟨b5, 0, none⟩)), (3, .pointer (some ⟨b11, 0, none⟩)), (4, .pointer (some ⟨b17, 0, none⟩)), (8, .pointer (some ⟨b166, 0, none⟩)), (35, .slice mp2A mp2.length mp2C), (36, .int .i64 (mp2.length : Int)), (37, .int .i64 t37), (38, .bool (decide (t37 < (mp2.length : Int))))]) ⟨rfl, rfl, rfl, rfl, rfl, rfl, rfl, rfl, trivial⟩; clear hE203
            refine p_tn ?_
            refine c_seq ?_
            refine c_cond hE204 rfl (fun ht205 => ?_) (fun ht205 => ?_)
            ·
              have hp206 := of_decide_eq_true ht205
              have hE207 := hE204; rw [ht205] at hE207; clear hE204
              refine wp_skip ?_
              refine p_tn ?_
              refine c_seq ?_
              refine wp_block ?_
              refine c_seq ?_
              refine c_reg ?_
              refine q_step (v := .int .i64 t37) hE207 (y_move rfl) rfl rfl rfl ?_; intro a208 hE209; clear hE207
              refine q_step (v := .pointer (some (adr mp2A (Int.toNat t37)))) hE209 (y_idx (by kernel_rfl) (fun _ => by kernel_rfl) rfl rfl (RdS.isS (m := t37) (St.rdR (i := 11) hS195 rfl) (by omega) (by omega)) (by omega) (by omega) (Nat.mul_one _).symm) rfl rfl rfl ?_; intro a210 hE211; clear hE209
              refine q_step (v := .int .i64 (gI mp2 t37)) hE211 (y_load (fun _ => by kernel_rfl) rfl (RdS.elt (St.rdR (i := 11) hS195 rfl) (by omega) (by omega))) rfl rfl rfl ?_; intro a212 hE213; clear hE211
              refine q_step (v := .int .i64 t37) hE213 (y_assign rfl) rfl rfl rfl ?_; intro a214 hE215; clear hE213
              refine q_step (v := .int .i64 (gI mp2 t37)) hE215 (y_assign rfl) rfl rfl rfl ?_; intro a216 hE217; clear hE215
              refine c_nil ?_
              have hE218 := hE217.sub (L' := [(2, .pointer (some ⟨b5, 0, none⟩)), (3, .pointer (some ⟨b11, 0, none⟩)), (4, .pointer (some ⟨b17, 0, none⟩)), (8, .pointer (some ⟨b166, 0, none⟩)), (9, .int .i64 t37), (10, .int .i64 (gI mp2 t37)), (35, .slice mp2A mp2.length mp2C), (36, .int .i64 (mp2.length : Int)), (37, .int .i64 t37)]) ⟨rfl, rfl, rfl, rfl, rfl, rfl, rfl, rfl, rfl, trivial⟩; clear hE217
              refine p_tn ?_
              refine d_start (fun w' => w'.cell? ⟨b166, 2, none⟩ = some (.slice q10_2A ((q10_2).length) q10_2C) ∧ w'.cell? ⟨b11, 2, none⟩ = some (.slice np2A np2.length np2C) ∧ w'.cell? (adr np2A (Int.toNat t37)) = some (.int .i64 (gI np2 t37)) ∧ w'.cell? ⟨b5, 0, none⟩ = some (.int .i64 mp0) ∧ True) [1, 4, 7, 10] 17 (by kernel_rfl) rfl ?_
              intro w219 he220; have hS221 := St.go hS195 he220; clear hS195
              refine d_pure (v := .pointer (some ⟨b166, 2, none⟩)) 0 rfl hE218 (y_field rfl (fun _ => by kernel_rfl)) rfl (by kernel_rfl) (by kernel_rfl) (by kernel_rfl) rfl rfl (fun _ _ _ h => h) ?_; intro a222 hE223; clear hE218
              refine d_take (v := .slice q10_2A ((q10_2).length) q10_2C) 1 rfl hE223 ⟨(St.cell (i := 3) hS221 rfl rfl _ (Ext.refl _)), (St.cell (i := 9) hS221 rfl rfl _ (Ext.refl _)), (RdS.elt (St.rdR (i := 8) hS221 rfl) (by omega) (by omega) _ (Ext.refl _)), (St.cell (i := 12) hS221 rfl rfl _ (Ext.refl _)), trivial⟩ (y_load (fun _ => by kernel_rfl) rfl (fun _ h => h.1)) rfl rfl (by kernel_rfl) (by kernel_rfl) (by kernel_rfl) rfl rfl (fun _ _ _ h => h) ?_; intro a224 hE225; clear hE223
              refine d_pure (v := .int .i64 (gI mp2 t37)) 2 rfl hE225 (y_move rfl) rfl (by kernel_rfl) (by kernel_rfl) (by kernel_rfl) rfl rfl (fun _ _ _ h => h) ?_; intro a226 hE227; clear hE225
              refine d_pure (v := .pointer (some ⟨b11, 2, none⟩)) 3 rfl hE227 (y_field rfl (fun _ => by kernel_rfl)) rfl (by kernel_rfl) (by kernel_rfl) (by kernel_rfl) rfl rfl (fun _ _ _ h => h) ?_; intro a228 hE229; clear hE227
              refine d_take (v := .slice np2A np2.length np2C) 4 rfl hE229 ⟨(St.cell (i := 3) hS221 rfl rfl _ (Ext.refl _)), (St.cell (i := 9) hS221 rfl rfl _ (Ext.refl _)), (RdS.elt (St.rdR (i := 8) hS221 rfl) (by omega) (by omega) _ (Ext.refl _)), (St.cell (i := 12) hS221 rfl rfl _ (Ext.refl _)), trivial⟩ (y_load (fun _ => by kernel_rfl) rfl (fun _ h => h.2.1)) rfl rfl (by kernel_rfl) (by kernel_rfl) (by kernel_rfl) rfl rfl (fun _ _ _ h => h) ?_; intro a230 hE231; clear hE229
              refine d_pure (v := .int .i64 t37) 5 rfl hE231 (y_move rfl) rfl (by kernel_rfl) (by kernel_rfl) (by kernel_rfl) rfl rfl (fun _ _ _ h => h) ?_; intro a232 hE233; clear hE231
              refine d_pure (v := .pointer (some (adr np2A (Int.toNat t37)))) 6 rfl hE233 (y_idx (by kernel_rfl) (fun _ => by kernel_rfl) rfl rfl (RdS.isS (m := t37) (St.rdR (i := 8) hS221 rfl) (by omega) (by omega)) (by omega) (by omega) (Nat.mul_one _).symm) rfl (by kernel_rfl) (by kernel_rfl) (by kernel_rfl) rfl rfl (fun _ _ _ h => h) ?_; intro a234 hE235; clear hE233
              refine d_take (v := .int .i64 (gI np2 t37)) 7 rfl hE235 ⟨(St.cell (i := 3) hS221 rfl rfl _ (Ext.refl _)), (St.cell (i := 9) hS221 rfl rfl _ (Ext.refl _)), (RdS.elt (St.rdR (i := 8) hS221 rfl) (by omega) (by omega) _ (Ext.refl _)), (St.cell (i := 12) hS221 rfl rfl _ (Ext.refl _)), trivial⟩ (y_load (fun _ => by kernel_rfl) rfl (fun _ h => h.2.2.1)) rfl rfl (by kernel_rfl) (by kernel_rfl) (by kernel_rfl) rfl rfl (fun _ _ _ h => h) ?_; intro a236 hE237; clear hE235
              refine d_pure (v := .pointer (some ⟨b5, 0, none⟩)) 8 rfl hE237 (y_field rfl (fun _ => by kernel_rfl)) rfl (by kernel_rfl) (by kernel_rfl) (by kernel_rfl) rfl rfl (fun _ _ _ h => h) ?_; intro a238 hE239; clear hE237
              refine d_pure (v := .pointer (some ⟨b5, 0, none⟩)) 9 rfl hE239 (y_field rfl (fun _ => by kernel_rfl)) rfl (by kernel_rfl) (by kernel_rfl) (by kernel_rfl) rfl rfl (fun _ _ _ h => h) ?_; intro a240 hE241; clear hE239
              refine d_take (v := .int .i64 mp0) 10 rfl hE241 ⟨(St.cell (i := 3) hS221 rfl rfl _ (Ext.refl _)), (St.cell (i := 9) hS221 rfl rfl _ (Ext.refl _)), (RdS.elt (St.rdR (i := 8) hS221 rfl) (by omega) (by omega) _ (Ext.refl _)), (St.cell (i := 12) hS221 rfl rfl _ (Ext.refl _)), trivial⟩ (y_load (fun _ => by kernel_rfl) rfl (fun _ h => h.2.2.2.1)) rfl rfl (by kernel_rfl) (by kernel_rfl) (by kernel_rfl) rfl rfl (fun _ _ _ h => h) ?_; intro a242 hE243; clear hE241
              refine d_pure (v := .int .i64 (shlI (gI np2 t37) mp0)) 11 rfl hE243 (y_shl rfl rfl (by omega)) rfl (by kernel_rfl) (by kernel_rfl) (by kernel_rfl) rfl rfl (fun _ _ _ h => h) ?_; intro a244 hE245; clear hE243
              refine d_pure (v := .int .i64 (orI (gI mp2 t37) (shlI (gI np2 t37) mp0))) 12 rfl hE245 (y_or rfl rfl) rfl (by kernel_rfl) (by kernel_rfl) (by kernel_rfl) rfl rfl (fun _ _ _ h => h) ?_; intro a246 hE247; clear hE245
              refine d_only 13 (by kernel_rfl) rfl hE247 rfl (l_lit (e := 2) (s := 1) (xs := [orI (gI mp2 t37) (shlI (gI np2 t37) mp0)]) (vs := [.int .i64 (orI (gI mp2 t37) (shlI (gI np2 t37) mp0))]) hS221 hE247 rfl (fun _ => by kernel_rfl) rfl rfl rfl ?_)
              intro b248 w249 hS252 he253 a250 hE251; clear hS221 hE247
              refine ⟨fun _ _ => ⟨(St.cell (i := 4) hS252 rfl rfl _ (Ext.refl _)), (St.cell (i := 10) hS252 rfl rfl _ (Ext.refl _)), (RdS.elt (St.rdR (i := 9) hS252 rfl) (by omega) (by omega) _ (Ext.refl _)), (St.cell (i := 13) hS252 rfl rfl _ (Ext.refl _)), trivial⟩, ?_⟩
              obtain ⟨_, hi1, hi2, hi3, hi4⟩ := info_parts (show (Try.prog.info? 2).map (fun i => (i.zero, i.size, i.bytes)) = some (some (.int .i64 0), 1, 8) by kernel_rfl)
              refine d_only 14 (by kernel_rfl) rfl hE251 rfl (l_append (k := 3) (n' := (q10_2 ++ ([orI (gI mp2 t37) (shlI (gI np2 t37) mp0)])).length) hS252 hE251 (by kernel_rfl) hi1 hi2 hi3 rfl (by decide) (by rw [hi4]; decide) rfl rfl rfl (St.rdO (i := 0) hS252 rfl) (by first | omega | (simp only [List.length_append, List.length_cons, List.length_nil]; omega)) (by have h1 := (St.rdO (i := 3) hS252 rfl).len1; have h2 := (St.rdO (i := 0) hS252 rfl).len1; rw [List.length_append, h1, h2]) rfl ?_)
              intro b254 c260 w255 hS258 a256 hE257; clear hS252 hE251 hi1 hi2 hi3 hi4
              refine ⟨fun _ _ => ⟨(St.cell (i := 4) hS258 rfl rfl _ (Ext.refl _)), (St.cell (i := 10) hS258 rfl rfl _ (Ext.refl _)), (RdS.elt (St.rdR (i := 9) hS258 rfl) (by omega) (by omega) _ (Ext.refl _)), (St.cell (i := 13) hS258 rfl rfl _ (Ext.refl _)), trivial⟩, ?_⟩
              refine d_pure (v := .pointer (some ⟨b166, 2, none⟩)) 15 rfl hE257 (y_field rfl (fun _ => by kernel_rfl)) rfl (by kernel_rfl) (by kernel_rfl) (by kernel_rfl) rfl rfl (fun _ _ _ h => h) ?_; intro a261 hE262; clear hE257
              refine d_only 16 (by kernel_rfl) rfl hE262 rfl (l_storeB (k := 4) (cs' := #[.int .i64 (((F_SumFrames mp0 mp1 np0 np1).1).1), .slice b110 ((((F_SumFrames mp0 mp1 np0 np1).1).2).length) c111, .slice b254 ((q10_2 ++ ([orI (gI mp2 t37) (shlI (gI np2 t37) mp0)])).length) c260]) hS258 hE262 (fun _ => by kernel_rfl) rfl rfl rfl rfl rfl rfl rfl ?_)
              intro w264 hS267 a265 hE266; clear hS258 hE262
              refine ⟨fun h => Bool.noConfusion (h.symm.trans (show exm _ _ _ = true by kernel_rfl)), ?_⟩
              refine d_done (by kernel_rfl) ?_
              have hE269 := hE266.sub (L' := [(2, .pointer (some ⟨b5, 0, none⟩)), (3, .pointer (some ⟨b11, 0, none⟩)), (4, .pointer (some ⟨b17, 0, none⟩)), (8, .pointer (some ⟨b166, 0, none⟩)), (35, .slice mp2A mp2.length mp2C), (36, .int .i64 (mp2.length : Int)), (37, .int .i64 t37)]) ⟨rfl, rfl, rfl, rfl, rfl, rfl, rfl, trivial⟩; clear hE266
              refine p_bn ?_
              refine p_tn ?_
              refine c_reg ?_
              refine q_step (v := .int .i64 (t37 + 1)) hE269 (y_add rfl rfl ⟨(by omega), (by omega)⟩) rfl rfl rfl ?_; intro a270 hE271; clear hE269
              refine q_step (v := .int .i64 (t37 + 1)) hE271 (y_move rfl) rfl rfl rfl ?_; intro a272 hE273; clear hE271
              refine c_nil ?_
              have hE274 := hE273.sub (L' := [(2, .pointer (some ⟨b5, 0, none⟩)), (3, .pointer (some ⟨b11, 0, none⟩)), (4, .pointer (some ⟨b17, 0, none⟩)), (8, .pointer (some ⟨b166, 0, none⟩)), (35, .slice mp2A mp2.length mp2C), (36, .int .i64 (mp2.length : Int)), (37, .int .i64 (t37 + 1))]) ⟨rfl, rfl, rfl, rfl, rfl, rfl, rfl, trivial⟩; clear hE273
              refine p_tn ⟨r201, Nat.lt_succ_self _, t37 + 1, q10_2 ++ ([orI (gI mp2 t37) (shlI (gI np2 t37) mp0)]), b254, c260, (hT196.symm.trans (show F_SumModels_L1b mp0 mp2 np2 (F_SumModels_L1 mp0 mp2 np2 r201) t37 q10_2 = F_SumModels_L1 mp0 mp2 np2 r201 (t37 + 1) (q10_2 ++ ([orI (gI mp2 t37) (shlI (gI np2 t37) mp0)])) by unfold F_SumModels_L1b; rw [ht205]; first | done | rfl)).symm, (by omega), (by first | omega | (simp only [List.length_append, List.length_cons, List.length_nil, sI_len, cond_true, cond_false]; omega) | (simp only [List.length_append, List.length_cons, List.length_nil, sI_len, cond_eq_ite, apply_ite List.length]; split <;> simp only [List.length_append, List.length_cons, List.length_nil, sI_len] <;> omega) | grind), (by first | omega | (simp only [List.length_append, List.length_cons, List.length_nil, sI_len, cond_true, cond_false]; omega) | (simp only [List.length_append, List.length_cons, List.length_nil, sI_len, cond_eq_ite, apply_ite List.length]; split <;> simp only [List.length_append, List.length_cons, List.length_nil, sI_len] <;> omega) | grind), (by first | omega | (simp only [List.length_append, List.length_cons, List.length_nil, sI_len, cond_true, cond_false]; omega) | (simp only [List.length_append, List.length_cons, List.length_nil, sI_len, cond_eq_ite, apply_ite List.length]; split <;> simp only [List.length_append, List.length_cons, List.length_nil, sI_len] <;> omega) | grind), (hE274.sub (L' := [(2, .pointer (some ⟨b5, 0, none⟩)), (3, .pointer (some ⟨b11, 0, none⟩)), (4, .pointer (some ⟨b17, 0, none⟩)), (8, .pointer (some ⟨b166, 0, none⟩)), (35, .slice mp2A mp2.length mp2C), (36, .int .i64 (mp2.length : Int)), (37, .int .i64 (t37 + 1))]) ⟨rfl, rfl, rfl, rfl, rfl, rfl, rfl, trivial⟩), (St.pick (Γ' := [.own 2 1 none 0 0 ([]), .own 2 1 none 0 0 ([]), .own 2 1 b254 ((q10_2 ++ ([orI (gI mp2 t37) (shlI (gI np2 t37) mp0)])).length) c260 (q10_2 ++ ([orI (gI mp2 t37) (shlI (gI np2 t37) mp0)])), .blk b166 #[.int .i64 (((F_SumFrames mp0 mp1 np0 np1).1).1), .slice b110 ((((F_SumFrames mp0 mp1 np0 np1).1).2).length) c111, .slice b254 ((q10_2 ++ ([orI (gI mp2 t37) (shlI (gI np2 t37) mp0)])).length) c260] 38, .blk b120 #[.int .i64 (((F_SumFrames mp0 mp1 np0 np1).1).1), .slice b110 ((((F_SumFrames mp0 mp1 np0 np1).1).2).length) c111] 28, .own 2 1 b110 ((((F_SumFrames mp0 mp1 np0 np1).1).2).length) c111 (((F_SumFrames mp0 mp1 np0 np1).1).2), .blk b17 #[.int .i64 0, .slice none 0 0, .slice none 0 0] 38, .rd 1 np1A np1.length np1C np1, .rd 1 np2A np2.length np2C np2, .blk b11 #[.int .i64 np0, .slice np1A np1.length np1C, .slice np2A np2.length np2C] 38, .rd 1 mp1A mp1.length mp1C mp1, .rd 1 mp2A mp2.length mp2C mp2, .blk b5 #[.int .i64 mp0, .slice mp1A mp1.length mp1C, .slice mp2A mp2.length mp2C] 38]) hS267 [1, 2, 3, 4, 5, 6, 7, 8, 9, 10, 11, 12, 13] (by decide) rfl)⟩
            ·
              have hp275 := of_decide_eq_false ht205
              have hE276 := hE204; rw [ht205] at hE276; clear hE204
              refine wp_exit ?_
              refine p_te ?_
              have hX277 : F_SumModels_L1 mp0 mp2 np2 (Int.toNat ((mp2.length : Int) - 0) + 1) 0 ([]) = (t37, q10_2) := hT196.symm.trans (show F_SumModels_L1b mp0 mp2 np2 (F_SumModels_L1 mp0 mp2 np2 r201) t37 q10_2 = (t37, q10_2) by unfold F_SumModels_L1b; rw [ht205]; first | done | rfl)
              refine p_te (p_be (p_tn ?_))
              exact ⟨q10_2A, q10_2C, (by rw [hX277]; exact (show 0 ≤ t37 from (by first | omega | (simp only [List.length_append, List.length_cons, List.length_nil, sI_len, cond_true, cond_false]; omega) | (simp only [List.length_append, List.length_cons, List.length_nil, sI_len, cond_eq_ite, apply_ite List.length]; split <;> simp only [List.length_append, List.length_cons, List.length_nil, sI_len] <;> omega) | grind))), (by rw [hX277]; exact (show t37 ≤ (mp2.length : Int) from (by first | omega | (simp only [List.length_append, List.length_cons, List.length_nil, sI_len, cond_true, cond_false]; omega) | (simp only [List.length_append, List.length_cons, List.length_nil, sI_len, cond_eq_ite, apply_ite List.length]; split <;> simp only [List.length_append, List.length_cons, List.length_nil, sI_len] <;> omega) | grind))), (by rw [hX277]; exact (show (q10_2.length : Int) ≤ t37 from (by first | omega | (simp only [List.length_append, List.length_cons, List.length_nil, sI_len, cond_true, cond_false]; omega) | (simp only [List.length_append, List.length_cons, List.length_nil, sI_len, cond_eq_ite, apply_ite List.length]; split <;> simp only [List.length_append, List.length_cons, List.length_nil, sI_len] <;> omega) | grind))), (by rw [hX277]; exact (hE276.sub (L' := [(2, .pointer (some ⟨b5, 0, none⟩)), (3, .pointer (some ⟨b11, 0, none⟩)), (4, .pointer (some ⟨b17, 0, none⟩)), (8, .pointer (some ⟨b166, 0, none⟩)), (35, .slice mp2A mp2.length mp2C), (36, .int .i64 (mp2.length : Int)), (37, .int .i64 t37)]) ⟨rfl, rfl, rfl, rfl, rfl, rfl, rfl, trivial⟩)), (by rw [hX277]; exact (St.pick (Γ' := [.own 2 1 none 0 0 ([]), .own 2 1 none 0 0 ([]), .own 2 1 q10_2A ((q10_2).length) q10_2C q10_2, .blk b166 #[.int .i64 (((F_SumFrames mp0 mp1 np0 np1).1).1), .slice b110 ((((F_SumFrames mp0 mp1 np0 np1).1).2).length) c111, .slice q10_2A ((q10_2).length) q10_2C] 38, .blk b120 #[.int .i64 (((F_SumFrames mp0 mp1 np0 np1).1).1), .slice b110 ((((F_SumFrames mp0 mp1 np0 np1).1).2).length) c111] 28, .own 2 1 b110 ((((F_SumFrames mp0 mp1 np0 np1).1).2).length) c111 (((F_SumFrames mp0 mp1 np0 np1).1).2), .blk b17 #[.int .i64 0, .slice none 0 0, .slice none 0 0] 38, .rd 1 np1A np1.length np1C np1, .rd 1 np2A np2.length np2C np2, .blk b11 #[.int .i64 np0, .slice np1A np1.length np1C, .slice np2A np2.length np2C] 38, .rd 1 mp1A mp1.length mp1C mp1, .rd 1 mp2A mp2.length mp2C mp2, .blk b5 #[.int .i64 mp0, .slice mp1A mp1.length mp1C, .slice mp2A mp2.length mp2C] 38]) hS195 [0, 1, 2, 3, 4, 5, 6, 7, 8, 9, 10, 11, 12] (by decide) rfl))⟩
        ·
          rintro a278 w279 ⟨q10_2A_191, q10_2C_191, hi283, hi284, hi285, hE280, hS281⟩; clear hE187 hS190
          refine p_tn ?_
          refine c_seq ?_
          refine c_reg ?_
          refine q_step (v := .agg #[.int .i64 (((F_SumFrames mp0 mp1 np0 np1).1).1), .slice b110 ((((F_SumFrames mp0 mp1 np0 np1).1).2).length) c111, .slice q10_2A_191 (((F_SumModels_L1 mp0 mp2 np2 (Int.toNat ((mp2.length : Int) - 0) + 1) 0 ([])).2).length) q10_2C_191]) hE280 (y_loadS Try.underlying38 rfl (by kernel_rfl) rfl (St.row (i := 3) hS281 rfl)) rfl rfl rfl ?_; intro a286 hE287; clear hE280
          refine l_step hE287 rfl (l_storeS (k := 6) (cs' := #[.int .i64 (((F_SumFrames mp0 mp1 np0 np1).1).1), .slice b110 ((((F_SumFrames mp0 mp1 np0 np1).1).2).length) c111, .slice q10_2A_191 (((F_SumModels_L1 mp0 mp2 np2 (Int.toNat ((mp2.length : Int) - 0) + 1) 0 ([])).2).length) q10_2C_191]) hS281 hE287 (by kernel_rfl) rfl rfl (by kernel_rfl) rfl rfl ?_)
          intro w289 hS292 a290 hE291; clear hS281 hE287
          refine q_step (v := .int .i64 0) hE291 (y_assign rfl) rfl rfl rfl ?_; intro a294 hE295; clear hE291
          refine c_nil ?_
          have hE296 := hE295.sub (L' := [(4, .pointer (some ⟨b17, 0, none⟩)), (5, .int .i64 0)]) ⟨rfl, rfl, trivial⟩; clear hE295
          refine p_tn ?_
          refine wp_ret ?_
          have hF : F_SumModels mp0 mp1 mp2 np0 np1 np2 = ((((F_SumFrames mp0 mp1 np0 np1).1).1, ((F_SumFrames mp0 mp1 np0 np1).1).2, (F_SumModels_L1 mp0 mp2 np2 (Int.toNat ((mp2.length : Int) - 0) + 1) 0 ([])).2), 0) := by unfold F_SumModels; rw [ht140, ht74]; first | done | rfl
          refine c_retC2 hE296 rfl rfl rfl Try.underlying38 rfl (by kernel_rfl) (St.row (i := 6) hS292 rfl _ (Ext.refl _)) ?_
          exact ⟨b110, c111, q10_2A_191, q10_2C_191, (by rw [hF]; first | done | rfl), (by rw [hF]; exact St.own2 5 2 hS292 rfl rfl (by decide)), hS292.ext⟩

theorem SumModels_eq (mp0 : Int) (mp1 mp2 : List Int) (np0 : Int) (np1 np2 : List Int) : F_SumModels mp0 mp1 mp2 np0 np1 np2 = F_s_SumModels mp0 mp1 mp2 np0 np1 np2 := by
  unfold F_SumModels F_s_SumModels
  rw [isModel_eq, isModel_eq]
  cases h : ((!(F_l06Is mp0 mp1 mp2)) || (!(F_l06Is np0 np1 np2)))
  · obtain ⟨h1, h2⟩ := bor_f h
    have hm := l06Is_t (bn_f h1)
    have hn := l06Is_t (bn_f h2)
    rw [cond_false, cond_false]
    have e : F_SumFrames mp0 mp1 np0 np1 = bif decide (8 < (mp0 + np0)) then ((0, []), 3) else (F_l05Sum mp0 mp1 np0 np1, 0) := by
      unfold F_SumFrames F_l05Sum F_frameOf
      rw [isFrame_eq, isFrame_eq, hm.1, hn.1, show Int.toNat ((np1.length : Int) - 0) = np1.length by omega, sum_loop mp0 np1 (F_SumFrames_L1 mp0 np1) (fun _ _ _ => rfl) np1.length 0 mp1 (by omega), sum_loop mp0 np1 (F_l05Sum_L1 mp0 np1) (fun _ _ _ => rfl) np1.length 0 mp1 (by omega)]
      rfl
    rw [e]
    cases decide (8 < (mp0 + np0))
    · rw [cond_false, cond_false, decide_eq_true rfl, Bool.not_true, cond_false, mapLoopR0 (mp2.length : Int) (by omega) (fun v => orI (gI mp2 v) (shlI (gI np2 v) mp0)) (F_SumModels_L1 mp0 mp2 np2) (fun _ _ _ => rfl), mapLoop0 (mp2.length : Int) (by omega) (fun v => orI (gI mp2 v) (shlI (gI np2 v) mp0)) (F_s_SumModels_L1 mp0 mp2 np2) (fun _ _ _ => rfl)]
    · rfl
  · rw [cond_true, cond_true]
theorem SumModels_len (mp0 : Int) (mp1 mp2 : List Int) (np0 : Int) (np1 np2 : List Int) : (F_SumModels mp0 mp1 mp2 np0 np1 np2).1.2.1.length ≤ 16 ∧ (F_SumModels mp0 mp1 mp2 np0 np1 np2).1.2.2.length ≤ 6 := by
  unfold F_SumModels
  rw [isModel_eq, isModel_eq]
  cases h : ((!(F_l06Is mp0 mp1 mp2)) || (!(F_l06Is np0 np1 np2)))
  · obtain ⟨h1, h2⟩ := bor_f h
    have hm := l06Is_t (bn_f h1)
    have hn := l06Is_t (bn_f h2)
    rw [cond_false]
    cases (!decide (((F_SumFrames mp0 mp1 np0 np1).2) = 0))
    · rw [cond_false]
      have := SumFrames_len mp0 mp1 np0 np1
      refine ⟨by show (F_SumFrames mp0 mp1 np0 np1).1.2.length ≤ 16; omega, ?_⟩
      show (F_SumModels_L1 mp0 mp2 np2 (Int.toNat ((mp2.length : Int) - 0) + 1) 0 ([])).2.length ≤ 6
      rw [mapLoopR0 (mp2.length : Int) (by omega) (fun v => orI (gI mp2 v) (shlI (gI np2 v) mp0)) (F_SumModels_L1 mp0 mp2 np2) (fun _ _ _ => rfl), List.length_map, List.length_range]
      omega
    · simp
  · simp

end Go.Proofs.Ytejfjcjdilbkdaa
