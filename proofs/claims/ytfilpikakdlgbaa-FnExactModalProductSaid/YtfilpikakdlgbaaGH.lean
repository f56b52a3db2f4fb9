/- GH: models and contracts, printed by wip/gen/gen.py -/
import Derived.Test.YtfilpikakdlgbaaGE
set_option linter.unusedVariables false
set_option linter.unusedSimpArgs false
namespace Go.Proofs.Ytfilpikakdlgbaa
open Go.RowKit

theorem sum5 {x : Int} (h : ¬ 5 < x) : 0 ≤ x → 0 ≤ fullI x ∧ fullI x ≤ 31 := fun h0 => fullI5 h0 (by omega)
theorem shr_full {m a b : Int} (ha : 0 ≤ a) (ha2 : a ≤ 5) (hb : 0 ≤ b) (hm : 0 ≤ m) (h : m ≤ fullI (a + b)) : 0 ≤ shrI m a ∧ shrI m a ≤ fullI b := by
  rw [shrI_eq ha (by omega)]
  have hp : (0 : Int) < 2 ^ a.toNat := Int.pow_pos (by decide)
  refine ⟨Int.ediv_nonneg hm (Int.le_of_lt hp), ?_⟩
  have : m / 2 ^ a.toNat < 2 ^ b.toNat := by
    apply Int.ediv_lt_of_lt_mul hp
    unfold fullI at h
    rw [show (a + b).toNat = b.toNat + a.toNat by omega, Int.pow_add] at h
    omega
  unfold fullI; omega

def F_s_ModalProduct_L1b (ap0 : Int) (ap1 : List Int) (bp0 : Int) (bp1 : List Int) (rec : Int → (List Int) → Int × (List Int)) (mask7 : Int) (q7_1 : List Int) : Int × (List Int) :=
  bif (decide (mask7 ≤ (fullI (ap0 + bp0)))) then (rec (mask7 + 1) (q7_1 ++ ([orI (gI ap1 (andI mask7 (fullI ap0))) (shlI (gI bp1 (shrI mask7 ap0)) ap0)]))) else (mask7, q7_1)
def F_s_ModalProduct_L1 (ap0 : Int) (ap1 : List Int) (bp0 : Int) (bp1 : List Int) : Nat → Int → (List Int) → Int × (List Int)
  | 0, mask7, q7_1 => (mask7, q7_1)
  | r + 1, mask7, q7_1 => F_s_ModalProduct_L1b ap0 ap1 bp0 bp1 (F_s_ModalProduct_L1 ap0 ap1 bp0 bp1 r) mask7 q7_1
def F_s_ModalProduct (ap0 : Int) (ap1 : List Int) (bp0 : Int) (bp1 : List Int) : (Int × List Int) × (Int) :=
  bif ((!(F_l15Is ap0 ap1)) || (!(F_l15Is bp0 bp1))) then ((0, []), 1) else (bif (decide (5 < (ap0 + bp0))) then ((0, []), 3) else ((ap0 + bp0, (F_s_ModalProduct_L1 ap0 ap1 bp0 bp1 (Int.toNat ((fullI (ap0 + bp0)) + 1 - 0) + 1) 0 ([])).2), 0))
theorem cf_s_ModalProduct (args : Array Value) (w : World) : (callFunc 43 args).run Try.prog w = .ok (.enter 43 args) w := by kernel_rfl
set_option maxRecDepth 100000 in
theorem c_s_ModalProduct (ap0 : Int) (ap1A : Option Addr) (ap1N ap1C : Nat) (ap1 : List Int) (bp0 : Int) (bp1A : Option Addr) (bp1N bp1C : Nat) (bp1 : List Int) (w : World) (ap1R : RdS w 1 ap1A ap1N ap1C ap1) (bp1R : RdS w 1 bp1A bp1N bp1C bp1) :
    Calls Try.prog 43 #[.agg #[.int .i64 ap0, .slice ap1A ap1N ap1C], .agg #[.int .i64 bp0, .slice bp1A bp1N bp1C]] w (Ret fun v w' => ∃ b1 : Option Addr, ∃ c1 : Nat, v = .tuple #[.agg #[.int .i64 (((F_s_ModalProduct ap0 ap1 bp0 bp1).1).1), .slice b1 (((F_s_ModalProduct ap0 ap1 bp0 bp1).1).2).length c1], .int .i64 ((F_s_ModalProduct ap0 ap1 bp0 bp1).2)] ∧ OwnS w' w.heap.size 2 1 b1 (((F_s_ModalProduct ap0 ap1 bp0 bp1).1).2).length c1 (((F_s_ModalProduct ap0 ap1 bp0 bp1).1).2) ∧ Ext w w') := by
  obtain rfl : ap1N = ap1.length := ap1R.len1.symm
  have ap1Le := ap1R.le
  obtain rfl : bp1N = bp1.length := bp1R.len1.symm
  have bp1Le := bp1R.le
  have hS := St.nil w
  have hS1 := St.rd0 hS rfl ap1R; clear hS
  have hS2 := St.rd0 hS1 rfl bp1R; clear hS1
  refine enter (args := [.agg #[.int .i64 ap0, .slice ap1A ap1.length ap1C], .agg #[.int .i64 bp0, .slice bp1A bp1.length bp1C]]) Try.func43 rfl rfl ?_
  rw [Try.ntmps43]; intro a hE
  have hE := hE.sub (L' := [(0, .agg #[.int .i64 ap0, .slice ap1A ap1.length ap1C]), (1, .agg #[.int .i64 bp0, .slice bp1A bp1.length bp1C])]) ⟨rfl, rfl, trivial⟩
  refine c_seq ?_
  refine c_reg ?_
  refine l_step hE rfl (l_box (v := .agg #[.int .i64 ap0, .slice ap1A ap1.length ap1C]) (cs := #[.int .i64 ap0, .slice ap1A ap1.length ap1C]) hS2 hE rfl rfl rfl ?_)
  intro b3 w4 hS7 he8 a5 hE6; clear hS2 hE
  refine l_step hE6 rfl (l_box (v := .agg #[.int .i64 bp0, .slice bp1A bp1.length bp1C]) (cs := #[.int .i64 bp0, .slice bp1A bp1.length bp1C]) hS7 hE6 rfl rfl rfl ?_)
  intro b9 w10 hS13 he14 a11 hE12; clear hS7 hE6
  refine l_step hE12 rfl (l_alloc (z := .agg #[.int .i64 0, .slice none 0 0]) (cs := #[.int .i64 0, .slice none 0 0]) hS13 hE12 (fun _ => by kernel_rfl) rfl rfl ?_)
  intro b15 w16 hS19 he20 a17 hE18; clear hS13 hE12
  refine q_step (v := .int .i64 0) hE18 (y_assign rfl) rfl rfl rfl ?_; intro a21 hE22; clear hE18
  refine c_nil ?_
  have hE23 := hE22.sub (L' := [(2, .pointer (some ⟨b3, 0, none⟩)), (3, .pointer (some ⟨b9, 0, none⟩)), (4, .pointer (some ⟨b15, 0, none⟩))]) ⟨rfl, rfl, rfl, trivial⟩; clear hE22
  refine p_tn ?_
  refine c_seq ?_
  refine c_cut (fun a' w' => E a' 71 [(2, .pointer (some ⟨b3, 0, none⟩)), (3, .pointer (some ⟨b9, 0, none⟩)), (4, .pointer (some ⟨b15, 0, none⟩)), (17, .bool ((!(F_l15Is ap0 ap1)) || (!(F_l15Is bp0 bp1))))] ∧ St w w' [.blk b15 #[.int .i64 0, .slice none 0 0] 43, .rd 1 bp1A bp1.length bp1C bp1, .blk b9 #[.int .i64 bp0, .slice bp1A bp1.length bp1C] 43, .rd 1 ap1A ap1.length ap1C ap1, .blk b3 #[.int .i64 ap0, .slice ap1A ap1.length ap1C] 43]) ?_ ?_
  ·
    refine c_reg ?_
    refine q_step (v := .agg #[.int .i64 ap0, .slice ap1A ap1.length ap1C]) hE23 (y_loadS Try.underlying43 rfl (by kernel_rfl) rfl (St.row (i := 2) hS19 rfl)) rfl rfl rfl ?_; intro a24 hE25; clear hE23
    refine l_step hE25 rfl (l_call (f := 72) (argv := [.agg #[.int .i64 ap0, .slice ap1A ap1.length ap1C]]) hE25 (fun _ => cf_l15Is _ _) rfl rfl (c_l15Is ap0 ap1A ap1.length ap1C ap1 w16 (St.rdR (i := 4) hS19 rfl)) ?_)
    rintro _ w27 ⟨rfl, he31⟩ a28 hE29; clear hE25
    have hS30 := St.go hS19 he31; clear hS19
    refine q_step (v := .bool (!(F_l15Is ap0 ap1))) hE29 (y_not rfl) rfl rfl rfl ?_; intro a32 hE33; clear hE29
    refine q_step (v := .bool (!(F_l15Is ap0 ap1))) hE33 (y_move rfl) rfl rfl rfl ?_; intro a34 hE35; clear hE33
    rcases Bool.eq_false_or_eq_true (!(F_l15Is ap0 ap1)) with hb36 | hb36
    ·
      have hE37 := hE35; rw [hb36] at hE37; clear hE35
      have ht38 := bn_t hb36
      refine q_skip hE37 rfl rfl rfl ?_; intro a39 hE40; clear hE37
      refine q_skip hE40 rfl rfl rfl ?_; intro a41 hE42; clear hE40
      refine q_skip hE42 rfl rfl rfl ?_; intro a43 hE44; clear hE42
      refine q_step (v := .bool true) hE44 (y_pick (b := true) rfl rfl) rfl rfl rfl ?_; intro a45 hE46; clear hE44
      refine c_nil ?_
      have hE47 := hE46.sub (L' := [(2, .pointer (some ⟨b3, 0, none⟩)), (3, .pointer (some ⟨b9, 0, none⟩)), (4, .pointer (some ⟨b15, 0, none⟩)), (17, .bool true)]) ⟨rfl, rfl, rfl, rfl, trivial⟩; clear hE46
      refine p_tn ?_
      have hE48 := hE47.sub (L' := [(2, .pointer (some ⟨b3, 0, none⟩)), (3, .pointer (some ⟨b9, 0, none⟩)), (4, .pointer (some ⟨b15, 0, none⟩)), (17, .bool true)]) ⟨rfl, rfl, rfl, rfl, trivial⟩
      have hS49 := (St.pick (Γ' := [.blk b15 #[.int .i64 0, .slice none 0 0] 43, .rd 1 bp1A bp1.length bp1C bp1, .blk b9 #[.int .i64 bp0, .slice bp1A bp1.length bp1C] 43, .rd 1 ap1A ap1.length ap1C ap1, .blk b3 #[.int .i64 ap0, .slice ap1A ap1.length ap1C] 43]) hS30 [0, 3, 1, 4, 2] (by decide) rfl)
      exact ⟨(by rw [hb36]; exact hE48), hS49⟩
    ·
      have hE50 := hE35; rw [hb36] at hE50; clear hE35
      have ht51 := bn_f hb36
      have hp52 := l15Is_t ht51
      refine q_step (v := .agg #[.int .i64 bp0, .slice bp1A bp1.length bp1C]) hE50 (y_loadS Try.underlying43 rfl (by kernel_rfl) rfl (St.row (i := 1) hS30 rfl)) rfl rfl rfl ?_; intro a53 hE54; clear hE50
      refine l_step hE54 rfl (l_call (f := 72) (argv := [.agg #[.int .i64 bp0, .slice bp1A bp1.length bp1C]]) hE54 (fun _ => cf_l15Is _ _) rfl rfl (c_l15Is bp0 bp1A bp1.length bp1C bp1 w27 (St.rdR (i := 3) hS30 rfl)) ?_)
      rintro _ w56 ⟨rfl, he60⟩ a57 hE58; clear hE54
      have hS59 := St.go hS30 he60; clear hS30
      refine q_step (v := .bool (!(F_l15Is bp0 bp1))) hE58 (y_not rfl) rfl rfl rfl ?_; intro a61 hE62; clear hE58
      refine q_step (v := .bool (!(F_l15Is bp0 bp1))) hE62 (y_pick (b := false) rfl rfl) rfl rfl rfl ?_; intro a63 hE64; clear hE62
      refine c_nil ?_
      have hE65 := hE64.sub (L' := [(2, .pointer (some ⟨b3, 0, none⟩)), (3, .pointer (some ⟨b9, 0, none⟩)), (4, .pointer (some ⟨b15, 0, none⟩)), (17, .bool (!(F_l15Is bp0 bp1)))]) ⟨rfl, rfl, rfl, rfl, trivial⟩; clear hE64
      refine p_tn ?_
      have hE66 := hE65.sub (L' := [(2, .pointer (some ⟨b3, 0, none⟩)), (3, .pointer (some ⟨b9, 0, none⟩)), (4, .pointer (some ⟨b15, 0, none⟩)), (17, .bool (!(F_l15Is bp0 bp1)))]) ⟨rfl, rfl, rfl, rfl, trivial⟩
      have hS67 := (St.pick (Γ' := [.blk b15 #[.int .i64 0, .slice none 0 0] 43, .rd 1 bp1A bp1.length bp1C bp1, .blk b9 #[.int .i64 bp0, .slice bp1A bp1.length bp1C] 43, .rd 1 ap1A ap1.length ap1C ap1, .blk b3 #[.int .i64 ap0, .slice ap1A ap1.length ap1C] 43]) hS59 [0, 3, 1, 4, 2] (by decide) rfl)
      exact ⟨(by rw [hb36]; exact hE66), hS67⟩
  ·
    rintro a68 w69 ⟨hE70, hS71⟩; clear hE23 hS19
    refine c_cond hE70 rfl (fun ht72 => ?_) (fun ht72 => ?_)
    ·
      have hE73 := hE70; rw [ht72] at hE73; clear hE70
      refine c_seq ?_
      refine c_reg ?_
      refine q_step (v := .agg #[.int .i64 0, .slice none 0 0]) hE73 (y_build (vs := #[]) (fun a n hE => by simp) (fun _ => by kernel_rfl)) rfl rfl rfl ?_; intro a74 hE75; clear hE73
      refine l_step hE75 rfl (l_storeS (k := 0) (cs' := #[.int .i64 0, .slice none 0 0]) hS71 hE75 (by kernel_rfl) rfl rfl (by kernel_rfl) rfl rfl ?_)
      intro w77 hS80 a78 hE79; clear hS71 hE75
      refine q_step (v := .int .i64 1) hE79 (y_assign rfl) rfl rfl rfl ?_; intro a82 hE83; clear hE79
      refine c_nil ?_
      have hE84 := hE83.sub (L' := [(4, .pointer (some ⟨b15, 0, none⟩)), (5, .int .i64 1)]) ⟨rfl, rfl, trivial⟩; clear hE83
      refine p_tn ?_
      refine wp_ret ?_
      refine p_tr ?_
      have hF : F_s_ModalProduct ap0 ap1 bp0 bp1 = ((0, []), 1) := by unfold F_s_ModalProduct; rw [ht72]; first | done | rfl
      refine c_retC2 hE84 rfl rfl rfl Try.underlying43 rfl (by kernel_rfl) (St.row (i := 0) hS80 rfl _ (Ext.refl _)) ?_
      exact ⟨none, 0, (by rw [hF]; first | done | rfl), (by rw [hF]; exact OwnS.nilS _ _ _ _), hS80.ext⟩
    ·
      obtain ⟨ht85, ht86⟩ := bor_f ht72
      have ht87 := bn_f ht85
      have hp88 := l15Is_t ht87
      have ht89 := bn_f ht86
      have hp90 := l15Is_t ht89
      have hE91 := hE70; rw [ht72] at hE91; clear hE70
      refine wp_skip ?_
      refine p_tn ?_
      refine c_seq ?_
      refine c_seq ?_
      refine c_reg ?_
      refine q_step (v := .pointer (some ⟨b3, 0, none⟩)) hE91 (y_field rfl (fun _ => by kernel_rfl)) rfl rfl rfl ?_; intro a92 hE93; clear hE91
      refine q_step (v := .int .i64 ap0) hE93 (y_load (fun _ => by kernel_rfl) rfl (St.cell (i := 4) hS71 rfl rfl)) rfl rfl rfl ?_; intro a94 hE95; clear hE93
      refine q_step (v := .pointer (some ⟨b9, 0, none⟩)) hE95 (y_field rfl (fun _ => by kernel_rfl)) rfl rfl rfl ?_; intro a96 hE97; clear hE95
      refine q_step (v := .int .i64 bp0) hE97 (y_load (fun _ => by kernel_rfl) rfl (St.cell (i := 2) hS71 rfl rfl)) rfl rfl rfl ?_; intro a98 hE99; clear hE97
      refine q_step (v := .int .i64 (ap0 + bp0)) hE99 (y_add rfl rfl ⟨(by omega), (by omega)⟩) rfl rfl rfl ?_; intro a100 hE101; clear hE99
      refine q_step (v := .bool (decide (5 < (ap0 + bp0)))) hE101 (y_gtr rfl rfl) rfl rfl rfl ?_; intro a102 hE103; clear hE101
      refine c_nil ?_
      have hE104 := hE103.sub (L' := [(2, .pointer (some ⟨b3, 0, none⟩)), (3, .pointer (some ⟨b9, 0, none⟩)), (4, .pointer (some ⟨b15, 0, none⟩)), (24, .bool (decide (5 < (ap0 + bp0))))]) ⟨rfl, rfl, rfl, rfl, trivial⟩; clear hE103
      refine p_tn ?_
      refine c_cond hE104 rfl (fun ht105 => ?_) (fun ht105 => ?_)
      ·
        have hp106 := of_decide_eq_true ht105
        have hE107 := hE104; rw [ht105] at hE107; clear hE104
        refine c_seq ?_
        refine c_reg ?_
        refine q_step (v := .agg #[.int .i64 0, .slice none 0 0]) hE107 (y_build (vs := #[]) (fun a n hE => by simp) (fun _ => by kernel_rfl)) rfl rfl rfl ?_; intro a108 hE109; clear hE107
        refine l_step hE109 rfl (l_storeS (k := 0) (cs' := #[.int .i64 0, .slice none 0 0]) hS71 hE109 (by kernel_rfl) rfl rfl (by kernel_rfl) rfl rfl ?_)
        intro w111 hS114 a112 hE113; clear hS71 hE109
        refine q_step (v := .int .i64 3) hE113 (y_assign rfl) rfl rfl rfl ?_; intro a116 hE117; clear hE113
        refine c_nil ?_
        have hE118 := hE117.sub (L' := [(4, .pointer (some ⟨b15, 0, none⟩)), (5, .int .i64 3)]) ⟨rfl, rfl, trivial⟩; clear hE117
        refine p_tn ?_
        refine wp_ret ?_
        refine p_tr ?_
        have hF : F_s_ModalProduct ap0 ap1 bp0 bp1 = ((0, []), 3) := by unfold F_s_ModalProduct; rw [ht105, ht72]; first | done | rfl
        refine c_retC2 hE118 rfl rfl rfl Try.underlying43 rfl (by kernel_rfl) (St.row (i := 0) hS114 rfl _ (Ext.refl _)) ?_
        exact ⟨none, 0, (by rw [hF]; first | done | rfl), (by rw [hF]; exact OwnS.nilS _ _ _ _), hS114.ext⟩
      ·
        have hp119 := of_decide_eq_false ht105
        have hq120 := sum5 hp119
        have hE121 := hE104; rw [ht105] at hE121; clear hE104
        refine wp_skip ?_
        refine p_tn ?_
        refine c_seq ?_
        refine c_reg ?_
        refine q_step (v := .pointer (some ⟨b3, 0, none⟩)) hE121 (y_field rfl (fun _ => by kernel_rfl)) rfl rfl rfl ?_; intro a122 hE123; clear hE121
        refine q_step (v := .int .i64 ap0) hE123 (y_load (fun _ => by kernel_rfl) rfl (St.cell (i := 4) hS71 rfl rfl)) rfl rfl rfl ?_; intro a124 hE125; clear hE123
        refine q_step (v := .pointer (some ⟨b9, 0, none⟩)) hE125 (y_field rfl (fun _ => by kernel_rfl)) rfl rfl rfl ?_; intro a126 hE127; clear hE125
        refine q_step (v := .int .i64 bp0) hE127 (y_load (fun _ => by kernel_rfl) rfl (St.cell (i := 2) hS71 rfl rfl)) rfl rfl rfl ?_; intro a128 hE129; clear hE127
        refine q_step (v := .int .i64 (ap0 + bp0)) hE129 (y_add rfl rfl ⟨(by omega), (by omega)⟩) rfl rfl rfl ?_; intro a130 hE131; clear hE129
        refine l_step hE131 rfl (l_lit (e := 2) (s := 1) (xs := []) (vs := []) hS71 hE131 rfl (fun _ => by kernel_rfl) rfl rfl rfl ?_)
        intro b132 w133 hS136 he137 a134 hE135; clear hS71 hE131
        refine q_step (v := .agg #[.int .i64 (ap0 + bp0), .slice (some ⟨b132, 0, none⟩) 0 0]) hE135 (y_build (vs := #[(0, .int .i64 (ap0 + bp0)), (1, .slice (some ⟨b132, 0, none⟩) 0 0)]) (fun a n hE => by simp only [hE.eval (x := .tmp 30) (v := .int .i64 (ap0 + bp0)) rfl, hE.eval (x := .tmp 31) (v := .slice (some ⟨b132, 0, none⟩) 0 0) rfl, List.map_toArray, List.map_cons, List.map_nil]) (fun _ => by kernel_rfl)) rfl rfl rfl ?_; intro a138 hE139; clear hE135
        refine l_step hE139 rfl (l_alloc (z := .agg #[.int .i64 0, .slice none 0 0]) (cs := #[.int .i64 0, .slice none 0 0]) hS136 hE139 (fun _ => by kernel_rfl) rfl rfl ?_)
        intro b140 w141 hS144 he145 a142 hE143; clear hS136 hE139
        refine l_step hE143 rfl (l_storeS (k := 0) (cs' := #[.int .i64 (ap0 + bp0), .slice (some ⟨b132, 0, none⟩) 0 0]) hS144 hE143 (by kernel_rfl) rfl rfl (by kernel_rfl) rfl rfl ?_)
        intro w147 hS150 a148 hE149; clear hS144 hE143
        refine c_nil ?_
        have hE152 := hE149.sub (L' := [(2, .pointer (some ⟨b3, 0, none⟩)), (3, .pointer (some ⟨b9, 0, none⟩)), (4, .pointer (some ⟨b15, 0, none⟩)), (6, .pointer (some ⟨b140, 0, none⟩))]) ⟨rfl, rfl, rfl, rfl, trivial⟩; clear hE149
        refine p_tn ?_
        refine c_seq ?_
        refine c_seq ?_
        refine c_reg ?_
        refine q_step (v := .int .i64 0) hE152 (y_assign rfl) rfl rfl rfl ?_; intro a153 hE154; clear hE152
        refine c_nil ?_
        have hE155 := hE154.sub (L' := [(2, .pointer (some ⟨b3, 0, none⟩)), (3, .pointer (some ⟨b9, 0, none⟩)), (4, .pointer (some ⟨b15, 0, none⟩)), (6, .pointer (some ⟨b140, 0, none⟩)), (7, .int .i64 0)]) ⟨rfl, rfl, rfl, rfl, rfl, trivial⟩; clear hE154
        refine p_tn ?_
        refine c_cut1 (fun a' w' => ∃ q7_1A_156 : Option Addr, ∃ q7_1C_156 : Nat, (0 ≤ ((F_s_ModalProduct_L1 ap0 ap1 bp0 bp1 (Int.toNat ((fullI (ap0 + bp0)) + 1 - 0) + 1) 0 ([])).1)) ∧ ((((F_s_ModalProduct_L1 ap0 ap1 bp0 bp1 (Int.toNat ((fullI (ap0 + bp0)) + 1 - 0) + 1) 0 ([])).2).length : Int) = ((F_s_ModalProduct_L1 ap0 ap1 bp0 bp1 (Int.toNat ((fullI (ap0 + bp0)) + 1 - 0) + 1) 0 ([])).1)) ∧ (((F_s_ModalProduct_L1 ap0 ap1 bp0 bp1 (Int.toNat ((fullI (ap0 + bp0)) + 1 - 0) + 1) 0 ([])).1) ≤ fullI (ap0 + bp0) + 1) ∧ ((((F_s_ModalProduct_L1 ap0 ap1 bp0 bp1 (Int.toNat ((fullI (ap0 + bp0)) + 1 - 0) + 1) 0 ([])).2).length : Int) ≤ ((F_s_ModalProduct_L1 ap0 ap1 bp0 bp1 (Int.toNat ((fullI (ap0 + bp0)) + 1 - 0) + 1) 0 ([])).1)) ∧ E a' 71 [(2, .pointer (some ⟨b3, 0, none⟩)), (3, .pointer (some ⟨b9, 0, none⟩)), (4, .pointer (some ⟨b15, 0, none⟩)), (6, .pointer (some ⟨b140, 0, none⟩)), (7, .int .i64 ((F_s_ModalProduct_L1 ap0 ap1 bp0 bp1 (Int.toNat ((fullI (ap0 + bp0)) + 1 - 0) + 1) 0 ([])).1))] ∧ St w w' [.blk b140 #[.int .i64 (ap0 + bp0), .slice q7_1A_156 (((F_s_ModalProduct_L1 ap0 ap1 bp0 bp1 (Int.toNat ((fullI (ap0 + bp0)) + 1 - 0) + 1) 0 ([])).2).length) q7_1C_156] 43, .own 2 1 q7_1A_156 (((F_s_ModalProduct_L1 ap0 ap1 bp0 bp1 (Int.toNat ((fullI (ap0 + bp0)) + 1 - 0) + 1) 0 ([])).2).length) q7_1C_156 ((F_s_ModalProduct_L1 ap0 ap1 bp0 bp1 (Int.toNat ((fullI (ap0 + bp0)) + 1 - 0) + 1) 0 ([])).2), .blk b15 #[.int .i64 0, .slice none 0 0] 43, .rd 1 bp1A bp1.length bp1C bp1, .blk b9 #[.int .i64 bp0, .slice bp1A bp1.length bp1C] 43, .rd 1 ap1A ap1.length ap1C ap1, .blk b3 #[.int .i64 ap0, .slice ap1A ap1.length ap1C] 43]) ?_ ?_
        ·
          refine wp_block ?_
          refine c_loop (fun r a' w' => ∃ mask7 : Int, ∃ q7_1 : List Int, ∃ q7_1A : Option Addr, ∃ q7_1C : Nat, F_s_ModalProduct_L1 ap0 ap1 bp0 bp1 r mask7 q7_1 = F_s_ModalProduct_L1 ap0 ap1 bp0 bp1 (Int.toNat ((fullI (ap0 + bp0)) + 1 - 0) + 1) 0 ([]) ∧ Int.toNat ((fullI (ap0 + bp0)) + 1 - mask7) < r ∧ (0 ≤ mask7) ∧ ((q7_1.length : Int) = mask7) ∧ (mask7 ≤ fullI (ap0 + bp0) + 1) ∧ ((q7_1.length : Int) ≤ mask7) ∧ E a' 71 [(2, .pointer (some ⟨b3, 0, none⟩)), (3, .pointer (some ⟨b9, 0, none⟩)), (4, .pointer (some ⟨b15, 0, none⟩)), (6, .pointer (some ⟨b140, 0, none⟩)), (7, .int .i64 mask7)] ∧ St w w' [.blk b140 #[.int .i64 (ap0 + bp0), .slice q7_1A ((q7_1).length) q7_1C] 43, .own 2 1 q7_1A ((q7_1).length) q7_1C q7_1, .blk b15 #[.int .i64 0, .slice none 0 0] 43, .rd 1 bp1A bp1.length bp1C bp1, .blk b9 #[.int .i64 bp0, .slice bp1A bp1.length bp1C] 43, .rd 1 ap1A ap1.length ap1C ap1, .blk b3 #[.int .i64 ap0, .slice ap1A ap1.length ap1C] 43]) (r := (Int.toNat ((fullI (ap0 + bp0)) + 1 - 0) + 1)) ?_ ?_
          · exact ⟨0, [], some ⟨b132, 0, none⟩, 0, rfl, Nat.lt_succ_self _, (by first | omega | (simp only [List.length_append, List.length_cons, List.length_nil, sI_len, cond_true, cond_false]; omega) | (simp only [List.length_append, List.length_cons, List.length_nil, sI_len, cond_eq_ite, apply_ite List.length]; split <;> simp only [List.length_append, List.length_cons, List.length_nil, sI_len] <;> omega) | grind), (by first | omega | (simp only [List.length_append, List.length_cons, List.length_nil, sI_len, cond_true, cond_false]; omega) | (simp only [List.length_append, List.length_cons, List.length_nil, sI_len, cond_eq_ite, apply_ite List.length]; split <;> simp only [List.length_append, List.length_cons, List.length_nil, sI_len] <;> omega) | grind), (by first | omega | (simp only [List.length_append, List.length_cons, List.length_nil, sI_len, cond_true, cond_false]; omega) | (simp only [List.length_append, List.length_cons, List.length_nil, sI_len, cond_eq_ite, apply_ite List.length]; split <;> simp only [List.length_append, List.length_cons, List.length_nil, sI_len] <;> omega) | grind), (by first | omega | (simp only [List.length_append, List.length_cons, List.length_nil, sI_len, cond_true, cond_false]; omega) | (simp only [List.length_append, List.length_cons, List.length_nil, sI_len, cond_eq_ite, apply_ite List.length]; split <;> simp only [List.length_append, List.length_cons, List.length_nil, sI_len] <;> omega) | grind), (hE155.sub (L' := [(2, .pointer (some ⟨b3, 0, none⟩)), (3, .pointer (some ⟨b9, 0, none⟩)), (4, .pointer (some ⟨b15, 0, none⟩)), (6, .pointer (some ⟨b140, 0, none⟩)), (7, .int .i64 0)]) ⟨rfl, rfl, rfl, rfl, rfl, trivial⟩), (St.pick (Γ' := [.blk b140 #[.int .i64 (ap0 + bp0), .slice (some ⟨b132, 0, none⟩) 0 0] 43, .own 2 1 (some ⟨b132, 0, none⟩) 0 0 ([]), .blk b15 #[.int .i64 0, .slice none 0 0] 43, .rd 1 bp1A bp1.length bp1C bp1, .blk b9 #[.int .i64 bp0, .slice bp1A bp1.length bp1C] 43, .rd 1 ap1A ap1.length ap1C ap1, .blk b3 #[.int .i64 ap0, .slice ap1A ap1.length ap1C] 43]) hS150 [0, 1, 2, 3, 4, 5, 6] (by decide) rfl)⟩
          ·
            clear hE155 hS150
            rintro r167 a157 w158 ⟨mask7, q7_1, q7_1A, q7_1C, hT161, hr162, hi163, hi164, hi165, hi166, hE159, hS160⟩
            obtain ⟨r167, rfl⟩ : ∃ r', r167 = r' + 1 := ⟨r167 - 1, by omega⟩
            refine c_seq ?_
            refine c_seq ?_
            refine c_reg ?_
            refine q_step (v := .int .i64 mask7) hE159 (y_move rfl) rfl rfl rfl ?_; intro a168 hE169; clear hE159
            refine q_step (v := .pointer (some ⟨b140, 0, none⟩)) hE169 (y_field rfl (fun _ => by kernel_rfl)) rfl rfl rfl ?_; intro a170 hE171; clear hE169
            refine q_step (v := .int .i64 (ap0 + bp0)) hE171 (y_load (fun _ => by kernel_rfl) rfl (St.cell (i := 0) hS160 rfl rfl)) rfl rfl rfl ?_; intro a172 hE173; clear hE171
            refine l_step hE173 rfl (l_call (f := 85) (argv := [.int .i64 (ap0 + bp0)]) hE173 (fun _ => cf_l01Full _ _) rfl rfl (d_l01Full (ap0 + bp0) w158 (by omega) (by omega)) ?_)
            rintro _ _ ⟨rfl, rfl⟩ a176 hE177; clear hE173
            refine q_step (v := .bool (decide (mask7 ≤ (fullI (ap0 + bp0))))) hE177 (y_leq rfl rfl) rfl rfl rfl ?_; intro a180 hE181; clear hE177
            refine c_nil ?_
            have hE182 := hE181.sub (L' := [(2, .pointer (some ⟨b3, 0, none⟩)), (3, .pointer (some ⟨b9, 0, none⟩)), (4, .pointer (some ⟨b15, 0, none⟩)), (6, .pointer (some ⟨b140, 0, none⟩)), (7, .int .i64 mask7), (37, .bool (decide (mask7 ≤ (fullI (ap0 + bp0)))))]) ⟨rfl, rfl, rfl, rfl, rfl, rfl, trivial⟩; clear hE181
            refine p_tn ?_
            refine c_cond hE182 rfl (fun ht183 => ?_) (fun ht183 => ?_)
            ·
              have hp184 := of_decide_eq_true ht183
              have hE185 := hE182; rw [ht183] at hE185; clear hE182
              have hx1 := andI_le (m := mask7) (k := fullI ap0) (by omega) (by omega) (by omega) (by omega)
              have hx2 := shr_full (m := mask7) (a := ap0) (b := bp0) (by omega) (by omega) (by omega) (by omega) (by omega)
              refine wp_skip ?_
              refine p_tn ?_
              refine c_seq ?_
              refine wp_block ?_
              refine c_seq ?_
              refine d_start (fun w' => w'.cell? ⟨b3, 1, none⟩ = some (.slice ap1A ap1.length ap1C) ∧ w'.cell? ⟨b3, 0, none⟩ = some (.int .i64 ap0) ∧ w'.cell? (adr ap1A (Int.toNat (andI mask7 (fullI ap0)))) = some (.int .i64 (gI ap1 (andI mask7 (fullI ap0)))) ∧ w'.cell? ⟨b9, 1, none⟩ = some (.slice bp1A bp1.length bp1C) ∧ w'.cell? ⟨b3, 0, none⟩ = some (.int .i64 ap0) ∧ w'.cell? (adr bp1A (Int.toNat (shrI mask7 ap0))) = some (.int .i64 (gI bp1 (shrI mask7 ap0))) ∧ True) [1, 4, 8, 10, 13, 17] 20 (by kernel_rfl) rfl ?_
              intro w186 he187; have hS188 := St.go hS160 he187; clear hS160
              refine d_pure (v := .pointer (some ⟨b3, 1, none⟩)) 0 rfl hE185 (y_field rfl (fun _ => by kernel_rfl)) rfl (by kernel_rfl) (by kernel_rfl) (by kernel_rfl) rfl rfl (fun _ _ _ h => h) ?_; intro a189 hE190; clear hE185
              refine d_take (v := .slice ap1A ap1.length ap1C) 1 rfl hE190 ⟨(St.cell (i := 6) hS188 rfl rfl _ (Ext.refl _)), (St.cell (i := 6) hS188 rfl rfl _ (Ext.refl _)), (RdS.elt (St.rdR (i := 5) hS188 rfl) (by omega) (by omega) _ (Ext.refl _)), (St.cell (i := 4) hS188 rfl rfl _ (Ext.refl _)), (St.cell (i := 6) hS188 rfl rfl _ (Ext.refl _)), (RdS.elt (St.rdR (i := 3) hS188 rfl) (by omega) (by omega) _ (Ext.refl _)), trivial⟩ (y_load (fun _ => by kernel_rfl) rfl (fun _ h => h.1)) rfl rfl (by kernel_rfl) (by kernel_rfl) (by kernel_rfl) rfl rfl (fun _ _ _ h => h) ?_; intro a191 hE192; clear hE190
              refine d_pure (v := .int .i64 mask7) 2 rfl hE192 (y_move rfl) rfl (by kernel_rfl) (by kernel_rfl) (by kernel_rfl) rfl rfl (fun _ _ _ h => h) ?_; intro a193 hE194; clear hE192
              refine d_pure (v := .pointer (some ⟨b3, 0, none⟩)) 3 rfl hE194 (y_field rfl (fun _ => by kernel_rfl)) rfl (by kernel_rfl) (by kernel_rfl) (by kernel_rfl) rfl rfl (fun _ _ _ h => h) ?_; intro a195 hE196; clear hE194
              refine d_take (v := .int .i64 ap0) 4 rfl hE196 ⟨(St.cell (i := 6) hS188 rfl rfl _ (Ext.refl _)), (St.cell (i := 6) hS188 rfl rfl _ (Ext.refl _)), (RdS.elt (St.rdR (i := 5) hS188 rfl) (by omega) (by omega) _ (Ext.refl _)), (St.cell (i := 4) hS188 rfl rfl _ (Ext.refl _)), (St.cell (i := 6) hS188 rfl rfl _ (Ext.refl _)), (RdS.elt (St.rdR (i := 3) hS188 rfl) (by omega) (by omega) _ (Ext.refl _)), trivial⟩ (y_load (fun _ => by kernel_rfl) rfl (fun _ h => h.2.1)) rfl rfl (by kernel_rfl) (by kernel_rfl) (by kernel_rfl) rfl rfl (fun _ _ _ h => h) ?_; intro a197 hE198; clear hE196
              refine d_pure (v := .pointer (some ⟨b9, 1, none⟩)) 9 rfl hE198 (y_field rfl (fun _ => by kernel_rfl)) rfl (by kernel_rfl) (by kernel_rfl) (by kernel_rfl) rfl rfl (fun _ _ _ h => h) ?_; intro a199 hE200; clear hE198
              refine d_take (v := .slice bp1A bp1.length bp1C) 10 rfl hE200 ⟨(St.cell (i := 6) hS188 rfl rfl _ (Ext.refl _)), (St.cell (i := 6) hS188 rfl rfl _ (Ext.refl _)), (RdS.elt (St.rdR (i := 5) hS188 rfl) (by omega) (by omega) _ (Ext.refl _)), (St.cell (i := 4) hS188 rfl rfl _ (Ext.refl _)), (St.cell (i := 6) hS188 rfl rfl _ (Ext.refl _)), (RdS.elt (St.rdR (i := 3) hS188 rfl) (by omega) (by omega) _ (Ext.refl _)), trivial⟩ (y_load (fun _ => by kernel_rfl) rfl (fun _ h => h.2.2.2.1)) rfl rfl (by kernel_rfl) (by kernel_rfl) (by kernel_rfl) rfl rfl (fun _ _ _ h => h) ?_; intro a201 hE202; clear hE200
              refine d_pure (v := .int .i64 mask7) 11 rfl hE202 (y_move rfl) rfl (by kernel_rfl) (by kernel_rfl) (by kernel_rfl) rfl rfl (fun _ _ _ h => h) ?_; intro a203 hE204; clear hE202
              refine d_pure (v := .pointer (some ⟨b3, 0, none⟩)) 12 rfl hE204 (y_field rfl (fun _ => by kernel_rfl)) rfl (by kernel_rfl) (by kernel_rfl) (by kernel_rfl) rfl rfl (fun _ _ _ h => h) ?_; intro a205 hE206; clear hE204
              refine d_take (v := .int .i64 ap0) 13 rfl hE206 ⟨(St.cell (i := 6) hS188 rfl rfl _ (Ext.refl _)), (St.cell (i := 6) hS188 rfl rfl _ (Ext.refl _)), (RdS.elt (St.rdR (i := 5) hS188 rfl) (by omega) (by omega) _ (Ext.refl _)), (St.cell (i := 4) hS188 rfl rfl _ (Ext.refl _)), (St.cell (i := 6) hS188 rfl rfl _ (Ext.refl _)), (RdS.elt (St.rdR (i := 3) hS188 rfl) (by omega) (by omega) _ (Ext.refl _)), trivial⟩ (y_load (fun _ => by kernel_rfl) rfl (fun _ h => h.2.2.2.2.1)) rfl rfl (by kernel_rfl) (by kernel_rfl) (by kernel_rfl) rfl rfl (fun _ _ _ h => h) ?_; intro a207 hE208; clear hE206
              refine d_pure (v := .int .u64 ap0) 14 rfl hE208 (y_conv (ds := .int .i64) (by kernel_rfl) (by kernel_rfl) rfl (wU64 (by omega) (by omega))) rfl (by kernel_rfl) (by kernel_rfl) (by kernel_rfl) rfl rfl (fun _ _ _ h => h) ?_; intro a209 hE210; clear hE208
              refine d_pure (v := .int .i64 (shrI mask7 ap0)) 15 rfl hE210 (y_shr rfl rfl (by omega)) rfl (by kernel_rfl) (by kernel_rfl) (by kernel_rfl) rfl rfl (fun _ _ _ h => h) ?_; intro a211 hE212; clear hE210
              refine d_pure (v := .pointer (some (adr bp1A (Int.toNat (shrI mask7 ap0))))) 16 rfl hE212 (y_idx (by kernel_rfl) (fun _ => by kernel_rfl) rfl rfl (RdS.isS (m := shrI mask7 ap0) (St.rdR (i := 3) hS188 rfl) (by omega) (by omega)) (by omega) (by omega) (Nat.mul_one _).symm) rfl (by kernel_rfl) (by kernel_rfl) (by kernel_rfl) rfl rfl (fun _ _ _ h => h) ?_; intro a213 hE214; clear hE212
              refine d_take (v := .int .i64 (gI bp1 (shrI mask7 ap0))) 17 rfl hE214 ⟨(St.cell (i := 6) hS188 rfl rfl _ (Ext.refl _)), (St.cell (i := 6) hS188 rfl rfl _ (Ext.refl _)), (RdS.elt (St.rdR (i := 5) hS188 rfl) (by omega) (by omega) _ (Ext.refl _)), (St.cell (i := 4) hS188 rfl rfl _ (Ext.refl _)), (St.cell (i := 6) hS188 rfl rfl _ (Ext.refl _)), (RdS.elt (St.rdR (i := 3) hS188 rfl) (by omega) (by omega) _ (Ext.refl _)), trivial⟩ (y_load (fun _ => by kernel_rfl) rfl (fun _ h => h.2.2.2.2.2.1)) rfl rfl (by kernel_rfl) (by kernel_rfl) (by kernel_rfl) rfl rfl (fun _ _ _ h => h) ?_; intro a215 hE216; clear hE214
              refine d_only 5 (by kernel_rfl) rfl hE216 rfl (l_call (f := 85) (argv := [.int .i64 ap0]) hE216 (fun _ => cf_l01Full _ _) rfl rfl (d_l01Full ap0 w186 (by omega) (by omega)) ?_)
              rintro _ _ ⟨rfl, rfl⟩ a219 hE220; clear hE216
              refine ⟨fun _ _ => ⟨(St.cell (i := 6) hS188 rfl rfl _ (Ext.refl _)), (St.cell (i := 6) hS188 rfl rfl _ (Ext.refl _)), (RdS.elt (St.rdR (i := 5) hS188 rfl) (by omega) (by omega) _ (Ext.refl _)), (St.cell (i := 4) hS188 rfl rfl _ (Ext.refl _)), (St.cell (i := 6) hS188 rfl rfl _ (Ext.refl _)), (RdS.elt (St.rdR (i := 3) hS188 rfl) (by omega) (by omega) _ (Ext.refl _)), trivial⟩, ?_⟩
              refine d_pure (v := .int .i64 (andI mask7 (fullI ap0))) 6 rfl hE220 (y_and rfl rfl) rfl (by kernel_rfl) (by kernel_rfl) (by kernel_rfl) rfl rfl (fun _ _ _ h => h) ?_; intro a223 hE224; clear hE220
              refine d_pure (v := .pointer (some (adr ap1A (Int.toNat (andI mask7 (fullI ap0)))))) 7 rfl hE224 (y_idx (by kernel_rfl) (fun _ => by kernel_rfl) rfl rfl (RdS.isS (m := andI mask7 (fullI ap0)) (St.rdR (i := 5) hS188 rfl) (by omega) (by omega)) (by omega) (by omega) (Nat.mul_one _).symm) rfl (by kernel_rfl) (by kernel_rfl) (by kernel_rfl) rfl rfl (fun _ _ _ h => h) ?_; intro a225 hE226; clear hE224
              refine d_take (v := .int .i64 (gI ap1 (andI mask7 (fullI ap0)))) 8 rfl hE226 ⟨(St.cell (i := 6) hS188 rfl rfl _ (Ext.refl _)), (St.cell (i := 6) hS188 rfl rfl _ (Ext.refl _)), (RdS.elt (St.rdR (i := 5) hS188 rfl) (by omega) (by omega) _ (Ext.refl _)), (St.cell (i := 4) hS188 rfl rfl _ (Ext.refl _)), (St.cell (i := 6) hS188 rfl rfl _ (Ext.refl _)), (RdS.elt (St.rdR (i := 3) hS188 rfl) (by omega) (by omega) _ (Ext.refl _)), trivial⟩ (y_load (fun _ => by kernel_rfl) rfl (fun _ h => h.2.2.1)) rfl rfl (by kernel_rfl) (by kernel_rfl) (by kernel_rfl) rfl rfl (fun _ _ _ h => h) ?_; intro a227 hE228; clear hE226
              refine d_pure (v := .int .i64 (gI ap1 (andI mask7 (fullI ap0)))) 18 rfl hE228 (y_assign rfl) rfl (by kernel_rfl) (by kernel_rfl) (by kernel_rfl) rfl rfl (fun _ _ _ h => h) ?_; intro a229 hE230; clear hE228
              refine d_pure (v := .int .i64 (gI bp1 (shrI mask7 ap0))) 19 rfl hE230 (y_assign rfl) rfl (by kernel_rfl) (by kernel_rfl) (by kernel_rfl) rfl rfl (fun _ _ _ h => h) ?_; intro a231 hE232; clear hE230
              refine d_done (by kernel_rfl) ?_
              have hE233 := hE232.sub (L' := [(2, .pointer (some ⟨b3, 0, none⟩)), (3, .pointer (some ⟨b9, 0, none⟩)), (4, .pointer (some ⟨b15, 0, none⟩)), (6, .pointer (some ⟨b140, 0, none⟩)), (7, .int .i64 mask7), (8, .int .i64 (gI ap1 (andI mask7 (fullI ap0)))), (9, .int .i64 (gI bp1 (shrI mask7 ap0)))]) ⟨rfl, rfl, rfl, rfl, rfl, rfl, rfl, trivial⟩; clear hE232
              refine p_tn ?_
              refine c_reg ?_
              refine q_step (v := .pointer (some ⟨b140, 1, none⟩)) hE233 (y_field rfl (fun _ => by kernel_rfl)) rfl rfl rfl ?_; intro a234 hE235; clear hE233
              refine q_step (v := .slice q7_1A ((q7_1).length) q7_1C) hE235 (y_load (fun _ => by kernel_rfl) rfl (St.cell (i := 0) hS188 rfl rfl)) rfl rfl rfl ?_; intro a236 hE237; clear hE235
              refine q_step (v := .int .i64 (gI ap1 (andI mask7 (fullI ap0)))) hE237 (y_move rfl) rfl rfl rfl ?_; intro a238 hE239; clear hE237
              refine q_step (v := .int .i64 (gI bp1 (shrI mask7 ap0))) hE239 (y_move rfl) rfl rfl rfl ?_; intro a240 hE241; clear hE239
              refine q_step (v := .pointer (some ⟨b3, 0, none⟩)) hE241 (y_field rfl (fun _ => by kernel_rfl)) rfl rfl rfl ?_; intro a242 hE243; clear hE241
              refine q_step (v := .int .i64 ap0) hE243 (y_load (fun _ => by kernel_rfl) rfl (St.cell (i := 6) hS188 rfl rfl)) rfl rfl rfl ?_; intro a244 hE245; clear hE243
              refine q_step (v := .int .u64 ap0) hE245 (y_conv (ds := .int .i64) (by kernel_rfl) (by kernel_rfl) rfl (wU64 (by omega) (by omega))) rfl rfl rfl ?_; intro a246 hE247; clear hE245
              refine q_step (v := .int .i64 (shlI (gI bp1 (shrI mask7 ap0)) ap0)) hE247 (y_shl rfl rfl (by omega)) rfl rfl rfl ?_; intro a248 hE249; clear hE247
              refine q_step (v := .int .i64 (orI (gI ap1 (andI mask7 (fullI ap0))) (shlI (gI bp1 (shrI mask7 ap0)) ap0))) hE249 (y_or rfl rfl) rfl rfl rfl ?_; intro a250 hE251; clear hE249
              refine l_step hE251 rfl (l_lit (e := 2) (s := 1) (xs := [orI (gI ap1 (andI mask7 (fullI ap0))) (shlI (gI bp1 (shrI mask7 ap0)) ap0)]) (vs := [.int .i64 (orI (gI ap1 (andI mask7 (fullI ap0))) (shlI (gI bp1 (shrI mask7 ap0)) ap0))]) hS188 hE251 rfl (fun _ => by kernel_rfl) rfl rfl rfl ?_)
              intro b252 w253 hS256 he257 a254 hE255; clear hS188 hE251
              obtain ⟨_, hi1, hi2, hi3, hi4⟩ := info_parts (show (Try.prog.info? 2).map (fun i => (i.zero, i.size, i.bytes)) = some (some (.int .i64 0), 1, 8) by kernel_rfl)
              refine l_step hE255 rfl (l_append (k := 2) (n' := (q7_1 ++ ([orI (gI ap1 (andI mask7 (fullI ap0))) (shlI (gI bp1 (shrI mask7 ap0)) ap0)])).length) hS256 hE255 (by kernel_rfl) hi1 hi2 hi3 rfl (by decide) (by rw [hi4]; decide) rfl rfl rfl (St.rdO (i := 0) hS256 rfl) (by first | omega | (simp only [List.length_append, List.length_cons, List.length_nil]; omega)) (by have h1 := (St.rdO (i := 2) hS256 rfl).len1; have h2 := (St.rdO (i := 0) hS256 rfl).len1; rw [List.length_append, h1, h2]) rfl ?_)
              intro b258 c264 w259 hS262 a260 hE261; clear hS256 hE255 hi1 hi2 hi3 hi4
              refine q_step (v := .pointer (some ⟨b140, 1, none⟩)) hE261 (y_field rfl (fun _ => by kernel_rfl)) rfl rfl rfl ?_; intro a265 hE266; clear hE261
              refine l_step hE266 rfl (l_storeB (k := 1) (cs' := #[.int .i64 (ap0 + bp0), .slice b258 ((q7_1 ++ ([orI (gI ap1 (andI mask7 (fullI ap0))) (shlI (gI bp1 (shrI mask7 ap0)) ap0)])).length) c264]) hS262 hE266 (fun _ => by kernel_rfl) rfl rfl rfl rfl rfl rfl rfl ?_)
              intro w268 hS271 a269 hE270; clear hS262 hE266
              refine c_nil ?_
              have hE273 := hE270.sub (L' := [(2, .pointer (some ⟨b3, 0, none⟩)), (3, .pointer (some ⟨b9, 0, none⟩)), (4, .pointer (some ⟨b15, 0, none⟩)), (6, .pointer (some ⟨b140, 0, none⟩)), (7, .int .i64 mask7)]) ⟨rfl, rfl, rfl, rfl, rfl, trivial⟩; clear hE270
              refine p_bn ?_
              refine p_tn ?_
              refine c_reg ?_
              refine q_step (v := .int .i64 mask7) hE273 (y_move rfl) rfl rfl rfl ?_; intro a274 hE275; clear hE273
              refine q_step (v := .int .i64 (mask7 + 1)) hE275 (y_add rfl rfl ⟨(by omega), (by omega)⟩) rfl rfl rfl ?_; intro a276 hE277; clear hE275
              refine q_step (v := .int .i64 (mask7 + 1)) hE277 (y_assign rfl) rfl rfl rfl ?_; intro a278 hE279; clear hE277
              refine c_nil ?_
              have hE280 := hE279.sub (L' := [(2, .pointer (some ⟨b3, 0, none⟩)), (3, .pointer (some ⟨b9, 0, none⟩)), (4, .pointer (some ⟨b15, 0, none⟩)), (6, .pointer (some ⟨b140, 0, none⟩)), (7, .int .i64 (mask7 + 1))]) ⟨rfl, rfl, rfl, rfl, rfl, trivial⟩; clear hE279
              refine p_tn ⟨r167, Nat.lt_succ_self _, mask7 + 1, q7_1 ++ ([orI (gI ap1 (andI mask7 (fullI ap0))) (shlI (gI bp1 (shrI mask7 ap0)) ap0)]), b258, c264, (hT161.symm.trans (show F_s_ModalProduct_L1b ap0 ap1 bp0 bp1 (F_s_ModalProduct_L1 ap0 ap1 bp0 bp1 r167) mask7 q7_1 = F_s_ModalProduct_L1 ap0 ap1 bp0 bp1 r167 (mask7 + 1) (q7_1 ++ ([orI (gI ap1 (andI mask7 (fullI ap0))) (shlI (gI bp1 (shrI mask7 ap0)) ap0)])) by unfold F_s_ModalProduct_L1b; rw [ht183]; first | done | rfl)).symm, (by omega), (by first | omega | (simp only [List.length_append, List.length_cons, List.length_nil, sI_len, cond_true, cond_false]; omega) | (simp only [List.length_append, List.length_cons, List.length_nil, sI_len, cond_eq_ite, apply_ite List.length]; split <;> simp only [List.length_append, List.length_cons, List.length_nil, sI_len] <;> omega) | grind), (by first | omega | (simp only [List.length_append, List.length_cons, List.length_nil, sI_len, cond_true, cond_false]; omega) | (simp only [List.length_append, List.length_cons, List.length_nil, sI_len, cond_eq_ite, apply_ite List.length]; split <;> simp only [List.length_append, List.length_cons, List.length_nil, sI_len] <;> omega) | grind), (by first | omega | (simp only [List.length_append, List.length_cons, List.length_nil, sI_len, cond_true, cond_false]; omega) | (simp only [List.length_append, List.length_cons, List.length_nil, sI_len, cond_eq_ite, apply_ite List.length]; split <;> simp only [List.length_append, List.length_cons, List.length_nil, sI_len] <;> omega) | grind), (by first | omega | (simp only [List.length_append, List.length_cons, List.length_nil, sI_len, cond_true, cond_false]; omega) | (simp only [List.length_append, List.length_cons, List.length_nil, sI_len, cond_eq_ite, apply_ite List.length]; split <;> simp only [List.length_append, List.length_cons, List.length_nil, sI_len] <;> omega) | grind), (hE280.sub (L' := [(2, .pointer (some ⟨b3, 0, none⟩)), (3, .pointer (some ⟨b9, 0, none⟩)), (4, .pointer (some ⟨b15, 0, none⟩)), (6, .pointer (some ⟨b140, 0, none⟩)), (7, .int .i64 (mask7 + 1))]) ⟨rfl, rfl, rfl, rfl, rfl, trivial⟩), (St.pick (Γ' := [.blk b140 #[.int .i64 (ap0 + bp0), .slice b258 ((q7_1 ++ ([orI (gI ap1 (andI mask7 (fullI ap0))) (shlI (gI bp1 (shrI mask7 ap0)) ap0)])).length) c264] 43, .own 2 1 b258 ((q7_1 ++ ([orI (gI ap1 (andI mask7 (fullI ap0))) (shlI (gI bp1 (shrI mask7 ap0)) ap0)])).length) c264 (q7_1 ++ ([orI (gI ap1 (andI mask7 (fullI ap0))) (shlI (gI bp1 (shrI mask7 ap0)) ap0)])), .blk b15 #[.int .i64 0, .slice none 0 0] 43, .rd 1 bp1A bp1.length bp1C bp1, .blk b9 #[.int .i64 bp0, .slice bp1A bp1.length bp1C] 43, .rd 1 ap1A ap1.length ap1C ap1, .blk b3 #[.int .i64 ap0, .slice ap1A ap1.length ap1C] 43]) hS271 [1, 2, 3, 4, 5, 6, 7] (by decide) rfl)⟩
            ·
              have hp281 := of_decide_eq_false ht183
              have hE282 := hE182; rw [ht183] at hE282; clear hE182
              refine wp_exit ?_
              refine p_te ?_
              have hX283 : F_s_ModalProduct_L1 ap0 ap1 bp0 bp1 (Int.toNat ((fullI (ap0 + bp0)) + 1 - 0) + 1) 0 ([]) = (mask7, q7_1) := hT161.symm.trans (show F_s_ModalProduct_L1b ap0 ap1 bp0 bp1 (F_s_ModalProduct_L1 ap0 ap1 bp0 bp1 r167) mask7 q7_1 = (mask7, q7_1) by unfold F_s_ModalProduct_L1b; rw [ht183]; first | done | rfl)
              refine p_te (p_be (p_tn ?_))
              exact ⟨q7_1A, q7_1C, (by rw [hX283]; exact (show 0 ≤ mask7 from (by first | omega | (simp only [List.length_append, List.length_cons, List.length_nil, sI_len, cond_true, cond_false]; omega) | (simp only [List.length_append, List.length_cons, List.length_nil, sI_len, cond_eq_ite, apply_ite List.length]; split <;> simp only [List.length_append, List.length_cons, List.length_nil, sI_len] <;> omega) | grind))), (by rw [hX283]; exact (show (q7_1.length : Int) = mask7 from (by first | omega | (simp only [List.length_append, List.length_cons, List.length_nil, sI_len, cond_true, cond_false]; omega) | (simp only [List.length_append, List.length_cons, List.length_nil, sI_len, cond_eq_ite, apply_ite List.length]; split <;> simp only [List.length_append, List.length_cons, List.length_nil, sI_len] <;> omega) | grind))), (by rw [hX283]; exact (show mask7 ≤ fullI (ap0 + bp0) + 1 from (by first | omega | (simp only [List.length_append, List.length_cons, List.length_nil, sI_len, cond_true, cond_false]; omega) | (simp only [List.length_append, List.length_cons, List.length_nil, sI_len, cond_eq_ite, apply_ite List.length]; split <;> simp only [List.length_append, List.length_cons, List.length_nil, sI_len] <;> omega) | grind))), (by rw [hX283]; exact (show (q7_1.length : Int) ≤ mask7 from (by first | omega | (simp only [List.length_append, List.length_cons, List.length_nil, sI_len, cond_true, cond_false]; omega) | (simp only [List.length_append, List.length_cons, List.length_nil, sI_len, cond_eq_ite, apply_ite List.length]; split <;> simp only [List.length_append, List.length_cons, List.length_nil, sI_len] <;> omega) | grind))), (by rw [hX283]; exact (hE282.sub (L' := [(2, .pointer (some ⟨b3, 0, none⟩)), (3, .pointer (some ⟨b9, 0, none⟩)), (4, .pointer (some ⟨b15, 0, none⟩)), (6, .pointer (some ⟨b140, 0, none⟩)), (7, .int .i64 mask7)]) ⟨rfl, rfl, rfl, rfl, rfl, trivial⟩)), (by rw [hX283]; exact (St.pick (Γ' := [.blk b140 #[.int .i64 (ap0 + bp0), .slice q7_1A ((q7_1).length) q7_1C] 43, .own 2 1 q7_1A ((q7_1).length) q7_1C q7_1, .blk b15 #[.int .i64 0, .slice none 0 0] 43, .rd 1 bp1A bp1.length bp1C bp1, .blk b9 #[.int .i64 bp0, .slice bp1A bp1.length bp1C] 43, .rd 1 ap1A ap1.length ap1C ap1, .blk b3 #[.int .i64 ap0, .slice ap1A ap1.length ap1C] 43]) hS160 [0, 1, 2, 3, 4, 5, 6] (by decide) rfl))⟩
        ·
          rintro a284 w285 ⟨q7_1A_156, q7_1C_156, hi289, hi290, hi291, hi292, hE286, hS287⟩; clear hE155 hS150
          refine p_tn ?_
          refine c_seq ?_
          refine c_reg ?_
          refine q_step (v := .agg #[.int .i64 (ap0 + bp0), .slice q7_1A_156 (((F_s_ModalProduct_L1 ap0 ap1 bp0 bp1 (Int.toNat ((fullI (ap0 + bp0)) + 1 - 0) + 1) 0 ([])).2).length) q7_1C_156]) hE286 (y_loadS Try.underlying43 rfl (by kernel_rfl) rfl (St.row (i := 0) hS287 rfl)) rfl rfl rfl ?_; intro a293 hE294; clear hE286
          refine l_step hE294 rfl (l_storeS (k := 2) (cs' := #[.int .i64 (ap0 + bp0), .slice q7_1A_156 (((F_s_ModalProduct_L1 ap0 ap1 bp0 bp1 (Int.toNat ((fullI (ap0 + bp0)) + 1 - 0) + 1) 0 ([])).2).length) q7_1C_156]) hS287 hE294 (by kernel_rfl) rfl rfl (by kernel_rfl) rfl rfl ?_)
          intro w296 hS299 a297 hE298; clear hS287 hE294
          refine q_step (v := .int .i64 0) hE298 (y_assign rfl) rfl rfl rfl ?_; intro a301 hE302; clear hE298
          refine c_nil ?_
          have hE303 := hE302.sub (L' := [(4, .pointer (some ⟨b15, 0, none⟩)), (5, .int .i64 0)]) ⟨rfl, rfl, trivial⟩; clear hE302
          refine p_tn ?_
          refine wp_ret ?_
          have hF : F_s_ModalProduct ap0 ap1 bp0 bp1 = ((ap0 + bp0, (F_s_ModalProduct_L1 ap0 ap1 bp0 bp1 (Int.toNat ((fullI (ap0 + bp0)) + 1 - 0) + 1) 0 ([])).2), 0) := by unfold F_s_ModalProduct; rw [ht105, ht72]; first | done | rfl
          refine c_retC2 hE303 rfl rfl rfl Try.underlying43 rfl (by kernel_rfl) (St.row (i := 2) hS299 rfl _ (Ext.refl _)) ?_
          exact ⟨q7_1A_156, q7_1C_156, (by rw [hF]; first | done | rfl), (by rw [hF]; exact hS299.ok 1 _ rfl), hS299.ext⟩

def F_ModalProduct_L1b (ap0 : Int) (ap1 : List Int) (bp0 : Int) (bp1 : List Int) (rec : Int → (List Int) → Int × (List Int)) (t35 : Int) (q6_1 : List Int) : Int × (List Int) :=
  bif (decide (t35 < ((fullI (ap0 + bp0)) + 1))) then (rec (t35 + 1) (q6_1 ++ ([orI (gI ap1 (andI t35 (fullI ap0))) (shlI (gI bp1 (shrI t35 ap0)) ap0)]))) else (t35, q6_1)
def F_ModalProduct_L1 (ap0 : Int) (ap1 : List Int) (bp0 : Int) (bp1 : List Int) : Nat → Int → (List Int) → Int × (List Int)
  | 0, t35, q6_1 => (t35, q6_1)
  | r + 1, t35, q6_1 => F_ModalProduct_L1b ap0 ap1 bp0 bp1 (F_ModalProduct_L1 ap0 ap1 bp0 bp1 r) t35 q6_1
def F_ModalProduct (ap0 : Int) (ap1 : List Int) (bp0 : Int) (bp1 : List Int) : (Int × List Int) × (Int) :=
  bif ((!(F_isModalAlgebra ap0 ap1)) || (!(F_isModalAlgebra bp0 bp1))) then ((0, []), 1) else (bif (decide (5 < (ap0 + bp0))) then ((0, []), 3) else ((ap0 + bp0, (F_ModalProduct_L1 ap0 ap1 bp0 bp1 (Int.toNat (((fullI (ap0 + bp0)) + 1) - 0) + 1) 0 ([])).2), 0))
theorem cf_ModalProduct (args : Array Value) (w : World) : (callFunc 44 args).run Try.prog w = .ok (.enter 44 args) w := by kernel_rfl
set_option maxRecDepth 100000 in
theorem c_ModalProduct (ap0 : Int) (ap1A : Option Addr) (ap1N ap1C : Nat) (ap1 : List Int) (bp0 : Int) (bp1A : Option Addr) (bp1N bp1C : Nat) (bp1 : List Int) (w : World) (ap1R : RdS w 1 ap1A ap1N ap1C ap1) (bp1R : RdS w 1 bp1A bp1N bp1C bp1) :
    Calls Try.prog 44 #[.agg #[.int .i64 ap0, .slice ap1A ap1N ap1C], .agg #[.int .i64 bp0, .slice bp1A bp1N bp1C]] w (Ret fun v w' => ∃ b1 : Option Addr, ∃ c1 : Nat, v = .tuple #[.agg #[.int .i64 (((F_ModalProduct ap0 ap1 bp0 bp1).1).1), .slice b1 (((F_ModalProduct ap0 ap1 bp0 bp1).1).2).length c1], .int .i64 ((F_ModalProduct ap0 ap1 bp0 bp1).2)] ∧ OwnS w' w.heap.size 2 1 b1 (((F_ModalProduct ap0 ap1 bp0 bp1).1).2).length c1 (((F_ModalProduct ap0 ap1 bp0 bp1).1).2) ∧ Ext w w') := by
  obtain rfl : ap1N = ap1.length := ap1R.len1.symm
  have ap1Le := ap1R.le
  obtain rfl : bp1N = bp1.length := bp1R.len1.symm
  have bp1Le := bp1R.le
  have hS := St.nil w
  have hS1 := St.rd0 hS rfl ap1R; clear hS
  have hS2 := St.rd0 hS1 rfl bp1R; clear hS1
  refine enter (args := [.agg #[.int .i64 ap0, .slice ap1A ap1.length ap1C], .agg #[.int .i64 bp0, .slice bp1A bp1.length bp1C]]) Try.func44 rfl rfl ?_
  rw [Try.ntmps44]; intro a hE
  have hE := hE.sub (L' := [(0, .agg #[.int .i64 ap0, .slice ap1A ap1.length ap1C]), (1, .agg #[.int .i64 bp0, .slice bp1A bp1.length bp1C])]) ⟨rfl, rfl, trivial⟩
  refine c_seq ?_
  refine c_reg ?_
  refine l_step hE rfl (l_box (v := .agg #[.int .i64 ap0, .slice ap1A ap1.length ap1C]) (cs := #[.int .i64 ap0, .slice ap1A ap1.length ap1C]) hS2 hE rfl rfl rfl ?_)
  intro b3 w4 hS7 he8 a5 hE6; clear hS2 hE
  refine l_step hE6 rfl (l_box (v := .agg #[.int .i64 bp0, .slice bp1A bp1.length bp1C]) (cs := #[.int .i64 bp0, .slice bp1A bp1.length bp1C]) hS7 hE6 rfl rfl rfl ?_)
  intro b9 w10 hS13 he14 a11 hE12; clear hS7 hE6
  refine l_step hE12 rfl (l_alloc (z := .agg #[.int .i64 0, .slice none 0 0]) (cs := #[.int .i64 0, .slice none 0 0]) hS13 hE12 (fun _ => by kernel_rfl) rfl rfl ?_)
  intro b15 w16 hS19 he20 a17 hE18; clear hS13 hE12
  refine q_step (v := .int .i64 0) hE18 (y_assign rfl) rfl rfl rfl ?_; intro a21 hE22; clear hE18
  refine c_nil ?_
  have hE23 := hE22.sub (L' := [(2, .pointer (some ⟨b3, 0, none⟩)), (3, .pointer (some ⟨b9, 0, none⟩)), (4, .pointer (some ⟨b15, 0, none⟩))]) ⟨rfl, rfl, rfl, trivial⟩; clear hE22
  refine p_tn ?_
  refine c_seq ?_
  refine wp_block ?_
  refine c_cut (fun a' w' => E a' 65 [(2, .pointer (some ⟨b3, 0, none⟩)), (3, .pointer (some ⟨b9, 0, none⟩)), (4, .pointer (some ⟨b15, 0, none⟩)), (8, .bool ((!(F_isModalAlgebra ap0 ap1)) || (!(F_isModalAlgebra bp0 bp1))))] ∧ St w w' [.blk b15 #[.int .i64 0, .slice none 0 0] 43, .rd 1 bp1A bp1.length bp1C bp1, .blk b9 #[.int .i64 bp0, .slice bp1A bp1.length bp1C] 43, .rd 1 ap1A ap1.length ap1C ap1, .blk b3 #[.int .i64 ap0, .slice ap1A ap1.length ap1C] 43]) ?_ ?_
  ·
    refine c_reg ?_
    refine q_step (v := .agg #[.int .i64 ap0, .slice ap1A ap1.length ap1C]) hE23 (y_loadS Try.underlying43 rfl (by kernel_rfl) rfl (St.row (i := 2) hS19 rfl)) rfl rfl rfl ?_; intro a24 hE25; clear hE23
    refine l_step hE25 rfl (l_call (f := 75) (argv := [.agg #[.int .i64 ap0, .slice ap1A ap1.length ap1C]]) hE25 (fun _ => cf_isModalAlgebra _ _) rfl rfl (c_isModalAlgebra ap0 ap1A ap1.length ap1C ap1 w16 (St.rdR (i := 4) hS19 rfl)) ?_)
    rintro _ w27 ⟨rfl, he31⟩ a28 hE29; clear hE25
    have hS30 := St.go hS19 he31; clear hS19
    refine q_step (v := .bool (!(F_isModalAlgebra ap0 ap1))) hE29 (y_not rfl) rfl rfl rfl ?_; intro a32 hE33; clear hE29
    refine q_step (v := .bool (!(F_isModalAlgebra ap0 ap1))) hE33 (y_move rfl) rfl rfl rfl ?_; intro a34 hE35; clear hE33
    rcases Bool.eq_false_or_eq_true (!(F_isModalAlgebra ap0 ap1)) with hb36 | hb36
    ·
      have hE37 := hE35; rw [hb36] at hE37; clear hE35
      have ht38 := bn_t hb36
      refine q_skip hE37 rfl rfl rfl ?_; intro a39 hE40; clear hE37
      refine q_skip hE40 rfl rfl rfl ?_; intro a41 hE42; clear hE40
      refine q_skip hE42 rfl rfl rfl ?_; intro a43 hE44; clear hE42
      refine q_step (v := .bool true) hE44 (y_pick (b := true) rfl rfl) rfl rfl rfl ?_; intro a45 hE46; clear hE44
      refine q_step (v := .bool true) hE46 (y_assign rfl) rfl rfl rfl ?_; intro a47 hE48; clear hE46
      refine c_nil ?_
      have hE49 := hE48.sub (L' := [(2, .pointer (some ⟨b3, 0, none⟩)), (3, .pointer (some ⟨b9, 0, none⟩)), (4, .pointer (some ⟨b15, 0, none⟩)), (8, .bool true)]) ⟨rfl, rfl, rfl, rfl, trivial⟩; clear hE48
      refine p_tn ?_
      have hE50 := hE49.sub (L' := [(2, .pointer (some ⟨b3, 0, none⟩)), (3, .pointer (some ⟨b9, 0, none⟩)), (4, .pointer (some ⟨b15, 0, none⟩)), (8, .bool true)]) ⟨rfl, rfl, rfl, rfl, trivial⟩
      have hS51 := (St.pick (Γ' := [.blk b15 #[.int .i64 0, .slice none 0 0] 43, .rd 1 bp1A bp1.length bp1C bp1, .blk b9 #[.int .i64 bp0, .slice bp1A bp1.length bp1C] 43, .rd 1 ap1A ap1.length ap1C ap1, .blk b3 #[.int .i64 ap0, .slice ap1A ap1.length ap1C] 43]) hS30 [0, 3, 1, 4, 2] (by decide) rfl)
      exact ⟨(by rw [hb36]; exact hE50), hS51⟩
    ·
      have hE52 := hE35; rw [hb36] at hE52; clear hE35
      have ht53 := bn_f hb36
      have hp54 := isModal_t ht53
      refine q_step (v := .agg #[.int .i64 bp0, .slice bp1A bp1.length bp1C]) hE52 (y_loadS Try.underlying43 rfl (by kernel_rfl) rfl (St.row (i := 1) hS30 rfl)) rfl rfl rfl ?_; intro a55 hE56; clear hE52
      refine l_step hE56 rfl (l_call (f := 75) (argv := [.agg #[.int .i64 bp0, .slice bp1A bp1.length bp1C]]) hE56 (fun _ => cf_isModalAlgebra _ _) rfl rfl (c_isModalAlgebra bp0 bp1A bp1.length bp1C bp1 w27 (St.rdR (i := 3) hS30 rfl)) ?_)
      rintro _ w58 ⟨rfl, he62⟩ a59 hE60; clear hE56
      have hS61 := St.go hS30 he62; clear hS30
      refine q_step (v := .bool (!(F_isModalAlgebra bp0 bp1))) hE60 (y_not rfl) rfl rfl rfl ?_; intro a63 hE64; clear hE60
      refine q_step (v := .bool (!(F_isModalAlgebra bp0 bp1))) hE64 (y_pick (b := false) rfl rfl) rfl rfl rfl ?_; intro a65 hE66; clear hE64
      refine q_step (v := .bool (!(F_isModalAlgebra bp0 bp1))) hE66 (y_assign rfl) rfl rfl rfl ?_; intro a67 hE68; clear hE66
      refine c_nil ?_
      have hE69 := hE68.sub (L' := [(2, .pointer (some ⟨b3, 0, none⟩)), (3, .pointer (some ⟨b9, 0, none⟩)), (4, .pointer (some ⟨b15, 0, none⟩)), (8, .bool (!(F_isModalAlgebra bp0 bp1)))]) ⟨rfl, rfl, rfl, rfl, trivial⟩; clear hE68
      refine p_tn ?_
      have hE70 := hE69.sub (L' := [(2, .pointer (some ⟨b3, 0, none⟩)), (3, .pointer (some ⟨b9, 0, none⟩)), (4, .pointer (some ⟨b15, 0, none⟩)), (8, .bool (!(F_isModalAlgebra bp0 bp1)))]) ⟨rfl, rfl, rfl, rfl, trivial⟩
      have hS71 := (St.pick (Γ' := [.blk b15 #[.int .i64 0, .slice none 0 0] 43, .rd 1 bp1A bp1.length bp1C bp1, .blk b9 #[.int .i64 bp0, .slice bp1A bp1.length bp1C] 43, .rd 1 ap1A ap1.length ap1C ap1, .blk b3 #[.int .i64 ap0, .slice ap1A ap1.length ap1C] 43]) hS61 [0, 3, 1, 4, 2] (by decide) rfl)
      exact ⟨(by rw [hb36]; exact hE70), hS71⟩
  ·
    rintro a72 w73 ⟨hE74, hS75⟩; clear hE23 hS19
    refine c_cond hE74 rfl (fun ht76 => ?_) (fun ht76 => ?_)
    ·
      have hE77 := hE74; rw [ht76] at hE77; clear hE74
      refine c_seq ?_
      refine c_reg ?_
      refine q_step (v := .agg #[.int .i64 0, .slice none 0 0]) hE77 (y_build (vs := #[]) (fun a n hE => by simp) (fun _ => by kernel_rfl)) rfl rfl rfl ?_; intro a78 hE79; clear hE77
      refine l_step hE79 rfl (l_storeS (k := 0) (cs' := #[.int .i64 0, .slice none 0 0]) hS75 hE79 (by kernel_rfl) rfl rfl (by kernel_rfl) rfl rfl ?_)
      intro w81 hS84 a82 hE83; clear hS75 hE79
      refine q_step (v := .int .i64 1) hE83 (y_assign rfl) rfl rfl rfl ?_; intro a86 hE87; clear hE83
      refine c_nil ?_
      have hE88 := hE87.sub (L' := [(4, .pointer (some ⟨b15, 0, none⟩)), (5, .int .i64 1)]) ⟨rfl, rfl, trivial⟩; clear hE87
      refine p_tn ?_
      refine wp_ret ?_
      refine p_br ?_
      refine p_tr ?_
      have hF : F_ModalProduct ap0 ap1 bp0 bp1 = ((0, []), 1) := by unfold F_ModalProduct; rw [ht76]; first | done | rfl
      refine c_retC2 hE88 rfl rfl rfl Try.underlying43 rfl (by kernel_rfl) (St.row (i := 0) hS84 rfl _ (Ext.refl _)) ?_
      exact ⟨none, 0, (by rw [hF]; first | done | rfl), (by rw [hF]; exact OwnS.nilS _ _ _ _), hS84.ext⟩
    ·
      obtain ⟨ht89, ht90⟩ := bor_f ht76
      have ht91 := bn_f ht89
      have hp92 := isModal_t ht91
      have ht93 := bn_f ht90
      have hp94 := isModal_t ht93
      have hE95 := hE74; rw [ht76] at hE95; clear hE74
      refine c_seq ?_
      refine c_reg ?_
      refine q_step (v := .pointer (some ⟨b3, 0, none⟩)) hE95 (y_field rfl (fun _ => by kernel_rfl)) rfl rfl rfl ?_; intro a96 hE97; clear hE95
      refine q_step (v := .int .i64 ap0) hE97 (y_load (fun _ => by kernel_rfl) rfl (St.cell (i := 4) hS75 rfl rfl)) rfl rfl rfl ?_; intro a98 hE99; clear hE97
      refine q_step (v := .pointer (some ⟨b9, 0, none⟩)) hE99 (y_field rfl (fun _ => by kernel_rfl)) rfl rfl rfl ?_; intro a100 hE101; clear hE99
      refine q_step (v := .int .i64 bp0) hE101 (y_load (fun _ => by kernel_rfl) rfl (St.cell (i := 2) hS75 rfl rfl)) rfl rfl rfl ?_; intro a102 hE103; clear hE101
      refine q_step (v := .int .i64 (ap0 + bp0)) hE103 (y_add rfl rfl ⟨(by omega), (by omega)⟩) rfl rfl rfl ?_; intro a104 hE105; clear hE103
      refine q_step (v := .bool (decide (5 < (ap0 + bp0)))) hE105 (y_gtr rfl rfl) rfl rfl rfl ?_; intro a106 hE107; clear hE105
      refine q_step (v := .bool (decide (5 < (ap0 + bp0)))) hE107 (y_assign rfl) rfl rfl rfl ?_; intro a108 hE109; clear hE107
      refine c_nil ?_
      have hE110 := hE109.sub (L' := [(2, .pointer (some ⟨b3, 0, none⟩)), (3, .pointer (some ⟨b9, 0, none⟩)), (4, .pointer (some ⟨b15, 0, none⟩)), (18, .bool (decide (5 < (ap0 + bp0))))]) ⟨rfl, rfl, rfl, rfl, trivial⟩; clear hE109
      refine p_tn ?_
      refine c_cond hE110 rfl (fun ht111 => ?_) (fun ht111 => ?_)
      ·
        have hp112 := of_decide_eq_true ht111
        have hE113 := hE110; rw [ht111] at hE113; clear hE110
        refine c_seq ?_
        refine c_reg ?_
        refine q_step (v := .agg #[.int .i64 0, .slice none 0 0]) hE113 (y_build (vs := #[]) (fun a n hE => by simp) (fun _ => by kernel_rfl)) rfl rfl rfl ?_; intro a114 hE115; clear hE113
        refine l_step hE115 rfl (l_storeS (k := 0) (cs' := #[.int .i64 0, .slice none 0 0]) hS75 hE115 (by kernel_rfl) rfl rfl (by kernel_rfl) rfl rfl ?_)
        intro w117 hS120 a118 hE119; clear hS75 hE115
        refine q_step (v := .int .i64 3) hE119 (y_assign rfl) rfl rfl rfl ?_; intro a122 hE123; clear hE119
        refine c_nil ?_
        have hE124 := hE123.sub (L' := [(4, .pointer (some ⟨b15, 0, none⟩)), (5, .int .i64 3)]) ⟨rfl, rfl, trivial⟩; clear hE123
        refine p_tn ?_
        refine wp_ret ?_
        refine p_br ?_
        refine p_tr ?_
        have hF : F_ModalProduct ap0 ap1 bp0 bp1 = ((0, []), 3) := by unfold F_ModalProduct; rw [ht111, ht76]; first | done | rfl
        refine c_retC2 hE124 rfl rfl rfl Try.underlying43 rfl (by kernel_rfl) (St.row (i := 0) hS120 rfl _ (Ext.refl _)) ?_
        exact ⟨none, 0, (by rw [hF]; first | done | rfl), (by rw [hF]; exact OwnS.nilS _ _ _ _), hS120.ext⟩
      ·
        have hp125 := of_decide_eq_false ht111
        have hq126 := sum5 hp125
        have hE127 := hE110; rw [ht111] at hE127; clear hE110
        refine wp_skip ?_
        refine p_bn ?_
        refine p_tn ?_
        refine c_seq ?_
        refine c_reg ?_
        refine q_step (v := .pointer (some ⟨b3, 0, none⟩)) hE127 (y_field rfl (fun _ => by kernel_rfl)) rfl rfl rfl ?_; intro a128 hE129; clear hE127
        refine q_step (v := .int .i64 ap0) hE129 (y_load (fun _ => by kernel_rfl) rfl (St.cell (i := 4) hS75 rfl rfl)) rfl rfl rfl ?_; intro a130 hE131; clear hE129
        refine q_step (v := .pointer (some ⟨b9, 0, none⟩)) hE131 (y_field rfl (fun _ => by kernel_rfl)) rfl rfl rfl ?_; intro a132 hE133; clear hE131
        refine q_step (v := .int .i64 bp0) hE133 (y_load (fun _ => by kernel_rfl) rfl (St.cell (i := 2) hS75 rfl rfl)) rfl rfl rfl ?_; intro a134 hE135; clear hE133
        refine q_step (v := .int .i64 (ap0 + bp0)) hE135 (y_add rfl rfl ⟨(by omega), (by omega)⟩) rfl rfl rfl ?_; intro a136 hE137; clear hE135
        refine q_step (v := .agg #[.int .i64 (ap0 + bp0), .slice none 0 0]) hE137 (y_build (vs := #[(0, .int .i64 (ap0 + bp0))]) (fun a n hE => by simp only [hE.eval (x := .tmp 30) (v := .int .i64 (ap0 + bp0)) rfl, List.map_toArray, List.map_cons, List.map_nil]) (fun _ => by kernel_rfl)) rfl rfl rfl ?_; intro a138 hE139; clear hE137
        refine l_step hE139 rfl (l_alloc (z := .agg #[.int .i64 0, .slice none 0 0]) (cs := #[.int .i64 0, .slice none 0 0]) hS75 hE139 (fun _ => by kernel_rfl) rfl rfl ?_)
        intro b140 w141 hS144 he145 a142 hE143; clear hS75 hE139
        refine l_step hE143 rfl (l_storeS (k := 0) (cs' := #[.int .i64 (ap0 + bp0), .slice none 0 0]) hS144 hE143 (by kernel_rfl) rfl rfl (by kernel_rfl) rfl rfl ?_)
        intro w147 hS150 a148 hE149; clear hS144 hE143
        refine c_nil ?_
        have hE152 := hE149.sub (L' := [(2, .pointer (some ⟨b3, 0, none⟩)), (3, .pointer (some ⟨b9, 0, none⟩)), (4, .pointer (some ⟨b15, 0, none⟩)), (6, .pointer (some ⟨b140, 0, none⟩))]) ⟨rfl, rfl, rfl, rfl, trivial⟩; clear hE149
        refine p_tn ?_
        refine c_seq ?_
        refine c_seq ?_
        refine c_reg ?_
        refine q_step (v := .agg #[.int .i64 (ap0 + bp0), .slice none 0 0]) hE152 (y_loadS Try.underlying43 rfl (by kernel_rfl) rfl (St.row (i := 0) hS150 rfl)) rfl rfl rfl ?_; intro a153 hE154; clear hE152
        refine l_step hE154 rfl (l_call (f := 78) (argv := [.agg #[.int .i64 (ap0 + bp0), .slice none 0 0]]) hE154 (fun _ => cf_ModalAlgebra_full _ _) rfl rfl (d_ModalAlgebra_full (ap0 + bp0) none 0 0 [] w147 (RdS.nilS _ _) (by omega) (by omega)) ?_)
        rintro _ w156 ⟨rfl, he160⟩ a157 hE158; clear hE154
        have hf161 := fullI_bd (n := (ap0 + bp0)) (by omega) (by omega)
        have hS159 := St.go hS150 he160; clear hS150
        refine q_step (v := .int .i64 ((fullI (ap0 + bp0)) + 1)) hE158 (y_add rfl rfl ⟨(by omega), (by omega)⟩) rfl rfl rfl ?_; intro a162 hE163; clear hE158
        refine q_step (v := .int .i64 0) hE163 (y_move rfl) rfl rfl rfl ?_; intro a164 hE165; clear hE163
        refine c_nil ?_
        have hE166 := hE165.sub (L' := [(2, .pointer (some ⟨b3, 0, none⟩)), (3, .pointer (some ⟨b9, 0, none⟩)), (4, .pointer (some ⟨b15, 0, none⟩)), (6, .pointer (some ⟨b140, 0, none⟩)), (34, .int .i64 ((fullI (ap0 + bp0)) + 1)), (35, .int .i64 0)]) ⟨rfl, rfl, rfl, rfl, rfl, rfl, trivial⟩; clear hE165
        refine p_tn ?_
        have hS167 := St.nils hS159 2 1; clear hS159
        have hS168 := St.nils hS167 2 1; clear hS167
        refine c_cut1 (fun a' w' => ∃ q6_1A_169 : Option Addr, ∃ q6_1C_169 : Nat, (0 ≤ ((F_ModalProduct_L1 ap0 ap1 bp0 bp1 (Int.toNat (((fullI (ap0 + bp0)) + 1) - 0) + 1) 0 ([])).1)) ∧ ((((F_ModalProduct_L1 ap0 ap1 bp0 bp1 (Int.toNat (((fullI (ap0 + bp0)) + 1) - 0) + 1) 0 ([])).2).length : Int) = ((F_ModalProduct_L1 ap0 ap1 bp0 bp1 (Int.toNat (((fullI (ap0 + bp0)) + 1) - 0) + 1) 0 ([])).1)) ∧ (((F_ModalProduct_L1 ap0 ap1 bp0 bp1 (Int.toNat (((fullI (ap0 + bp0)) + 1) - 0) + 1) 0 ([])).1) ≤ fullI (ap0 + bp0) + 1) ∧ ((((F_ModalProduct_L1 ap0 ap1 bp0 bp1 (Int.toNat (((fullI (ap0 + bp0)) + 1) - 0) + 1) 0 ([])).2).length : Int) ≤ ((F_ModalProduct_L1 ap0 ap1 bp0 bp1 (Int.toNat (((fullI (ap0 + bp0)) + 1) - 0) + 1) 0 ([])).1)) ∧ E a' 65 [(2, .pointer (some ⟨b3, 0, none⟩)), (3, .pointer (some ⟨b9, 0, none⟩)), (4, .pointer (some ⟨b15, 0, none⟩)), (6, .pointer (some ⟨b140, 0, none⟩)), (34, .int .i64 ((fullI (ap0 + bp0)) + 1)), (35, .int .i64 ((F_ModalProduct_L1 ap0 ap1 bp0 bp1 (Int.toNat (((fullI (ap0 + bp0)) + 1) - 0) + 1) 0 ([])).1))] ∧ St w w' [.own 2 1 none 0 0 ([]), .own 2 1 q6_1A_169 (((F_ModalProduct_L1 ap0 ap1 bp0 bp1 (Int.toNat (((fullI (ap0 + bp0)) + 1) - 0) + 1) 0 ([])).2).length) q6_1C_169 ((F_ModalProduct_L1 ap0 ap1 bp0 bp1 (Int.toNat (((fullI (ap0 + bp0)) + 1) - 0) + 1) 0 ([])).2), .blk b140 #[.int .i64 (ap0 + bp0), .slice q6_1A_169 (((F_ModalProduct_L1 ap0 ap1 bp0 bp1 (Int.toNat (((fullI (ap0 + bp0)) + 1) - 0) + 1) 0 ([])).2).length) q6_1C_169] 43, .blk b15 #[.int .i64 0, .slice none 0 0] 43, .rd 1 bp1A bp1.length bp1C bp1, .blk b9 #[.int .i64 bp0, .slice bp1A bp1.length bp1C] 43, .rd 1 ap1A ap1.length ap1C ap1, .blk b3 #[.int .i64 ap0, .slice ap1A ap1.length ap1C] 43]) ?_ ?_
        ·
          refine wp_block ?_
          refine c_loop (fun r a' w' => ∃ t35 : Int, ∃ q6_1 : List Int, ∃ q6_1A : Option Addr, ∃ q6_1C : Nat, F_ModalProduct_L1 ap0 ap1 bp0 bp1 r t35 q6_1 = F_ModalProduct_L1 ap0 ap1 bp0 bp1 (Int.toNat (((fullI (ap0 + bp0)) + 1) - 0) + 1) 0 ([]) ∧ Int.toNat (((fullI (ap0 + bp0)) + 1) - t35) < r ∧ (0 ≤ t35) ∧ ((q6_1.length : Int) = t35) ∧ (t35 ≤ fullI (ap0 + bp0) + 1) ∧ ((q6_1.length : Int) ≤ t35) ∧ E a' 65 [(2, .pointer (some ⟨b3, 0, none⟩)), (3, .pointer (some ⟨b9, 0, none⟩)), (4, .pointer (some ⟨b15, 0, none⟩)), (6, .pointer (some ⟨b140, 0, none⟩)), (34, .int .i64 ((fullI (ap0 + bp0)) + 1)), (35, .int .i64 t35)] ∧ St w w' [.own 2 1 none 0 0 ([]), .own 2 1 q6_1A ((q6_1).length) q6_1C q6_1, .blk b140 #[.int .i64 (ap0 + bp0), .slice q6_1A ((q6_1).length) q6_1C] 43, .blk b15 #[.int .i64 0, .slice none 0 0] 43, .rd 1 bp1A bp1.length bp1C bp1, .blk b9 #[.int .i64 bp0, .slice bp1A bp1.length bp1C] 43, .rd 1 ap1A ap1.length ap1C ap1, .blk b3 #[.int .i64 ap0, .slice ap1A ap1.length ap1C] 43]) (r := (Int.toNat (((fullI (ap0 + bp0)) + 1) - 0) + 1)) ?_ ?_
          · exact ⟨0, [], none, 0, rfl, Nat.lt_succ_self _, (by first | omega | (simp only [List.length_append, List.length_cons, List.length_nil, sI_len, cond_true, cond_false]; omega) | (simp only [List.length_append, List.length_cons, List.length_nil, sI_len, cond_eq_ite, apply_ite List.length]; split <;> simp only [List.length_append, List.length_cons, List.length_nil, sI_len] <;> omega) | grind), (by first | omega | (simp only [List.length_append, List.length_cons, List.length_nil, sI_len, cond_true, cond_false]; omega) | (simp only [List.length_append, List.length_cons, List.length_nil, sI_len, cond_eq_ite, apply_ite List.length]; split <;> simp only [List.length_append, List.length_cons, List.length_nil, sI_len] <;> omega) | grind), (by first | omega | (simp only [List.length_append, List.length_cons, List.length_nil, sI_len, cond_true, cond_false]; omega) | (simp only [List.length_append, List.length_cons, List.length_nil, sI_len, cond_eq_ite, apply_ite List.length]; split <;> simp only [List.length_append, List.length_cons, List.length_nil, sI_len] <;> omega) | grind), (by first | omega | (simp only [List.length_append, List.length_cons, List.length_nil, sI_len, cond_true, cond_false]; omega) | (simp only [List.length_append, List.length_cons, List.length_nil, sI_len, cond_eq_ite, apply_ite List.length]; split <;> simp only [List.length_append, List.length_cons, List.length_nil, sI_len] <;> omega) | grind), (hE166.sub (L' := [(2, .pointer (some ⟨b3, 0, none⟩)), (3, .pointer (some ⟨b9, 0, none⟩)), (4, .pointer (some ⟨b15, 0, none⟩)), (6, .pointer (some ⟨b140, 0, none⟩)), (34, .int .i64 ((fullI (ap0 + bp0)) + 1)), (35, .int .i64 0)]) ⟨rfl, rfl, rfl, rfl, rfl, rfl, trivial⟩), (St.pick (Γ' := [.own 2 1 none 0 0 ([]), .own 2 1 none 0 0 ([]), .blk b140 #[.int .i64 (ap0 + bp0), .slice none 0 0] 43, .blk b15 #[.int .i64 0, .slice none 0 0] 43, .rd 1 bp1A bp1.length bp1C bp1, .blk b9 #[.int .i64 bp0, .slice bp1A bp1.length bp1C] 43, .rd 1 ap1A ap1.length ap1C ap1, .blk b3 #[.int .i64 ap0, .slice ap1A ap1.length ap1C] 43]) hS168 [0, 1, 2, 3, 4, 5, 6, 7] (by decide) rfl)⟩
          ·
            clear hE166 hS168
            rintro r180 a170 w171 ⟨t35, q6_1, q6_1A, q6_1C, hT174, hr175, hi176, hi177, hi178, hi179, hE172, hS173⟩
            obtain ⟨r180, rfl⟩ : ∃ r', r180 = r' + 1 := ⟨r180 - 1, by omega⟩
            refine c_seq ?_
            refine c_reg ?_
            refine q_step (v := .bool (decide (t35 < ((fullI (ap0 + bp0)) + 1)))) hE172 (y_lss rfl rfl) rfl rfl rfl ?_; intro a181 hE182; clear hE172
            refine c_nil ?_
            have hE183 := hE182.sub (L' := [(2, .pointer (some ⟨b3, 0, none⟩)), (3, .pointer (some ⟨b9, 0, none⟩)), (4, .pointer (some ⟨b15, 0, none⟩)), (6, .pointer (some ⟨b140, 0, none⟩)), (34, .int .i64 ((fullI (ap0 + bp0)) + 1)), (35, .int .i64 t35), (36, .bool (decide (t35 < ((fullI (ap0 + bp0)) + 1))))]) ⟨rfl, rfl, rfl, rfl, rfl, rfl, rfl, trivial⟩; clear hE182
            refine p_tn ?_
            refine c_seq ?_
            refine c_cond hE183 rfl (fun ht184 => ?_) (fun ht184 => ?_)
            ·
              have hp185 := of_decide_eq_true ht184
              have hE186 := hE183; rw [ht184] at hE186; clear hE183
              have hx1 := andI_le (m := t35) (k := fullI ap0) (by omega) (by omega) (by omega) (by omega)
              have hx2 := shr_full (m := t35) (a := ap0) (b := bp0) (by omega) (by omega) (by omega) (by omega) (by omega)
              refine wp_skip ?_
              refine p_tn ?_
              refine c_seq ?_
              refine wp_block ?_
              refine c_seq ?_
              refine c_reg ?_
              refine q_step (v := .int .i64 t35) hE186 (y_move rfl) rfl rfl rfl ?_; intro a187 hE188; clear hE186
              refine q_step (v := .int .i64 t35) hE188 (y_assign rfl) rfl rfl rfl ?_; intro a189 hE190; clear hE188
              refine c_nil ?_
              have hE191 := hE190.sub (L' := [(2, .pointer (some ⟨b3, 0, none⟩)), (3, .pointer (some ⟨b9, 0, none⟩)), (4, .pointer (some ⟨b15, 0, none⟩)), (6, .pointer (some ⟨b140, 0, none⟩)), (7, .int .i64 t35), (34, .int .i64 ((fullI (ap0 + bp0)) + 1)), (35, .int .i64 t35)]) ⟨rfl, rfl, rfl, rfl, rfl, rfl, rfl, trivial⟩; clear hE190
              refine p_tn ?_
              refine d_start (fun w' => w'.cell? ⟨b140, 1, none⟩ = some (.slice q6_1A ((q6_1).length) q6_1C) ∧ w'.cell? ⟨b3, 1, none⟩ = some (.slice ap1A ap1.length ap1C) ∧ w'.heap[b3]? = some (.cells #[.int .i64 ap0, .slice ap1A ap1.length ap1C] 43 (0, 0)) ∧ w'.cell? (adr ap1A (Int.toNat (andI t35 (fullI ap0)))) = some (.int .i64 (gI ap1 (andI t35 (fullI ap0)))) ∧ w'.cell? ⟨b9, 1, none⟩ = some (.slice bp1A bp1.length bp1C) ∧ w'.cell? ⟨b3, 0, none⟩ = some (.int .i64 ap0) ∧ w'.cell? (adr bp1A (Int.toNat (shrI t35 ap0))) = some (.int .i64 (gI bp1 (shrI t35 ap0))) ∧ w'.cell? ⟨b3, 0, none⟩ = some (.int .i64 ap0) ∧ True) [1, 3, 5, 9, 11, 14, 17, 19] 26 (by kernel_rfl) rfl ?_
              intro w192 he193; have hS194 := St.go hS173 he193; clear hS173
              refine d_pure (v := .pointer (some ⟨b140, 1, none⟩)) 0 rfl hE191 (y_field rfl (fun _ => by kernel_rfl)) rfl (by kernel_rfl) (by kernel_rfl) (by kernel_rfl) rfl rfl (fun _ _ _ h => h) ?_; intro a195 hE196; clear hE191
              refine d_take (v := .slice q6_1A ((q6_1).length) q6_1C) 1 rfl hE196 ⟨(St.cell (i := 2) hS194 rfl rfl _ (Ext.refl _)), (St.cell (i := 7) hS194 rfl rfl _ (Ext.refl _)), (St.row (i := 7) hS194 rfl _ (Ext.refl _)), (RdS.elt (St.rdR (i := 6) hS194 rfl) (by omega) (by omega) _ (Ext.refl _)), (St.cell (i := 5) hS194 rfl rfl _ (Ext.refl _)), (St.cell (i := 7) hS194 rfl rfl _ (Ext.refl _)), (RdS.elt (St.rdR (i := 4) hS194 rfl) (by omega) (by omega) _ (Ext.refl _)), (St.cell (i := 7) hS194 rfl rfl _ (Ext.refl _)), trivial⟩ (y_load (fun _ => by kernel_rfl) rfl (fun _ h => h.1)) rfl rfl (by kernel_rfl) (by kernel_rfl) (by kernel_rfl) rfl rfl (fun _ _ _ h => h) ?_; intro a197 hE198; clear hE196
              refine d_pure (v := .pointer (some ⟨b3, 1, none⟩)) 2 rfl hE198 (y_field rfl (fun _ => by kernel_rfl)) rfl (by kernel_rfl) (by kernel_rfl) (by kernel_rfl) rfl rfl (fun _ _ _ h => h) ?_; intro a199 hE200; clear hE198
              refine d_take (v := .slice ap1A ap1.length ap1C) 3 rfl hE200 ⟨(St.cell (i := 2) hS194 rfl rfl _ (Ext.refl _)), (St.cell (i := 7) hS194 rfl rfl _ (Ext.refl _)), (St.row (i := 7) hS194 rfl _ (Ext.refl _)), (RdS.elt (St.rdR (i := 6) hS194 rfl) (by omega) (by omega) _ (Ext.refl _)), (St.cell (i := 5) hS194 rfl rfl _ (Ext.refl _)), (St.cell (i := 7) hS194 rfl rfl _ (Ext.refl _)), (RdS.elt (St.rdR (i := 4) hS194 rfl) (by omega) (by omega) _ (Ext.refl _)), (St.cell (i := 7) hS194 rfl rfl _ (Ext.refl _)), trivial⟩ (y_load (fun _ => by kernel_rfl) rfl (fun _ h => h.2.1)) rfl rfl (by kernel_rfl) (by kernel_rfl) (by kernel_rfl) rfl rfl (fun _ _ _ h => h) ?_; intro a201 hE202; clear hE200
              refine d_pure (v := .int .i64 t35) 4 rfl hE202 (y_move rfl) rfl (by kernel_rfl) (by kernel_rfl) (by kernel_rfl) rfl rfl (fun _ _ _ h => h) ?_; intro a203 hE204; clear hE202
              refine d_take (v := .agg #[.int .i64 ap0, .slice ap1A ap1.length ap1C]) 5 rfl hE204 ⟨(St.cell (i := 2) hS194 rfl rfl _ (Ext.refl _)), (St.cell (i := 7) hS194 rfl rfl _ (Ext.refl _)), (St.row (i := 7) hS194 rfl _ (Ext.refl _)), (RdS.elt (St.rdR (i := 6) hS194 rfl) (by omega) (by omega) _ (Ext.refl _)), (St.cell (i := 5) hS194 rfl rfl _ (Ext.refl _)), (St.cell (i := 7) hS194 rfl rfl _ (Ext.refl _)), (RdS.elt (St.rdR (i := 4) hS194 rfl) (by omega) (by omega) _ (Ext.refl _)), (St.cell (i := 7) hS194 rfl rfl _ (Ext.refl _)), trivial⟩ (y_loadS Try.underlying43 rfl (by kernel_rfl) rfl (fun _ h => h.2.2.1)) rfl rfl (by kernel_rfl) (by kernel_rfl) (by kernel_rfl) rfl rfl (fun _ _ _ h => h) ?_; intro a205 hE206; clear hE204
              refine d_pure (v := .pointer (some ⟨b9, 1, none⟩)) 10 rfl hE206 (y_field rfl (fun _ => by kernel_rfl)) rfl (by kernel_rfl) (by kernel_rfl) (by kernel_rfl) rfl rfl (fun _ _ _ h => h) ?_; intro a207 hE208; clear hE206
              refine d_take (v := .slice bp1A bp1.length bp1C) 11 rfl hE208 ⟨(St.cell (i := 2) hS194 rfl rfl _ (Ext.refl _)), (St.cell (i := 7) hS194 rfl rfl _ (Ext.refl _)), (St.row (i := 7) hS194 rfl _ (Ext.refl _)), (RdS.elt (St.rdR (i := 6) hS194 rfl) (by omega) (by omega) _ (Ext.refl _)), (St.cell (i := 5) hS194 rfl rfl _ (Ext.refl _)), (St.cell (i := 7) hS194 rfl rfl _ (Ext.refl _)), (RdS.elt (St.rdR (i := 4) hS194 rfl) (by omega) (by omega) _ (Ext.refl _)), (St.cell (i := 7) hS194 rfl rfl _ (Ext.refl _)), trivial⟩ (y_load (fun _ => by kernel_rfl) rfl (fun _ h => h.2.2.2.2.1)) rfl rfl (by kernel_rfl) (by kernel_rfl) (by kernel_rfl) rfl rfl (fun _ _ _ h => h) ?_; intro a209 hE210; clear hE208
              refine d_pure (v := .int .i64 t35) 12 rfl hE210 (y_move rfl) rfl (by kernel_rfl) (by kernel_rfl) (by kernel_rfl) rfl rfl (fun _ _ _ h => h) ?_; intro a211 hE212; clear hE210
              refine d_pure (v := .pointer (some ⟨b3, 0, none⟩)) 13 rfl hE212 (y_field rfl (fun _ => by kernel_rfl)) rfl (by kernel_rfl) (by kernel_rfl) (by kernel_rfl) rfl rfl (fun _ _ _ h => h) ?_; intro a213 hE214; clear hE212
              refine d_take (v := .int .i64 ap0) 14 rfl hE214 ⟨(St.cell (i := 2) hS194 rfl rfl _ (Ext.refl _)), (St.cell (i := 7) hS194 rfl rfl _ (Ext.refl _)), (St.row (i := 7) hS194 rfl _ (Ext.refl _)), (RdS.elt (St.rdR (i := 6) hS194 rfl) (by omega) (by omega) _ (Ext.refl _)), (St.cell (i := 5) hS194 rfl rfl _ (Ext.refl _)), (St.cell (i := 7) hS194 rfl rfl _ (Ext.refl _)), (RdS.elt (St.rdR (i := 4) hS194 rfl) (by omega) (by omega) _ (Ext.refl _)), (St.cell (i := 7) hS194 rfl rfl _ (Ext.refl _)), trivial⟩ (y_load (fun _ => by kernel_rfl) rfl (fun _ h => h.2.2.2.2.2.1)) rfl rfl (by kernel_rfl) (by kernel_rfl) (by kernel_rfl) rfl rfl (fun _ _ _ h => h) ?_; intro a215 hE216; clear hE214
              refine d_pure (v := .int .i64 (shrI t35 ap0)) 15 rfl hE216 (y_shr rfl rfl (by omega)) rfl (by kernel_rfl) (by kernel_rfl) (by kernel_rfl) rfl rfl (fun _ _ _ h => h) ?_; intro a217 hE218; clear hE216
              refine d_pure (v := .pointer (some (adr bp1A (Int.toNat (shrI t35 ap0))))) 16 rfl hE218 (y_idx (by kernel_rfl) (fun _ => by kernel_rfl) rfl rfl (RdS.isS (m := shrI t35 ap0) (St.rdR (i := 4) hS194 rfl) (by omega) (by omega)) (by omega) (by omega) (Nat.mul_one _).symm) rfl (by kernel_rfl) (by kernel_rfl) (by kernel_rfl) rfl rfl (fun _ _ _ h => h) ?_; intro a219 hE220; clear hE218
              refine d_take (v := .int .i64 (gI bp1 (shrI t35 ap0))) 17 rfl hE220 ⟨(St.cell (i := 2) hS194 rfl rfl _ (Ext.refl _)), (St.cell (i := 7) hS194 rfl rfl _ (Ext.refl _)), (St.row (i := 7) hS194 rfl _ (Ext.refl _)), (RdS.elt (St.rdR (i := 6) hS194 rfl) (by omega) (by omega) _ (Ext.refl _)), (St.cell (i := 5) hS194 rfl rfl _ (Ext.refl _)), (St.cell (i := 7) hS194 rfl rfl _ (Ext.refl _)), (RdS.elt (St.rdR (i := 4) hS194 rfl) (by omega) (by omega) _ (Ext.refl _)), (St.cell (i := 7) hS194 rfl rfl _ (Ext.refl _)), trivial⟩ (y_load (fun _ => by kernel_rfl) rfl (fun _ h => h.2.2.2.2.2.2.1)) rfl rfl (by kernel_rfl) (by kernel_rfl) (by kernel_rfl) rfl rfl (fun _ _ _ h => h) ?_; intro a221 hE222; clear hE220
              refine d_pure (v := .pointer (some ⟨b3, 0, none⟩)) 18 rfl hE222 (y_field rfl (fun _ => by kernel_rfl)) rfl (by kernel_rfl) (by kernel_rfl) (by kernel_rfl) rfl rfl (fun _ _ _ h => h) ?_; intro a223 hE224; clear hE222
              refine d_take (v := .int .i64 ap0) 19 rfl hE224 ⟨(St.cell (i := 2) hS194 rfl rfl _ (Ext.refl _)), (St.cell (i := 7) hS194 rfl rfl _ (Ext.refl _)), (St.row (i := 7) hS194 rfl _ (Ext.refl _)), (RdS.elt (St.rdR (i := 6) hS194 rfl) (by omega) (by omega) _ (Ext.refl _)), (St.cell (i := 5) hS194 rfl rfl _ (Ext.refl _)), (St.cell (i := 7) hS194 rfl rfl _ (Ext.refl _)), (RdS.elt (St.rdR (i := 4) hS194 rfl) (by omega) (by omega) _ (Ext.refl _)), (St.cell (i := 7) hS194 rfl rfl _ (Ext.refl _)), trivial⟩ (y_load (fun _ => by kernel_rfl) rfl (fun _ h => h.2.2.2.2.2.2.2.1)) rfl rfl (by kernel_rfl) (by kernel_rfl) (by kernel_rfl) rfl rfl (fun _ _ _ h => h) ?_; intro a225 hE226; clear hE224
              refine d_pure (v := .int .i64 (shlI (gI bp1 (shrI t35 ap0)) ap0)) 20 rfl hE226 (y_shl rfl rfl (by omega)) rfl (by kernel_rfl) (by kernel_rfl) (by kernel_rfl) rfl rfl (fun _ _ _ h => h) ?_; intro a227 hE228; clear hE226
              refine d_only 6 (by kernel_rfl) rfl hE228 rfl (l_call (f := 78) (argv := [.agg #[.int .i64 ap0, .slice ap1A ap1.length ap1C]]) hE228 (fun _ => cf_ModalAlgebra_full _ _) rfl rfl (d_ModalAlgebra_full ap0 ap1A ap1.length ap1C ap1 w192 (St.rdR (i := 6) hS194 rfl) (by omega) (by omega)) ?_)
              rintro _ w230 ⟨rfl, he234⟩ a231 hE232; clear hE228
              have hf235 := fullI_bd (n := ap0) (by omega) (by omega)
              have hS233 := St.go hS194 he234; clear hS194
              refine ⟨fun _ _ => ⟨(St.cell (i := 2) hS233 rfl rfl _ (Ext.refl _)), (St.cell (i := 7) hS233 rfl rfl _ (Ext.refl _)), (St.row (i := 7) hS233 rfl _ (Ext.refl _)), (RdS.elt (St.rdR (i := 6) hS233 rfl) (by omega) (by omega) _ (Ext.refl _)), (St.cell (i := 5) hS233 rfl rfl _ (Ext.refl _)), (St.cell (i := 7) hS233 rfl rfl _ (Ext.refl _)), (RdS.elt (St.rdR (i := 4) hS233 rfl) (by omega) (by omega) _ (Ext.refl _)), (St.cell (i := 7) hS233 rfl rfl _ (Ext.refl _)), trivial⟩, ?_⟩
              refine d_pure (v := .int .i64 (andI t35 (fullI ap0))) 7 rfl hE232 (y_and rfl rfl) rfl (by kernel_rfl) (by kernel_rfl) (by kernel_rfl) rfl rfl (fun _ _ _ h => h) ?_; intro a236 hE237; clear hE232
              refine d_pure (v := .pointer (some (adr ap1A (Int.toNat (andI t35 (fullI ap0)))))) 8 rfl hE237 (y_idx (by kernel_rfl) (fun _ => by kernel_rfl) rfl rfl (RdS.isS (m := andI t35 (fullI ap0)) (St.rdR (i := 6) hS233 rfl) (by omega) (by omega)) (by omega) (by omega) (Nat.mul_one _).symm) rfl (by kernel_rfl) (by kernel_rfl) (by kernel_rfl) rfl rfl (fun _ _ _ h => h) ?_; intro a238 hE239; clear hE237
              refine d_take (v := .int .i64 (gI ap1 (andI t35 (fullI ap0)))) 9 rfl hE239 ⟨(St.cell (i := 2) hS233 rfl rfl _ (Ext.refl _)), (St.cell (i := 7) hS233 rfl rfl _ (Ext.refl _)), (St.row (i := 7) hS233 rfl _ (Ext.refl _)), (RdS.elt (St.rdR (i := 6) hS233 rfl) (by omega) (by omega) _ (Ext.refl _)), (St.cell (i := 5) hS233 rfl rfl _ (Ext.refl _)), (St.cell (i := 7) hS233 rfl rfl _ (Ext.refl _)), (RdS.elt (St.rdR (i := 4) hS233 rfl) (by omega) (by omega) _ (Ext.refl _)), (St.cell (i := 7) hS233 rfl rfl _ (Ext.refl _)), trivial⟩ (y_load (fun _ => by kernel_rfl) rfl (fun _ h => h.2.2.2.1)) rfl rfl (by kernel_rfl) (by kernel_rfl) (by kernel_rfl) rfl rfl (fun _ _ _ h => h) ?_; intro a240 hE241; clear hE239
              refine d_pure (v := .int .i64 (orI (gI ap1 (andI t35 (fullI ap0))) (shlI (gI bp1 (shrI t35 ap0)) ap0))) 21 rfl hE241 (y_or rfl rfl) rfl (by kernel_rfl) (by kernel_rfl) (by kernel_rfl) rfl rfl (fun _ _ _ h => h) ?_; intro a242 hE243; clear hE241
              refine d_only 22 (by kernel_rfl) rfl hE243 rfl (l_lit (e := 2) (s := 1) (xs := [orI (gI ap1 (andI t35 (fullI ap0))) (shlI (gI bp1 (shrI t35 ap0)) ap0)]) (vs := [.int .i64 (orI (gI ap1 (andI t35 (fullI ap0))) (shlI (gI bp1 (shrI t35 ap0)) ap0))]) hS233 hE243 rfl (fun _ => by kernel_rfl) rfl rfl rfl ?_)
              intro b244 w245 hS248 he249 a246 hE247; clear hS233 hE243
              refine ⟨fun _ _ => ⟨(St.cell (i := 3) hS248 rfl rfl _ (Ext.refl _)), (St.cell (i := 8) hS248 rfl rfl _ (Ext.refl _)), (St.row (i := 8) hS248 rfl _ (Ext.refl _)), (RdS.elt (St.rdR (i := 7) hS248 rfl) (by omega) (by omega) _ (Ext.refl _)), (St.cell (i := 6) hS248 rfl rfl _ (Ext.refl _)), (St.cell (i := 8) hS248 rfl rfl _ (Ext.refl _)), (RdS.elt (St.rdR (i := 5) hS248 rfl) (by omega) (by omega) _ (Ext.refl _)), (St.cell (i := 8) hS248 rfl rfl _ (Ext.refl _)), trivial⟩, ?_⟩
              obtain ⟨_, hi1, hi2, hi3, hi4⟩ := info_parts (show (Try.prog.info? 2).map (fun i => (i.zero, i.size, i.bytes)) = some (some (.int .i64 0), 1, 8) by kernel_rfl)
              refine d_only 23 (by kernel_rfl) rfl hE247 rfl (l_append (k := 2) (n' := (q6_1 ++ ([orI (gI ap1 (andI t35 (fullI ap0))) (shlI (gI bp1 (shrI t35 ap0)) ap0)])).length) hS248 hE247 (by kernel_rfl) hi1 hi2 hi3 rfl (by decide) (by rw [hi4]; decide) rfl rfl rfl (St.rdO (i := 0) hS248 rfl) (by first | omega | (simp only [List.length_append, List.length_cons, List.length_nil]; omega)) (by have h1 := (St.rdO (i := 2) hS248 rfl).len1; have h2 := (St.rdO (i := 0) hS248 rfl).len1; rw [List.length_append, h1, h2]) rfl ?_)
              intro b250 c256 w251 hS254 a252 hE253; clear hS248 hE247 hi1 hi2 hi3 hi4
              refine ⟨fun _ _ => ⟨(St.cell (i := 3) hS254 rfl rfl _ (Ext.refl _)), (St.cell (i := 8) hS254 rfl rfl _ (Ext.refl _)), (St.row (i := 8) hS254 rfl _ (Ext.refl _)), (RdS.elt (St.rdR (i := 7) hS254 rfl) (by omega) (by omega) _ (Ext.refl _)), (St.cell (i := 6) hS254 rfl rfl _ (Ext.refl _)), (St.cell (i := 8) hS254 rfl rfl _ (Ext.refl _)), (RdS.elt (St.rdR (i := 5) hS254 rfl) (by omega) (by omega) _ (Ext.refl _)), (St.cell (i := 8) hS254 rfl rfl _ (Ext.refl _)), trivial⟩, ?_⟩
              refine d_pure (v := .pointer (some ⟨b140, 1, none⟩)) 24 rfl hE253 (y_field rfl (fun _ => by kernel_rfl)) rfl (by kernel_rfl) (by kernel_rfl) (by kernel_rfl) rfl rfl (fun _ _ _ h => h) ?_; intro a257 hE258; clear hE253
              refine d_only 25 (by kernel_rfl) rfl hE258 rfl (l_storeB (k := 3) (cs' := #[.int .i64 (ap0 + bp0), .slice b250 ((q6_1 ++ ([orI (gI ap1 (andI t35 (fullI ap0))) (shlI (gI bp1 (shrI t35 ap0)) ap0)])).length) c256]) hS254 hE258 (fun _ => by kernel_rfl) rfl rfl rfl rfl rfl rfl rfl ?_)
              intro w260 hS263 a261 hE262; clear hS254 hE258
              refine ⟨fun h => Bool.noConfusion (h.symm.trans (show exm _ _ _ = true by kernel_rfl)), ?_⟩
              refine d_done (by kernel_rfl) ?_
              have hE265 := hE262.sub (L' := [(2, .pointer (some ⟨b3, 0, none⟩)), (3, .pointer (some ⟨b9, 0, none⟩)), (4, .pointer (some ⟨b15, 0, none⟩)), (6, .pointer (some ⟨b140, 0, none⟩)), (34, .int .i64 ((fullI (ap0 + bp0)) + 1)), (35, .int .i64 t35)]) ⟨rfl, rfl, rfl, rfl, rfl, rfl, trivial⟩; clear hE262
              refine p_bn ?_
              refine p_tn ?_
              refine c_reg ?_
              refine q_step (v := .int .i64 (t35 + 1)) hE265 (y_add rfl rfl ⟨(by omega), (by omega)⟩) rfl rfl rfl ?_; intro a266 hE267; clear hE265
              refine q_step (v := .int .i64 (t35 + 1)) hE267 (y_move rfl) rfl rfl rfl ?_; intro a268 hE269; clear hE267
              refine c_nil ?_
              have hE270 := hE269.sub (L' := [(2, .pointer (some ⟨b3, 0, none⟩)), (3, .pointer (some ⟨b9, 0, none⟩)), (4, .pointer (some ⟨b15, 0, none⟩)), (6, .pointer (some ⟨b140, 0, none⟩)), (34, .int .i64 ((fullI (ap0 + bp0)) + 1)), (35, .int .i64 (t35 + 1))]) ⟨rfl, rfl, rfl, rfl, rfl, rfl, trivial⟩; clear hE269
              refine p_tn ⟨r180, Nat.lt_succ_self _, t35 + 1, q6_1 ++ ([orI (gI ap1 (andI t35 (fullI ap0))) (shlI (gI bp1 (shrI t35 ap0)) ap0)]), b250, c256, (hT174.symm.trans (show F_ModalProduct_L1b ap0 ap1 bp0 bp1 (F_ModalProduct_L1 ap0 ap1 bp0 bp1 r180) t35 q6_1 = F_ModalProduct_L1 ap0 ap1 bp0 bp1 r180 (t35 + 1) (q6_1 ++ ([orI (gI ap1 (andI t35 (fullI ap0))) (shlI (gI bp1 (shrI t35 ap0)) ap0)])) by unfold F_ModalProduct_L1b; rw [ht184]; first | done | rfl)).symm, (by omega), (by first | omega | (simp only [List.length_append, List.length_cons, List.length_nil, sI_len, cond_true, cond_false]; omega) | (simp only [List.length_append, List.length_cons, List.length_nil, sI_len, cond_eq_ite, apply_ite List.length]; split <;> simp only [List.length_append, List.length_cons, List.length_nil, sI_len] <;> omega) | grind), (by first | omega | (simp only [List.length_append, List.length_cons, List.length_nil, sI_len, cond_true, cond_false]; omega) | (simp only [List.length_append, List.length_cons, List.length_nil, sI_len, cond_eq_ite, apply_ite List.length]; split <;> simp only [List.length_append, List.length_cons, List.length_nil, sI_len] <;> omega) | grind), (by first | omega | (simp only [List.length_append, List.length_cons, List.length_nil, sI_len, cond_true, cond_false]; omega) | (simp only [List.length_append, List.length_cons, List.length_nil, sI_len, cond_eq_ite, apply_ite List.length]; split <;> simp only [List.length_append, List.length_cons, List.length_nil, sI_len] <;> omega) | grind), (by first | omega | (simp only [List.length_append, List.length_cons, List.length_nil, sI_len, cond_true, cond_false]; omega) | (simp only [List.length_append, List.length_cons, List.length_nil, sI_len, cond_eq_ite, apply_ite List.length]; split <;> simp only [List.length_append, List.length_cons, List.length_nil, sI_len] <;> omega) | grind), (hE270.sub (L' := [(2, .pointer (some ⟨b3, 0, none⟩)), (3, .pointer (some ⟨b9, 0, none⟩)), (4, .pointer (some ⟨b15, 0, none⟩)), (6, .pointer (some ⟨b140, 0, none⟩)), (34, .int .i64 ((fullI (ap0 + bp0)) + 1)), (35, .int .i64 (t35 + 1))]) ⟨rfl, rfl, rfl, rfl, rfl, rfl, trivial⟩), (St.pick (Γ' := [.own 2 1 none 0 0 ([]), .own 2 1 b250 ((q6_1 ++ ([orI (gI ap1 (andI t35 (fullI ap0))) (shlI (gI bp1 (shrI t35 ap0)) ap0)])).length) c256 (q6_1 ++ ([orI (gI ap1 (andI t35 (fullI ap0))) (shlI (gI bp1 (shrI t35 ap0)) ap0)])), .blk b140 #[.int .i64 (ap0 + bp0), .slice b250 ((q6_1 ++ ([orI (gI ap1 (andI t35 (fullI ap0))) (shlI (gI bp1 (shrI t35 ap0)) ap0)])).length) c256] 43, .blk b15 #[.int .i64 0, .slice none 0 0] 43, .rd 1 bp1A bp1.length bp1C bp1, .blk b9 #[.int .i64 bp0, .slice bp1A bp1.length bp1C] 43, .rd 1 ap1A ap1.length ap1C ap1, .blk b3 #[.int .i64 ap0, .slice ap1A ap1.length ap1C] 43]) hS263 [1, 2, 3, 4, 5, 6, 7, 8] (by decide) rfl)⟩
            ·
              have hp271 := of_decide_eq_false ht184
              have hE272 := hE183; rw [ht184] at hE272; clear hE183
              refine wp_exit ?_
              refine p_te ?_
              have hX273 : F_ModalProduct_L1 ap0 ap1 bp0 bp1 (Int.toNat (((fullI (ap0 + bp0)) + 1) - 0) + 1) 0 ([]) = (t35, q6_1) := hT174.symm.trans (show F_ModalProduct_L1b ap0 ap1 bp0 bp1 (F_ModalProduct_L1 ap0 ap1 bp0 bp1 r180) t35 q6_1 = (t35, q6_1) by unfold F_ModalProduct_L1b; rw [ht184]; first | done | rfl)
              refine p_te (p_be (p_tn ?_))
              exact ⟨q6_1A, q6_1C, (by rw [hX273]; exact (show 0 ≤ t35 from (by first | omega | (simp only [List.length_append, List.length_cons, List.length_nil, sI_len, cond_true, cond_false]; omega) | (simp only [List.length_append, List.length_cons, List.length_nil, sI_len, cond_eq_ite, apply_ite List.length]; split <;> simp only [List.length_append, List.length_cons, List.length_nil, sI_len] <;> omega) | grind))), (by rw [hX273]; exact (show (q6_1.length : Int) = t35 from (by first | omega | (simp only [List.length_append, List.length_cons, List.length_nil, sI_len, cond_true, cond_false]; omega) | (simp only [List.length_append, List.length_cons, List.length_nil, sI_len, cond_eq_ite, apply_ite List.length]; split <;> simp only [List.length_append, List.length_cons, List.length_nil, sI_len] <;> omega) | grind))), (by rw [hX273]; exact (show t35 ≤ fullI (ap0 + bp0) + 1 from (by first | omega | (simp only [List.length_append, List.length_cons, List.length_nil, sI_len, cond_true, cond_false]; omega) | (simp only [List.length_append, List.length_cons, List.length_nil, sI_len, cond_eq_ite, apply_ite List.length]; split <;> simp only [List.length_append, List.length_cons, List.length_nil, sI_len] <;> omega) | grind))), (by rw [hX273]; exact (show (q6_1.length : Int) ≤ t35 from (by first | omega | (simp only [List.length_append, List.length_cons, List.length_nil, sI_len, cond_true, cond_false]; omega) | (simp only [List.length_append, List.length_cons, List.length_nil, sI_len, cond_eq_ite, apply_ite List.length]; split <;> simp only [List.length_append, List.length_cons, List.length_nil, sI_len] <;> omega) | grind))), (by rw [hX273]; exact (hE272.sub (L' := [(2, .pointer (some ⟨b3, 0, none⟩)), (3, .pointer (some ⟨b9, 0, none⟩)), (4, .pointer (some ⟨b15, 0, none⟩)), (6, .pointer (some ⟨b140, 0, none⟩)), (34, .int .i64 ((fullI (ap0 + bp0)) + 1)), (35, .int .i64 t35)]) ⟨rfl, rfl, rfl, rfl, rfl, rfl, trivial⟩)), (by rw [hX273]; exact (St.pick (Γ' := [.own 2 1 none 0 0 ([]), .own 2 1 q6_1A ((q6_1).length) q6_1C q6_1, .blk b140 #[.int .i64 (ap0 + bp0), .slice q6_1A ((q6_1).length) q6_1C] 43, .blk b15 #[.int .i64 0, .slice none 0 0] 43, .rd 1 bp1A bp1.length bp1C bp1, .blk b9 #[.int .i64 bp0, .slice bp1A bp1.length bp1C] 43, .rd 1 ap1A ap1.length ap1C ap1, .blk b3 #[.int .i64 ap0, .slice ap1A ap1.length ap1C] 43]) hS173 [0, 1, 2, 3, 4, 5, 6, 7] (by decide) rfl))⟩
        ·
          rintro a274 w275 ⟨q6_1A_169, q6_1C_169, hi279, hi280, hi281, hi282, hE276, hS277⟩; clear hE166 hS168
          refine p_tn ?_
          refine c_seq ?_
          refine c_reg ?_
          refine q_step (v := .agg #[.int .i64 (ap0 + bp0), .slice q6_1A_169 (((F_ModalProduct_L1 ap0 ap1 bp0 bp1 (Int.toNat (((fullI (ap0 + bp0)) + 1) - 0) + 1) 0 ([])).2).length) q6_1C_169]) hE276 (y_loadS Try.underlying43 rfl (by kernel_rfl) rfl (St.row (i := 2) hS277 rfl)) rfl rfl rfl ?_; intro a283 hE284; clear hE276
          refine l_step hE284 rfl (l_storeS (k := 3) (cs' := #[.int .i64 (ap0 + bp0), .slice q6_1A_169 (((F_ModalProduct_L1 ap0 ap1 bp0 bp1 (Int.toNat (((fullI (ap0 + bp0)) + 1) - 0) + 1) 0 ([])).2).length) q6_1C_169]) hS277 hE284 (by kernel_rfl) rfl rfl (by kernel_rfl) rfl rfl ?_)
          intro w286 hS289 a287 hE288; clear hS277 hE284
          refine q_step (v := .int .i64 0) hE288 (y_assign rfl) rfl rfl rfl ?_; intro a291 hE292; clear hE288
          refine c_nil ?_
          have hE293 := hE292.sub (L' := [(4, .pointer (some ⟨b15, 0, none⟩)), (5, .int .i64 0)]) ⟨rfl, rfl, trivial⟩; clear hE292
          refine p_tn ?_
          refine wp_ret ?_
          have hF : F_ModalProduct ap0 ap1 bp0 bp1 = ((ap0 + bp0, (F_ModalProduct_L1 ap0 ap1 bp0 bp1 (Int.toNat (((fullI (ap0 + bp0)) + 1) - 0) + 1) 0 ([])).2), 0) := by unfold F_ModalProduct; rw [ht111, ht76]; first | done | rfl
          refine c_retC2 hE293 rfl rfl rfl Try.underlying43 rfl (by kernel_rfl) (St.row (i := 3) hS289 rfl _ (Ext.refl _)) ?_
          exact ⟨q6_1A_169, q6_1C_169, (by rw [hF]; first | done | rfl), (by rw [hF]; exact hS289.ok 1 _ rfl), hS289.ext⟩

theorem Prod_loop (ap0 : Int) (ap1 : List Int) (bp0 : Int) (bp1 : List Int) (r : Nat) (x : Int) (xs : List Int) : F_ModalProduct_L1 ap0 ap1 bp0 bp1 r x xs = F_s_ModalProduct_L1 ap0 ap1 bp0 bp1 r x xs := by
  induction r generalizing xs x with
  | zero => rfl
  | succ r ih =>
    show F_ModalProduct_L1b ap0 ap1 bp0 bp1 _ x xs = F_s_ModalProduct_L1b ap0 ap1 bp0 bp1 _ x xs
    unfold F_ModalProduct_L1b F_s_ModalProduct_L1b
    rw [ih, show decide (x < fullI (ap0 + bp0) + 1) = decide (x ≤ fullI (ap0 + bp0)) from decide_eq_decide.2 (by omega)]
theorem ModalProduct_eq (ap0 : Int) (ap1 : List Int) (bp0 : Int) (bp1 : List Int) : F_ModalProduct ap0 ap1 bp0 bp1 = F_s_ModalProduct ap0 ap1 bp0 bp1 := by
  unfold F_ModalProduct F_s_ModalProduct
  rw [isModal_eq, isModal_eq, Prod_loop]
theorem Prod_len (ap0 : Int) (ap1 : List Int) (bp0 : Int) (bp1 : List Int) (r : Nat) (x : Int) (xs : List Int) : (F_s_ModalProduct_L1 ap0 ap1 bp0 bp1 r x xs).2.length ≤ xs.length + r := by
  induction r generalizing xs x with
  | zero => exact Nat.le_refl _
  | succ r ih =>
    show (F_s_ModalProduct_L1b ap0 ap1 bp0 bp1 _ x xs).2.length ≤ _
    unfold F_s_ModalProduct_L1b
    cases decide (x ≤ fullI (ap0 + bp0))
    · simp <;> omega
    · simp only [cond_true]
      refine Nat.le_trans (ih _ _) ?_
      simp <;> omega
theorem ModalProduct_len (ap0 : Int) (ap1 : List Int) (bp0 : Int) (bp1 : List Int) : (F_ModalProduct ap0 ap1 bp0 bp1).1.2.length ≤ 40 := by
  rw [ModalProduct_eq]
  unfold F_s_ModalProduct
  cases h1 : ((!(F_l15Is ap0 ap1)) || (!(F_l15Is bp0 bp1)))
  · cases h2 : decide (5 < ap0 + bp0)
    · obtain ⟨h3, h4⟩ := bor_f h1
      have ha := (l15Is_t (bn_f h3)).1
      have hb := (l15Is_t (bn_f h4)).1
      have hc := sum5 (of_decide_eq_false h2) (by omega)
      have := Prod_len ap0 ap1 bp0 bp1 (Int.toNat (fullI (ap0 + bp0) + 1 - 0) + 1) 0 []
      simp only [cond_false]
      refine Nat.le_trans this ?_
      simp <;> omega
    · simp
  · simp

end Go.Proofs.Ytfilpikakdlgbaa
