/- GPS: models and contracts, printed by wip/gen/gen.py -/
import Derived.Test.YthogljcjjmclcaaGPO
set_option linter.unusedVariables false
set_option linter.unusedSimpArgs false
namespace Go.Proofs.Ythogljcjjmclcaa
open Go.RowKit

def F_l16Two (pp0 : Int) (pp1 : List Int) (qp0 : Int) (qp1 : List Int) : Int :=
  bif ((!(F_l16Is pp0 pp1)) || (!(F_l16Is qp0 qp1))) then 1 else (bif (decide (8 < (pp0 + qp0))) then 3 else 0)
theorem cf_l16Two (args : Array Value) (w : World) : (callFunc 71 args).run Try.prog w = .ok (.enter 71 args) w := by kernel_rfl
set_option maxRecDepth 100000 in
theorem c_l16Two (pp0 : Int) (pp1A : Option Addr) (pp1N pp1C : Nat) (pp1 : List Int) (qp0 : Int) (qp1A : Option Addr) (qp1N qp1C : Nat) (qp1 : List Int) (w : World) (pp1R : RdS w 1 pp1A pp1N pp1C pp1) (qp1R : RdS w 1 qp1A qp1N qp1C qp1) :
    Calls Try.prog 71 #[.agg #[.int .i64 pp0, .slice pp1A pp1N pp1C], .agg #[.int .i64 qp0, .slice qp1A qp1N qp1C]] w (Ret fun v w' => v = .int .i64 (F_l16Two pp0 pp1 qp0 qp1) ∧ Ext w w') := by
  obtain rfl : pp1N = pp1.length := pp1R.len1.symm
  have pp1Le := pp1R.le
  obtain rfl : qp1N = qp1.length := qp1R.len1.symm
  have qp1Le := qp1R.le
  have hS := St.nil w
  have hS1 := St.rd0 hS rfl pp1R; clear hS
  have hS2 := St.rd0 hS1 rfl qp1R; clear hS1
  refine enter (args := [.agg #[.int .i64 pp0, .slice pp1A pp1.length pp1C], .agg #[.int .i64 qp0, .slice qp1A qp1.length qp1C]]) Try.func71 rfl rfl ?_
  rw [Try.ntmps71]; intro a hE
  have hE := hE.sub (L' := [(0, .agg #[.int .i64 pp0, .slice pp1A pp1.length pp1C]), (1, .agg #[.int .i64 qp0, .slice qp1A qp1.length qp1C])]) ⟨rfl, rfl, trivial⟩
  refine c_seq ?_
  refine c_reg ?_
  refine l_step hE rfl (l_box (v := .agg #[.int .i64 pp0, .slice pp1A pp1.length pp1C]) (cs := #[.int .i64 pp0, .slice pp1A pp1.length pp1C]) hS2 hE rfl rfl rfl ?_)
  intro b3 w4 hS7 he8 a5 hE6; clear hS2 hE
  refine l_step hE6 rfl (l_box (v := .agg #[.int .i64 qp0, .slice qp1A qp1.length qp1C]) (cs := #[.int .i64 qp0, .slice qp1A qp1.length qp1C]) hS7 hE6 rfl rfl rfl ?_)
  intro b9 w10 hS13 he14 a11 hE12; clear hS7 hE6
  refine q_step (v := .int .i64 0) hE12 (y_assign rfl) rfl rfl rfl ?_; intro a15 hE16; clear hE12
  refine c_nil ?_
  have hE17 := hE16.sub (L' := [(2, .pointer (some ⟨b3, 0, none⟩)), (3, .pointer (some ⟨b9, 0, none⟩))]) ⟨rfl, rfl, trivial⟩; clear hE16
  refine p_tn ?_
  refine c_seq ?_
  refine wp_block ?_
  refine c_cut (fun a' w' => E a' 21 [(2, .pointer (some ⟨b3, 0, none⟩)), (3, .pointer (some ⟨b9, 0, none⟩)), (5, .bool ((!(F_l16Is pp0 pp1)) || (!(F_l16Is qp0 qp1))))] ∧ St w w' [.rd 1 qp1A qp1.length qp1C qp1, .blk b9 #[.int .i64 qp0, .slice qp1A qp1.length qp1C] 27, .rd 1 pp1A pp1.length pp1C pp1, .blk b3 #[.int .i64 pp0, .slice pp1A pp1.length pp1C] 27]) ?_ ?_
  ·
    refine c_reg ?_
    refine q_step (v := .agg #[.int .i64 pp0, .slice pp1A pp1.length pp1C]) hE17 (y_loadS Try.underlying27 rfl (by kernel_rfl) rfl (St.row (i := 1) hS13 rfl)) rfl rfl rfl ?_; intro a18 hE19; clear hE17
    refine l_step hE19 rfl (l_call (f := 50) (argv := [.agg #[.int .i64 pp0, .slice pp1A pp1.length pp1C]]) hE19 (fun _ => cf_l16Is _ _) rfl rfl (c_l16Is pp0 pp1A pp1.length pp1C pp1 w10 (St.rdR (i := 3) hS13 rfl)) ?_)
    rintro _ w21 ⟨rfl, he25⟩ a22 hE23; clear hE19
    have hS24 := St.go hS13 he25; clear hS13
    refine q_step (v := .bool (!(F_l16Is pp0 pp1))) hE23 (y_not rfl) rfl rfl rfl ?_; intro a26 hE27; clear hE23
    refine q_step (v := .bool (!(F_l16Is pp0 pp1))) hE27 (y_move rfl) rfl rfl rfl ?_; intro a28 hE29; clear hE27
    rcases Bool.eq_false_or_eq_true (!(F_l16Is pp0 pp1)) with hb30 | hb30
    ·
      have hE31 := hE29; rw [hb30] at hE31; clear hE29
      have ht32 := bn_t hb30
      refine q_skip hE31 rfl rfl rfl ?_; intro a33 hE34; clear hE31
      refine q_skip hE34 rfl rfl rfl ?_; intro a35 hE36; clear hE34
      refine q_skip hE36 rfl rfl rfl ?_; intro a37 hE38; clear hE36
      refine q_step (v := .bool true) hE38 (y_pick (b := true) rfl rfl) rfl rfl rfl ?_; intro a39 hE40; clear hE38
      refine q_step (v := .bool true) hE40 (y_assign rfl) rfl rfl rfl ?_; intro a41 hE42; clear hE40
      refine c_nil ?_
      have hE43 := hE42.sub (L' := [(2, .pointer (some ⟨b3, 0, none⟩)), (3, .pointer (some ⟨b9, 0, none⟩)), (5, .bool true)]) ⟨rfl, rfl, rfl, trivial⟩; clear hE42
      refine p_tn ?_
      have hE44 := hE43.sub (L' := [(2, .pointer (some ⟨b3, 0, none⟩)), (3, .pointer (some ⟨b9, 0, none⟩)), (5, .bool true)]) ⟨rfl, rfl, rfl, trivial⟩
      have hS45 := (St.pick (Γ' := [.rd 1 qp1A qp1.length qp1C qp1, .blk b9 #[.int .i64 qp0, .slice qp1A qp1.length qp1C] 27, .rd 1 pp1A pp1.length pp1C pp1, .blk b3 #[.int .i64 pp0, .slice pp1A pp1.length pp1C] 27]) hS24 [2, 0, 3, 1] (by decide) rfl)
      exact ⟨(by rw [hb30]; exact hE44), hS45⟩
    ·
      have hE46 := hE29; rw [hb30] at hE46; clear hE29
      have ht47 := bn_f hb30
      have hp48 := l16Is_t ht47
      refine q_step (v := .agg #[.int .i64 qp0, .slice qp1A qp1.length qp1C]) hE46 (y_loadS Try.underlying27 rfl (by kernel_rfl) rfl (St.row (i := 0) hS24 rfl)) rfl rfl rfl ?_; intro a49 hE50; clear hE46
      refine l_step hE50 rfl (l_call (f := 50) (argv := [.agg #[.int .i64 qp0, .slice qp1A qp1.length qp1C]]) hE50 (fun _ => cf_l16Is _ _) rfl rfl (c_l16Is qp0 qp1A qp1.length qp1C qp1 w21 (St.rdR (i := 2) hS24 rfl)) ?_)
      rintro _ w52 ⟨rfl, he56⟩ a53 hE54; clear hE50
      have hS55 := St.go hS24 he56; clear hS24
      refine q_step (v := .bool (!(F_l16Is qp0 qp1))) hE54 (y_not rfl) rfl rfl rfl ?_; intro a57 hE58; clear hE54
      refine q_step (v := .bool (!(F_l16Is qp0 qp1))) hE58 (y_pick (b := false) rfl rfl) rfl rfl rfl ?_; intro a59 hE60; clear hE58
      refine q_step (v := .bool (!(F_l16Is qp0 qp1))) hE60 (y_assign rfl) rfl rfl rfl ?_; intro a61 hE62; clear hE60
      refine c_nil ?_
      have hE63 := hE62.sub (L' := [(2, .pointer (some ⟨b3, 0, none⟩)), (3, .pointer (some ⟨b9, 0, none⟩)), (5, .bool (!(F_l16Is qp0 qp1)))]) ⟨rfl, rfl, rfl, trivial⟩; clear hE62
      refine p_tn ?_
      have hE64 := hE63.sub (L' := [(2, .pointer (some ⟨b3, 0, none⟩)), (3, .pointer (some ⟨b9, 0, none⟩)), (5, .bool (!(F_l16Is qp0 qp1)))]) ⟨rfl, rfl, rfl, trivial⟩
      have hS65 := (St.pick (Γ' := [.rd 1 qp1A qp1.length qp1C qp1, .blk b9 #[.int .i64 qp0, .slice qp1A qp1.length qp1C] 27, .rd 1 pp1A pp1.length pp1C pp1, .blk b3 #[.int .i64 pp0, .slice pp1A pp1.length pp1C] 27]) hS55 [2, 0, 3, 1] (by decide) rfl)
      exact ⟨(by rw [hb30]; exact hE64), hS65⟩
  ·
    rintro a66 w67 ⟨hE68, hS69⟩; clear hE17 hS13
    refine c_cond hE68 rfl (fun ht71 => ?_) (fun ht71 => ?_)
    ·
      have hE72 := hE68; rw [ht71] at hE72; clear hE68
      refine c_seq ?_
      refine c_reg ?_
      refine q_step (v := .int .i64 1) hE72 (y_assign rfl) rfl rfl rfl ?_; intro a73 hE74; clear hE72
      refine c_nil ?_
      have hE75 := hE74.sub (L' := [(4, .int .i64 1)]) ⟨rfl, trivial⟩; clear hE74
      refine p_tn ?_
      refine wp_ret ?_
      refine p_br ?_
      refine p_tr ?_
      have hF : F_l16Two pp0 pp1 qp0 qp1 = 1 := by unfold F_l16Two; rw [ht71]; first | done | rfl
      refine c_ret1 hE75 rfl rfl ?_
      exact ⟨(by rw [hF]; first | done | rfl), hS69.ext⟩
    ·
      obtain ⟨ht76, ht77⟩ := bor_f ht71
      have ht78 := bn_f ht76
      have hp79 := l16Is_t ht78
      have ht80 := bn_f ht77
      have hp81 := l16Is_t ht80
      have hE82 := hE68; rw [ht71] at hE82; clear hE68
      refine c_seq ?_
      refine c_reg ?_
      refine q_step (v := .pointer (some ⟨b3, 0, none⟩)) hE82 (y_field rfl (fun _ => by kernel_rfl)) rfl rfl rfl ?_; intro a83 hE84; clear hE82
      refine q_step (v := .int .i64 pp0) hE84 (y_load (fun _ => by kernel_rfl) rfl (St.cell (i := 3) hS69 rfl rfl)) rfl rfl rfl ?_; intro a85 hE86; clear hE84
      refine q_step (v := .pointer (some ⟨b9, 0, none⟩)) hE86 (y_field rfl (fun _ => by kernel_rfl)) rfl rfl rfl ?_; intro a87 hE88; clear hE86
      refine q_step (v := .int .i64 qp0) hE88 (y_load (fun _ => by kernel_rfl) rfl (St.cell (i := 1) hS69 rfl rfl)) rfl rfl rfl ?_; intro a89 hE90; clear hE88
      refine q_step (v := .int .i64 (pp0 + qp0)) hE90 (y_add rfl rfl ⟨(by omega), (by omega)⟩) rfl rfl rfl ?_; intro a91 hE92; clear hE90
      refine q_step (v := .bool (decide (8 < (pp0 + qp0)))) hE92 (y_gtr rfl rfl) rfl rfl rfl ?_; intro a93 hE94; clear hE92
      refine q_step (v := .bool (decide (8 < (pp0 + qp0)))) hE94 (y_assign rfl) rfl rfl rfl ?_; intro a95 hE96; clear hE94
      refine c_nil ?_
      have hE97 := hE96.sub (L' := [(14, .bool (decide (8 < (pp0 + qp0))))]) ⟨rfl, trivial⟩; clear hE96
      refine p_tn ?_
      refine c_cond hE97 rfl (fun ht98 => ?_) (fun ht98 => ?_)
      ·
        have hp99 := of_decide_eq_true ht98
        have hE100 := hE97; rw [ht98] at hE100; clear hE97
        refine c_seq ?_
        refine c_reg ?_
        refine q_step (v := .int .i64 3) hE100 (y_assign rfl) rfl rfl rfl ?_; intro a101 hE102; clear hE100
        refine c_nil ?_
        have hE103 := hE102.sub (L' := [(4, .int .i64 3)]) ⟨rfl, trivial⟩; clear hE102
        refine p_tn ?_
        refine wp_ret ?_
        refine p_br ?_
        refine p_tr ?_
        have hF : F_l16Two pp0 pp1 qp0 qp1 = 3 := by unfold F_l16Two; rw [ht98, ht71]; first | done | rfl
        refine c_ret1 hE103 rfl rfl ?_
        exact ⟨(by rw [hF]; first | done | rfl), hS69.ext⟩
      ·
        have hp104 := of_decide_eq_false ht98
        have hE105 := hE97; rw [ht98] at hE105; clear hE97
        refine wp_skip ?_
        refine p_bn ?_
        refine p_tn ?_
        refine c_seq ?_
        refine c_reg ?_
        refine q_step (v := .int .i64 0) hE105 (y_assign rfl) rfl rfl rfl ?_; intro a106 hE107; clear hE105
        refine c_nil ?_
        have hE108 := hE107.sub (L' := [(4, .int .i64 0)]) ⟨rfl, trivial⟩; clear hE107
        refine p_tn ?_
        refine wp_ret ?_
        have hF : F_l16Two pp0 pp1 qp0 qp1 = 0 := by unfold F_l16Two; rw [ht98, ht71]; first | done | rfl
        refine c_ret1 hE108 rfl rfl ?_
        exact ⟨(by rw [hF]; first | done | rfl), hS69.ext⟩

theorem l16Two_t {p0 : Int} {p1 : List Int} {q0 : Int} {q1 : List Int} (h : F_l16Two p0 p1 q0 q1 = 0) : ((0 ≤ p0 ∧ p0 ≤ 8) ∧ (p1.length : Int) = p0 ∧ ∀ m : Int, 0 ≤ m → m < (p1.length : Int) → 0 ≤ gI p1 m ∧ gI p1 m ≤ fullI p0) ∧ ((0 ≤ q0 ∧ q0 ≤ 8) ∧ (q1.length : Int) = q0 ∧ ∀ m : Int, 0 ≤ m → m < (q1.length : Int) → 0 ≤ gI q1 m ∧ gI q1 m ≤ fullI q0) ∧ p0 + q0 ≤ 8 := by
  unfold F_l16Two at h
  cases h1 : F_l16Is p0 p1
  · rw [h1] at h; cases h
  · cases h2 : F_l16Is q0 q1
    · rw [h1, h2] at h; cases h
    · by_cases h3 : 8 < p0 + q0
      · rw [h1, h2, decide_eq_true h3] at h; cases h
      · exact ⟨l16Is_t h1, l16Is_t h2, by omega⟩

def F_l16Join_L1b (pp0 : Int) (pp1 : List Int) (qp0 : Int) (stack : Bool) (rec : (List Int) → Int → (List Int) × Int) (above7 : List Int) (x8 : Int) : (List Int) × Int :=
  bif (decide (x8 < (pp1.length : Int))) then (rec (above7 ++ ([bif stack then orI (gI pp1 x8) (shlI (fullI qp0) pp0) else gI pp1 x8])) (x8 + 1)) else (above7, x8)
def F_l16Join_L1 (pp0 : Int) (pp1 : List Int) (qp0 : Int) (stack : Bool) : Nat → (List Int) → Int → (List Int) × Int
  | 0, above7, x8 => (above7, x8)
  | r + 1, above7, x8 => F_l16Join_L1b pp0 pp1 qp0 stack (F_l16Join_L1 pp0 pp1 qp0 stack r) above7 x8
def F_l16Join_L2b (pp0 : Int) (qp1 : List Int) (rec : (List Int) → Int → (List Int) × Int) (above7L2 : List Int) (y10L2 : Int) : (List Int) × Int :=
  bif (decide (y10L2 < (qp1.length : Int))) then (rec (above7L2 ++ ([shlI (gI qp1 y10L2) pp0])) (y10L2 + 1)) else (above7L2, y10L2)
def F_l16Join_L2 (pp0 : Int) (qp1 : List Int) : Nat → (List Int) → Int → (List Int) × Int
  | 0, above7L2, y10L2 => (above7L2, y10L2)
  | r + 1, above7L2, y10L2 => F_l16Join_L2b pp0 qp1 (F_l16Join_L2 pp0 qp1 r) above7L2 y10L2
def F_l16Join (pp0 : Int) (pp1 : List Int) (qp0 : Int) (qp1 : List Int) (stack : Bool) : Int × List Int :=
  ((((F_l16Join_L2 pp0 qp1 (Int.toNat ((qp1.length : Int) - 0) + 1) ((F_l16Join_L1 pp0 pp1 qp0 stack (Int.toNat ((pp1.length : Int) - 0) + 1) ([]) 0).1) 0).1).length : Int), ((F_l16Join_L2 pp0 qp1 (Int.toNat ((qp1.length : Int) - 0) + 1) ((F_l16Join_L1 pp0 pp1 qp0 stack (Int.toNat ((pp1.length : Int) - 0) + 1) ([]) 0).1) 0).1))
theorem cf_l16Join (args : Array Value) (w : World) : (callFunc 72 args).run Try.prog w = .ok (.enter 72 args) w := by kernel_rfl
set_option maxRecDepth 100000 in
theorem c_l16Join (pp0 : Int) (pp1A : Option Addr) (pp1N pp1C : Nat) (pp1 : List Int) (qp0 : Int) (qp1A : Option Addr) (qp1N qp1C : Nat) (qp1 : List Int) (stack : Bool) (w : World) (pp1R : RdS w 1 pp1A pp1N pp1C pp1) (qp1R : RdS w 1 qp1A qp1N qp1C qp1) (h8pp : 0 ≤ pp0 ∧ pp0 ≤ 8) (hlpp : (pp1.length : Int) = pp0) (hmpp : ∀ m : Int, 0 ≤ m → m < (pp1.length : Int) → 0 ≤ gI pp1 m ∧ gI pp1 m ≤ fullI pp0) (h8qp : 0 ≤ qp0 ∧ qp0 ≤ 8) (hlqp : (qp1.length : Int) = qp0) (hmqp : ∀ m : Int, 0 ≤ m → m < (qp1.length : Int) → 0 ≤ gI qp1 m ∧ gI qp1 m ≤ fullI qp0) :
    Calls Try.prog 72 #[.agg #[.int .i64 pp0, .slice pp1A pp1N pp1C], .agg #[.int .i64 qp0, .slice qp1A qp1N qp1C], .bool stack] w (Ret fun v w' => ∃ b1 : Option Addr, ∃ c1 : Nat, v = .agg #[.int .i64 ((F_l16Join pp0 pp1 qp0 qp1 stack).1), .slice b1 ((F_l16Join pp0 pp1 qp0 qp1 stack).2).length c1] ∧ OwnS w' w.heap.size 2 1 b1 ((F_l16Join pp0 pp1 qp0 qp1 stack).2).length c1 ((F_l16Join pp0 pp1 qp0 qp1 stack).2) ∧ Ext w w') := by
  obtain rfl : pp1N = pp1.length := pp1R.len1.symm
  have pp1Le := pp1R.le
  obtain rfl : qp1N = qp1.length := qp1R.len1.symm
  have qp1Le := qp1R.le
  have hS := St.nil w
  have hS1 := St.rd0 hS rfl pp1R; clear hS
  have hS2 := St.rd0 hS1 rfl qp1R; clear hS1
  refine enter (args := [.agg #[.int .i64 pp0, .slice pp1A pp1.length pp1C], .agg #[.int .i64 qp0, .slice qp1A qp1.length qp1C], .bool stack]) Try.func72 rfl rfl ?_
  rw [Try.ntmps72]; intro a hE
  have hE := hE.sub (L' := [(0, .agg #[.int .i64 pp0, .slice pp1A pp1.length pp1C]), (1, .agg #[.int .i64 qp0, .slice qp1A qp1.length qp1C]), (2, .bool stack)]) ⟨rfl, rfl, rfl, trivial⟩
  refine c_seq ?_
  refine c_reg ?_
  refine l_step hE rfl (l_box (v := .agg #[.int .i64 pp0, .slice pp1A pp1.length pp1C]) (cs := #[.int .i64 pp0, .slice pp1A pp1.length pp1C]) hS2 hE rfl rfl rfl ?_)
  intro b3 w4 hS7 he8 a5 hE6; clear hS2 hE
  refine l_step hE6 rfl (l_box (v := .agg #[.int .i64 qp0, .slice qp1A qp1.length qp1C]) (cs := #[.int .i64 qp0, .slice qp1A qp1.length qp1C]) hS7 hE6 rfl rfl rfl ?_)
  intro b9 w10 hS13 he14 a11 hE12; clear hS7 hE6
  refine l_step hE12 rfl (l_alloc (z := .agg #[.int .i64 0, .slice none 0 0]) (cs := #[.int .i64 0, .slice none 0 0]) hS13 hE12 (fun _ => by kernel_rfl) rfl rfl ?_)
  intro b15 w16 hS19 he20 a17 hE18; clear hS13 hE12
  refine c_nil ?_
  have hE21 := hE18.sub (L' := [(2, .bool stack), (3, .pointer (some ⟨b3, 0, none⟩)), (4, .pointer (some ⟨b9, 0, none⟩)), (6, .pointer (some ⟨b15, 0, none⟩))]) ⟨rfl, rfl, rfl, rfl, trivial⟩; clear hE18
  refine p_tn ?_
  refine c_seq ?_
  refine c_reg ?_
  refine l_step hE21 rfl (l_lit (e := 2) (s := 1) (xs := []) (vs := []) hS19 hE21 rfl (fun _ => by kernel_rfl) rfl rfl rfl ?_)
  intro b22 w23 hS26 he27 a24 hE25; clear hS19 hE21
  refine q_step (v := .slice (some ⟨b22, 0, none⟩) 0 0) hE25 (y_assign rfl) rfl rfl rfl ?_; intro a28 hE29; clear hE25
  refine c_nil ?_
  have hE30 := hE29.sub (L' := [(2, .bool stack), (3, .pointer (some ⟨b3, 0, none⟩)), (4, .pointer (some ⟨b9, 0, none⟩)), (6, .pointer (some ⟨b15, 0, none⟩)), (7, .slice (some ⟨b22, 0, none⟩) 0 0)]) ⟨rfl, rfl, rfl, rfl, rfl, trivial⟩; clear hE29
  refine p_tn ?_
  refine c_seq ?_
  refine c_seq ?_
  refine c_reg ?_
  refine q_step (v := .int .i64 0) hE30 (y_assign rfl) rfl rfl rfl ?_; intro a31 hE32; clear hE30
  refine c_nil ?_
  have hE33 := hE32.sub (L' := [(2, .bool stack), (3, .pointer (some ⟨b3, 0, none⟩)), (4, .pointer (some ⟨b9, 0, none⟩)), (6, .pointer (some ⟨b15, 0, none⟩)), (7, .slice (some ⟨b22, 0, none⟩) 0 0), (8, .int .i64 0)]) ⟨rfl, rfl, rfl, rfl, rfl, rfl, trivial⟩; clear hE32
  refine p_tn ?_
  refine c_cut1 (fun a' w' => ∃ above7A_34 : Option Addr, ∃ above7C_34 : Nat, (0 ≤ ((F_l16Join_L1 pp0 pp1 qp0 stack (Int.toNat ((pp1.length : Int) - 0) + 1) ([]) 0).2)) ∧ ((((F_l16Join_L1 pp0 pp1 qp0 stack (Int.toNat ((pp1.length : Int) - 0) + 1) ([]) 0).1).length : Int) = ((F_l16Join_L1 pp0 pp1 qp0 stack (Int.toNat ((pp1.length : Int) - 0) + 1) ([]) 0).2)) ∧ (((F_l16Join_L1 pp0 pp1 qp0 stack (Int.toNat ((pp1.length : Int) - 0) + 1) ([]) 0).2) ≤ (pp1.length : Int)) ∧ ((((F_l16Join_L1 pp0 pp1 qp0 stack (Int.toNat ((pp1.length : Int) - 0) + 1) ([]) 0).1).length : Int) ≤ ((F_l16Join_L1 pp0 pp1 qp0 stack (Int.toNat ((pp1.length : Int) - 0) + 1) ([]) 0).2)) ∧ E a' 59 [(2, .bool stack), (3, .pointer (some ⟨b3, 0, none⟩)), (4, .pointer (some ⟨b9, 0, none⟩)), (6, .pointer (some ⟨b15, 0, none⟩)), (7, .slice above7A_34 (((F_l16Join_L1 pp0 pp1 qp0 stack (Int.toNat ((pp1.length : Int) - 0) + 1) ([]) 0).1).length) above7C_34), (8, .int .i64 ((F_l16Join_L1 pp0 pp1 qp0 stack (Int.toNat ((pp1.length : Int) - 0) + 1) ([]) 0).2))] ∧ St w w' [.own 2 1 above7A_34 (((F_l16Join_L1 pp0 pp1 qp0 stack (Int.toNat ((pp1.length : Int) - 0) + 1) ([]) 0).1).length) above7C_34 ((F_l16Join_L1 pp0 pp1 qp0 stack (Int.toNat ((pp1.length : Int) - 0) + 1) ([]) 0).1), .blk b15 #[.int .i64 0, .slice none 0 0] 27, .blk b9 #[.int .i64 qp0, .slice qp1A qp1.length qp1C] 27, .blk b3 #[.int .i64 pp0, .slice pp1A pp1.length pp1C] 27, .rd 1 qp1A qp1.length qp1C qp1, .rd 1 pp1A pp1.length pp1C pp1]) ?_ ?_
  ·
    refine wp_block ?_
    refine c_loop (fun r a' w' => ∃ above7 : List Int, ∃ x8 : Int, ∃ above7A : Option Addr, ∃ above7C : Nat, F_l16Join_L1 pp0 pp1 qp0 stack r above7 x8 = F_l16Join_L1 pp0 pp1 qp0 stack (Int.toNat ((pp1.length : Int) - 0) + 1) ([]) 0 ∧ Int.toNat ((pp1.length : Int) - x8) < r ∧ (0 ≤ x8) ∧ ((above7.length : Int) = x8) ∧ (x8 ≤ (pp1.length : Int)) ∧ ((above7.length : Int) ≤ x8) ∧ E a' 59 [(2, .bool stack), (3, .pointer (some ⟨b3, 0, none⟩)), (4, .pointer (some ⟨b9, 0, none⟩)), (6, .pointer (some ⟨b15, 0, none⟩)), (7, .slice above7A ((above7).length) above7C), (8, .int .i64 x8)] ∧ St w w' [.own 2 1 above7A ((above7).length) above7C above7, .blk b15 #[.int .i64 0, .slice none 0 0] 27, .blk b9 #[.int .i64 qp0, .slice qp1A qp1.length qp1C] 27, .blk b3 #[.int .i64 pp0, .slice pp1A pp1.length pp1C] 27, .rd 1 qp1A qp1.length qp1C qp1, .rd 1 pp1A pp1.length pp1C pp1]) (r := (Int.toNat ((pp1.length : Int) - 0) + 1)) ?_ ?_
    · exact ⟨[], 0, some ⟨b22, 0, none⟩, 0, rfl, Nat.lt_succ_self _, (by first | omega | (simp only [List.length_replicate, sI_len]; omega) | (simp only [List.length_append, List.length_cons, List.length_nil, sI_len, cond_true, cond_false]; omega) | (simp only [List.length_append, List.length_cons, List.length_nil, sI_len, cond_eq_ite, apply_ite List.length]; split <;> simp only [List.length_append, List.length_cons, List.length_nil, sI_len] <;> omega) | grind), (by first | omega | (simp only [List.length_replicate, sI_len]; omega) | (simp only [List.length_append, List.length_cons, List.length_nil, sI_len, cond_true, cond_false]; omega) | (simp only [List.length_append, List.length_cons, List.length_nil, sI_len, cond_eq_ite, apply_ite List.length]; split <;> simp only [List.length_append, List.length_cons, List.length_nil, sI_len] <;> omega) | grind), (by first | omega | (simp only [List.length_replicate, sI_len]; omega) | (simp only [List.length_append, List.length_cons, List.length_nil, sI_len, cond_true, cond_false]; omega) | (simp only [List.length_append, List.length_cons, List.length_nil, sI_len, cond_eq_ite, apply_ite List.length]; split <;> simp only [List.length_append, List.length_cons, List.length_nil, sI_len] <;> omega) | grind), (by first | omega | (simp only [List.length_replicate, sI_len]; omega) | (simp only [List.length_append, List.length_cons, List.length_nil, sI_len, cond_true, cond_false]; omega) | (simp only [List.length_append, List.length_cons, List.length_nil, sI_len, cond_eq_ite, apply_ite List.length]; split <;> simp only [List.length_append, List.length_cons, List.length_nil, sI_len] <;> omega) | grind), (hE33.sub (L' := [(2, .bool stack), (3, .pointer (some ⟨b3, 0, none⟩)), (4, .pointer (some ⟨b9, 0, none⟩)), (6, .pointer (some ⟨b15, 0, none⟩)), (7, .slice (some ⟨b22, 0, none⟩) 0 0), (8, .int .i64 0)]) ⟨rfl, rfl, rfl, rfl, rfl, rfl, trivial⟩), (St.pick (Γ' := [.own 2 1 (some ⟨b22, 0, none⟩) 0 0 ([]), .blk b15 #[.int .i64 0, .slice none 0 0] 27, .blk b9 #[.int .i64 qp0, .slice qp1A qp1.length qp1C] 27, .blk b3 #[.int .i64 pp0, .slice pp1A pp1.length pp1C] 27, .rd 1 qp1A qp1.length qp1C qp1, .rd 1 pp1A pp1.length pp1C pp1]) hS26 [0, 1, 2, 3, 4, 5] (by decide) rfl)⟩
    ·
      clear hE33 hS26
      rintro r45 a35 w36 ⟨above7, x8, above7A, above7C, hT39, hr40, hi41, hi42, hi43, hi44, hE37, hS38⟩
      obtain ⟨r45, rfl⟩ : ∃ r', r45 = r' + 1 := ⟨r45 - 1, by omega⟩
      refine c_seq ?_
      refine c_seq ?_
      refine c_reg ?_
      refine q_step (v := .int .i64 x8) hE37 (y_move rfl) rfl rfl rfl ?_; intro a46 hE47; clear hE37
      refine q_step (v := .pointer (some ⟨b3, 1, none⟩)) hE47 (y_field rfl (fun _ => by kernel_rfl)) rfl rfl rfl ?_; intro a48 hE49; clear hE47
      refine q_step (v := .slice pp1A pp1.length pp1C) hE49 (y_load (fun _ => by kernel_rfl) rfl (St.cell (i := 3) hS38 rfl rfl)) rfl rfl rfl ?_; intro a50 hE51; clear hE49
      refine q_step (v := .int .i64 (pp1.length : Int)) hE51 (y_len (e := 2) (by kernel_rfl) rfl) rfl rfl rfl ?_; intro a52 hE53; clear hE51
      refine q_step (v := .bool (decide (x8 < (pp1.length : Int)))) hE53 (y_lss rfl rfl) rfl rfl rfl ?_; intro a54 hE55; clear hE53
      refine c_nil ?_
      have hE56 := hE55.sub (L' := [(2, .bool stack), (3, .pointer (some ⟨b3, 0, none⟩)), (4, .pointer (some ⟨b9, 0, none⟩)), (6, .pointer (some ⟨b15, 0, none⟩)), (7, .slice above7A ((above7).length) above7C), (8, .int .i64 x8), (16, .bool (decide (x8 < (pp1.length : Int))))]) ⟨rfl, rfl, rfl, rfl, rfl, rfl, rfl, trivial⟩; clear hE55
      refine p_tn ?_
      refine c_cond hE56 rfl (fun ht57 => ?_) (fun ht57 => ?_)
      ·
        have hp58 := of_decide_eq_true ht57
        have hE59 := hE56; rw [ht57] at hE59; clear hE56
        refine wp_skip ?_
        refine p_tn ?_
        refine c_seq ?_
        refine wp_block ?_
        refine c_seq ?_
        refine c_reg ?_
        refine q_step (v := .pointer (some ⟨b3, 1, none⟩)) hE59 (y_field rfl (fun _ => by kernel_rfl)) rfl rfl rfl ?_; intro a60 hE61; clear hE59
        refine q_step (v := .slice pp1A pp1.length pp1C) hE61 (y_load (fun _ => by kernel_rfl) rfl (St.cell (i := 3) hS38 rfl rfl)) rfl rfl rfl ?_; intro a62 hE63; clear hE61
        refine q_step (v := .int .i64 x8) hE63 (y_move rfl) rfl rfl rfl ?_; intro a64 hE65; clear hE63
        refine q_step (v := .pointer (some (adr pp1A (Int.toNat x8)))) hE65 (y_idx (by kernel_rfl) (fun _ => by kernel_rfl) rfl rfl (RdS.isS (m := x8) (St.rdR (i := 5) hS38 rfl) (by omega) (by omega)) (by omega) (by omega) (Nat.mul_one _).symm) rfl rfl rfl ?_; intro a66 hE67; clear hE65
        refine q_step (v := .int .i64 (gI pp1 x8)) hE67 (y_load (fun _ => by kernel_rfl) rfl (RdS.elt (St.rdR (i := 5) hS38 rfl) (by omega) (by omega))) rfl rfl rfl ?_; intro a68 hE69; clear hE67
        refine q_step (v := .int .i64 (gI pp1 x8)) hE69 (y_assign rfl) rfl rfl rfl ?_; intro a70 hE71; clear hE69
        refine c_nil ?_
        have hE72 := hE71.sub (L' := [(2, .bool stack), (3, .pointer (some ⟨b3, 0, none⟩)), (4, .pointer (some ⟨b9, 0, none⟩)), (6, .pointer (some ⟨b15, 0, none⟩)), (7, .slice above7A ((above7).length) above7C), (8, .int .i64 x8), (9, .int .i64 (gI pp1 x8))]) ⟨rfl, rfl, rfl, rfl, rfl, rfl, rfl, trivial⟩; clear hE71
        refine p_tn ?_
        refine c_cut (fun a' w' => E a' 59 [(2, .bool stack), (3, .pointer (some ⟨b3, 0, none⟩)), (4, .pointer (some ⟨b9, 0, none⟩)), (6, .pointer (some ⟨b15, 0, none⟩)), (7, .slice above7A ((above7).length) above7C), (8, .int .i64 x8), (9, .int .i64 (bif stack then orI (gI pp1 x8) (shlI (fullI qp0) pp0) else gI pp1 x8))] ∧ St w w' [.own 2 1 above7A ((above7).length) above7C above7, .blk b15 #[.int .i64 0, .slice none 0 0] 27, .rd 1 qp1A qp1.length qp1C qp1, .blk b9 #[.int .i64 qp0, .slice qp1A qp1.length qp1C] 27, .rd 1 pp1A pp1.length pp1C pp1, .blk b3 #[.int .i64 pp0, .slice pp1A pp1.length pp1C] 27]) ?_ ?_
        ·
          refine c_seq ?_
          refine c_reg ?_
          refine q_step (v := .bool stack) hE72 (y_move rfl) rfl rfl rfl ?_; intro a73 hE74; clear hE72
          refine c_nil ?_
          have hE75 := hE74.sub (L' := [(2, .bool stack), (3, .pointer (some ⟨b3, 0, none⟩)), (4, .pointer (some ⟨b9, 0, none⟩)), (6, .pointer (some ⟨b15, 0, none⟩)), (7, .slice above7A ((above7).length) above7C), (8, .int .i64 x8), (9, .int .i64 (gI pp1 x8)), (24, .bool stack)]) ⟨rfl, rfl, rfl, rfl, rfl, rfl, rfl, rfl, trivial⟩; clear hE74
          refine p_tn ?_
          refine c_cond hE75 rfl (fun ht76 => ?_) (fun ht76 => ?_)
          ·
            have hE77 := hE75; rw [ht76] at hE77; clear hE75
            refine d_start (fun w w' => (fun w' => w'.cell? ⟨b9, 0, none⟩ = some (.int .i64 qp0) ∧ w'.cell? ⟨b3, 0, none⟩ = some (.int .i64 pp0) ∧ True) w → (fun w' => w'.cell? ⟨b9, 0, none⟩ = some (.int .i64 qp0) ∧ w'.cell? ⟨b3, 0, none⟩ = some (.int .i64 pp0) ∧ True) w') [2, 5] 10 (by kernel_rfl) rfl ?_
            intro w78 he79; have hS80 := St.go hS38 he79; clear hS38
            refine d_pure (fun _ h => h) (v := .int .i64 (gI pp1 x8)) 0 rfl hE77 (y_move rfl) rfl (by kernel_rfl) (by kernel_rfl) (by kernel_rfl) rfl rfl (fun _ _ _ h => h) ?_; intro a81 hE82; clear hE77
            refine d_pure (fun _ h => h) (v := .pointer (some ⟨b9, 0, none⟩)) 1 rfl hE82 (y_field rfl (fun _ => by kernel_rfl)) rfl (by kernel_rfl) (by kernel_rfl) (by kernel_rfl) rfl rfl (fun _ _ _ h => h) ?_; intro a83 hE84; clear hE82
            refine d_take (fun _ h => h) (fun _ _ h k => h k) (v := .int .i64 qp0) 2 rfl hE84 (S := fun w' => w'.cell? ⟨b9, 0, none⟩ = some (.int .i64 qp0) ∧ w'.cell? ⟨b3, 0, none⟩ = some (.int .i64 pp0) ∧ True) ⟨(St.cell (i := 2) hS80 rfl rfl _ (Ext.refl _)), (St.cell (i := 3) hS80 rfl rfl _ (Ext.refl _)), trivial⟩ (y_load (fun _ => by kernel_rfl) rfl (fun _ h => h.1)) rfl rfl (by kernel_rfl) (by kernel_rfl) (by kernel_rfl) (by kernel_rfl) rfl rfl (fun _ _ _ h => h) ?_; intro a85 hE86; clear hE84
            refine d_pure (fun _ h => h) (v := .pointer (some ⟨b3, 0, none⟩)) 4 rfl hE86 (y_field rfl (fun _ => by kernel_rfl)) rfl (by kernel_rfl) (by kernel_rfl) (by kernel_rfl) rfl rfl (fun _ _ _ h => h) ?_; intro a87 hE88; clear hE86
            refine d_take (fun _ h => h) (fun _ _ h k => h k) (v := .int .i64 pp0) 5 rfl hE88 (S := fun w' => w'.cell? ⟨b9, 0, none⟩ = some (.int .i64 qp0) ∧ w'.cell? ⟨b3, 0, none⟩ = some (.int .i64 pp0) ∧ True) ⟨(St.cell (i := 2) hS80 rfl rfl _ (Ext.refl _)), (St.cell (i := 3) hS80 rfl rfl _ (Ext.refl _)), trivial⟩ (y_load (fun _ => by kernel_rfl) rfl (fun _ h => h.2.1)) rfl rfl (by kernel_rfl) (by kernel_rfl) (by kernel_rfl) (by kernel_rfl) rfl rfl (fun _ _ _ h => h) ?_; intro a89 hE90; clear hE88
            refine d_pure (fun _ h => h) (v := .int .u64 pp0) 6 rfl hE90 (y_conv (ds := .int .i64) (by kernel_rfl) (by kernel_rfl) rfl (wU64 (by omega) (by omega))) rfl (by kernel_rfl) (by kernel_rfl) (by kernel_rfl) rfl rfl (fun _ _ _ h => h) ?_; intro a91 hE92; clear hE90
            refine d_only 3 (by kernel_rfl) rfl hE92 rfl (l_call (f := 89) (argv := [.int .i64 qp0]) hE92 (fun _ => cf_l01Full _ _) rfl rfl (d_l01Full qp0 w78 (by omega) (by omega)) ?_)
            rintro _ _ ⟨rfl, rfl⟩ a95 hE96; clear hE92
            refine ⟨fun _ _ => ⟨(St.cell (i := 2) hS80 rfl rfl _ (Ext.refl _)), (St.cell (i := 3) hS80 rfl rfl _ (Ext.refl _)), trivial⟩, ?_⟩
            refine d_pure (fun _ h => h) (v := .int .i64 (shlI (fullI qp0) pp0)) 7 rfl hE96 (y_shl rfl rfl (by omega)) rfl (by kernel_rfl) (by kernel_rfl) (by kernel_rfl) rfl rfl (fun _ _ _ h => h) ?_; intro a99 hE100; clear hE96
            refine d_pure (fun _ h => h) (v := .int .i64 (orI (gI pp1 x8) (shlI (fullI qp0) pp0))) 8 rfl hE100 (y_or rfl rfl) rfl (by kernel_rfl) (by kernel_rfl) (by kernel_rfl) rfl rfl (fun _ _ _ h => h) ?_; intro a101 hE102; clear hE100
            refine d_pure (fun _ h => h) (v := .int .i64 (orI (gI pp1 x8) (shlI (fullI qp0) pp0))) 9 rfl hE102 (y_assign rfl) rfl (by kernel_rfl) (by kernel_rfl) (by kernel_rfl) rfl rfl (fun _ _ _ h => h) ?_; intro a103 hE104; clear hE102
            refine d_done (by kernel_rfl) ?_
            have hE105 := hE104.sub (L' := [(2, .bool true), (3, .pointer (some ⟨b3, 0, none⟩)), (4, .pointer (some ⟨b9, 0, none⟩)), (6, .pointer (some ⟨b15, 0, none⟩)), (7, .slice above7A ((above7).length) above7C), (8, .int .i64 x8), (9, .int .i64 (orI (gI pp1 x8) (shlI (fullI qp0) pp0)))]) ⟨rfl, rfl, rfl, rfl, rfl, rfl, rfl, trivial⟩; clear hE104
            refine p_tn ?_
            have hE106 := hE105.sub (L' := [(2, .bool true), (3, .pointer (some ⟨b3, 0, none⟩)), (4, .pointer (some ⟨b9, 0, none⟩)), (6, .pointer (some ⟨b15, 0, none⟩)), (7, .slice above7A ((above7).length) above7C), (8, .int .i64 x8), (9, .int .i64 (orI (gI pp1 x8) (shlI (fullI qp0) pp0)))]) ⟨rfl, rfl, rfl, rfl, rfl, rfl, rfl, trivial⟩
            have hS107 := (St.pick (Γ' := [.own 2 1 above7A ((above7).length) above7C above7, .blk b15 #[.int .i64 0, .slice none 0 0] 27, .rd 1 qp1A qp1.length qp1C qp1, .blk b9 #[.int .i64 qp0, .slice qp1A qp1.length qp1C] 27, .rd 1 pp1A pp1.length pp1C pp1, .blk b3 #[.int .i64 pp0, .slice pp1A pp1.length pp1C] 27]) hS80 [0, 1, 4, 2, 5, 3] (by decide) rfl)
            exact ⟨(by rw [ht76]; exact hE106), hS107⟩
          ·
            have hE108 := hE75; rw [ht76] at hE108; clear hE75
            refine wp_skip ?_
            refine p_tn ?_
            have hE109 := hE108.sub (L' := [(2, .bool false), (3, .pointer (some ⟨b3, 0, none⟩)), (4, .pointer (some ⟨b9, 0, none⟩)), (6, .pointer (some ⟨b15, 0, none⟩)), (7, .slice above7A ((above7).length) above7C), (8, .int .i64 x8), (9, .int .i64 (gI pp1 x8))]) ⟨rfl, rfl, rfl, rfl, rfl, rfl, rfl, trivial⟩
            have hS110 := (St.pick (Γ' := [.own 2 1 above7A ((above7).length) above7C above7, .blk b15 #[.int .i64 0, .slice none 0 0] 27, .rd 1 qp1A qp1.length qp1C qp1, .blk b9 #[.int .i64 qp0, .slice qp1A qp1.length qp1C] 27, .rd 1 pp1A pp1.length pp1C pp1, .blk b3 #[.int .i64 pp0, .slice pp1A pp1.length pp1C] 27]) hS38 [0, 1, 4, 2, 5, 3] (by decide) rfl)
            exact ⟨(by rw [ht76]; exact hE109), hS110⟩
        ·
          rintro a111 w112 ⟨hE113, hS114⟩; clear hE72 hS38
          refine c_reg ?_
          refine q_step (v := .slice above7A ((above7).length) above7C) hE113 (y_move rfl) rfl rfl rfl ?_; intro a116 hE117; clear hE113
          refine q_step (v := .int .i64 (bif stack then orI (gI pp1 x8) (shlI (fullI qp0) pp0) else gI pp1 x8)) hE117 (y_move rfl) rfl rfl rfl ?_; intro a118 hE119; clear hE117
          refine l_step hE119 rfl (l_lit (e := 2) (s := 1) (xs := [bif stack then orI (gI pp1 x8) (shlI (fullI qp0) pp0) else gI pp1 x8]) (vs := [.int .i64 (bif stack then orI (gI pp1 x8) (shlI (fullI qp0) pp0) else gI pp1 x8)]) hS114 hE119 rfl (fun _ => by kernel_rfl) rfl rfl rfl ?_)
          intro b120 w121 hS124 he125 a122 hE123; clear hS114 hE119
          obtain ⟨_, hi1, hi2, hi3, hi4⟩ := info_parts (show (Try.prog.info? 2).map (fun i => (i.zero, i.size, i.bytes)) = some (some (.int .i64 0), 1, 8) by kernel_rfl)
          refine l_step hE123 rfl (l_append (k := 1) (n' := (above7 ++ ([bif stack then orI (gI pp1 x8) (shlI (fullI qp0) pp0) else gI pp1 x8])).length) hS124 hE123 (by kernel_rfl) hi1 hi2 hi3 rfl (by decide) (by rw [hi4]; decide) rfl rfl rfl (St.rdO (i := 0) hS124 rfl) (by first | omega | (simp only [List.length_append, List.length_cons, List.length_nil]; omega)) (by have h1 := (St.rdO (i := 1) hS124 rfl).len1; have h2 := (St.rdO (i := 0) hS124 rfl).len1; rw [List.length_append, h1, h2]) rfl ?_)
          intro b126 c132 w127 hS130 a128 hE129; clear hS124 hE123 hi1 hi2 hi3 hi4
          refine q_step (v := .slice b126 ((above7 ++ ([bif stack then orI (gI pp1 x8) (shlI (fullI qp0) pp0) else gI pp1 x8])).length) c132) hE129 (y_assign rfl) rfl rfl rfl ?_; intro a133 hE134; clear hE129
          refine c_nil ?_
          have hE135 := hE134.sub (L' := [(2, .bool stack), (3, .pointer (some ⟨b3, 0, none⟩)), (4, .pointer (some ⟨b9, 0, none⟩)), (6, .pointer (some ⟨b15, 0, none⟩)), (7, .slice b126 ((above7 ++ ([bif stack then orI (gI pp1 x8) (shlI (fullI qp0) pp0) else gI pp1 x8])).length) c132), (8, .int .i64 x8)]) ⟨rfl, rfl, rfl, rfl, rfl, rfl, trivial⟩; clear hE134
          refine p_bn ?_
          refine p_tn ?_
          refine c_reg ?_
          refine q_step (v := .int .i64 x8) hE135 (y_move rfl) rfl rfl rfl ?_; intro a136 hE137; clear hE135
          refine q_step (v := .int .i64 (x8 + 1)) hE137 (y_add rfl rfl ⟨(by omega), (by omega)⟩) rfl rfl rfl ?_; intro a138 hE139; clear hE137
          refine q_step (v := .int .i64 (x8 + 1)) hE139 (y_assign rfl) rfl rfl rfl ?_; intro a140 hE141; clear hE139
          refine c_nil ?_
          have hE142 := hE141.sub (L' := [(2, .bool stack), (3, .pointer (some ⟨b3, 0, none⟩)), (4, .pointer (some ⟨b9, 0, none⟩)), (6, .pointer (some ⟨b15, 0, none⟩)), (7, .slice b126 ((above7 ++ ([bif stack then orI (gI pp1 x8) (shlI (fullI qp0) pp0) else gI pp1 x8])).length) c132), (8, .int .i64 (x8 + 1))]) ⟨rfl, rfl, rfl, rfl, rfl, rfl, trivial⟩; clear hE141
          have hl143 := (St.rdO (i := 0) hS130 rfl).len1
          have hl144 := (St.rdO (i := 1) hS130 rfl).len1
          refine p_tn ⟨r45, Nat.lt_succ_self _, above7 ++ ([bif stack then orI (gI pp1 x8) (shlI (fullI qp0) pp0) else gI pp1 x8]), x8 + 1, b126, c132, (hT39.symm.trans (show F_l16Join_L1b pp0 pp1 qp0 stack (F_l16Join_L1 pp0 pp1 qp0 stack r45) above7 x8 = F_l16Join_L1 pp0 pp1 qp0 stack r45 (above7 ++ ([bif stack then orI (gI pp1 x8) (shlI (fullI qp0) pp0) else gI pp1 x8])) (x8 + 1) by unfold F_l16Join_L1b; rw [ht57]; first | done | rfl)).symm, (by omega), (by first | omega | (simp only [List.length_replicate, sI_len]; omega) | (simp only [List.length_append, List.length_cons, List.length_nil, sI_len, cond_true, cond_false]; omega) | (simp only [List.length_append, List.length_cons, List.length_nil, sI_len, cond_eq_ite, apply_ite List.length]; split <;> simp only [List.length_append, List.length_cons, List.length_nil, sI_len] <;> omega) | grind), (by first | omega | (simp only [List.length_replicate, sI_len]; omega) | (simp only [List.length_append, List.length_cons, List.length_nil, sI_len, cond_true, cond_false]; omega) | (simp only [List.length_append, List.length_cons, List.length_nil, sI_len, cond_eq_ite, apply_ite List.length]; split <;> simp only [List.length_append, List.length_cons, List.length_nil, sI_len] <;> omega) | grind), (by first | omega | (simp only [List.length_replicate, sI_len]; omega) | (simp only [List.length_append, List.length_cons, List.length_nil, sI_len, cond_true, cond_false]; omega) | (simp only [List.length_append, List.length_cons, List.length_nil, sI_len, cond_eq_ite, apply_ite List.length]; split <;> simp only [List.length_append, List.length_cons, List.length_nil, sI_len] <;> omega) | grind), (by first | omega | (simp only [List.length_replicate, sI_len]; omega) | (simp only [List.length_append, List.length_cons, List.length_nil, sI_len, cond_true, cond_false]; omega) | (simp only [List.length_append, List.length_cons, List.length_nil, sI_len, cond_eq_ite, apply_ite List.length]; split <;> simp only [List.length_append, List.length_cons, List.length_nil, sI_len] <;> omega) | grind), (hE142.sub (L' := [(2, .bool stack), (3, .pointer (some ⟨b3, 0, none⟩)), (4, .pointer (some ⟨b9, 0, none⟩)), (6, .pointer (some ⟨b15, 0, none⟩)), (7, .slice b126 ((above7 ++ ([bif stack then orI (gI pp1 x8) (shlI (fullI qp0) pp0) else gI pp1 x8])).length) c132), (8, .int .i64 (x8 + 1))]) ⟨rfl, rfl, rfl, rfl, rfl, rfl, trivial⟩), (St.pick (Γ' := [.own 2 1 b126 ((above7 ++ ([bif stack then orI (gI pp1 x8) (shlI (fullI qp0) pp0) else gI pp1 x8])).length) c132 (above7 ++ ([bif stack then orI (gI pp1 x8) (shlI (fullI qp0) pp0) else gI pp1 x8])), .blk b15 #[.int .i64 0, .slice none 0 0] 27, .blk b9 #[.int .i64 qp0, .slice qp1A qp1.length qp1C] 27, .blk b3 #[.int .i64 pp0, .slice pp1A pp1.length pp1C] 27, .rd 1 qp1A qp1.length qp1C qp1, .rd 1 pp1A pp1.length pp1C pp1]) hS130 [1, 2, 4, 6, 3, 5] (by decide) rfl)⟩
      ·
        have hp145 := of_decide_eq_false ht57
        have hE146 := hE56; rw [ht57] at hE146; clear hE56
        refine wp_exit ?_
        refine p_te ?_
        have hX147 : F_l16Join_L1 pp0 pp1 qp0 stack (Int.toNat ((pp1.length : Int) - 0) + 1) ([]) 0 = (above7, x8) := hT39.symm.trans (show F_l16Join_L1b pp0 pp1 qp0 stack (F_l16Join_L1 pp0 pp1 qp0 stack r45) above7 x8 = (above7, x8) by unfold F_l16Join_L1b; rw [ht57]; first | done | rfl)
        refine p_te (p_be (p_tn ?_))
        exact ⟨above7A, above7C, (by rw [hX147]; exact (show 0 ≤ x8 from (by first | omega | (simp only [List.length_replicate, sI_len]; omega) | (simp only [List.length_append, List.length_cons, List.length_nil, sI_len, cond_true, cond_false]; omega) | (simp only [List.length_append, List.length_cons, List.length_nil, sI_len, cond_eq_ite, apply_ite List.length]; split <;> simp only [List.length_append, List.length_cons, List.length_nil, sI_len] <;> omega) | grind))), (by rw [hX147]; exact (show (above7.length : Int) = x8 from (by first | omega | (simp only [List.length_replicate, sI_len]; omega) | (simp only [List.length_append, List.length_cons, List.length_nil, sI_len, cond_true, cond_false]; omega) | (simp only [List.length_append, List.length_cons, List.length_nil, sI_len, cond_eq_ite, apply_ite List.length]; split <;> simp only [List.length_append, List.length_cons, List.length_nil, sI_len] <;> omega) | grind))), (by rw [hX147]; exact (show x8 ≤ (pp1.length : Int) from (by first | omega | (simp only [List.length_replicate, sI_len]; omega) | (simp only [List.length_append, List.length_cons, List.length_nil, sI_len, cond_true, cond_false]; omega) | (simp only [List.length_append, List.length_cons, List.length_nil, sI_len, cond_eq_ite, apply_ite List.length]; split <;> simp only [List.length_append, List.length_cons, List.length_nil, sI_len] <;> omega) | grind))), (by rw [hX147]; exact (show (above7.length : Int) ≤ x8 from (by first | omega | (simp only [List.length_replicate, sI_len]; omega) | (simp only [List.length_append, List.length_cons, List.length_nil, sI_len, cond_true, cond_false]; omega) | (simp only [List.length_append, List.length_cons, List.length_nil, sI_len, cond_eq_ite, apply_ite List.length]; split <;> simp only [List.length_append, List.length_cons, List.length_nil, sI_len] <;> omega) | grind))), (by rw [hX147]; exact (hE146.sub (L' := [(2, .bool stack), (3, .pointer (some ⟨b3, 0, none⟩)), (4, .pointer (some ⟨b9, 0, none⟩)), (6, .pointer (some ⟨b15, 0, none⟩)), (7, .slice above7A ((above7).length) above7C), (8, .int .i64 x8)]) ⟨rfl, rfl, rfl, rfl, rfl, rfl, trivial⟩)), (by rw [hX147]; exact (St.pick (Γ' := [.own 2 1 above7A ((above7).length) above7C above7, .blk b15 #[.int .i64 0, .slice none 0 0] 27, .blk b9 #[.int .i64 qp0, .slice qp1A qp1.length qp1C] 27, .blk b3 #[.int .i64 pp0, .slice pp1A pp1.length pp1C] 27, .rd 1 qp1A qp1.length qp1C qp1, .rd 1 pp1A pp1.length pp1C pp1]) hS38 [0, 1, 2, 3, 4, 5] (by decide) rfl))⟩
  ·
    rintro a148 w149 ⟨above7A_34, above7C_34, hi153, hi154, hi155, hi156, hE150, hS151⟩; clear hE33 hS26
    refine p_tn ?_
    refine c_seq ?_
    refine c_seq ?_
    refine c_reg ?_
    refine q_step (v := .int .i64 0) hE150 (y_assign rfl) rfl rfl rfl ?_; intro a157 hE158; clear hE150
    refine c_nil ?_
    have hE159 := hE158.sub (L' := [(3, .pointer (some ⟨b3, 0, none⟩)), (4, .pointer (some ⟨b9, 0, none⟩)), (6, .pointer (some ⟨b15, 0, none⟩)), (7, .slice above7A_34 (((F_l16Join_L1 pp0 pp1 qp0 stack (Int.toNat ((pp1.length : Int) - 0) + 1) ([]) 0).1).length) above7C_34), (10, .int .i64 0)]) ⟨rfl, rfl, rfl, rfl, rfl, trivial⟩; clear hE158
    refine p_tn ?_
    refine c_cut1 (fun a' w' => ∃ above7L2A_160 : Option Addr, ∃ above7L2C_160 : Nat, (0 ≤ ((F_l16Join_L2 pp0 qp1 (Int.toNat ((qp1.length : Int) - 0) + 1) ((F_l16Join_L1 pp0 pp1 qp0 stack (Int.toNat ((pp1.length : Int) - 0) + 1) ([]) 0).1) 0).2)) ∧ ((((F_l16Join_L2 pp0 qp1 (Int.toNat ((qp1.length : Int) - 0) + 1) ((F_l16Join_L1 pp0 pp1 qp0 stack (Int.toNat ((pp1.length : Int) - 0) + 1) ([]) 0).1) 0).1).length : Int) ≤ (pp1.length : Int) + ((F_l16Join_L2 pp0 qp1 (Int.toNat ((qp1.length : Int) - 0) + 1) ((F_l16Join_L1 pp0 pp1 qp0 stack (Int.toNat ((pp1.length : Int) - 0) + 1) ([]) 0).1) 0).2)) ∧ (((F_l16Join_L2 pp0 qp1 (Int.toNat ((qp1.length : Int) - 0) + 1) ((F_l16Join_L1 pp0 pp1 qp0 stack (Int.toNat ((pp1.length : Int) - 0) + 1) ([]) 0).1) 0).2) ≤ (qp1.length : Int)) ∧ E a' 59 [(3, .pointer (some ⟨b3, 0, none⟩)), (4, .pointer (some ⟨b9, 0, none⟩)), (6, .pointer (some ⟨b15, 0, none⟩)), (7, .slice above7L2A_160 (((F_l16Join_L2 pp0 qp1 (Int.toNat ((qp1.length : Int) - 0) + 1) ((F_l16Join_L1 pp0 pp1 qp0 stack (Int.toNat ((pp1.length : Int) - 0) + 1) ([]) 0).1) 0).1).length) above7L2C_160), (10, .int .i64 ((F_l16Join_L2 pp0 qp1 (Int.toNat ((qp1.length : Int) - 0) + 1) ((F_l16Join_L1 pp0 pp1 qp0 stack (Int.toNat ((pp1.length : Int) - 0) + 1) ([]) 0).1) 0).2))] ∧ St w w' [.own 2 1 above7L2A_160 (((F_l16Join_L2 pp0 qp1 (Int.toNat ((qp1.length : Int) - 0) + 1) ((F_l16Join_L1 pp0 pp1 qp0 stack (Int.toNat ((pp1.length : Int) - 0) + 1) ([]) 0).1) 0).1).length) above7L2C_160 ((F_l16Join_L2 pp0 qp1 (Int.toNat ((qp1.length : Int) - 0) + 1) ((F_l16Join_L1 pp0 pp1 qp0 stack (Int.toNat ((pp1.length : Int) - 0) + 1) ([]) 0).1) 0).1), .blk b15 #[.int .i64 0, .slice none 0 0] 27, .blk b9 #[.int .i64 qp0, .slice qp1A qp1.length qp1C] 27, .blk b3 #[.int .i64 pp0, .slice pp1A pp1.length pp1C] 27, .rd 1 qp1A qp1.length qp1C qp1, .rd 1 pp1A pp1.length pp1C pp1]) ?_ ?_
    ·
      refine wp_block ?_
      refine c_loop (fun r a' w' => ∃ above7L2 : List Int, ∃ y10L2 : Int, ∃ above7L2A : Option Addr, ∃ above7L2C : Nat, F_l16Join_L2 pp0 qp1 r above7L2 y10L2 = F_l16Join_L2 pp0 qp1 (Int.toNat ((qp1.length : Int) - 0) + 1) ((F_l16Join_L1 pp0 pp1 qp0 stack (Int.toNat ((pp1.length : Int) - 0) + 1) ([]) 0).1) 0 ∧ Int.toNat ((qp1.length : Int) - y10L2) < r ∧ (0 ≤ y10L2) ∧ ((above7L2.length : Int) ≤ (pp1.length : Int) + y10L2) ∧ (y10L2 ≤ (qp1.length : Int)) ∧ E a' 59 [(3, .pointer (some ⟨b3, 0, none⟩)), (4, .pointer (some ⟨b9, 0, none⟩)), (6, .pointer (some ⟨b15, 0, none⟩)), (7, .slice above7L2A ((above7L2).length) above7L2C), (10, .int .i64 y10L2)] ∧ St w w' [.own 2 1 above7L2A ((above7L2).length) above7L2C above7L2, .blk b15 #[.int .i64 0, .slice none 0 0] 27, .blk b9 #[.int .i64 qp0, .slice qp1A qp1.length qp1C] 27, .blk b3 #[.int .i64 pp0, .slice pp1A pp1.length pp1C] 27, .rd 1 qp1A qp1.length qp1C qp1, .rd 1 pp1A pp1.length pp1C pp1]) (r := (Int.toNat ((qp1.length : Int) - 0) + 1)) ?_ ?_
      · exact ⟨(F_l16Join_L1 pp0 pp1 qp0 stack (Int.toNat ((pp1.length : Int) - 0) + 1) ([]) 0).1, 0, above7A_34, above7C_34, rfl, Nat.lt_succ_self _, (by first | omega | (simp only [List.length_replicate, sI_len]; omega) | (simp only [List.length_append, List.length_cons, List.length_nil, sI_len, cond_true, cond_false]; omega) | (simp only [List.length_append, List.length_cons, List.length_nil, sI_len, cond_eq_ite, apply_ite List.length]; split <;> simp only [List.length_append, List.length_cons, List.length_nil, sI_len] <;> omega) | grind), (by first | omega | (simp only [List.length_replicate, sI_len]; omega) | (simp only [List.length_append, List.length_cons, List.length_nil, sI_len, cond_true, cond_false]; omega) | (simp only [List.length_append, List.length_cons, List.length_nil, sI_len, cond_eq_ite, apply_ite List.length]; split <;> simp only [List.length_append, List.length_cons, List.length_nil, sI_len] <;> omega) | grind), (by first | omega | (simp only [List.length_replicate, sI_len]; omega) | (simp only [List.length_append, List.length_cons, List.length_nil, sI_len, cond_true, cond_false]; omega) | (simp only [List.length_append, List.length_cons, List.length_nil, sI_len, cond_eq_ite, apply_ite List.length]; split <;> simp only [List.length_append, List.length_cons, List.length_nil, sI_len] <;> omega) | grind), (hE159.sub (L' := [(3, .pointer (some ⟨b3, 0, none⟩)), (4, .pointer (some ⟨b9, 0, none⟩)), (6, .pointer (some ⟨b15, 0, none⟩)), (7, .slice above7A_34 (((F_l16Join_L1 pp0 pp1 qp0 stack (Int.toNat ((pp1.length : Int) - 0) + 1) ([]) 0).1).length) above7C_34), (10, .int .i64 0)]) ⟨rfl, rfl, rfl, rfl, rfl, trivial⟩), (St.pick (Γ' := [.own 2 1 above7A_34 (((F_l16Join_L1 pp0 pp1 qp0 stack (Int.toNat ((pp1.length : Int) - 0) + 1) ([]) 0).1).length) above7C_34 ((F_l16Join_L1 pp0 pp1 qp0 stack (Int.toNat ((pp1.length : Int) - 0) + 1) ([]) 0).1), .blk b15 #[.int .i64 0, .slice none 0 0] 27, .blk b9 #[.int .i64 qp0, .slice qp1A qp1.length qp1C] 27, .blk b3 #[.int .i64 pp0, .slice pp1A pp1.length pp1C] 27, .rd 1 qp1A qp1.length qp1C qp1, .rd 1 pp1A pp1.length pp1C pp1]) hS151 [0, 1, 2, 3, 4, 5] (by decide) rfl)⟩
      ·
        clear hE159 hS151
        rintro r170 a161 w162 ⟨above7L2, y10L2, above7L2A, above7L2C, hT165, hr166, hi167, hi168, hi169, hE163, hS164⟩
        obtain ⟨r170, rfl⟩ : ∃ r', r170 = r' + 1 := ⟨r170 - 1, by omega⟩
        refine c_seq ?_
        refine c_seq ?_
        refine c_reg ?_
        refine q_step (v := .int .i64 y10L2) hE163 (y_move rfl) rfl rfl rfl ?_; intro a171 hE172; clear hE163
        refine q_step (v := .pointer (some ⟨b9, 1, none⟩)) hE172 (y_field rfl (fun _ => by kernel_rfl)) rfl rfl rfl ?_; intro a173 hE174; clear hE172
        refine q_step (v := .slice qp1A qp1.length qp1C) hE174 (y_load (fun _ => by kernel_rfl) rfl (St.cell (i := 2) hS164 rfl rfl)) rfl rfl rfl ?_; intro a175 hE176; clear hE174
        refine q_step (v := .int .i64 (qp1.length : Int)) hE176 (y_len (e := 2) (by kernel_rfl) rfl) rfl rfl rfl ?_; intro a177 hE178; clear hE176
        refine q_step (v := .bool (decide (y10L2 < (qp1.length : Int)))) hE178 (y_lss rfl rfl) rfl rfl rfl ?_; intro a179 hE180; clear hE178
        refine c_nil ?_
        have hE181 := hE180.sub (L' := [(3, .pointer (some ⟨b3, 0, none⟩)), (4, .pointer (some ⟨b9, 0, none⟩)), (6, .pointer (some ⟨b15, 0, none⟩)), (7, .slice above7L2A ((above7L2).length) above7L2C), (10, .int .i64 y10L2), (42, .bool (decide (y10L2 < (qp1.length : Int))))]) ⟨rfl, rfl, rfl, rfl, rfl, rfl, trivial⟩; clear hE180
        refine p_tn ?_
        refine c_cond hE181 rfl (fun ht182 => ?_) (fun ht182 => ?_)
        ·
          have hp183 := of_decide_eq_true ht182
          have hE184 := hE181; rw [ht182] at hE184; clear hE181
          refine wp_skip ?_
          refine p_tn ?_
          refine c_seq ?_
          refine wp_block ?_
          refine d_start (fun w w' => (fun w' => w'.cell? ⟨b9, 1, none⟩ = some (.slice qp1A qp1.length qp1C) ∧ w'.cell? (adr qp1A (Int.toNat y10L2)) = some (.int .i64 (gI qp1 y10L2)) ∧ w'.cell? ⟨b3, 0, none⟩ = some (.int .i64 pp0) ∧ True) w → (fun w' => w'.cell? ⟨b9, 1, none⟩ = some (.slice qp1A qp1.length qp1C) ∧ w'.cell? (adr qp1A (Int.toNat y10L2)) = some (.int .i64 (gI qp1 y10L2)) ∧ w'.cell? ⟨b3, 0, none⟩ = some (.int .i64 pp0) ∧ True) w') [2, 5, 7] 13 (by kernel_rfl) rfl ?_
          intro w185 he186; have hS187 := St.go hS164 he186; clear hS164
          refine d_pure (fun _ h => h) (v := .slice above7L2A ((above7L2).length) above7L2C) 0 rfl hE184 (y_move rfl) rfl (by kernel_rfl) (by kernel_rfl) (by kernel_rfl) rfl rfl (fun _ _ _ h => h) ?_; intro a188 hE189; clear hE184
          refine d_pure (fun _ h => h) (v := .pointer (some ⟨b9, 1, none⟩)) 1 rfl hE189 (y_field rfl (fun _ => by kernel_rfl)) rfl (by kernel_rfl) (by kernel_rfl) (by kernel_rfl) rfl rfl (fun _ _ _ h => h) ?_; intro a190 hE191; clear hE189
          refine d_take (fun _ h => h) (fun _ _ h k => h k) (v := .slice qp1A qp1.length qp1C) 2 rfl hE191 (S := fun w' => w'.cell? ⟨b9, 1, none⟩ = some (.slice qp1A qp1.length qp1C) ∧ w'.cell? (adr qp1A (Int.toNat y10L2)) = some (.int .i64 (gI qp1 y10L2)) ∧ w'.cell? ⟨b3, 0, none⟩ = some (.int .i64 pp0) ∧ True) ⟨(St.cell (i := 2) hS187 rfl rfl _ (Ext.refl _)), (RdS.elt (St.rdR (i := 4) hS187 rfl) (by omega) (by omega) _ (Ext.refl _)), (St.cell (i := 3) hS187 rfl rfl _ (Ext.refl _)), trivial⟩ (y_load (fun _ => by kernel_rfl) rfl (fun _ h => h.1)) rfl rfl (by kernel_rfl) (by kernel_rfl) (by kernel_rfl) (by kernel_rfl) rfl rfl (fun _ _ _ h => h) ?_; intro a192 hE193; clear hE191
          refine d_pure (fun _ h => h) (v := .int .i64 y10L2) 3 rfl hE193 (y_move rfl) rfl (by kernel_rfl) (by kernel_rfl) (by kernel_rfl) rfl rfl (fun _ _ _ h => h) ?_; intro a194 hE195; clear hE193
          refine d_pure (fun _ h => h) (v := .pointer (some (adr qp1A (Int.toNat y10L2)))) 4 rfl hE195 (y_idx (by kernel_rfl) (fun _ => by kernel_rfl) rfl rfl (RdS.isS (m := y10L2) (St.rdR (i := 4) hS187 rfl) (by omega) (by omega)) (by omega) (by omega) (Nat.mul_one _).symm) rfl (by kernel_rfl) (by kernel_rfl) (by kernel_rfl) rfl rfl (fun _ _ _ h => h) ?_; intro a196 hE197; clear hE195
          refine d_take (fun _ h => h) (fun _ _ h k => h k) (v := .int .i64 (gI qp1 y10L2)) 5 rfl hE197 (S := fun w' => w'.cell? ⟨b9, 1, none⟩ = some (.slice qp1A qp1.length qp1C) ∧ w'.cell? (adr qp1A (Int.toNat y10L2)) = some (.int .i64 (gI qp1 y10L2)) ∧ w'.cell? ⟨b3, 0, none⟩ = some (.int .i64 pp0) ∧ True) ⟨(St.cell (i := 2) hS187 rfl rfl _ (Ext.refl _)), (RdS.elt (St.rdR (i := 4) hS187 rfl) (by omega) (by omega) _ (Ext.refl _)), (St.cell (i := 3) hS187 rfl rfl _ (Ext.refl _)), trivial⟩ (y_load (fun _ => by kernel_rfl) rfl (fun _ h => h.2.1)) rfl rfl (by kernel_rfl) (by kernel_rfl) (by kernel_rfl) (by kernel_rfl) rfl rfl (fun _ _ _ h => h) ?_; intro a198 hE199; clear hE197
          refine d_pure (fun _ h => h) (v := .pointer (some ⟨b3, 0, none⟩)) 6 rfl hE199 (y_field rfl (fun _ => by kernel_rfl)) rfl (by kernel_rfl) (by kernel_rfl) (by kernel_rfl) rfl rfl (fun _ _ _ h => h) ?_; intro a200 hE201; clear hE199
          refine d_take (fun _ h => h) (fun _ _ h k => h k) (v := .int .i64 pp0) 7 rfl hE201 (S := fun w' => w'.cell? ⟨b9, 1, none⟩ = some (.slice qp1A qp1.length qp1C) ∧ w'.cell? (adr qp1A (Int.toNat y10L2)) = some (.int .i64 (gI qp1 y10L2)) ∧ w'.cell? ⟨b3, 0, none⟩ = some (.int .i64 pp0) ∧ True) ⟨(St.cell (i := 2) hS187 rfl rfl _ (Ext.refl _)), (RdS.elt (St.rdR (i := 4) hS187 rfl) (by omega) (by omega) _ (Ext.refl _)), (St.cell (i := 3) hS187 rfl rfl _ (Ext.refl _)), trivial⟩ (y_load (fun _ => by kernel_rfl) rfl (fun _ h => h.2.2.1)) rfl rfl (by kernel_rfl) (by kernel_rfl) (by kernel_rfl) (by kernel_rfl) rfl rfl (fun _ _ _ h => h) ?_; intro a202 hE203; clear hE201
          refine d_pure (fun _ h => h) (v := .int .u64 pp0) 8 rfl hE203 (y_conv (ds := .int .i64) (by kernel_rfl) (by kernel_rfl) rfl (wU64 (by omega) (by omega))) rfl (by kernel_rfl) (by kernel_rfl) (by kernel_rfl) rfl rfl (fun _ _ _ h => h) ?_; intro a204 hE205; clear hE203
          refine d_pure (fun _ h => h) (v := .int .i64 (shlI (gI qp1 y10L2) pp0)) 9 rfl hE205 (y_shl rfl rfl (by omega)) rfl (by kernel_rfl) (by kernel_rfl) (by kernel_rfl) rfl rfl (fun _ _ _ h => h) ?_; intro a206 hE207; clear hE205
          refine d_only 10 (by kernel_rfl) rfl hE207 rfl (l_lit (e := 2) (s := 1) (xs := [shlI (gI qp1 y10L2) pp0]) (vs := [.int .i64 (shlI (gI qp1 y10L2) pp0)]) hS187 hE207 rfl (fun _ => by kernel_rfl) rfl rfl rfl ?_)
          intro b208 w209 hS212 he213 a210 hE211; clear hS187 hE207
          refine ⟨fun h => Bool.noConfusion (h.symm.trans (show exm _ _ _ = true by kernel_rfl)), ?_⟩
          obtain ⟨_, hi1, hi2, hi3, hi4⟩ := info_parts (show (Try.prog.info? 2).map (fun i => (i.zero, i.size, i.bytes)) = some (some (.int .i64 0), 1, 8) by kernel_rfl)
          refine d_only 11 (by kernel_rfl) rfl hE211 rfl (l_append (k := 1) (n' := (above7L2 ++ ([shlI (gI qp1 y10L2) pp0])).length) hS212 hE211 (by kernel_rfl) hi1 hi2 hi3 rfl (by decide) (by rw [hi4]; decide) rfl rfl rfl (St.rdO (i := 0) hS212 rfl) (by first | omega | (simp only [List.length_append, List.length_cons, List.length_nil]; omega)) (by have h1 := (St.rdO (i := 1) hS212 rfl).len1; have h2 := (St.rdO (i := 0) hS212 rfl).len1; rw [List.length_append, h1, h2]) rfl ?_)
          intro b214 c220 w215 hS218 a216 hE217; clear hS212 hE211 hi1 hi2 hi3 hi4
          refine ⟨fun h => Bool.noConfusion (h.symm.trans (show exm _ _ _ = true by kernel_rfl)), ?_⟩
          refine d_pure (fun _ h => h) (v := .slice b214 ((above7L2 ++ ([shlI (gI qp1 y10L2) pp0])).length) c220) 12 rfl hE217 (y_assign rfl) rfl (by kernel_rfl) (by kernel_rfl) (by kernel_rfl) rfl rfl (fun _ _ _ h => h) ?_; intro a221 hE222; clear hE217
          refine d_done (by kernel_rfl) ?_
          have hE223 := hE222.sub (L' := [(3, .pointer (some ⟨b3, 0, none⟩)), (4, .pointer (some ⟨b9, 0, none⟩)), (6, .pointer (some ⟨b15, 0, none⟩)), (7, .slice b214 ((above7L2 ++ ([shlI (gI qp1 y10L2) pp0])).length) c220), (10, .int .i64 y10L2)]) ⟨rfl, rfl, rfl, rfl, rfl, trivial⟩; clear hE222
          refine p_bn ?_
          refine p_tn ?_
          refine c_reg ?_
          refine q_step (v := .int .i64 y10L2) hE223 (y_move rfl) rfl rfl rfl ?_; intro a224 hE225; clear hE223
          refine q_step (v := .int .i64 (y10L2 + 1)) hE225 (y_add rfl rfl ⟨(by omega), (by omega)⟩) rfl rfl rfl ?_; intro a226 hE227; clear hE225
          refine q_step (v := .int .i64 (y10L2 + 1)) hE227 (y_assign rfl) rfl rfl rfl ?_; intro a228 hE229; clear hE227
          refine c_nil ?_
          have hE230 := hE229.sub (L' := [(3, .pointer (some ⟨b3, 0, none⟩)), (4, .pointer (some ⟨b9, 0, none⟩)), (6, .pointer (some ⟨b15, 0, none⟩)), (7, .slice b214 ((above7L2 ++ ([shlI (gI qp1 y10L2) pp0])).length) c220), (10, .int .i64 (y10L2 + 1))]) ⟨rfl, rfl, rfl, rfl, rfl, trivial⟩; clear hE229
          refine p_tn ⟨r170, Nat.lt_succ_self _, above7L2 ++ ([shlI (gI qp1 y10L2) pp0]), y10L2 + 1, b214, c220, (hT165.symm.trans (show F_l16Join_L2b pp0 qp1 (F_l16Join_L2 pp0 qp1 r170) above7L2 y10L2 = F_l16Join_L2 pp0 qp1 r170 (above7L2 ++ ([shlI (gI qp1 y10L2) pp0])) (y10L2 + 1) by unfold F_l16Join_L2b; rw [ht182]; first | done | rfl)).symm, (by omega), (by first | omega | (simp only [List.length_replicate, sI_len]; omega) | (simp only [List.length_append, List.length_cons, List.length_nil, sI_len, cond_true, cond_false]; omega) | (simp only [List.length_append, List.length_cons, List.length_nil, sI_len, cond_eq_ite, apply_ite List.length]; split <;> simp only [List.length_append, List.length_cons, List.length_nil, sI_len] <;> omega) | grind), (by first | omega | (simp only [List.length_replicate, sI_len]; omega) | (simp only [List.length_append, List.length_cons, List.length_nil, sI_len, cond_true, cond_false]; omega) | (simp only [List.length_append, List.length_cons, List.length_nil, sI_len, cond_eq_ite, apply_ite List.length]; split <;> simp only [List.length_append, List.length_cons, List.length_nil, sI_len] <;> omega) | grind), (by first | omega | (simp only [List.length_replicate, sI_len]; omega) | (simp only [List.length_append, List.length_cons, List.length_nil, sI_len, cond_true, cond_false]; omega) | (simp only [List.length_append, List.length_cons, List.length_nil, sI_len, cond_eq_ite, apply_ite List.length]; split <;> simp only [List.length_append, List.length_cons, List.length_nil, sI_len] <;> omega) | grind), (hE230.sub (L' := [(3, .pointer (some ⟨b3, 0, none⟩)), (4, .pointer (some ⟨b9, 0, none⟩)), (6, .pointer (some ⟨b15, 0, none⟩)), (7, .slice b214 ((above7L2 ++ ([shlI (gI qp1 y10L2) pp0])).length) c220), (10, .int .i64 (y10L2 + 1))]) ⟨rfl, rfl, rfl, rfl, rfl, trivial⟩), (St.pick (Γ' := [.own 2 1 b214 ((above7L2 ++ ([shlI (gI qp1 y10L2) pp0])).length) c220 (above7L2 ++ ([shlI (gI qp1 y10L2) pp0])), .blk b15 #[.int .i64 0, .slice none 0 0] 27, .blk b9 #[.int .i64 qp0, .slice qp1A qp1.length qp1C] 27, .blk b3 #[.int .i64 pp0, .slice pp1A pp1.length pp1C] 27, .rd 1 qp1A qp1.length qp1C qp1, .rd 1 pp1A pp1.length pp1C pp1]) hS218 [1, 2, 3, 4, 5, 6] (by decide) rfl)⟩
        ·
          have hp231 := of_decide_eq_false ht182
          have hE232 := hE181; rw [ht182] at hE232; clear hE181
          refine wp_exit ?_
          refine p_te ?_
          have hX233 : F_l16Join_L2 pp0 qp1 (Int.toNat ((qp1.length : Int) - 0) + 1) ((F_l16Join_L1 pp0 pp1 qp0 stack (Int.toNat ((pp1.length : Int) - 0) + 1) ([]) 0).1) 0 = (above7L2, y10L2) := hT165.symm.trans (show F_l16Join_L2b pp0 qp1 (F_l16Join_L2 pp0 qp1 r170) above7L2 y10L2 = (above7L2, y10L2) by unfold F_l16Join_L2b; rw [ht182]; first | done | rfl)
          refine p_te (p_be (p_tn ?_))
          exact ⟨above7L2A, above7L2C, (by rw [hX233]; exact (show 0 ≤ y10L2 from (by first | omega | (simp only [List.length_replicate, sI_len]; omega) | (simp only [List.length_append, List.length_cons, List.length_nil, sI_len, cond_true, cond_false]; omega) | (simp only [List.length_append, List.length_cons, List.length_nil, sI_len, cond_eq_ite, apply_ite List.length]; split <;> simp only [List.length_append, List.length_cons, List.length_nil, sI_len] <;> omega) | grind))), (by rw [hX233]; exact (show (above7L2.length : Int) ≤ (pp1.length : Int) + y10L2 from (by first | omega | (simp only [List.length_replicate, sI_len]; omega) | (simp only [List.length_append, List.length_cons, List.length_nil, sI_len, cond_true, cond_false]; omega) | (simp only [List.length_append, List.length_cons, List.length_nil, sI_len, cond_eq_ite, apply_ite List.length]; split <;> simp only [List.length_append, List.length_cons, List.length_nil, sI_len] <;> omega) | grind))), (by rw [hX233]; exact (show y10L2 ≤ (qp1.length : Int) from (by first | omega | (simp only [List.length_replicate, sI_len]; omega) | (simp only [List.length_append, List.length_cons, List.length_nil, sI_len, cond_true, cond_false]; omega) | (simp only [List.length_append, List.length_cons, List.length_nil, sI_len, cond_eq_ite, apply_ite List.length]; split <;> simp only [List.length_append, List.length_cons, List.length_nil, sI_len] <;> omega) | grind))), (by rw [hX233]; exact (hE232.sub (L' := [(3, .pointer (some ⟨b3, 0, none⟩)), (4, .pointer (some ⟨b9, 0, none⟩)), (6, .pointer (some ⟨b15, 0, none⟩)), (7, .slice above7L2A ((above7L2).length) above7L2C), (10, .int .i64 y10L2)]) ⟨rfl, rfl, rfl, rfl, rfl, trivial⟩)), (by rw [hX233]; exact (St.pick (Γ' := [.own 2 1 above7L2A ((above7L2).length) above7L2C above7L2, .blk b15 #[.int .i64 0, .slice none 0 0] 27, .blk b9 #[.int .i64 qp0, .slice qp1A qp1.length qp1C] 27, .blk b3 #[.int .i64 pp0, .slice pp1A pp1.length pp1C] 27, .rd 1 qp1A qp1.length qp1C qp1, .rd 1 pp1A pp1.length pp1C pp1]) hS164 [0, 1, 2, 3, 4, 5] (by decide) rfl))⟩
    ·
      rintro a234 w235 ⟨above7L2A_160, above7L2C_160, hi239, hi240, hi241, hE236, hS237⟩; clear hE159 hS151
      refine p_tn ?_
      refine c_seq ?_
      refine c_reg ?_
      refine q_step (v := .slice above7L2A_160 (((F_l16Join_L2 pp0 qp1 (Int.toNat ((qp1.length : Int) - 0) + 1) ((F_l16Join_L1 pp0 pp1 qp0 stack (Int.toNat ((pp1.length : Int) - 0) + 1) ([]) 0).1) 0).1).length) above7L2C_160) hE236 (y_move rfl) rfl rfl rfl ?_; intro a242 hE243; clear hE236
      refine l_step hE243 rfl (l_call (f := 58) (argv := [.slice above7L2A_160 (((F_l16Join_L2 pp0 qp1 (Int.toNat ((qp1.length : Int) - 0) + 1) ((F_l16Join_L1 pp0 pp1 qp0 stack (Int.toNat ((pp1.length : Int) - 0) + 1) ([]) 0).1) 0).1).length) above7L2C_160]) hE243 (fun _ => cf_l16Make _ _) rfl rfl (d_l16Make above7L2A_160 (((F_l16Join_L2 pp0 qp1 (Int.toNat ((qp1.length : Int) - 0) + 1) ((F_l16Join_L1 pp0 pp1 qp0 stack (Int.toNat ((pp1.length : Int) - 0) + 1) ([]) 0).1) 0).1).length) above7L2C_160 ((F_l16Join_L2 pp0 qp1 (Int.toNat ((qp1.length : Int) - 0) + 1) ((F_l16Join_L1 pp0 pp1 qp0 stack (Int.toNat ((pp1.length : Int) - 0) + 1) ([]) 0).1) 0).1) w235 (St.rdO (i := 0) hS237 rfl) (by omega)) ?_)
      rintro _ w245 ⟨b250, c251, rfl, ho252, he249⟩ a246 hE247; clear hE243
      have hS248 := St.own hS237 he249 ho252; clear hS237
      refine l_step hE247 rfl (l_storeS (k := 2) (cs' := #[.int .i64 (((F_l16Join_L2 pp0 qp1 (Int.toNat ((qp1.length : Int) - 0) + 1) ((F_l16Join_L1 pp0 pp1 qp0 stack (Int.toNat ((pp1.length : Int) - 0) + 1) ([]) 0).1) 0).1).length : Int), .slice b250 ((((F_l16Join_L2 pp0 qp1 (Int.toNat ((qp1.length : Int) - 0) + 1) ((F_l16Join_L1 pp0 pp1 qp0 stack (Int.toNat ((pp1.length : Int) - 0) + 1) ([]) 0).1) 0).1)).length) c251]) hS248 hE247 (by kernel_rfl) rfl rfl (by kernel_rfl) rfl rfl ?_)
      intro w254 hS257 a255 hE256; clear hS248 hE247
      refine c_nil ?_
      have hE259 := hE256.sub (L' := [(6, .pointer (some ⟨b15, 0, none⟩))]) ⟨rfl, trivial⟩; clear hE256
      refine p_tn ?_
      refine wp_ret ?_
      have hF : F_l16Join pp0 pp1 qp0 qp1 stack = ((((F_l16Join_L2 pp0 qp1 (Int.toNat ((qp1.length : Int) - 0) + 1) ((F_l16Join_L1 pp0 pp1 qp0 stack (Int.toNat ((pp1.length : Int) - 0) + 1) ([]) 0).1) 0).1).length : Int), ((F_l16Join_L2 pp0 qp1 (Int.toNat ((qp1.length : Int) - 0) + 1) ((F_l16Join_L1 pp0 pp1 qp0 stack (Int.toNat ((pp1.length : Int) - 0) + 1) ([]) 0).1) 0).1)) := by unfold F_l16Join; rfl
      refine c_retC hE259 rfl rfl Try.underlying27 rfl (by kernel_rfl) (St.row (i := 2) hS257 rfl _ (Ext.refl _)) ?_
      exact ⟨b250, c251, (by rw [hF]; first | done | rfl), (by rw [hF]; exact hS257.ok 0 _ rfl), hS257.ext⟩

def F_s_SumPosets (pp0 : Int) (pp1 : List Int) (qp0 : Int) (qp1 : List Int) : (Int × List Int) × (Int) :=
  bif (!decide ((F_l16Two pp0 pp1 qp0 qp1) = 0)) then ((0, []), F_l16Two pp0 pp1 qp0 qp1) else (((F_l16Join pp0 pp1 qp0 qp1 false).1, (F_l16Join pp0 pp1 qp0 qp1 false).2), 0)
theorem cf_s_SumPosets (args : Array Value) (w : World) : (callFunc 37 args).run Try.prog w = .ok (.enter 37 args) w := by kernel_rfl
set_option maxRecDepth 100000 in
theorem c_s_SumPosets (pp0 : Int) (pp1A : Option Addr) (pp1N pp1C : Nat) (pp1 : List Int) (qp0 : Int) (qp1A : Option Addr) (qp1N qp1C : Nat) (qp1 : List Int) (w : World) (pp1R : RdS w 1 pp1A pp1N pp1C pp1) (qp1R : RdS w 1 qp1A qp1N qp1C qp1) :
    Calls Try.prog 37 #[.agg #[.int .i64 pp0, .slice pp1A pp1N pp1C], .agg #[.int .i64 qp0, .slice qp1A qp1N qp1C]] w (Ret fun v w' => ∃ b1 : Option Addr, ∃ c1 : Nat, v = .tuple #[.agg #[.int .i64 (((F_s_SumPosets pp0 pp1 qp0 qp1).1).1), .slice b1 (((F_s_SumPosets pp0 pp1 qp0 qp1).1).2).length c1], .int .i64 ((F_s_SumPosets pp0 pp1 qp0 qp1).2)] ∧ OwnS w' w.heap.size 2 1 b1 (((F_s_SumPosets pp0 pp1 qp0 qp1).1).2).length c1 (((F_s_SumPosets pp0 pp1 qp0 qp1).1).2) ∧ Ext w w') := by
  obtain rfl : pp1N = pp1.length := pp1R.len1.symm
  have pp1Le := pp1R.le
  obtain rfl : qp1N = qp1.length := qp1R.len1.symm
  have qp1Le := qp1R.le
  have hS := St.nil w
  have hS1 := St.rd0 hS rfl pp1R; clear hS
  have hS2 := St.rd0 hS1 rfl qp1R; clear hS1
  refine enter (args := [.agg #[.int .i64 pp0, .slice pp1A pp1.length pp1C], .agg #[.int .i64 qp0, .slice qp1A qp1.length qp1C]]) Try.func37 rfl rfl ?_
  rw [Try.ntmps37]; intro a hE
  have hE := hE.sub (L' := [(0, .agg #[.int .i64 pp0, .slice pp1A pp1.length pp1C]), (1, .agg #[.int .i64 qp0, .slice qp1A qp1.length qp1C])]) ⟨rfl, rfl, trivial⟩
  refine c_seq ?_
  refine c_reg ?_
  refine l_step hE rfl (l_box (v := .agg #[.int .i64 pp0, .slice pp1A pp1.length pp1C]) (cs := #[.int .i64 pp0, .slice pp1A pp1.length pp1C]) hS2 hE rfl rfl rfl ?_)
  intro b3 w4 hS7 he8 a5 hE6; clear hS2 hE
  refine l_step hE6 rfl (l_box (v := .agg #[.int .i64 qp0, .slice qp1A qp1.length qp1C]) (cs := #[.int .i64 qp0, .slice qp1A qp1.length qp1C]) hS7 hE6 rfl rfl rfl ?_)
  intro b9 w10 hS13 he14 a11 hE12; clear hS7 hE6
  refine l_step hE12 rfl (l_alloc (z := .agg #[.int .i64 0, .slice none 0 0]) (cs := #[.int .i64 0, .slice none 0 0]) hS13 hE12 (fun _ => by kernel_rfl) rfl rfl ?_)
  intro b15 w16 hS19 he20 a17 hE18; clear hS13 hE12
  refine q_step (v := .int .i64 0) hE18 (y_assign rfl) rfl rfl rfl ?_; intro a21 hE22; clear hE18
  refine c_nil ?_
  have hE23 := hE22.sub (L' := [(2, .pointer (some ⟨b3, 0, none⟩)), (3, .pointer (some ⟨b9, 0, none⟩)), (4, .pointer (some ⟨b15, 0, none⟩))]) ⟨rfl, rfl, rfl, trivial⟩; clear hE22
  refine p_tn ?_
  refine c_seq ?_
  refine c_reg ?_
  refine q_step (v := .agg #[.int .i64 pp0, .slice pp1A pp1.length pp1C]) hE23 (y_loadS Try.underlying27 rfl (by kernel_rfl) rfl (St.row (i := 2) hS19 rfl)) rfl rfl rfl ?_; intro a24 hE25; clear hE23
  refine q_step (v := .agg #[.int .i64 qp0, .slice qp1A qp1.length qp1C]) hE25 (y_loadS Try.underlying27 rfl (by kernel_rfl) rfl (St.row (i := 1) hS19 rfl)) rfl rfl rfl ?_; intro a26 hE27; clear hE25
  refine l_step hE27 rfl (l_call (f := 71) (argv := [.agg #[.int .i64 pp0, .slice pp1A pp1.length pp1C], .agg #[.int .i64 qp0, .slice qp1A qp1.length qp1C]]) hE27 (fun _ => cf_l16Two _ _) rfl rfl (c_l16Two pp0 pp1A pp1.length pp1C pp1 qp0 qp1A qp1.length qp1C qp1 w16 (St.rdR (i := 4) hS19 rfl) (St.rdR (i := 3) hS19 rfl)) ?_)
  rintro _ w29 ⟨rfl, he33⟩ a30 hE31; clear hE27
  have hS32 := St.go hS19 he33; clear hS19
  refine q_step (v := .int .i64 (F_l16Two pp0 pp1 qp0 qp1)) hE31 (y_assign rfl) rfl rfl rfl ?_; intro a34 hE35; clear hE31
  refine c_nil ?_
  have hE36 := hE35.sub (L' := [(2, .pointer (some ⟨b3, 0, none⟩)), (3, .pointer (some ⟨b9, 0, none⟩)), (4, .pointer (some ⟨b15, 0, none⟩)), (6, .int .i64 (F_l16Two pp0 pp1 qp0 qp1))]) ⟨rfl, rfl, rfl, rfl, trivial⟩; clear hE35
  refine p_tn ?_
  refine c_seq ?_
  refine c_seq ?_
  refine c_reg ?_
  refine q_step (v := .int .i64 (F_l16Two pp0 pp1 qp0 qp1)) hE36 (y_move rfl) rfl rfl rfl ?_; intro a37 hE38; clear hE36
  refine q_step (v := .bool (!decide ((F_l16Two pp0 pp1 qp0 qp1) = 0))) hE38 (y_neq rfl rfl) rfl rfl rfl ?_; intro a39 hE40; clear hE38
  refine c_nil ?_
  have hE41 := hE40.sub (L' := [(2, .pointer (some ⟨b3, 0, none⟩)), (3, .pointer (some ⟨b9, 0, none⟩)), (4, .pointer (some ⟨b15, 0, none⟩)), (6, .int .i64 (F_l16Two pp0 pp1 qp0 qp1)), (11, .bool (!decide ((F_l16Two pp0 pp1 qp0 qp1) = 0)))]) ⟨rfl, rfl, rfl, rfl, rfl, trivial⟩; clear hE40
  refine p_tn ?_
  refine c_cond hE41 rfl (fun ht42 => ?_) (fun ht42 => ?_)
  ·
    have ht43 := bn_t ht42
    have hp44 := of_decide_eq_false ht43
    have hE45 := hE41; rw [ht42] at hE45; clear hE41
    refine c_seq ?_
    refine c_reg ?_
    refine q_step (v := .agg #[.int .i64 0, .slice none 0 0]) hE45 (y_build (vs := #[]) (fun a n hE => by simp) (fun _ => by kernel_rfl)) rfl rfl rfl ?_; intro a46 hE47; clear hE45
    refine q_step (v := .int .i64 (F_l16Two pp0 pp1 qp0 qp1)) hE47 (y_move rfl) rfl rfl rfl ?_; intro a48 hE49; clear hE47
    refine l_step hE49 rfl (l_storeS (k := 0) (cs' := #[.int .i64 0, .slice none 0 0]) hS32 hE49 (by kernel_rfl) rfl rfl (by kernel_rfl) rfl rfl ?_)
    intro w51 hS54 a52 hE53; clear hS32 hE49
    refine q_step (v := .int .i64 (F_l16Two pp0 pp1 qp0 qp1)) hE53 (y_assign rfl) rfl rfl rfl ?_; intro a56 hE57; clear hE53
    refine c_nil ?_
    have hE58 := hE57.sub (L' := [(4, .pointer (some ⟨b15, 0, none⟩)), (5, .int .i64 (F_l16Two pp0 pp1 qp0 qp1))]) ⟨rfl, rfl, trivial⟩; clear hE57
    refine p_tn ?_
    refine wp_ret ?_
    refine p_tr ?_
    have hF : F_s_SumPosets pp0 pp1 qp0 qp1 = ((0, []), F_l16Two pp0 pp1 qp0 qp1) := by unfold F_s_SumPosets; rw [ht42]; first | done | rfl
    refine c_retC2 hE58 rfl rfl rfl Try.underlying27 rfl (by kernel_rfl) (St.row (i := 0) hS54 rfl _ (Ext.refl _)) ?_
    exact ⟨none, 0, (by rw [hF]; first | done | rfl), (by rw [hF]; exact OwnS.nilS _ _ _ _), hS54.ext⟩
  ·
    have ht59 := bn_f ht42
    have hp60 := of_decide_eq_true ht59
    have hq61 := l16Two_t hp60
    have hE62 := hE41; rw [ht42] at hE62; clear hE41
    refine wp_skip ?_
    refine p_tn ?_
    refine c_seq ?_
    refine c_reg ?_
    refine q_step (v := .agg #[.int .i64 pp0, .slice pp1A pp1.length pp1C]) hE62 (y_loadS Try.underlying27 rfl (by kernel_rfl) rfl (St.row (i := 2) hS32 rfl)) rfl rfl rfl ?_; intro a63 hE64; clear hE62
    refine q_step (v := .agg #[.int .i64 qp0, .slice qp1A qp1.length qp1C]) hE64 (y_loadS Try.underlying27 rfl (by kernel_rfl) rfl (St.row (i := 1) hS32 rfl)) rfl rfl rfl ?_; intro a65 hE66; clear hE64
    refine l_step hE66 rfl (l_call (f := 72) (argv := [.agg #[.int .i64 pp0, .slice pp1A pp1.length pp1C], .agg #[.int .i64 qp0, .slice qp1A qp1.length qp1C], .bool false]) hE66 (fun _ => cf_l16Join _ _) rfl rfl (c_l16Join pp0 pp1A pp1.length pp1C pp1 qp0 qp1A qp1.length qp1C qp1 false w29 (St.rdR (i := 4) hS32 rfl) (St.rdR (i := 3) hS32 rfl) (by omega) (by omega) (l16Two_t (by assumption)).1.2.2 (by omega) (by omega) (l16Two_t (by assumption)).2.1.2.2) ?_)
    rintro _ w68 ⟨b73, c74, rfl, ho75, he72⟩ a69 hE70; clear hE66
    have hS71 := St.own hS32 he72 ho75; clear hS32
    refine l_step hE70 rfl (l_storeS (k := 1) (cs' := #[.int .i64 ((F_l16Join pp0 pp1 qp0 qp1 false).1), .slice b73 (((F_l16Join pp0 pp1 qp0 qp1 false).2).length) c74]) hS71 hE70 (by kernel_rfl) rfl rfl (by kernel_rfl) rfl rfl ?_)
    intro w77 hS80 a78 hE79; clear hS71 hE70
    refine q_step (v := .int .i64 0) hE79 (y_assign rfl) rfl rfl rfl ?_; intro a82 hE83; clear hE79
    refine c_nil ?_
    have hE84 := hE83.sub (L' := [(4, .pointer (some ⟨b15, 0, none⟩)), (5, .int .i64 0)]) ⟨rfl, rfl, trivial⟩; clear hE83
    refine p_tn ?_
    refine wp_ret ?_
    have hF : F_s_SumPosets pp0 pp1 qp0 qp1 = (((F_l16Join pp0 pp1 qp0 qp1 false).1, (F_l16Join pp0 pp1 qp0 qp1 false).2), 0) := by unfold F_s_SumPosets; rw [ht42]; first | done | rfl
    refine c_retC2 hE84 rfl rfl rfl Try.underlying27 rfl (by kernel_rfl) (St.row (i := 1) hS80 rfl _ (Ext.refl _)) ?_
    exact ⟨b73, c74, (by rw [hF]; first | done | rfl), (by rw [hF]; exact hS80.ok 0 _ rfl), hS80.ext⟩

def F_summed_L1b (pp0 : Int) (pp1 : List Int) (more : Int) (rec : (List Int) → Int → (List Int) × Int) (out8 : List Int) (t34 : Int) : (List Int) × Int :=
  bif (decide (t34 < (pp1.length : Int))) then (rec (out8 ++ ([orI (gI pp1 t34) (shlI more pp0)])) (t34 + 1)) else (out8, t34)
def F_summed_L1 (pp0 : Int) (pp1 : List Int) (more : Int) : Nat → (List Int) → Int → (List Int) × Int
  | 0, out8, t34 => (out8, t34)
  | r + 1, out8, t34 => F_summed_L1b pp0 pp1 more (F_summed_L1 pp0 pp1 more r) out8 t34
def F_summed_L2b (pp0 : Int) (qp1 : List Int) (rec : (List Int) → Int → (List Int) × Int) (out8L2 : List Int) (t51L2 : Int) : (List Int) × Int :=
  bif (decide (t51L2 < (qp1.length : Int))) then (rec (out8L2 ++ ([shlI (gI qp1 t51L2) pp0])) (t51L2 + 1)) else (out8L2, t51L2)
def F_summed_L2 (pp0 : Int) (qp1 : List Int) : Nat → (List Int) → Int → (List Int) × Int
  | 0, out8L2, t51L2 => (out8L2, t51L2)
  | r + 1, out8L2, t51L2 => F_summed_L2b pp0 qp1 (F_summed_L2 pp0 qp1 r) out8L2 t51L2
def F_summed (pp0 : Int) (pp1 : List Int) (qp0 : Int) (qp1 : List Int) (more : Int) : (Int × List Int) × (Int) :=
  bif ((!(F_isPoset pp0 pp1)) || (!(F_isPoset qp0 qp1))) then ((0, []), 1) else (bif (decide (8 < (pp0 + qp0))) then ((0, []), 3) else (((F_posetOf ((F_summed_L2 pp0 qp1 (Int.toNat ((qp1.length : Int) - 0) + 1) ((F_summed_L1 pp0 pp1 more (Int.toNat ((pp1.length : Int) - 0) + 1) ([]) 0).1) 0).1)).1, (F_summed_L2 pp0 qp1 (Int.toNat ((qp1.length : Int) - 0) + 1) ((F_summed_L1 pp0 pp1 more (Int.toNat ((pp1.length : Int) - 0) + 1) ([]) 0).1) 0).1), 0))
theorem cf_summed (args : Array Value) (w : World) : (callFunc 73 args).run Try.prog w = .ok (.enter 73 args) w := by kernel_rfl
set_option maxRecDepth 100000 in
theorem c_summed (pp0 : Int) (pp1A : Option Addr) (pp1N pp1C : Nat) (pp1 : List Int) (qp0 : Int) (qp1A : Option Addr) (qp1N qp1C : Nat) (qp1 : List Int) (more : Int) (w : World) (pp1R : RdS w 1 pp1A pp1N pp1C pp1) (qp1R : RdS w 1 qp1A qp1N qp1C qp1) :
    Calls Try.prog 73 #[.agg #[.int .i64 pp0, .slice pp1A pp1N pp1C], .agg #[.int .i64 qp0, .slice qp1A qp1N qp1C], .int .i64 more] w (Ret fun v w' => ∃ b1 : Option Addr, ∃ c1 : Nat, v = .tuple #[.agg #[.int .i64 (((F_summed pp0 pp1 qp0 qp1 more).1).1), .slice b1 (((F_summed pp0 pp1 qp0 qp1 more).1).2).length c1], .int .i64 ((F_summed pp0 pp1 qp0 qp1 more).2)] ∧ OwnS w' w.heap.size 2 1 b1 (((F_summed pp0 pp1 qp0 qp1 more).1).2).length c1 (((F_summed pp0 pp1 qp0 qp1 more).1).2) ∧ Ext w w') := by
  obtain rfl : pp1N = pp1.length := pp1R.len1.symm
  have pp1Le := pp1R.le
  obtain rfl : qp1N = qp1.length := qp1R.len1.symm
  have qp1Le := qp1R.le
  have hS := St.nil w
  have hS1 := St.rd0 hS rfl pp1R; clear hS
  have hS2 := St.rd0 hS1 rfl qp1R; clear hS1
  refine enter (args := [.agg #[.int .i64 pp0, .slice pp1A pp1.length pp1C], .agg #[.int .i64 qp0, .slice qp1A qp1.length qp1C], .int .i64 more]) Try.func73 rfl rfl ?_
  rw [Try.ntmps73]; intro a hE
  have hE := hE.sub (L' := [(0, .agg #[.int .i64 pp0, .slice pp1A pp1.length pp1C]), (1, .agg #[.int .i64 qp0, .slice qp1A qp1.length qp1C]), (2, .int .i64 more)]) ⟨rfl, rfl, rfl, trivial⟩
  refine c_seq ?_
  refine c_reg ?_
  refine l_step hE rfl (l_box (v := .agg #[.int .i64 pp0, .slice pp1A pp1.length pp1C]) (cs := #[.int .i64 pp0, .slice pp1A pp1.length pp1C]) hS2 hE rfl rfl rfl ?_)
  intro b3 w4 hS7 he8 a5 hE6; clear hS2 hE
  refine l_step hE6 rfl (l_box (v := .agg #[.int .i64 qp0, .slice qp1A qp1.length qp1C]) (cs := #[.int .i64 qp0, .slice qp1A qp1.length qp1C]) hS7 hE6 rfl rfl rfl ?_)
  intro b9 w10 hS13 he14 a11 hE12; clear hS7 hE6
  refine l_step hE12 rfl (l_alloc (z := .agg #[.int .i64 0, .slice none 0 0]) (cs := #[.int .i64 0, .slice none 0 0]) hS13 hE12 (fun _ => by kernel_rfl) rfl rfl ?_)
  intro b15 w16 hS19 he20 a17 hE18; clear hS13 hE12
  refine q_step (v := .int .i64 0) hE18 (y_assign rfl) rfl rfl rfl ?_; intro a21 hE22; clear hE18
  refine c_nil ?_
  have hE23 := hE22.sub (L' := [(2, .int .i64 more), (3, .pointer (some ⟨b3, 0, none⟩)), (4, .pointer (some ⟨b9, 0, none⟩)), (6, .pointer (some ⟨b15, 0, none⟩))]) ⟨rfl, rfl, rfl, rfl, trivial⟩; clear hE22
  refine p_tn ?_
  refine c_seq ?_
  refine wp_block ?_
  refine c_cut (fun a' w' => E a' 65 [(2, .int .i64 more), (3, .pointer (some ⟨b3, 0, none⟩)), (4, .pointer (some ⟨b9, 0, none⟩)), (6, .pointer (some ⟨b15, 0, none⟩)), (13, .bool ((!(F_isPoset pp0 pp1)) || (!(F_isPoset qp0 qp1))))] ∧ St w w' [.blk b15 #[.int .i64 0, .slice none 0 0] 27, .rd 1 qp1A qp1.length qp1C qp1, .blk b9 #[.int .i64 qp0, .slice qp1A qp1.length qp1C] 27, .rd 1 pp1A pp1.length pp1C pp1, .blk b3 #[.int .i64 pp0, .slice pp1A pp1.length pp1C] 27]) ?_ ?_
  ·
    refine c_reg ?_
    refine q_step (v := .agg #[.int .i64 pp0, .slice pp1A pp1.length pp1C]) hE23 (y_loadS Try.underlying27 rfl (by kernel_rfl) rfl (St.row (i := 2) hS19 rfl)) rfl rfl rfl ?_; intro a24 hE25; clear hE23
    refine l_step hE25 rfl (l_call (f := 51) (argv := [.agg #[.int .i64 pp0, .slice pp1A pp1.length pp1C]]) hE25 (fun _ => cf_isPoset _ _) rfl rfl (c_isPoset pp0 pp1A pp1.length pp1C pp1 w16 (St.rdR (i := 4) hS19 rfl)) ?_)
    rintro _ w27 ⟨rfl, he31⟩ a28 hE29; clear hE25
    have hS30 := St.go hS19 he31; clear hS19
    refine q_step (v := .bool (!(F_isPoset pp0 pp1))) hE29 (y_not rfl) rfl rfl rfl ?_; intro a32 hE33; clear hE29
    refine q_step (v := .bool (!(F_isPoset pp0 pp1))) hE33 (y_move rfl) rfl rfl rfl ?_; intro a34 hE35; clear hE33
    rcases Bool.eq_false_or_eq_true (!(F_isPoset pp0 pp1)) with hb36 | hb36
    ·
      have hE37 := hE35; rw [hb36] at hE37; clear hE35
      have ht38 := bn_t hb36
      refine q_skip hE37 rfl rfl rfl ?_; intro a39 hE40; clear hE37
      refine q_skip hE40 rfl rfl rfl ?_; intro a41 hE42; clear hE40
      refine q_skip hE42 rfl rfl rfl ?_; intro a43 hE44; clear hE42
      refine q_step (v := .bool true) hE44 (y_pick (b := true) rfl rfl) rfl rfl rfl ?_; intro a45 hE46; clear hE44
      refine q_step (v := .bool true) hE46 (y_assign rfl) rfl rfl rfl ?_; intro a47 hE48; clear hE46
      refine c_nil ?_
      have hE49 := hE48.sub (L' := [(2, .int .i64 more), (3, .pointer (some ⟨b3, 0, none⟩)), (4, .pointer (some ⟨b9, 0, none⟩)), (6, .pointer (some ⟨b15, 0, none⟩)), (13, .bool true)]) ⟨rfl, rfl, rfl, rfl, rfl, trivial⟩; clear hE48
      refine p_tn ?_
      have hE50 := hE49.sub (L' := [(2, .int .i64 more), (3, .pointer (some ⟨b3, 0, none⟩)), (4, .pointer (some ⟨b9, 0, none⟩)), (6, .pointer (some ⟨b15, 0, none⟩)), (13, .bool true)]) ⟨rfl, rfl, rfl, rfl, rfl, trivial⟩
      have hS51 := (St.pick (Γ' := [.blk b15 #[.int .i64 0, .slice none 0 0] 27, .rd 1 qp1A qp1.length qp1C qp1, .blk b9 #[.int .i64 qp0, .slice qp1A qp1.length qp1C] 27, .rd 1 pp1A pp1.length pp1C pp1, .blk b3 #[.int .i64 pp0, .slice pp1A pp1.length pp1C] 27]) hS30 [0, 3, 1, 4, 2] (by decide) rfl)
      exact ⟨(by rw [hb36]; exact hE50), hS51⟩
    ·
      have hE52 := hE35; rw [hb36] at hE52; clear hE35
      have ht53 := bn_f hb36
      have hp54 := isPoset_t ht53
      refine q_step (v := .agg #[.int .i64 qp0, .slice qp1A qp1.length qp1C]) hE52 (y_loadS Try.underlying27 rfl (by kernel_rfl) rfl (St.row (i := 1) hS30 rfl)) rfl rfl rfl ?_; intro a55 hE56; clear hE52
      refine l_step hE56 rfl (l_call (f := 51) (argv := [.agg #[.int .i64 qp0, .slice qp1A qp1.length qp1C]]) hE56 (fun _ => cf_isPoset _ _) rfl rfl (c_isPoset qp0 qp1A qp1.length qp1C qp1 w27 (St.rdR (i := 3) hS30 rfl)) ?_)
      rintro _ w58 ⟨rfl, he62⟩ a59 hE60; clear hE56
      have hS61 := St.go hS30 he62; clear hS30
      refine q_step (v := .bool (!(F_isPoset qp0 qp1))) hE60 (y_not rfl) rfl rfl rfl ?_; intro a63 hE64; clear hE60
      refine q_step (v := .bool (!(F_isPoset qp0 qp1))) hE64 (y_pick (b := false) rfl rfl) rfl rfl rfl ?_; intro a65 hE66; clear hE64
      refine q_step (v := .bool (!(F_isPoset qp0 qp1))) hE66 (y_assign rfl) rfl rfl rfl ?_; intro a67 hE68; clear hE66
      refine c_nil ?_
      have hE69 := hE68.sub (L' := [(2, .int .i64 more), (3, .pointer (some ⟨b3, 0, none⟩)), (4, .pointer (some ⟨b9, 0, none⟩)), (6, .pointer (some ⟨b15, 0, none⟩)), (13, .bool (!(F_isPoset qp0 qp1)))]) ⟨rfl, rfl, rfl, rfl, rfl, trivial⟩; clear hE68
      refine p_tn ?_
      have hE70 := hE69.sub (L' := [(2, .int .i64 more), (3, .pointer (some ⟨b3, 0, none⟩)), (4, .pointer (some ⟨b9, 0, none⟩)), (6, .pointer (some ⟨b15, 0, none⟩)), (13, .bool (!(F_isPoset qp0 qp1)))]) ⟨rfl, rfl, rfl, rfl, rfl, trivial⟩
      have hS71 := (St.pick (Γ' := [.blk b15 #[.int .i64 0, .slice none 0 0] 27, .rd 1 qp1A qp1.length qp1C qp1, .blk b9 #[.int .i64 qp0, .slice qp1A qp1.length qp1C] 27, .rd 1 pp1A pp1.length pp1C pp1, .blk b3 #[.int .i64 pp0, .slice pp1A pp1.length pp1C] 27]) hS61 [0, 3, 1, 4, 2] (by decide) rfl)
      exact ⟨(by rw [hb36]; exact hE70), hS71⟩
  ·
    rintro a72 w73 ⟨hE74, hS75⟩; clear hE23 hS19
    refine c_cond hE74 rfl (fun ht77 => ?_) (fun ht77 => ?_)
    ·
      have hE78 := hE74; rw [ht77] at hE78; clear hE74
      refine c_seq ?_
      refine c_reg ?_
      refine q_step (v := .agg #[.int .i64 0, .slice none 0 0]) hE78 (y_build (vs := #[]) (fun a n hE => by simp) (fun _ => by kernel_rfl)) rfl rfl rfl ?_; intro a79 hE80; clear hE78
      refine l_step hE80 rfl (l_storeS (k := 0) (cs' := #[.int .i64 0, .slice none 0 0]) hS75 hE80 (by kernel_rfl) rfl rfl (by kernel_rfl) rfl rfl ?_)
      intro w82 hS85 a83 hE84; clear hS75 hE80
      refine q_step (v := .int .i64 1) hE84 (y_assign rfl) rfl rfl rfl ?_; intro a87 hE88; clear hE84
      refine c_nil ?_
      have hE89 := hE88.sub (L' := [(6, .pointer (some ⟨b15, 0, none⟩)), (7, .int .i64 1)]) ⟨rfl, rfl, trivial⟩; clear hE88
      refine p_tn ?_
      refine wp_ret ?_
      refine p_br ?_
      refine p_tr ?_
      have hF : F_summed pp0 pp1 qp0 qp1 more = ((0, []), 1) := by unfold F_summed; rw [ht77]; first | done | rfl
      refine c_retC2 hE89 rfl rfl rfl Try.underlying27 rfl (by kernel_rfl) (St.row (i := 0) hS85 rfl _ (Ext.refl _)) ?_
      exact ⟨none, 0, (by rw [hF]; first | done | rfl), (by rw [hF]; exact OwnS.nilS _ _ _ _), hS85.ext⟩
    ·
      obtain ⟨ht90, ht91⟩ := bor_f ht77
      have ht92 := bn_f ht90
      have hp93 := isPoset_t ht92
      have ht94 := bn_f ht91
      have hp95 := isPoset_t ht94
      have hE96 := hE74; rw [ht77] at hE96; clear hE74
      refine c_seq ?_
      refine c_reg ?_
      refine q_step (v := .pointer (some ⟨b3, 0, none⟩)) hE96 (y_field rfl (fun _ => by kernel_rfl)) rfl rfl rfl ?_; intro a97 hE98; clear hE96
      refine q_step (v := .int .i64 pp0) hE98 (y_load (fun _ => by kernel_rfl) rfl (St.cell (i := 4) hS75 rfl rfl)) rfl rfl rfl ?_; intro a99 hE100; clear hE98
      refine q_step (v := .pointer (some ⟨b9, 0, none⟩)) hE100 (y_field rfl (fun _ => by kernel_rfl)) rfl rfl rfl ?_; intro a101 hE102; clear hE100
      refine q_step (v := .int .i64 qp0) hE102 (y_load (fun _ => by kernel_rfl) rfl (St.cell (i := 2) hS75 rfl rfl)) rfl rfl rfl ?_; intro a103 hE104; clear hE102
      refine q_step (v := .int .i64 (pp0 + qp0)) hE104 (y_add rfl rfl ⟨(by omega), (by omega)⟩) rfl rfl rfl ?_; intro a105 hE106; clear hE104
      refine q_step (v := .bool (decide (8 < (pp0 + qp0)))) hE106 (y_gtr rfl rfl) rfl rfl rfl ?_; intro a107 hE108; clear hE106
      refine q_step (v := .bool (decide (8 < (pp0 + qp0)))) hE108 (y_assign rfl) rfl rfl rfl ?_; intro a109 hE110; clear hE108
      refine c_nil ?_
      have hE111 := hE110.sub (L' := [(2, .int .i64 more), (3, .pointer (some ⟨b3, 0, none⟩)), (4, .pointer (some ⟨b9, 0, none⟩)), (6, .pointer (some ⟨b15, 0, none⟩)), (23, .bool (decide (8 < (pp0 + qp0))))]) ⟨rfl, rfl, rfl, rfl, rfl, trivial⟩; clear hE110
      refine p_tn ?_
      refine c_cond hE111 rfl (fun ht112 => ?_) (fun ht112 => ?_)
      ·
        have hp113 := of_decide_eq_true ht112
        have hE114 := hE111; rw [ht112] at hE114; clear hE111
        refine c_seq ?_
        refine c_reg ?_
        refine q_step (v := .agg #[.int .i64 0, .slice none 0 0]) hE114 (y_build (vs := #[]) (fun a n hE => by simp) (fun _ => by kernel_rfl)) rfl rfl rfl ?_; intro a115 hE116; clear hE114
        refine l_step hE116 rfl (l_storeS (k := 0) (cs' := #[.int .i64 0, .slice none 0 0]) hS75 hE116 (by kernel_rfl) rfl rfl (by kernel_rfl) rfl rfl ?_)
        intro w118 hS121 a119 hE120; clear hS75 hE116
        refine q_step (v := .int .i64 3) hE120 (y_assign rfl) rfl rfl rfl ?_; intro a123 hE124; clear hE120
        refine c_nil ?_
        have hE125 := hE124.sub (L' := [(6, .pointer (some ⟨b15, 0, none⟩)), (7, .int .i64 3)]) ⟨rfl, rfl, trivial⟩; clear hE124
        refine p_tn ?_
        refine wp_ret ?_
        refine p_br ?_
        refine p_tr ?_
        have hF : F_summed pp0 pp1 qp0 qp1 more = ((0, []), 3) := by unfold F_summed; rw [ht112, ht77]; first | done | rfl
        refine c_retC2 hE125 rfl rfl rfl Try.underlying27 rfl (by kernel_rfl) (St.row (i := 0) hS121 rfl _ (Ext.refl _)) ?_
        exact ⟨none, 0, (by rw [hF]; first | done | rfl), (by rw [hF]; exact OwnS.nilS _ _ _ _), hS121.ext⟩
      ·
        have hp126 := of_decide_eq_false ht112
        have hE127 := hE111; rw [ht112] at hE127; clear hE111
        refine wp_skip ?_
        refine p_bn ?_
        refine p_tn ?_
        refine c_seq ?_
        refine c_reg ?_
        refine q_step (v := .slice none 0 0) hE127 (y_assign rfl) rfl rfl rfl ?_; intro a128 hE129; clear hE127
        refine c_nil ?_
        have hE130 := hE129.sub (L' := [(2, .int .i64 more), (3, .pointer (some ⟨b3, 0, none⟩)), (4, .pointer (some ⟨b9, 0, none⟩)), (6, .pointer (some ⟨b15, 0, none⟩)), (8, .slice none 0 0)]) ⟨rfl, rfl, rfl, rfl, rfl, trivial⟩; clear hE129
        refine p_tn ?_
        refine c_seq ?_
        refine c_seq ?_
        refine c_reg ?_
        refine q_step (v := .pointer (some ⟨b3, 1, none⟩)) hE130 (y_field rfl (fun _ => by kernel_rfl)) rfl rfl rfl ?_; intro a131 hE132; clear hE130
        refine q_step (v := .slice pp1A pp1.length pp1C) hE132 (y_load (fun _ => by kernel_rfl) rfl (St.cell (i := 4) hS75 rfl rfl)) rfl rfl rfl ?_; intro a133 hE134; clear hE132
        refine q_step (v := .int .i64 (pp1.length : Int)) hE134 (y_len (e := 2) (by kernel_rfl) rfl) rfl rfl rfl ?_; intro a135 hE136; clear hE134
        refine q_step (v := .int .i64 0) hE136 (y_move rfl) rfl rfl rfl ?_; intro a137 hE138; clear hE136
        refine c_nil ?_
        have hE139 := hE138.sub (L' := [(2, .int .i64 more), (3, .pointer (some ⟨b3, 0, none⟩)), (4, .pointer (some ⟨b9, 0, none⟩)), (6, .pointer (some ⟨b15, 0, none⟩)), (8, .slice none 0 0), (32, .slice pp1A pp1.length pp1C), (33, .int .i64 (pp1.length : Int)), (34, .int .i64 0)]) ⟨rfl, rfl, rfl, rfl, rfl, rfl, rfl, rfl, trivial⟩; clear hE138
        refine p_tn ?_
        have hS140 := St.nils hS75 2 1; clear hS75
        refine c_cut1 (fun a' w' => ∃ out8A_141 : Option Addr, ∃ out8C_141 : Nat, (0 ≤ ((F_summed_L1 pp0 pp1 more (Int.toNat ((pp1.length : Int) - 0) + 1) ([]) 0).2)) ∧ ((((F_summed_L1 pp0 pp1 more (Int.toNat ((pp1.length : Int) - 0) + 1) ([]) 0).1).length : Int) = ((F_summed_L1 pp0 pp1 more (Int.toNat ((pp1.length : Int) - 0) + 1) ([]) 0).2)) ∧ (((F_summed_L1 pp0 pp1 more (Int.toNat ((pp1.length : Int) - 0) + 1) ([]) 0).2) ≤ (pp1.length : Int)) ∧ ((((F_summed_L1 pp0 pp1 more (Int.toNat ((pp1.length : Int) - 0) + 1) ([]) 0).1).length : Int) ≤ ((F_summed_L1 pp0 pp1 more (Int.toNat ((pp1.length : Int) - 0) + 1) ([]) 0).2)) ∧ E a' 65 [(2, .int .i64 more), (3, .pointer (some ⟨b3, 0, none⟩)), (4, .pointer (some ⟨b9, 0, none⟩)), (6, .pointer (some ⟨b15, 0, none⟩)), (8, .slice out8A_141 (((F_summed_L1 pp0 pp1 more (Int.toNat ((pp1.length : Int) - 0) + 1) ([]) 0).1).length) out8C_141), (32, .slice pp1A pp1.length pp1C), (33, .int .i64 (pp1.length : Int)), (34, .int .i64 ((F_summed_L1 pp0 pp1 more (Int.toNat ((pp1.length : Int) - 0) + 1) ([]) 0).2))] ∧ St w w' [.own 2 1 out8A_141 (((F_summed_L1 pp0 pp1 more (Int.toNat ((pp1.length : Int) - 0) + 1) ([]) 0).1).length) out8C_141 ((F_summed_L1 pp0 pp1 more (Int.toNat ((pp1.length : Int) - 0) + 1) ([]) 0).1), .blk b15 #[.int .i64 0, .slice none 0 0] 27, .rd 1 qp1A qp1.length qp1C qp1, .blk b9 #[.int .i64 qp0, .slice qp1A qp1.length qp1C] 27, .rd 1 pp1A pp1.length pp1C pp1, .blk b3 #[.int .i64 pp0, .slice pp1A pp1.length pp1C] 27]) ?_ ?_
        ·
          refine wp_block ?_
          refine c_loop (fun r a' w' => ∃ out8 : List Int, ∃ t34 : Int, ∃ out8A : Option Addr, ∃ out8C : Nat, F_summed_L1 pp0 pp1 more r out8 t34 = F_summed_L1 pp0 pp1 more (Int.toNat ((pp1.length : Int) - 0) + 1) ([]) 0 ∧ Int.toNat ((pp1.length : Int) - t34) < r ∧ (0 ≤ t34) ∧ ((out8.length : Int) = t34) ∧ (t34 ≤ (pp1.length : Int)) ∧ ((out8.length : Int) ≤ t34) ∧ E a' 65 [(2, .int .i64 more), (3, .pointer (some ⟨b3, 0, none⟩)), (4, .pointer (some ⟨b9, 0, none⟩)), (6, .pointer (some ⟨b15, 0, none⟩)), (8, .slice out8A ((out8).length) out8C), (32, .slice pp1A pp1.length pp1C), (33, .int .i64 (pp1.length : Int)), (34, .int .i64 t34)] ∧ St w w' [.own 2 1 out8A ((out8).length) out8C out8, .blk b15 #[.int .i64 0, .slice none 0 0] 27, .rd 1 qp1A qp1.length qp1C qp1, .blk b9 #[.int .i64 qp0, .slice qp1A qp1.length qp1C] 27, .rd 1 pp1A pp1.length pp1C pp1, .blk b3 #[.int .i64 pp0, .slice pp1A pp1.length pp1C] 27]) (r := (Int.toNat ((pp1.length : Int) - 0) + 1)) ?_ ?_
          · exact ⟨[], 0, none, 0, rfl, Nat.lt_succ_self _, (by first | omega | (simp only [List.length_replicate, sI_len]; omega) | (simp only [List.length_append, List.length_cons, List.length_nil, sI_len, cond_true, cond_false]; omega) | (simp only [List.length_append, List.length_cons, List.length_nil, sI_len, cond_eq_ite, apply_ite List.length]; split <;> simp only [List.length_append, List.length_cons, List.length_nil, sI_len] <;> omega) | grind), (by first | omega | (simp only [List.length_replicate, sI_len]; omega) | (simp only [List.length_append, List.length_cons, List.length_nil, sI_len, cond_true, cond_false]; omega) | (simp only [List.length_append, List.length_cons, List.length_nil, sI_len, cond_eq_ite, apply_ite List.length]; split <;> simp only [List.length_append, List.length_cons, List.length_nil, sI_len] <;> omega) | grind), (by first | omega | (simp only [List.length_replicate, sI_len]; omega) | (simp only [List.length_append, List.length_cons, List.length_nil, sI_len, cond_true, cond_false]; omega) | (simp only [List.length_append, List.length_cons, List.length_nil, sI_len, cond_eq_ite, apply_ite List.length]; split <;> simp only [List.length_append, List.length_cons, List.length_nil, sI_len] <;> omega) | grind), (by first | omega | (simp only [List.length_replicate, sI_len]; omega) | (simp only [List.length_append, List.length_cons, List.length_nil, sI_len, cond_true, cond_false]; omega) | (simp only [List.length_append, List.length_cons, List.length_nil, sI_len, cond_eq_ite, apply_ite List.length]; split <;> simp only [List.length_append, List.length_cons, List.length_nil, sI_len] <;> omega) | grind), (hE139.sub (L' := [(2, .int .i64 more), (3, .pointer (some ⟨b3, 0, none⟩)), (4, .pointer (some ⟨b9, 0, none⟩)), (6, .pointer (some ⟨b15, 0, none⟩)), (8, .slice none 0 0), (32, .slice pp1A pp1.length pp1C), (33, .int .i64 (pp1.length : Int)), (34, .int .i64 0)]) ⟨rfl, rfl, rfl, rfl, rfl, rfl, rfl, rfl, trivial⟩), (St.pick (Γ' := [.own 2 1 none 0 0 ([]), .blk b15 #[.int .i64 0, .slice none 0 0] 27, .rd 1 qp1A qp1.length qp1C qp1, .blk b9 #[.int .i64 qp0, .slice qp1A qp1.length qp1C] 27, .rd 1 pp1A pp1.length pp1C pp1, .blk b3 #[.int .i64 pp0, .slice pp1A pp1.length pp1C] 27]) hS140 [0, 1, 2, 3, 4, 5] (by decide) rfl)⟩
          ·
            clear hE139 hS140
            rintro r152 a142 w143 ⟨out8, t34, out8A, out8C, hT146, hr147, hi148, hi149, hi150, hi151, hE144, hS145⟩
            obtain ⟨r152, rfl⟩ : ∃ r', r152 = r' + 1 := ⟨r152 - 1, by omega⟩
            refine c_seq ?_
            refine c_reg ?_
            refine q_step (v := .bool (decide (t34 < (pp1.length : Int)))) hE144 (y_lss rfl rfl) rfl rfl rfl ?_; intro a153 hE154; clear hE144
            refine c_nil ?_
            have hE155 := hE154.sub (L' := [(2, .int .i64 more), (3, .pointer (some ⟨b3, 0, none⟩)), (4, .pointer (some ⟨b9, 0, none⟩)), (6, .pointer (some ⟨b15, 0, none⟩)), (8, .slice out8A ((out8).length) out8C), (32, .slice pp1A pp1.length pp1C), (33, .int .i64 (pp1.length : Int)), (34, .int .i64 t34), (35, .bool (decide (t34 < (pp1.length : Int))))]) ⟨rfl, rfl, rfl, rfl, rfl, rfl, rfl, rfl, rfl, trivial⟩; clear hE154
            refine p_tn ?_
            refine c_seq ?_
            refine c_cond hE155 rfl (fun ht156 => ?_) (fun ht156 => ?_)
            ·
              have hp157 := of_decide_eq_true ht156
              have hE158 := hE155; rw [ht156] at hE158; clear hE155
              refine wp_skip ?_
              refine p_tn ?_
              refine c_seq ?_
              refine wp_block ?_
              refine c_seq ?_
              refine c_reg ?_
              refine q_step (v := .pointer (some (adr pp1A (Int.toNat t34)))) hE158 (y_idx (by kernel_rfl) (fun _ => by kernel_rfl) rfl rfl (RdS.isS (m := t34) (St.rdR (i := 4) hS145 rfl) (by omega) (by omega)) (by omega) (by omega) (Nat.mul_one _).symm) rfl rfl rfl ?_; intro a159 hE160; clear hE158
              refine q_step (v := .int .i64 (gI pp1 t34)) hE160 (y_load (fun _ => by kernel_rfl) rfl (RdS.elt (St.rdR (i := 4) hS145 rfl) (by omega) (by omega))) rfl rfl rfl ?_; intro a161 hE162; clear hE160
              refine q_step (v := .int .i64 (gI pp1 t34)) hE162 (y_assign rfl) rfl rfl rfl ?_; intro a163 hE164; clear hE162
              refine c_nil ?_
              have hE165 := hE164.sub (L' := [(2, .int .i64 more), (3, .pointer (some ⟨b3, 0, none⟩)), (4, .pointer (some ⟨b9, 0, none⟩)), (6, .pointer (some ⟨b15, 0, none⟩)), (8, .slice out8A ((out8).length) out8C), (10, .int .i64 (gI pp1 t34)), (32, .slice pp1A pp1.length pp1C), (33, .int .i64 (pp1.length : Int)), (34, .int .i64 t34)]) ⟨rfl, rfl, rfl, rfl, rfl, rfl, rfl, rfl, rfl, trivial⟩; clear hE164
              refine p_tn ?_
              refine c_reg ?_
              refine q_step (v := .slice out8A ((out8).length) out8C) hE165 (y_move rfl) rfl rfl rfl ?_; intro a166 hE167; clear hE165
              refine q_step (v := .int .i64 (gI pp1 t34)) hE167 (y_move rfl) rfl rfl rfl ?_; intro a168 hE169; clear hE167
              refine q_step (v := .int .i64 more) hE169 (y_move rfl) rfl rfl rfl ?_; intro a170 hE171; clear hE169
              refine q_step (v := .pointer (some ⟨b3, 0, none⟩)) hE171 (y_field rfl (fun _ => by kernel_rfl)) rfl rfl rfl ?_; intro a172 hE173; clear hE171
              refine q_step (v := .int .i64 pp0) hE173 (y_load (fun _ => by kernel_rfl) rfl (St.cell (i := 5) hS145 rfl rfl)) rfl rfl rfl ?_; intro a174 hE175; clear hE173
              refine q_step (v := .int .i64 (shlI more pp0)) hE175 (y_shl rfl rfl (by omega)) rfl rfl rfl ?_; intro a176 hE177; clear hE175
              refine q_step (v := .int .i64 (orI (gI pp1 t34) (shlI more pp0))) hE177 (y_or rfl rfl) rfl rfl rfl ?_; intro a178 hE179; clear hE177
              refine l_step hE179 rfl (l_lit (e := 2) (s := 1) (xs := [orI (gI pp1 t34) (shlI more pp0)]) (vs := [.int .i64 (orI (gI pp1 t34) (shlI more pp0))]) hS145 hE179 rfl (fun _ => by kernel_rfl) rfl rfl rfl ?_)
              intro b180 w181 hS184 he185 a182 hE183; clear hS145 hE179
              obtain ⟨_, hi1, hi2, hi3, hi4⟩ := info_parts (show (Try.prog.info? 2).map (fun i => (i.zero, i.size, i.bytes)) = some (some (.int .i64 0), 1, 8) by kernel_rfl)
              refine l_step hE183 rfl (l_append (k := 1) (n' := (out8 ++ ([orI (gI pp1 t34) (shlI more pp0)])).length) hS184 hE183 (by kernel_rfl) hi1 hi2 hi3 rfl (by decide) (by rw [hi4]; decide) rfl rfl rfl (St.rdO (i := 0) hS184 rfl) (by first | omega | (simp only [List.length_append, List.length_cons, List.length_nil]; omega)) (by have h1 := (St.rdO (i := 1) hS184 rfl).len1; have h2 := (St.rdO (i := 0) hS184 rfl).len1; rw [List.length_append, h1, h2]) rfl ?_)
              intro b186 c192 w187 hS190 a188 hE189; clear hS184 hE183 hi1 hi2 hi3 hi4
              refine q_step (v := .slice b186 ((out8 ++ ([orI (gI pp1 t34) (shlI more pp0)])).length) c192) hE189 (y_assign rfl) rfl rfl rfl ?_; intro a193 hE194; clear hE189
              refine c_nil ?_
              have hE195 := hE194.sub (L' := [(2, .int .i64 more), (3, .pointer (some ⟨b3, 0, none⟩)), (4, .pointer (some ⟨b9, 0, none⟩)), (6, .pointer (some ⟨b15, 0, none⟩)), (8, .slice b186 ((out8 ++ ([orI (gI pp1 t34) (shlI more pp0)])).length) c192), (32, .slice pp1A pp1.length pp1C), (33, .int .i64 (pp1.length : Int)), (34, .int .i64 t34)]) ⟨rfl, rfl, rfl, rfl, rfl, rfl, rfl, rfl, trivial⟩; clear hE194
              refine p_bn ?_
              refine p_tn ?_
              refine c_reg ?_
              refine q_step (v := .int .i64 (t34 + 1)) hE195 (y_add rfl rfl ⟨(by omega), (by omega)⟩) rfl rfl rfl ?_; intro a196 hE197; clear hE195
              refine q_step (v := .int .i64 (t34 + 1)) hE197 (y_move rfl) rfl rfl rfl ?_; intro a198 hE199; clear hE197
              refine c_nil ?_
              have hE200 := hE199.sub (L' := [(2, .int .i64 more), (3, .pointer (some ⟨b3, 0, none⟩)), (4, .pointer (some ⟨b9, 0, none⟩)), (6, .pointer (some ⟨b15, 0, none⟩)), (8, .slice b186 ((out8 ++ ([orI (gI pp1 t34) (shlI more pp0)])).length) c192), (32, .slice pp1A pp1.length pp1C), (33, .int .i64 (pp1.length : Int)), (34, .int .i64 (t34 + 1))]) ⟨rfl, rfl, rfl, rfl, rfl, rfl, rfl, rfl, trivial⟩; clear hE199
              refine p_tn ⟨r152, Nat.lt_succ_self _, out8 ++ ([orI (gI pp1 t34) (shlI more pp0)]), t34 + 1, b186, c192, (hT146.symm.trans (show F_summed_L1b pp0 pp1 more (F_summed_L1 pp0 pp1 more r152) out8 t34 = F_summed_L1 pp0 pp1 more r152 (out8 ++ ([orI (gI pp1 t34) (shlI more pp0)])) (t34 + 1) by unfold F_summed_L1b; rw [ht156]; first | done | rfl)).symm, (by omega), (by first | omega | (simp only [List.length_replicate, sI_len]; omega) | (simp only [List.length_append, List.length_cons, List.length_nil, sI_len, cond_true, cond_false]; omega) | (simp only [List.length_append, List.length_cons, List.length_nil, sI_len, cond_eq_ite, apply_ite List.length]; split <;> simp only [List.length_append, List.length_cons, List.length_nil, sI_len] <;> omega) | grind), (by first | omega | (simp only [List.length_replicate, sI_len]; omega) | (simp only [List.length_append, List.length_cons, List.length_nil, sI_len, cond_true, cond_false]; omega) | (simp only [List.length_append, List.length_cons, List.length_nil, sI_len, cond_eq_ite, apply_ite List.length]; split <;> simp only [List.length_append, List.length_cons, List.length_nil, sI_len] <;> omega) | grind), (by first | omega | (simp only [List.length_replicate, sI_len]; omega) | (simp only [List.length_append, List.length_cons, List.length_nil, sI_len, cond_true, cond_false]; omega) | (simp only [List.length_append, List.length_cons, List.length_nil, sI_len, cond_eq_ite, apply_ite List.length]; split <;> simp only [List.length_append, List.length_cons, List.length_nil, sI_len] <;> omega) | grind), (by first | omega | (simp only [List.length_replicate, sI_len]; omega) | (simp only [List.length_append, List.length_cons, List.length_nil, sI_len, cond_true, cond_false]; omega) | (simp only [List.length_append, List.length_cons, List.length_nil, sI_len, cond_eq_ite, apply_ite List.length]; split <;> simp only [List.length_append, List.length_cons, List.length_nil, sI_len] <;> omega) | grind), (hE200.sub (L' := [(2, .int .i64 more), (3, .pointer (some ⟨b3, 0, none⟩)), (4, .pointer (some ⟨b9, 0, none⟩)), (6, .pointer (some ⟨b15, 0, none⟩)), (8, .slice b186 ((out8 ++ ([orI (gI pp1 t34) (shlI more pp0)])).length) c192), (32, .slice pp1A pp1.length pp1C), (33, .int .i64 (pp1.length : Int)), (34, .int .i64 (t34 + 1))]) ⟨rfl, rfl, rfl, rfl, rfl, rfl, rfl, rfl, trivial⟩), (St.pick (Γ' := [.own 2 1 b186 ((out8 ++ ([orI (gI pp1 t34) (shlI more pp0)])).length) c192 (out8 ++ ([orI (gI pp1 t34) (shlI more pp0)])), .blk b15 #[.int .i64 0, .slice none 0 0] 27, .rd 1 qp1A qp1.length qp1C qp1, .blk b9 #[.int .i64 qp0, .slice qp1A qp1.length qp1C] 27, .rd 1 pp1A pp1.length pp1C pp1, .blk b3 #[.int .i64 pp0, .slice pp1A pp1.length pp1C] 27]) hS190 [1, 2, 3, 4, 5, 6] (by decide) rfl)⟩
            ·
              have hp201 := of_decide_eq_false ht156
              have hE202 := hE155; rw [ht156] at hE202; clear hE155
              refine wp_exit ?_
              refine p_te ?_
              have hX203 : F_summed_L1 pp0 pp1 more (Int.toNat ((pp1.length : Int) - 0) + 1) ([]) 0 = (out8, t34) := hT146.symm.trans (show F_summed_L1b pp0 pp1 more (F_summed_L1 pp0 pp1 more r152) out8 t34 = (out8, t34) by unfold F_summed_L1b; rw [ht156]; first | done | rfl)
              refine p_te (p_be (p_tn ?_))
              exact ⟨out8A, out8C, (by rw [hX203]; exact (show 0 ≤ t34 from (by first | omega | (simp only [List.length_replicate, sI_len]; omega) | (simp only [List.length_append, List.length_cons, List.length_nil, sI_len, cond_true, cond_false]; omega) | (simp only [List.length_append, List.length_cons, List.length_nil, sI_len, cond_eq_ite, apply_ite List.length]; split <;> simp only [List.length_append, List.length_cons, List.length_nil, sI_len] <;> omega) | grind))), (by rw [hX203]; exact (show (out8.length : Int) = t34 from (by first | omega | (simp only [List.length_replicate, sI_len]; omega) | (simp only [List.length_append, List.length_cons, List.length_nil, sI_len, cond_true, cond_false]; omega) | (simp only [List.length_append, List.length_cons, List.length_nil, sI_len, cond_eq_ite, apply_ite List.length]; split <;> simp only [List.length_append, List.length_cons, List.length_nil, sI_len] <;> omega) | grind))), (by rw [hX203]; exact (show t34 ≤ (pp1.length : Int) from (by first | omega | (simp only [List.length_replicate, sI_len]; omega) | (simp only [List.length_append, List.length_cons, List.length_nil, sI_len, cond_true, cond_false]; omega) | (simp only [List.length_append, List.length_cons, List.length_nil, sI_len, cond_eq_ite, apply_ite List.length]; split <;> simp only [List.length_append, List.length_cons, List.length_nil, sI_len] <;> omega) | grind))), (by rw [hX203]; exact (show (out8.length : Int) ≤ t34 from (by first | omega | (simp only [List.length_replicate, sI_len]; omega) | (simp only [List.length_append, List.length_cons, List.length_nil, sI_len, cond_true, cond_false]; omega) | (simp only [List.length_append, List.length_cons, List.length_nil, sI_len, cond_eq_ite, apply_ite List.length]; split <;> simp only [List.length_append, List.length_cons, List.length_nil, sI_len] <;> omega) | grind))), (by rw [hX203]; exact (hE202.sub (L' := [(2, .int .i64 more), (3, .pointer (some ⟨b3, 0, none⟩)), (4, .pointer (some ⟨b9, 0, none⟩)), (6, .pointer (some ⟨b15, 0, none⟩)), (8, .slice out8A ((out8).length) out8C), (32, .slice pp1A pp1.length pp1C), (33, .int .i64 (pp1.length : Int)), (34, .int .i64 t34)]) ⟨rfl, rfl, rfl, rfl, rfl, rfl, rfl, rfl, trivial⟩)), (by rw [hX203]; exact (St.pick (Γ' := [.own 2 1 out8A ((out8).length) out8C out8, .blk b15 #[.int .i64 0, .slice none 0 0] 27, .rd 1 qp1A qp1.length qp1C qp1, .blk b9 #[.int .i64 qp0, .slice qp1A qp1.length qp1C] 27, .rd 1 pp1A pp1.length pp1C pp1, .blk b3 #[.int .i64 pp0, .slice pp1A pp1.length pp1C] 27]) hS145 [0, 1, 2, 3, 4, 5] (by decide) rfl))⟩
        ·
          rintro a204 w205 ⟨out8A_141, out8C_141, hi209, hi210, hi211, hi212, hE206, hS207⟩; clear hE139 hS140
          refine p_tn ?_
          refine c_seq ?_
          refine c_seq ?_
          refine c_reg ?_
          refine q_step (v := .pointer (some ⟨b9, 1, none⟩)) hE206 (y_field rfl (fun _ => by kernel_rfl)) rfl rfl rfl ?_; intro a213 hE214; clear hE206
          refine q_step (v := .slice qp1A qp1.length qp1C) hE214 (y_load (fun _ => by kernel_rfl) rfl (St.cell (i := 3) hS207 rfl rfl)) rfl rfl rfl ?_; intro a215 hE216; clear hE214
          refine q_step (v := .int .i64 (qp1.length : Int)) hE216 (y_len (e := 2) (by kernel_rfl) rfl) rfl rfl rfl ?_; intro a217 hE218; clear hE216
          refine q_step (v := .int .i64 0) hE218 (y_move rfl) rfl rfl rfl ?_; intro a219 hE220; clear hE218
          refine c_nil ?_
          have hE221 := hE220.sub (L' := [(3, .pointer (some ⟨b3, 0, none⟩)), (6, .pointer (some ⟨b15, 0, none⟩)), (8, .slice out8A_141 (((F_summed_L1 pp0 pp1 more (Int.toNat ((pp1.length : Int) - 0) + 1) ([]) 0).1).length) out8C_141), (49, .slice qp1A qp1.length qp1C), (50, .int .i64 (qp1.length : Int)), (51, .int .i64 0)]) ⟨rfl, rfl, rfl, rfl, rfl, rfl, trivial⟩; clear hE220
          refine p_tn ?_
          refine c_cut1 (fun a' w' => ∃ out8L2A_222 : Option Addr, ∃ out8L2C_222 : Nat, (0 ≤ ((F_summed_L2 pp0 qp1 (Int.toNat ((qp1.length : Int) - 0) + 1) ((F_summed_L1 pp0 pp1 more (Int.toNat ((pp1.length : Int) - 0) + 1) ([]) 0).1) 0).2)) ∧ ((((F_summed_L2 pp0 qp1 (Int.toNat ((qp1.length : Int) - 0) + 1) ((F_summed_L1 pp0 pp1 more (Int.toNat ((pp1.length : Int) - 0) + 1) ([]) 0).1) 0).1).length : Int) ≤ (pp1.length : Int) + ((F_summed_L2 pp0 qp1 (Int.toNat ((qp1.length : Int) - 0) + 1) ((F_summed_L1 pp0 pp1 more (Int.toNat ((pp1.length : Int) - 0) + 1) ([]) 0).1) 0).2)) ∧ (((F_summed_L2 pp0 qp1 (Int.toNat ((qp1.length : Int) - 0) + 1) ((F_summed_L1 pp0 pp1 more (Int.toNat ((pp1.length : Int) - 0) + 1) ([]) 0).1) 0).2) ≤ (qp1.length : Int)) ∧ E a' 65 [(3, .pointer (some ⟨b3, 0, none⟩)), (6, .pointer (some ⟨b15, 0, none⟩)), (8, .slice out8L2A_222 (((F_summed_L2 pp0 qp1 (Int.toNat ((qp1.length : Int) - 0) + 1) ((F_summed_L1 pp0 pp1 more (Int.toNat ((pp1.length : Int) - 0) + 1) ([]) 0).1) 0).1).length) out8L2C_222), (49, .slice qp1A qp1.length qp1C), (50, .int .i64 (qp1.length : Int)), (51, .int .i64 ((F_summed_L2 pp0 qp1 (Int.toNat ((qp1.length : Int) - 0) + 1) ((F_summed_L1 pp0 pp1 more (Int.toNat ((pp1.length : Int) - 0) + 1) ([]) 0).1) 0).2))] ∧ St w w' [.own 2 1 out8L2A_222 (((F_summed_L2 pp0 qp1 (Int.toNat ((qp1.length : Int) - 0) + 1) ((F_summed_L1 pp0 pp1 more (Int.toNat ((pp1.length : Int) - 0) + 1) ([]) 0).1) 0).1).length) out8L2C_222 ((F_summed_L2 pp0 qp1 (Int.toNat ((qp1.length : Int) - 0) + 1) ((F_summed_L1 pp0 pp1 more (Int.toNat ((pp1.length : Int) - 0) + 1) ([]) 0).1) 0).1), .blk b15 #[.int .i64 0, .slice none 0 0] 27, .rd 1 qp1A qp1.length qp1C qp1, .blk b9 #[.int .i64 qp0, .slice qp1A qp1.length qp1C] 27, .rd 1 pp1A pp1.length pp1C pp1, .blk b3 #[.int .i64 pp0, .slice pp1A pp1.length pp1C] 27]) ?_ ?_
          ·
            refine wp_block ?_
            refine c_loop (fun r a' w' => ∃ out8L2 : List Int, ∃ t51L2 : Int, ∃ out8L2A : Option Addr, ∃ out8L2C : Nat, F_summed_L2 pp0 qp1 r out8L2 t51L2 = F_summed_L2 pp0 qp1 (Int.toNat ((qp1.length : Int) - 0) + 1) ((F_summed_L1 pp0 pp1 more (Int.toNat ((pp1.length : Int) - 0) + 1) ([]) 0).1) 0 ∧ Int.toNat ((qp1.length : Int) - t51L2) < r ∧ (0 ≤ t51L2) ∧ ((out8L2.length : Int) ≤ (pp1.length : Int) + t51L2) ∧ (t51L2 ≤ (qp1.length : Int)) ∧ E a' 65 [(3, .pointer (some ⟨b3, 0, none⟩)), (6, .pointer (some ⟨b15, 0, none⟩)), (8, .slice out8L2A ((out8L2).length) out8L2C), (49, .slice qp1A qp1.length qp1C), (50, .int .i64 (qp1.length : Int)), (51, .int .i64 t51L2)] ∧ St w w' [.own 2 1 out8L2A ((out8L2).length) out8L2C out8L2, .blk b15 #[.int .i64 0, .slice none 0 0] 27, .rd 1 qp1A qp1.length qp1C qp1, .blk b9 #[.int .i64 qp0, .slice qp1A qp1.length qp1C] 27, .rd 1 pp1A pp1.length pp1C pp1, .blk b3 #[.int .i64 pp0, .slice pp1A pp1.length pp1C] 27]) (r := (Int.toNat ((qp1.length : Int) - 0) + 1)) ?_ ?_
            · exact ⟨(F_summed_L1 pp0 pp1 more (Int.toNat ((pp1.length : Int) - 0) + 1) ([]) 0).1, 0, out8A_141, out8C_141, rfl, Nat.lt_succ_self _, (by first | omega | (simp only [List.length_replicate, sI_len]; omega) | (simp only [List.length_append, List.length_cons, List.length_nil, sI_len, cond_true, cond_false]; omega) | (simp only [List.length_append, List.length_cons, List.length_nil, sI_len, cond_eq_ite, apply_ite List.length]; split <;> simp only [List.length_append, List.length_cons, List.length_nil, sI_len] <;> omega) | grind), (by first | omega | (simp only [List.length_replicate, sI_len]; omega) | (simp only [List.length_append, List.length_cons, List.length_nil, sI_len, cond_true, cond_false]; omega) | (simp only [List.length_append, List.length_cons, List.length_nil, sI_len, cond_eq_ite, apply_ite List.length]; split <;> simp only [List.length_append, List.length_cons, List.length_nil, sI_len] <;> omega) | grind), (by first | omega | (simp only [List.length_replicate, sI_len]; omega) | (simp only [List.length_append, List.length_cons, List.length_nil, sI_len, cond_true, cond_false]; omega) | (simp only [List.length_append, List.length_cons, List.length_nil, sI_len, cond_eq_ite, apply_ite List.length]; split <;> simp only [List.length_append, List.length_cons, List.length_nil, sI_len] <;> omega) | grind), (hE221.sub (L' := [(3, .pointer (some ⟨b3, 0, none⟩)), (6, .pointer (some ⟨b15, 0, none⟩)), (8, .slice out8A_141 (((F_summed_L1 pp0 pp1 more (Int.toNat ((pp1.length : Int) - 0) + 1) ([]) 0).1).length) out8C_141), (49, .slice qp1A qp1.length qp1C), (50, .int .i64 (qp1.length : Int)), (51, .int .i64 0)]) ⟨rfl, rfl, rfl, rfl, rfl, rfl, trivial⟩), (St.pick (Γ' := [.own 2 1 out8A_141 (((F_summed_L1 pp0 pp1 more (Int.toNat ((pp1.length : Int) - 0) + 1) ([]) 0).1).length) out8C_141 ((F_summed_L1 pp0 pp1 more (Int.toNat ((pp1.length : Int) - 0) + 1) ([]) 0).1), .blk b15 #[.int .i64 0, .slice none 0 0] 27, .rd 1 qp1A qp1.length qp1C qp1, .blk b9 #[.int .i64 qp0, .slice qp1A qp1.length qp1C] 27, .rd 1 pp1A pp1.length pp1C pp1, .blk b3 #[.int .i64 pp0, .slice pp1A pp1.length pp1C] 27]) hS207 [0, 1, 2, 3, 4, 5] (by decide) rfl)⟩
            ·
              clear hE221 hS207
              rintro r232 a223 w224 ⟨out8L2, t51L2, out8L2A, out8L2C, hT227, hr228, hi229, hi230, hi231, hE225, hS226⟩
              obtain ⟨r232, rfl⟩ : ∃ r', r232 = r' + 1 := ⟨r232 - 1, by omega⟩
              refine c_seq ?_
              refine c_reg ?_
              refine q_step (v := .bool (decide (t51L2 < (qp1.length : Int)))) hE225 (y_lss rfl rfl) rfl rfl rfl ?_; intro a233 hE234; clear hE225
              refine c_nil ?_
              have hE235 := hE234.sub (L' := [(3, .pointer (some ⟨b3, 0, none⟩)), (6, .pointer (some ⟨b15, 0, none⟩)), (8, .slice out8L2A ((out8L2).length) out8L2C), (49, .slice qp1A qp1.length qp1C), (50, .int .i64 (qp1.length : Int)), (51, .int .i64 t51L2), (52, .bool (decide (t51L2 < (qp1.length : Int))))]) ⟨rfl, rfl, rfl, rfl, rfl, rfl, rfl, trivial⟩; clear hE234
              refine p_tn ?_
              refine c_seq ?_
              refine c_cond hE235 rfl (fun ht236 => ?_) (fun ht236 => ?_)
              ·
                have hp237 := of_decide_eq_true ht236
                have hE238 := hE235; rw [ht236] at hE238; clear hE235
                refine wp_skip ?_
                refine p_tn ?_
                refine c_seq ?_
                refine wp_block ?_
                refine c_seq ?_
                refine c_reg ?_
                refine q_step (v := .pointer (some (adr qp1A (Int.toNat t51L2)))) hE238 (y_idx (by kernel_rfl) (fun _ => by kernel_rfl) rfl rfl (RdS.isS (m := t51L2) (St.rdR (i := 2) hS226 rfl) (by omega) (by omega)) (by omega) (by omega) (Nat.mul_one _).symm) rfl rfl rfl ?_; intro a239 hE240; clear hE238
                refine q_step (v := .int .i64 (gI qp1 t51L2)) hE240 (y_load (fun _ => by kernel_rfl) rfl (RdS.elt (St.rdR (i := 2) hS226 rfl) (by omega) (by omega))) rfl rfl rfl ?_; intro a241 hE242; clear hE240
                refine q_step (v := .int .i64 (gI qp1 t51L2)) hE242 (y_assign rfl) rfl rfl rfl ?_; intro a243 hE244; clear hE242
                refine c_nil ?_
                have hE245 := hE244.sub (L' := [(3, .pointer (some ⟨b3, 0, none⟩)), (6, .pointer (some ⟨b15, 0, none⟩)), (8, .slice out8L2A ((out8L2).length) out8L2C), (12, .int .i64 (gI qp1 t51L2)), (49, .slice qp1A qp1.length qp1C), (50, .int .i64 (qp1.length : Int)), (51, .int .i64 t51L2)]) ⟨rfl, rfl, rfl, rfl, rfl, rfl, rfl, trivial⟩; clear hE244
                refine p_tn ?_
                refine c_reg ?_
                refine q_step (v := .slice out8L2A ((out8L2).length) out8L2C) hE245 (y_move rfl) rfl rfl rfl ?_; intro a246 hE247; clear hE245
                refine q_step (v := .int .i64 (gI qp1 t51L2)) hE247 (y_move rfl) rfl rfl rfl ?_; intro a248 hE249; clear hE247
                refine q_step (v := .pointer (some ⟨b3, 0, none⟩)) hE249 (y_field rfl (fun _ => by kernel_rfl)) rfl rfl rfl ?_; intro a250 hE251; clear hE249
                refine q_step (v := .int .i64 pp0) hE251 (y_load (fun _ => by kernel_rfl) rfl (St.cell (i := 5) hS226 rfl rfl)) rfl rfl rfl ?_; intro a252 hE253; clear hE251
                refine q_step (v := .int .i64 (shlI (gI qp1 t51L2) pp0)) hE253 (y_shl rfl rfl (by omega)) rfl rfl rfl ?_; intro a254 hE255; clear hE253
                refine l_step hE255 rfl (l_lit (e := 2) (s := 1) (xs := [shlI (gI qp1 t51L2) pp0]) (vs := [.int .i64 (shlI (gI qp1 t51L2) pp0)]) hS226 hE255 rfl (fun _ => by kernel_rfl) rfl rfl rfl ?_)
                intro b256 w257 hS260 he261 a258 hE259; clear hS226 hE255
                obtain ⟨_, hi1, hi2, hi3, hi4⟩ := info_parts (show (Try.prog.info? 2).map (fun i => (i.zero, i.size, i.bytes)) = some (some (.int .i64 0), 1, 8) by kernel_rfl)
                refine l_step hE259 rfl (l_append (k := 1) (n' := (out8L2 ++ ([shlI (gI qp1 t51L2) pp0])).length) hS260 hE259 (by kernel_rfl) hi1 hi2 hi3 rfl (by decide) (by rw [hi4]; decide) rfl rfl rfl (St.rdO (i := 0) hS260 rfl) (by first | omega | (simp only [List.length_append, List.length_cons, List.length_nil]; omega)) (by have h1 := (St.rdO (i := 1) hS260 rfl).len1; have h2 := (St.rdO (i := 0) hS260 rfl).len1; rw [List.length_append, h1, h2]) rfl ?_)
                intro b262 c268 w263 hS266 a264 hE265; clear hS260 hE259 hi1 hi2 hi3 hi4
                refine q_step (v := .slice b262 ((out8L2 ++ ([shlI (gI qp1 t51L2) pp0])).length) c268) hE265 (y_assign rfl) rfl rfl rfl ?_; intro a269 hE270; clear hE265
                refine c_nil ?_
                have hE271 := hE270.sub (L' := [(3, .pointer (some ⟨b3, 0, none⟩)), (6, .pointer (some ⟨b15, 0, none⟩)), (8, .slice b262 ((out8L2 ++ ([shlI (gI qp1 t51L2) pp0])).length) c268), (49, .slice qp1A qp1.length qp1C), (50, .int .i64 (qp1.length : Int)), (51, .int .i64 t51L2)]) ⟨rfl, rfl, rfl, rfl, rfl, rfl, trivial⟩; clear hE270
                refine p_bn ?_
                refine p_tn ?_
                refine c_reg ?_
                refine q_step (v := .int .i64 (t51L2 + 1)) hE271 (y_add rfl rfl ⟨(by omega), (by omega)⟩) rfl rfl rfl ?_; intro a272 hE273; clear hE271
                refine q_step (v := .int .i64 (t51L2 + 1)) hE273 (y_move rfl) rfl rfl rfl ?_; intro a274 hE275; clear hE273
                refine c_nil ?_
                have hE276 := hE275.sub (L' := [(3, .pointer (some ⟨b3, 0, none⟩)), (6, .pointer (some ⟨b15, 0, none⟩)), (8, .slice b262 ((out8L2 ++ ([shlI (gI qp1 t51L2) pp0])).length) c268), (49, .slice qp1A qp1.length qp1C), (50, .int .i64 (qp1.length : Int)), (51, .int .i64 (t51L2 + 1))]) ⟨rfl, rfl, rfl, rfl, rfl, rfl, trivial⟩; clear hE275
                refine p_tn ⟨r232, Nat.lt_succ_self _, out8L2 ++ ([shlI (gI qp1 t51L2) pp0]), t51L2 + 1, b262, c268, (hT227.symm.trans (show F_summed_L2b pp0 qp1 (F_summed_L2 pp0 qp1 r232) out8L2 t51L2 = F_summed_L2 pp0 qp1 r232 (out8L2 ++ ([shlI (gI qp1 t51L2) pp0])) (t51L2 + 1) by unfold F_summed_L2b; rw [ht236]; first | done | rfl)).symm, (by omega), (by first | omega | (simp only [List.length_replicate, sI_len]; omega) | (simp only [List.length_append, List.length_cons, List.length_nil, sI_len, cond_true, cond_false]; omega) | (simp only [List.length_append, List.length_cons, List.length_nil, sI_len, cond_eq_ite, apply_ite List.length]; split <;> simp only [List.length_append, List.length_cons, List.length_nil, sI_len] <;> omega) | grind), (by first | omega | (simp only [List.length_replicate, sI_len]; omega) | (simp only [List.length_append, List.length_cons, List.length_nil, sI_len, cond_true, cond_false]; omega) | (simp only [List.length_append, List.length_cons, List.length_nil, sI_len, cond_eq_ite, apply_ite List.length]; split <;> simp only [List.length_append, List.length_cons, List.length_nil, sI_len] <;> omega) | grind), (by first | omega | (simp only [List.length_replicate, sI_len]; omega) | (simp only [List.length_append, List.length_cons, List.length_nil, sI_len, cond_true, cond_false]; omega) | (simp only [List.length_append, List.length_cons, List.length_nil, sI_len, cond_eq_ite, apply_ite List.length]; split <;> simp only [List.length_append, List.length_cons, List.length_nil, sI_len] <;> omega) | grind), (hE276.sub (L' := [(3, .pointer (some ⟨b3, 0, none⟩)), (6, .pointer (some ⟨b15, 0, none⟩)), (8, .slice b262 ((out8L2 ++ ([shlI (gI qp1 t51L2) pp0])).length) c268), (49, .slice qp1A qp1.length qp1C), (50, .int .i64 (qp1.length : Int)), (51, .int .i64 (t51L2 + 1))]) ⟨rfl, rfl, rfl, rfl, rfl, rfl, trivial⟩), (St.pick (Γ' := [.own 2 1 b262 ((out8L2 ++ ([shlI (gI qp1 t51L2) pp0])).length) c268 (out8L2 ++ ([shlI (gI qp1 t51L2) pp0])), .blk b15 #[.int .i64 0, .slice none 0 0] 27, .rd 1 qp1A qp1.length qp1C qp1, .blk b9 #[.int .i64 qp0, .slice qp1A qp1.length qp1C] 27, .rd 1 pp1A pp1.length pp1C pp1, .blk b3 #[.int .i64 pp0, .slice pp1A pp1.length pp1C] 27]) hS266 [1, 2, 3, 4, 5, 6] (by decide) rfl)⟩
              ·
                have hp277 := of_decide_eq_false ht236
                have hE278 := hE235; rw [ht236] at hE278; clear hE235
                refine wp_exit ?_
                refine p_te ?_
                have hX279 : F_summed_L2 pp0 qp1 (Int.toNat ((qp1.length : Int) - 0) + 1) ((F_summed_L1 pp0 pp1 more (Int.toNat ((pp1.length : Int) - 0) + 1) ([]) 0).1) 0 = (out8L2, t51L2) := hT227.symm.trans (show F_summed_L2b pp0 qp1 (F_summed_L2 pp0 qp1 r232) out8L2 t51L2 = (out8L2, t51L2) by unfold F_summed_L2b; rw [ht236]; first | done | rfl)
                refine p_te (p_be (p_tn ?_))
                exact ⟨out8L2A, out8L2C, (by rw [hX279]; exact (show 0 ≤ t51L2 from (by first | omega | (simp only [List.length_replicate, sI_len]; omega) | (simp only [List.length_append, List.length_cons, List.length_nil, sI_len, cond_true, cond_false]; omega) | (simp only [List.length_append, List.length_cons, List.length_nil, sI_len, cond_eq_ite, apply_ite List.length]; split <;> simp only [List.length_append, List.length_cons, List.length_nil, sI_len] <;> omega) | grind))), (by rw [hX279]; exact (show (out8L2.length : Int) ≤ (pp1.length : Int) + t51L2 from (by first | omega | (simp only [List.length_replicate, sI_len]; omega) | (simp only [List.length_append, List.length_cons, List.length_nil, sI_len, cond_true, cond_false]; omega) | (simp only [List.length_append, List.length_cons, List.length_nil, sI_len, cond_eq_ite, apply_ite List.length]; split <;> simp only [List.length_append, List.length_cons, List.length_nil, sI_len] <;> omega) | grind))), (by rw [hX279]; exact (show t51L2 ≤ (qp1.length : Int) from (by first | omega | (simp only [List.length_replicate, sI_len]; omega) | (simp only [List.length_append, List.length_cons, List.length_nil, sI_len, cond_true, cond_false]; omega) | (simp only [List.length_append, List.length_cons, List.length_nil, sI_len, cond_eq_ite, apply_ite List.length]; split <;> simp only [List.length_append, List.length_cons, List.length_nil, sI_len] <;> omega) | grind))), (by rw [hX279]; exact (hE278.sub (L' := [(3, .pointer (some ⟨b3, 0, none⟩)), (6, .pointer (some ⟨b15, 0, none⟩)), (8, .slice out8L2A ((out8L2).length) out8L2C), (49, .slice qp1A qp1.length qp1C), (50, .int .i64 (qp1.length : Int)), (51, .int .i64 t51L2)]) ⟨rfl, rfl, rfl, rfl, rfl, rfl, trivial⟩)), (by rw [hX279]; exact (St.pick (Γ' := [.own 2 1 out8L2A ((out8L2).length) out8L2C out8L2, .blk b15 #[.int .i64 0, .slice none 0 0] 27, .rd 1 qp1A qp1.length qp1C qp1, .blk b9 #[.int .i64 qp0, .slice qp1A qp1.length qp1C] 27, .rd 1 pp1A pp1.length pp1C pp1, .blk b3 #[.int .i64 pp0, .slice pp1A pp1.length pp1C] 27]) hS226 [0, 1, 2, 3, 4, 5] (by decide) rfl))⟩
          ·
            rintro a280 w281 ⟨out8L2A_222, out8L2C_222, hi285, hi286, hi287, hE282, hS283⟩; clear hE221 hS207
            refine p_tn ?_
            refine c_seq ?_
            refine c_reg ?_
            refine q_step (v := .slice out8L2A_222 (((F_summed_L2 pp0 qp1 (Int.toNat ((qp1.length : Int) - 0) + 1) ((F_summed_L1 pp0 pp1 more (Int.toNat ((pp1.length : Int) - 0) + 1) ([]) 0).1) 0).1).length) out8L2C_222) hE282 (y_move rfl) rfl rfl rfl ?_; intro a288 hE289; clear hE282
            refine l_step hE289 rfl (l_call (f := 60) (argv := [.slice out8L2A_222 (((F_summed_L2 pp0 qp1 (Int.toNat ((qp1.length : Int) - 0) + 1) ((F_summed_L1 pp0 pp1 more (Int.toNat ((pp1.length : Int) - 0) + 1) ([]) 0).1) 0).1).length) out8L2C_222]) hE289 (fun _ => cf_posetOf _ _) rfl rfl (c_posetOf out8L2A_222 (((F_summed_L2 pp0 qp1 (Int.toNat ((qp1.length : Int) - 0) + 1) ((F_summed_L1 pp0 pp1 more (Int.toNat ((pp1.length : Int) - 0) + 1) ([]) 0).1) 0).1).length) out8L2C_222 ((F_summed_L2 pp0 qp1 (Int.toNat ((qp1.length : Int) - 0) + 1) ((F_summed_L1 pp0 pp1 more (Int.toNat ((pp1.length : Int) - 0) + 1) ([]) 0).1) 0).1) w281 (St.rdO (i := 0) hS283 rfl)) ?_)
            rintro _ w291 ⟨rfl, he295⟩ a292 hE293; clear hE289
            have hS294 := St.go hS283 he295; clear hS283
            refine l_step hE293 rfl (l_storeS (k := 1) (cs' := #[.int .i64 ((F_posetOf ((F_summed_L2 pp0 qp1 (Int.toNat ((qp1.length : Int) - 0) + 1) ((F_summed_L1 pp0 pp1 more (Int.toNat ((pp1.length : Int) - 0) + 1) ([]) 0).1) 0).1)).1), .slice out8L2A_222 (((F_summed_L2 pp0 qp1 (Int.toNat ((qp1.length : Int) - 0) + 1) ((F_summed_L1 pp0 pp1 more (Int.toNat ((pp1.length : Int) - 0) + 1) ([]) 0).1) 0).1).length) out8L2C_222]) hS294 hE293 (by kernel_rfl) rfl rfl (by kernel_rfl) rfl rfl ?_)
            intro w297 hS300 a298 hE299; clear hS294 hE293
            refine q_step (v := .int .i64 0) hE299 (y_assign rfl) rfl rfl rfl ?_; intro a302 hE303; clear hE299
            refine c_nil ?_
            have hE304 := hE303.sub (L' := [(6, .pointer (some ⟨b15, 0, none⟩)), (7, .int .i64 0)]) ⟨rfl, rfl, trivial⟩; clear hE303
            refine p_tn ?_
            refine wp_ret ?_
            have hF : F_summed pp0 pp1 qp0 qp1 more = (((F_posetOf ((F_summed_L2 pp0 qp1 (Int.toNat ((qp1.length : Int) - 0) + 1) ((F_summed_L1 pp0 pp1 more (Int.toNat ((pp1.length : Int) - 0) + 1) ([]) 0).1) 0).1)).1, (F_summed_L2 pp0 qp1 (Int.toNat ((qp1.length : Int) - 0) + 1) ((F_summed_L1 pp0 pp1 more (Int.toNat ((pp1.length : Int) - 0) + 1) ([]) 0).1) 0).1), 0) := by unfold F_summed; rw [ht112, ht77]; first | done | rfl
            refine c_retC2 hE304 rfl rfl rfl Try.underlying27 rfl (by kernel_rfl) (St.row (i := 1) hS300 rfl _ (Ext.refl _)) ?_
            exact ⟨out8L2A_222, out8L2C_222, (by rw [hF]; first | done | rfl), (by rw [hF]; exact hS300.ok 0 _ rfl), hS300.ext⟩

theorem foldl_app {β : Type} (f : β → Int) (l : List β) (o : List Int) : l.foldl (fun o j => o ++ [f j]) o = o ++ l.map f := by
  induction l generalizing o with
  | nil => simp
  | cons a l ih => rw [List.foldl_cons, ih, List.map_cons, List.append_assoc]; rfl
theorem summed_loops (p0 : Int) (p1 q1 : List Int) (more : Int) : (F_summed_L2 p0 q1 (Int.toNat ((q1.length : Int) - 0) + 1) ((F_summed_L1 p0 p1 more (Int.toNat ((p1.length : Int) - 0) + 1) ([]) 0).1) 0).1 = (List.range q1.length).foldl (fun o (y : Nat) => o ++ [shlI (gI q1 y) p0]) ((List.range p1.length).foldl (fun o (x : Nat) => o ++ [orI (gI p1 x) (shlI more p0)]) []) := by
  rw [rangeLoop0 (q1.length : Int) (by omega) (fun o y => o ++ [shlI (gI q1 y) p0]) (F_summed_L2 p0 q1) (fun _ _ _ => rfl),
    rangeLoop0 (p1.length : Int) (by omega) (fun o x => o ++ [orI (gI p1 x) (shlI more p0)]) (F_summed_L1 p0 p1 more) (fun _ _ _ => rfl)]
  rfl
theorem summed_len (p0 : Int) (p1 : List Int) (q0 : Int) (q1 : List Int) (more : Int) : (F_summed p0 p1 q0 q1 more).1.2.length ≤ 8 := by
  unfold F_summed
  rw [summed_loops, foldl_app, foldl_app]
  cases h1 : F_isPoset p0 p1
  · exact Nat.zero_le _
  · cases h2 : F_isPoset q0 q1
    · exact Nat.zero_le _
    · have a := isPoset_t h1
      have b := isPoset_t h2
      by_cases h : 8 < p0 + q0
      · rw [decide_eq_true h]; exact Nat.zero_le _
      · rw [decide_eq_false h]
        simp only [Bool.not_true, Bool.or_false, cond_false, List.length_append, List.length_map, List.length_range, List.length_nil]
        omega

def F_SumPosets (pp0 : Int) (pp1 : List Int) (qp0 : Int) (qp1 : List Int) : (Int × List Int) × (Int) :=
  ((((F_summed pp0 pp1 qp0 qp1 0).1).1, ((F_summed pp0 pp1 qp0 qp1 0).1).2), (F_summed pp0 pp1 qp0 qp1 0).2)
theorem cf_SumPosets (args : Array Value) (w : World) : (callFunc 38 args).run Try.prog w = .ok (.enter 38 args) w := by kernel_rfl
set_option maxRecDepth 100000 in
theorem c_SumPosets (pp0 : Int) (pp1A : Option Addr) (pp1N pp1C : Nat) (pp1 : List Int) (qp0 : Int) (qp1A : Option Addr) (qp1N qp1C : Nat) (qp1 : List Int) (w : World) (pp1R : RdS w 1 pp1A pp1N pp1C pp1) (qp1R : RdS w 1 qp1A qp1N qp1C qp1) :
    Calls Try.prog 38 #[.agg #[.int .i64 pp0, .slice pp1A pp1N pp1C], .agg #[.int .i64 qp0, .slice qp1A qp1N qp1C]] w (Ret fun v w' => ∃ b1 : Option Addr, ∃ c1 : Nat, v = .tuple #[.agg #[.int .i64 (((F_SumPosets pp0 pp1 qp0 qp1).1).1), .slice b1 (((F_SumPosets pp0 pp1 qp0 qp1).1).2).length c1], .int .i64 ((F_SumPosets pp0 pp1 qp0 qp1).2)] ∧ OwnS w' w.heap.size 2 1 b1 (((F_SumPosets pp0 pp1 qp0 qp1).1).2).length c1 (((F_SumPosets pp0 pp1 qp0 qp1).1).2) ∧ Ext w w') := by
  obtain rfl : pp1N = pp1.length := pp1R.len1.symm
  have pp1Le := pp1R.le
  obtain rfl : qp1N = qp1.length := qp1R.len1.symm
  have qp1Le := qp1R.le
  have hS := St.nil w
  have hS1 := St.rd0 hS rfl pp1R; clear hS
  have hS2 := St.rd0 hS1 rfl qp1R; clear hS1
  refine enter (args := [.agg #[.int .i64 pp0, .slice pp1A pp1.length pp1C], .agg #[.int .i64 qp0, .slice qp1A qp1.length qp1C]]) Try.func38 rfl rfl ?_
  rw [Try.ntmps38]; intro a hE
  have hE := hE.sub (L' := [(0, .agg #[.int .i64 pp0, .slice pp1A pp1.length pp1C]), (1, .agg #[.int .i64 qp0, .slice qp1A qp1.length qp1C])]) ⟨rfl, rfl, trivial⟩
  refine c_seq ?_
  refine c_reg ?_
  refine l_step hE rfl (l_box (v := .agg #[.int .i64 pp0, .slice pp1A pp1.length pp1C]) (cs := #[.int .i64 pp0, .slice pp1A pp1.length pp1C]) hS2 hE rfl rfl rfl ?_)
  intro b3 w4 hS7 he8 a5 hE6; clear hS2 hE
  refine l_step hE6 rfl (l_box (v := .agg #[.int .i64 qp0, .slice qp1A qp1.length qp1C]) (cs := #[.int .i64 qp0, .slice qp1A qp1.length qp1C]) hS7 hE6 rfl rfl rfl ?_)
  intro b9 w10 hS13 he14 a11 hE12; clear hS7 hE6
  refine l_step hE12 rfl (l_alloc (z := .agg #[.int .i64 0, .slice none 0 0]) (cs := #[.int .i64 0, .slice none 0 0]) hS13 hE12 (fun _ => by kernel_rfl) rfl rfl ?_)
  intro b15 w16 hS19 he20 a17 hE18; clear hS13 hE12
  refine q_step (v := .int .i64 0) hE18 (y_assign rfl) rfl rfl rfl ?_; intro a21 hE22; clear hE18
  refine c_nil ?_
  have hE23 := hE22.sub (L' := [(2, .pointer (some ⟨b3, 0, none⟩)), (3, .pointer (some ⟨b9, 0, none⟩)), (4, .pointer (some ⟨b15, 0, none⟩))]) ⟨rfl, rfl, rfl, trivial⟩; clear hE22
  refine p_tn ?_
  refine c_seq ?_
  refine c_reg ?_
  refine q_step (v := .agg #[.int .i64 pp0, .slice pp1A pp1.length pp1C]) hE23 (y_loadS Try.underlying27 rfl (by kernel_rfl) rfl (St.row (i := 2) hS19 rfl)) rfl rfl rfl ?_; intro a24 hE25; clear hE23
  refine q_step (v := .agg #[.int .i64 qp0, .slice qp1A qp1.length qp1C]) hE25 (y_loadS Try.underlying27 rfl (by kernel_rfl) rfl (St.row (i := 1) hS19 rfl)) rfl rfl rfl ?_; intro a26 hE27; clear hE25
  refine l_step hE27 rfl (l_call (f := 73) (argv := [.agg #[.int .i64 pp0, .slice pp1A pp1.length pp1C], .agg #[.int .i64 qp0, .slice qp1A qp1.length qp1C], .int .i64 0]) hE27 (fun _ => cf_summed _ _) rfl rfl (c_summed pp0 pp1A pp1.length pp1C pp1 qp0 qp1A qp1.length qp1C qp1 0 w16 (St.rdR (i := 4) hS19 rfl) (St.rdR (i := 3) hS19 rfl)) ?_)
  rintro _ w29 ⟨b34, c35, rfl, ho36, he33⟩ a30 hE31; clear hE27
  have hS32 := St.own hS19 he33 ho36; clear hS19
  refine q_step (v := .agg #[.int .i64 (((F_summed pp0 pp1 qp0 qp1 0).1).1), .slice b34 ((((F_summed pp0 pp1 qp0 qp1 0).1).2).length) c35]) hE31 (y_extract rfl rfl) rfl rfl rfl ?_; intro a37 hE38; clear hE31
  refine q_step (v := .int .i64 ((F_summed pp0 pp1 qp0 qp1 0).2)) hE38 (y_extract rfl rfl) rfl rfl rfl ?_; intro a39 hE40; clear hE38
  refine l_step hE40 rfl (l_storeS (k := 1) (cs' := #[.int .i64 (((F_summed pp0 pp1 qp0 qp1 0).1).1), .slice b34 ((((F_summed pp0 pp1 qp0 qp1 0).1).2).length) c35]) hS32 hE40 (by kernel_rfl) rfl rfl (by kernel_rfl) rfl rfl ?_)
  intro w42 hS45 a43 hE44; clear hS32 hE40
  refine q_step (v := .int .i64 ((F_summed pp0 pp1 qp0 qp1 0).2)) hE44 (y_assign rfl) rfl rfl rfl ?_; intro a47 hE48; clear hE44
  refine c_nil ?_
  have hE49 := hE48.sub (L' := [(4, .pointer (some ⟨b15, 0, none⟩)), (5, .int .i64 ((F_summed pp0 pp1 qp0 qp1 0).2))]) ⟨rfl, rfl, trivial⟩; clear hE48
  refine p_tn ?_
  refine wp_ret ?_
  have hF : F_SumPosets pp0 pp1 qp0 qp1 = ((((F_summed pp0 pp1 qp0 qp1 0).1).1, ((F_summed pp0 pp1 qp0 qp1 0).1).2), (F_summed pp0 pp1 qp0 qp1 0).2) := by unfold F_SumPosets; rfl
  refine c_retC2 hE49 rfl rfl rfl Try.underlying27 rfl (by kernel_rfl) (St.row (i := 1) hS45 rfl _ (Ext.refl _)) ?_
  exact ⟨b34, c35, (by rw [hF]; first | done | rfl), (by rw [hF]; exact hS45.ok 0 _ rfl), hS45.ext⟩

theorem SumPosets_len (p0 : Int) (p1 : List Int) (q0 : Int) (q1 : List Int) : (F_SumPosets p0 p1 q0 q1).1.2.length ≤ 8 := summed_len p0 p1 q0 q1 0

theorem or_shl0 {m p : Int} (h0 : 0 ≤ m) (h1 : m < 9223372036854775808) (hp : 0 ≤ p) (hp1 : p ≤ 8) : orI m (shlI 0 p) = m := by
  have e : shlI 0 p = 0 := by
    rw [shlI_eq hp (by omega) (by omega) (by omega)]; omega
  rw [e, orI_nat h0 h1 (by omega) (by omega)]
  simp
  omega
theorem SumPosets_eq (p0 : Int) (p1 : List Int) (q0 : Int) (q1 : List Int) : F_SumPosets p0 p1 q0 q1 = F_s_SumPosets p0 p1 q0 q1 := by
  unfold F_SumPosets F_s_SumPosets F_l16Two
  have e : F_summed p0 p1 q0 q1 0 = bif ((!(F_l16Is p0 p1)) || (!(F_l16Is q0 q1))) then ((0, []), 1) else (bif (decide (8 < (p0 + q0))) then ((0, []), 3) else (F_l16Join p0 p1 q0 q1 false, 0)) := by
    unfold F_summed F_posetOf
    rw [isPoset_eq, isPoset_eq]
    cases h1 : F_l16Is p0 p1
    · simp only [Bool.not_false, Bool.true_or, cond_true]
    · have hp := l16Is_t h1
      rw [summed_loops]
      unfold F_l16Join
      rw [rangeLoop0 (q1.length : Int) (by omega) (fun o y => o ++ [shlI (gI q1 y) p0]) (F_l16Join_L2 p0 q1) (fun _ _ _ => rfl),
        rangeLoop0 (p1.length : Int) (by omega) (fun o x => o ++ [gI p1 x]) (F_l16Join_L1 p0 p1 q0 false) (fun _ _ _ => rfl), Int.toNat_natCast, Int.toNat_natCast]
      have e2 : (List.range p1.length).foldl (fun o (x : Nat) => o ++ [orI (gI p1 x) (shlI 0 p0)]) ([] : List Int) = (List.range p1.length).foldl (fun o (x : Nat) => o ++ [gI p1 x]) [] := by
        apply foldl_ext'
        intro x hx o
        have hx := List.mem_range.1 hx
        have a := hp.2.2 x (by omega) (by omega)
        have f := fullI_bd (n := p0) (by omega) (by omega)
        rw [or_shl0 a.1 (by omega) hp.1.1 hp.1.2]
      rw [e2]
  rw [e]
  cases h1 : ((!(F_l16Is p0 p1)) || (!(F_l16Is q0 q1)))
  · by_cases h : 8 < p0 + q0
    · simp [h]
    · simp [h]
  · simp

end Go.Proofs.Ythogljcjjmclcaa
