/- GF: models and contracts, printed by wip/gen/gen.py -/
import Derived.Test.YtfilpikakdlgbaaGE
set_option linter.unusedVariables false
set_option linter.unusedSimpArgs false
namespace Go.Proofs.Ytfilpikakdlgbaa
open Go.RowKit

def F_ModalAlgebra_isOpen (ap0 : Int) (ap1 : List Int) (xp : Int) : Bool :=
  F_within xp (gI ap1 xp)
theorem cf_ModalAlgebra_isOpen (args : Array Value) (w : World) : (callFunc 79 args).run Try.prog w = .ok (.enter 79 args) w := by kernel_rfl
set_option maxRecDepth 100000 in
theorem c_ModalAlgebra_isOpen (ap0 : Int) (ap1A : Option Addr) (ap1N ap1C : Nat) (ap1 : List Int) (xp : Int) (w : World) (ap1R : RdS w 1 ap1A ap1N ap1C ap1) (h0 : 0 ≤ xp) (h1 : xp < (ap1.length : Int)) :
    Calls Try.prog 79 #[.agg #[.int .i64 ap0, .slice ap1A ap1N ap1C], .int .i64 xp] w (Ret fun v w' => v = .bool (F_ModalAlgebra_isOpen ap0 ap1 xp) ∧ Ext w w') := by
  obtain rfl : ap1N = ap1.length := ap1R.len1.symm
  have ap1Le := ap1R.le
  have hS := St.nil w
  have hS1 := St.rd0 hS rfl ap1R; clear hS
  refine enter (args := [.agg #[.int .i64 ap0, .slice ap1A ap1.length ap1C], .int .i64 xp]) Try.func79 rfl rfl ?_
  rw [Try.ntmps79]; intro a hE
  have hE := hE.sub (L' := [(0, .agg #[.int .i64 ap0, .slice ap1A ap1.length ap1C]), (1, .int .i64 xp)]) ⟨rfl, rfl, trivial⟩
  refine c_seq ?_
  refine c_reg ?_
  refine l_step hE rfl (l_box (v := .agg #[.int .i64 ap0, .slice ap1A ap1.length ap1C]) (cs := #[.int .i64 ap0, .slice ap1A ap1.length ap1C]) hS1 hE rfl rfl rfl ?_)
  intro b2 w3 hS6 he7 a4 hE5; clear hS1 hE
  refine q_step (v := .bool false) hE5 (y_assign rfl) rfl rfl rfl ?_; intro a8 hE9; clear hE5
  refine c_nil ?_
  have hE10 := hE9.sub (L' := [(1, .int .i64 xp), (2, .pointer (some ⟨b2, 0, none⟩))]) ⟨rfl, rfl, trivial⟩; clear hE9
  refine p_tn ?_
  refine c_seq ?_
  refine c_reg ?_
  refine q_step (v := .int .i64 xp) hE10 (y_move rfl) rfl rfl rfl ?_; intro a11 hE12; clear hE10
  refine q_step (v := .pointer (some ⟨b2, 1, none⟩)) hE12 (y_field rfl (fun _ => by kernel_rfl)) rfl rfl rfl ?_; intro a13 hE14; clear hE12
  refine q_step (v := .slice ap1A ap1.length ap1C) hE14 (y_load (fun _ => by kernel_rfl) rfl (St.cell (i := 0) hS6 rfl rfl)) rfl rfl rfl ?_; intro a15 hE16; clear hE14
  refine q_step (v := .int .i64 xp) hE16 (y_move rfl) rfl rfl rfl ?_; intro a17 hE18; clear hE16
  refine q_step (v := .pointer (some (adr ap1A (Int.toNat xp)))) hE18 (y_idx (by kernel_rfl) (fun _ => by kernel_rfl) rfl rfl (RdS.isS (m := xp) (St.rdR (i := 1) hS6 rfl) (by omega) (by omega)) (by omega) (by omega) (Nat.mul_one _).symm) rfl rfl rfl ?_; intro a19 hE20; clear hE18
  refine q_step (v := .int .i64 (gI ap1 xp)) hE20 (y_load (fun _ => by kernel_rfl) rfl (RdS.elt (St.rdR (i := 1) hS6 rfl) (by omega) (by omega))) rfl rfl rfl ?_; intro a21 hE22; clear hE20
  refine l_step hE22 rfl (l_call (f := 120) (argv := [.int .i64 xp, .int .i64 (gI ap1 xp)]) hE22 (fun _ => cf_within _ _) rfl rfl (c_within xp (gI ap1 xp) w3) ?_)
  rintro _ _ ⟨rfl, rfl⟩ a25 hE26; clear hE22
  refine q_step (v := .bool (F_within xp (gI ap1 xp))) hE26 (y_assign rfl) rfl rfl rfl ?_; intro a29 hE30; clear hE26
  refine c_nil ?_
  have hE31 := hE30.sub (L' := [(4, .bool (F_within xp (gI ap1 xp)))]) ⟨rfl, trivial⟩; clear hE30
  refine p_tn ?_
  refine wp_ret ?_
  have hF : F_ModalAlgebra_isOpen ap0 ap1 xp = F_within xp (gI ap1 xp) := by unfold F_ModalAlgebra_isOpen; rfl
  refine c_ret1 hE31 rfl rfl ?_
  exact ⟨(by rw [hF]; first | done | rfl), hS6.ext⟩

def F_s_OpenElements_L1b (ap1 : List Int) (rec : (List Int) → Int → (List Int) × Int) (out4 : List Int) (x5 : Int) : (List Int) × Int :=
  bif (decide (x5 < (ap1.length : Int))) then (rec (bif (decide ((anI x5 (gI ap1 x5)) = 0)) then out4 ++ ([x5]) else out4) (x5 + 1)) else (out4, x5)
def F_s_OpenElements_L1 (ap1 : List Int) : Nat → (List Int) → Int → (List Int) × Int
  | 0, out4, x5 => (out4, x5)
  | r + 1, out4, x5 => F_s_OpenElements_L1b ap1 (F_s_OpenElements_L1 ap1 r) out4 x5
def F_s_OpenElements (ap0 : Int) (ap1 : List Int) : (List Int) × (Int) :=
  bif (!(F_l15Is ap0 ap1)) then ([], 1) else ((F_s_OpenElements_L1 ap1 (Int.toNat ((ap1.length : Int) - 0) + 1) ([]) 0).1, 0)
theorem cf_s_OpenElements (args : Array Value) (w : World) : (callFunc 33 args).run Try.prog w = .ok (.enter 33 args) w := by kernel_rfl
set_option maxRecDepth 100000 in
theorem c_s_OpenElements (ap0 : Int) (ap1A : Option Addr) (ap1N ap1C : Nat) (ap1 : List Int) (w : World) (ap1R : RdS w 1 ap1A ap1N ap1C ap1) :
    Calls Try.prog 33 #[.agg #[.int .i64 ap0, .slice ap1A ap1N ap1C]] w (Ret fun v w' => ∃ b1 : Option Addr, ∃ c1 : Nat, v = .tuple #[.slice b1 ((F_s_OpenElements ap0 ap1).1).length c1, .int .i64 ((F_s_OpenElements ap0 ap1).2)] ∧ OwnS w' w.heap.size 2 1 b1 ((F_s_OpenElements ap0 ap1).1).length c1 ((F_s_OpenElements ap0 ap1).1) ∧ Ext w w') := by
  obtain rfl : ap1N = ap1.length := ap1R.len1.symm
  have ap1Le := ap1R.le
  have hS := St.nil w
  have hS1 := St.rd0 hS rfl ap1R; clear hS
  refine enter (args := [.agg #[.int .i64 ap0, .slice ap1A ap1.length ap1C]]) Try.func33 rfl rfl ?_
  rw [Try.ntmps33]; intro a hE
  have hE := hE.sub (L' := [(0, .agg #[.int .i64 ap0, .slice ap1A ap1.length ap1C])]) ⟨rfl, trivial⟩
  refine c_seq ?_
  refine c_reg ?_
  refine l_step hE rfl (l_box (v := .agg #[.int .i64 ap0, .slice ap1A ap1.length ap1C]) (cs := #[.int .i64 ap0, .slice ap1A ap1.length ap1C]) hS1 hE rfl rfl rfl ?_)
  intro b2 w3 hS6 he7 a4 hE5; clear hS1 hE
  refine q_step (v := .slice none 0 0) hE5 (y_assign rfl) rfl rfl rfl ?_; intro a8 hE9; clear hE5
  refine q_step (v := .int .i64 0) hE9 (y_assign rfl) rfl rfl rfl ?_; intro a10 hE11; clear hE9
  refine c_nil ?_
  have hE12 := hE11.sub (L' := [(1, .pointer (some ⟨b2, 0, none⟩))]) ⟨rfl, trivial⟩; clear hE11
  refine p_tn ?_
  refine c_seq ?_
  refine c_seq ?_
  refine c_reg ?_
  refine q_step (v := .agg #[.int .i64 ap0, .slice ap1A ap1.length ap1C]) hE12 (y_loadS Try.underlying43 rfl (by kernel_rfl) rfl (St.row (i := 0) hS6 rfl)) rfl rfl rfl ?_; intro a13 hE14; clear hE12
  refine l_step hE14 rfl (l_call (f := 72) (argv := [.agg #[.int .i64 ap0, .slice ap1A ap1.length ap1C]]) hE14 (fun _ => cf_l15Is _ _) rfl rfl (c_l15Is ap0 ap1A ap1.length ap1C ap1 w3 (St.rdR (i := 1) hS6 rfl)) ?_)
  rintro _ w16 ⟨rfl, he20⟩ a17 hE18; clear hE14
  have hS19 := St.go hS6 he20; clear hS6
  refine q_step (v := .bool (!(F_l15Is ap0 ap1))) hE18 (y_not rfl) rfl rfl rfl ?_; intro a21 hE22; clear hE18
  refine c_nil ?_
  have hE23 := hE22.sub (L' := [(1, .pointer (some ⟨b2, 0, none⟩)), (8, .bool (!(F_l15Is ap0 ap1)))]) ⟨rfl, rfl, trivial⟩; clear hE22
  refine p_tn ?_
  refine c_cond hE23 rfl (fun ht24 => ?_) (fun ht24 => ?_)
  ·
    have ht25 := bn_t ht24
    have hE26 := hE23; rw [ht24] at hE26; clear hE23
    refine c_seq ?_
    refine c_reg ?_
    refine q_step (v := .slice none 0 0) hE26 (y_assign rfl) rfl rfl rfl ?_; intro a27 hE28; clear hE26
    refine q_step (v := .int .i64 1) hE28 (y_assign rfl) rfl rfl rfl ?_; intro a29 hE30; clear hE28
    refine c_nil ?_
    have hE31 := hE30.sub (L' := [(2, .slice none 0 0), (3, .int .i64 1)]) ⟨rfl, rfl, trivial⟩; clear hE30
    refine p_tn ?_
    refine wp_ret ?_
    refine p_tr ?_
    have hF : F_s_OpenElements ap0 ap1 = ([], 1) := by unfold F_s_OpenElements; rw [ht24]; first | done | rfl
    refine c_ret2 hE31 rfl rfl rfl ?_
    exact ⟨none, 0, (by rw [hF]; first | done | rfl), (by rw [hF]; exact OwnS.nilS _ _ _ _), hS19.ext⟩
  ·
    have ht32 := bn_f ht24
    have hp33 := l15Is_t ht32
    have hE34 := hE23; rw [ht24] at hE34; clear hE23
    refine wp_skip ?_
    refine p_tn ?_
    refine c_seq ?_
    refine c_reg ?_
    refine l_step hE34 rfl (l_lit (e := 2) (s := 1) (xs := []) (vs := []) hS19 hE34 rfl (fun _ => by kernel_rfl) rfl rfl rfl ?_)
    intro b35 w36 hS39 he40 a37 hE38; clear hS19 hE34
    refine q_step (v := .slice (some ⟨b35, 0, none⟩) 0 0) hE38 (y_assign rfl) rfl rfl rfl ?_; intro a41 hE42; clear hE38
    refine c_nil ?_
    have hE43 := hE42.sub (L' := [(1, .pointer (some ⟨b2, 0, none⟩)), (4, .slice (some ⟨b35, 0, none⟩) 0 0)]) ⟨rfl, rfl, trivial⟩; clear hE42
    refine p_tn ?_
    refine c_seq ?_
    refine c_seq ?_
    refine c_reg ?_
    refine q_step (v := .int .i64 0) hE43 (y_assign rfl) rfl rfl rfl ?_; intro a44 hE45; clear hE43
    refine c_nil ?_
    have hE46 := hE45.sub (L' := [(1, .pointer (some ⟨b2, 0, none⟩)), (4, .slice (some ⟨b35, 0, none⟩) 0 0), (5, .int .i64 0)]) ⟨rfl, rfl, rfl, trivial⟩; clear hE45
    refine p_tn ?_
    refine c_cut1 (fun a' w' => ∃ out4A_47 : Option Addr, ∃ out4C_47 : Nat, (0 ≤ ((F_s_OpenElements_L1 ap1 (Int.toNat ((ap1.length : Int) - 0) + 1) ([]) 0).2)) ∧ (((F_s_OpenElements_L1 ap1 (Int.toNat ((ap1.length : Int) - 0) + 1) ([]) 0).2) ≤ (ap1.length : Int)) ∧ ((((F_s_OpenElements_L1 ap1 (Int.toNat ((ap1.length : Int) - 0) + 1) ([]) 0).1).length : Int) ≤ ((F_s_OpenElements_L1 ap1 (Int.toNat ((ap1.length : Int) - 0) + 1) ([]) 0).2)) ∧ E a' 30 [(1, .pointer (some ⟨b2, 0, none⟩)), (4, .slice out4A_47 (((F_s_OpenElements_L1 ap1 (Int.toNat ((ap1.length : Int) - 0) + 1) ([]) 0).1).length) out4C_47), (5, .int .i64 ((F_s_OpenElements_L1 ap1 (Int.toNat ((ap1.length : Int) - 0) + 1) ([]) 0).2))] ∧ St w w' [.own 2 1 out4A_47 (((F_s_OpenElements_L1 ap1 (Int.toNat ((ap1.length : Int) - 0) + 1) ([]) 0).1).length) out4C_47 ((F_s_OpenElements_L1 ap1 (Int.toNat ((ap1.length : Int) - 0) + 1) ([]) 0).1), .blk b2 #[.int .i64 ap0, .slice ap1A ap1.length ap1C] 43, .rd 1 ap1A ap1.length ap1C ap1]) ?_ ?_
    ·
      refine wp_block ?_
      refine c_loop (fun r a' w' => ∃ out4 : List Int, ∃ x5 : Int, ∃ out4A : Option Addr, ∃ out4C : Nat, F_s_OpenElements_L1 ap1 r out4 x5 = F_s_OpenElements_L1 ap1 (Int.toNat ((ap1.length : Int) - 0) + 1) ([]) 0 ∧ Int.toNat ((ap1.length : Int) - x5) < r ∧ (0 ≤ x5) ∧ (x5 ≤ (ap1.length : Int)) ∧ ((out4.length : Int) ≤ x5) ∧ E a' 30 [(1, .pointer (some ⟨b2, 0, none⟩)), (4, .slice out4A ((out4).length) out4C), (5, .int .i64 x5)] ∧ St w w' [.own 2 1 out4A ((out4).length) out4C out4, .blk b2 #[.int .i64 ap0, .slice ap1A ap1.length ap1C] 43, .rd 1 ap1A ap1.length ap1C ap1]) (r := (Int.toNat ((ap1.length : Int) - 0) + 1)) ?_ ?_
      · exact ⟨[], 0, some ⟨b35, 0, none⟩, 0, rfl, Nat.lt_succ_self _, (by first | omega | (simp only [List.length_append, List.length_cons, List.length_nil, sI_len, cond_true, cond_false]; omega) | (simp only [List.length_append, List.length_cons, List.length_nil, sI_len, cond_eq_ite, apply_ite List.length]; split <;> simp only [List.length_append, List.length_cons, List.length_nil, sI_len] <;> omega) | grind), (by first | omega | (simp only [List.length_append, List.length_cons, List.length_nil, sI_len, cond_true, cond_false]; omega) | (simp only [List.length_append, List.length_cons, List.length_nil, sI_len, cond_eq_ite, apply_ite List.length]; split <;> simp only [List.length_append, List.length_cons, List.length_nil, sI_len] <;> omega) | grind), (by first | omega | (simp only [List.length_append, List.length_cons, List.length_nil, sI_len, cond_true, cond_false]; omega) | (simp only [List.length_append, List.length_cons, List.length_nil, sI_len, cond_eq_ite, apply_ite List.length]; split <;> simp only [List.length_append, List.length_cons, List.length_nil, sI_len] <;> omega) | grind), (hE46.sub (L' := [(1, .pointer (some ⟨b2, 0, none⟩)), (4, .slice (some ⟨b35, 0, none⟩) 0 0), (5, .int .i64 0)]) ⟨rfl, rfl, rfl, trivial⟩), (St.pick (Γ' := [.own 2 1 (some ⟨b35, 0, none⟩) 0 0 ([]), .blk b2 #[.int .i64 ap0, .slice ap1A ap1.length ap1C] 43, .rd 1 ap1A ap1.length ap1C ap1]) hS39 [0, 1, 2] (by decide) rfl)⟩
      ·
        clear hE46 hS39
        rintro r57 a48 w49 ⟨out4, x5, out4A, out4C, hT52, hr53, hi54, hi55, hi56, hE50, hS51⟩
        obtain ⟨r57, rfl⟩ : ∃ r', r57 = r' + 1 := ⟨r57 - 1, by omega⟩
        refine c_seq ?_
        refine c_seq ?_
        refine c_reg ?_
        refine q_step (v := .int .i64 x5) hE50 (y_move rfl) rfl rfl rfl ?_; intro a58 hE59; clear hE50
        refine q_step (v := .pointer (some ⟨b2, 1, none⟩)) hE59 (y_field rfl (fun _ => by kernel_rfl)) rfl rfl rfl ?_; intro a60 hE61; clear hE59
        refine q_step (v := .slice ap1A ap1.length ap1C) hE61 (y_load (fun _ => by kernel_rfl) rfl (St.cell (i := 1) hS51 rfl rfl)) rfl rfl rfl ?_; intro a62 hE63; clear hE61
        refine q_step (v := .int .i64 (ap1.length : Int)) hE63 (y_len (e := 2) (by kernel_rfl) rfl) rfl rfl rfl ?_; intro a64 hE65; clear hE63
        refine q_step (v := .bool (decide (x5 < (ap1.length : Int)))) hE65 (y_lss rfl rfl) rfl rfl rfl ?_; intro a66 hE67; clear hE65
        refine c_nil ?_
        have hE68 := hE67.sub (L' := [(1, .pointer (some ⟨b2, 0, none⟩)), (4, .slice out4A ((out4).length) out4C), (5, .int .i64 x5), (14, .bool (decide (x5 < (ap1.length : Int))))]) ⟨rfl, rfl, rfl, rfl, trivial⟩; clear hE67
        refine p_tn ?_
        refine c_cond hE68 rfl (fun ht69 => ?_) (fun ht69 => ?_)
        ·
          have hp70 := of_decide_eq_true ht69
          have hE71 := hE68; rw [ht69] at hE71; clear hE68
          refine wp_skip ?_
          refine p_tn ?_
          refine c_cut (fun a' w' => ∃ b72 : Option Addr, ∃ c73 : Nat, E a' 30 [(1, .pointer (some ⟨b2, 0, none⟩)), (4, .slice b72 ((bif (decide ((anI x5 (gI ap1 x5)) = 0)) then out4 ++ ([x5]) else out4).length) c73), (5, .int .i64 x5)] ∧ St w w' [.own 2 1 b72 ((bif (decide ((anI x5 (gI ap1 x5)) = 0)) then out4 ++ ([x5]) else out4).length) c73 (bif (decide ((anI x5 (gI ap1 x5)) = 0)) then out4 ++ ([x5]) else out4), .rd 1 ap1A ap1.length ap1C ap1, .blk b2 #[.int .i64 ap0, .slice ap1A ap1.length ap1C] 43]) ?_ ?_
          ·
            refine wp_block ?_
            refine c_seq ?_
            refine c_reg ?_
            refine q_step (v := .int .i64 x5) hE71 (y_move rfl) rfl rfl rfl ?_; intro a74 hE75; clear hE71
            refine q_step (v := .pointer (some ⟨b2, 1, none⟩)) hE75 (y_field rfl (fun _ => by kernel_rfl)) rfl rfl rfl ?_; intro a76 hE77; clear hE75
            refine q_step (v := .slice ap1A ap1.length ap1C) hE77 (y_load (fun _ => by kernel_rfl) rfl (St.cell (i := 1) hS51 rfl rfl)) rfl rfl rfl ?_; intro a78 hE79; clear hE77
            refine q_step (v := .int .i64 x5) hE79 (y_move rfl) rfl rfl rfl ?_; intro a80 hE81; clear hE79
            refine q_step (v := .pointer (some (adr ap1A (Int.toNat x5)))) hE81 (y_idx (by kernel_rfl) (fun _ => by kernel_rfl) rfl rfl (RdS.isS (m := x5) (St.rdR (i := 2) hS51 rfl) (by omega) (by omega)) (by omega) (by omega) (Nat.mul_one _).symm) rfl rfl rfl ?_; intro a82 hE83; clear hE81
            refine q_step (v := .int .i64 (gI ap1 x5)) hE83 (y_load (fun _ => by kernel_rfl) rfl (RdS.elt (St.rdR (i := 2) hS51 rfl) (by omega) (by omega))) rfl rfl rfl ?_; intro a84 hE85; clear hE83
            refine q_step (v := .int .i64 (anI x5 (gI ap1 x5))) hE85 (y_andNot rfl rfl) rfl rfl rfl ?_; intro a86 hE87; clear hE85
            refine q_step (v := .bool (decide ((anI x5 (gI ap1 x5)) = 0))) hE87 (y_eql rfl rfl) rfl rfl rfl ?_; intro a88 hE89; clear hE87
            refine c_nil ?_
            have hE90 := hE89.sub (L' := [(1, .pointer (some ⟨b2, 0, none⟩)), (4, .slice out4A ((out4).length) out4C), (5, .int .i64 x5), (24, .bool (decide ((anI x5 (gI ap1 x5)) = 0)))]) ⟨rfl, rfl, rfl, rfl, trivial⟩; clear hE89
            refine p_tn ?_
            refine c_cond hE90 rfl (fun ht91 => ?_) (fun ht91 => ?_)
            ·
              have hp92 := of_decide_eq_true ht91
              have hE93 := hE90; rw [ht91] at hE93; clear hE90
              refine c_reg ?_
              refine q_step (v := .slice out4A ((out4).length) out4C) hE93 (y_move rfl) rfl rfl rfl ?_; intro a94 hE95; clear hE93
              refine q_step (v := .int .i64 x5) hE95 (y_move rfl) rfl rfl rfl ?_; intro a96 hE97; clear hE95
              refine l_step hE97 rfl (l_lit (e := 2) (s := 1) (xs := [x5]) (vs := [.int .i64 x5]) hS51 hE97 rfl (fun _ => by kernel_rfl) rfl rfl rfl ?_)
              intro b98 w99 hS102 he103 a100 hE101; clear hS51 hE97
              obtain ⟨_, hi1, hi2, hi3, hi4⟩ := info_parts (show (Try.prog.info? 2).map (fun i => (i.zero, i.size, i.bytes)) = some (some (.int .i64 0), 1, 8) by kernel_rfl)
              refine l_step hE101 rfl (l_append (k := 1) (n' := (out4 ++ ([x5])).length) hS102 hE101 (by kernel_rfl) hi1 hi2 hi3 rfl (by decide) (by rw [hi4]; decide) rfl rfl rfl (St.rdO (i := 0) hS102 rfl) (by first | omega | (simp only [List.length_append, List.length_cons, List.length_nil]; omega)) (by have h1 := (St.rdO (i := 1) hS102 rfl).len1; have h2 := (St.rdO (i := 0) hS102 rfl).len1; rw [List.length_append, h1, h2]) rfl ?_)
              intro b104 c110 w105 hS108 a106 hE107; clear hS102 hE101 hi1 hi2 hi3 hi4
              refine q_step (v := .slice b104 ((out4 ++ ([x5])).length) c110) hE107 (y_assign rfl) rfl rfl rfl ?_; intro a111 hE112; clear hE107
              refine c_nil ?_
              have hE113 := hE112.sub (L' := [(1, .pointer (some ⟨b2, 0, none⟩)), (4, .slice b104 ((out4 ++ ([x5])).length) c110), (5, .int .i64 x5)]) ⟨rfl, rfl, rfl, trivial⟩; clear hE112
              refine p_bn ?_
              refine p_tn ?_
              have hE114 := hE113.sub (L' := [(1, .pointer (some ⟨b2, 0, none⟩)), (4, .slice b104 ((out4 ++ ([x5])).length) c110), (5, .int .i64 x5)]) ⟨rfl, rfl, rfl, trivial⟩
              have hS115 := (St.pick (Γ' := [.own 2 1 b104 ((out4 ++ ([x5])).length) c110 (out4 ++ ([x5])), .rd 1 ap1A ap1.length ap1C ap1, .blk b2 #[.int .i64 ap0, .slice ap1A ap1.length ap1C] 43]) hS108 [1, 3, 2] (by decide) rfl)
              exact ⟨b104, c110, (by rw [ht91]; exact hE114), (by rw [ht91]; exact hS115)⟩
            ·
              have hp116 := of_decide_eq_false ht91
              have hE117 := hE90; rw [ht91] at hE117; clear hE90
              refine wp_skip ?_
              refine p_bn ?_
              refine p_tn ?_
              have hE118 := hE117.sub (L' := [(1, .pointer (some ⟨b2, 0, none⟩)), (4, .slice out4A ((out4).length) out4C), (5, .int .i64 x5)]) ⟨rfl, rfl, rfl, trivial⟩
              have hS119 := (St.pick (Γ' := [.own 2 1 out4A ((out4).length) out4C out4, .rd 1 ap1A ap1.length ap1C ap1, .blk b2 #[.int .i64 ap0, .slice ap1A ap1.length ap1C] 43]) hS51 [0, 2, 1] (by decide) rfl)
              exact ⟨out4A, out4C, (by rw [ht91]; exact hE118), (by rw [ht91]; exact hS119)⟩
          ·
            rintro a120 w121 ⟨b72, c73, hE122, hS123⟩; clear hE71 hS51
            refine c_reg ?_
            refine q_step (v := .int .i64 x5) hE122 (y_move rfl) rfl rfl rfl ?_; intro a124 hE125; clear hE122
            refine q_step (v := .int .i64 (x5 + 1)) hE125 (y_add rfl rfl ⟨(by omega), (by omega)⟩) rfl rfl rfl ?_; intro a126 hE127; clear hE125
            refine q_step (v := .int .i64 (x5 + 1)) hE127 (y_assign rfl) rfl rfl rfl ?_; intro a128 hE129; clear hE127
            refine c_nil ?_
            have hE130 := hE129.sub (L' := [(1, .pointer (some ⟨b2, 0, none⟩)), (4, .slice b72 ((bif (decide ((anI x5 (gI ap1 x5)) = 0)) then out4 ++ ([x5]) else out4).length) c73), (5, .int .i64 (x5 + 1))]) ⟨rfl, rfl, rfl, trivial⟩; clear hE129
            refine p_tn ⟨r57, Nat.lt_succ_self _, bif (decide ((anI x5 (gI ap1 x5)) = 0)) then out4 ++ ([x5]) else out4, x5 + 1, b72, c73, (hT52.symm.trans (show F_s_OpenElements_L1b ap1 (F_s_OpenElements_L1 ap1 r57) out4 x5 = F_s_OpenElements_L1 ap1 r57 (bif (decide ((anI x5 (gI ap1 x5)) = 0)) then out4 ++ ([x5]) else out4) (x5 + 1) by unfold F_s_OpenElements_L1b; rw [ht69]; first | done | rfl)).symm, (by omega), (by first | omega | (simp only [List.length_append, List.length_cons, List.length_nil, sI_len, cond_true, cond_false]; omega) | (simp only [List.length_append, List.length_cons, List.length_nil, sI_len, cond_eq_ite, apply_ite List.length]; split <;> simp only [List.length_append, List.length_cons, List.length_nil, sI_len] <;> omega) | grind), (by first | omega | (simp only [List.length_append, List.length_cons, List.length_nil, sI_len, cond_true, cond_false]; omega) | (simp only [List.length_append, List.length_cons, List.length_nil, sI_len, cond_eq_ite, apply_ite List.length]; split <;> simp only [List.length_append, List.length_cons, List.length_nil, sI_len] <;> omega) | grind), (by first | omega | (simp only [List.length_append, List.length_cons, List.length_nil, sI_len, cond_true, cond_false]; omega) | (simp only [List.length_append, List.length_cons, List.length_nil, sI_len, cond_eq_ite, apply_ite List.length]; split <;> simp only [List.length_append, List.length_cons, List.length_nil, sI_len] <;> omega) | grind), (hE130.sub (L' := [(1, .pointer (some ⟨b2, 0, none⟩)), (4, .slice b72 ((bif (decide ((anI x5 (gI ap1 x5)) = 0)) then out4 ++ ([x5]) else out4).length) c73), (5, .int .i64 (x5 + 1))]) ⟨rfl, rfl, rfl, trivial⟩), (St.pick (Γ' := [.own 2 1 b72 ((bif (decide ((anI x5 (gI ap1 x5)) = 0)) then out4 ++ ([x5]) else out4).length) c73 (bif (decide ((anI x5 (gI ap1 x5)) = 0)) then out4 ++ ([x5]) else out4), .blk b2 #[.int .i64 ap0, .slice ap1A ap1.length ap1C] 43, .rd 1 ap1A ap1.length ap1C ap1]) hS123 [0, 2, 1] (by decide) rfl)⟩
        ·
          have hp131 := of_decide_eq_false ht69
          have hE132 := hE68; rw [ht69] at hE132; clear hE68
          refine wp_exit ?_
          refine p_te ?_
          have hX133 : F_s_OpenElements_L1 ap1 (Int.toNat ((ap1.length : Int) - 0) + 1) ([]) 0 = (out4, x5) := hT52.symm.trans (show F_s_OpenElements_L1b ap1 (F_s_OpenElements_L1 ap1 r57) out4 x5 = (out4, x5) by unfold F_s_OpenElements_L1b; rw [ht69]; first | done | rfl)
          refine p_te (p_be (p_tn ?_))
          exact ⟨out4A, out4C, (by rw [hX133]; exact (show 0 ≤ x5 from (by first | omega | (simp only [List.length_append, List.length_cons, List.length_nil, sI_len, cond_true, cond_false]; omega) | (simp only [List.length_append, List.length_cons, List.length_nil, sI_len, cond_eq_ite, apply_ite List.length]; split <;> simp only [List.length_append, List.length_cons, List.length_nil, sI_len] <;> omega) | grind))), (by rw [hX133]; exact (show x5 ≤ (ap1.length : Int) from (by first | omega | (simp only [List.length_append, List.length_cons, List.length_nil, sI_len, cond_true, cond_false]; omega) | (simp only [List.length_append, List.length_cons, List.length_nil, sI_len, cond_eq_ite, apply_ite List.length]; split <;> simp only [List.length_append, List.length_cons, List.length_nil, sI_len] <;> omega) | grind))), (by rw [hX133]; exact (show (out4.length : Int) ≤ x5 from (by first | omega | (simp only [List.length_append, List.length_cons, List.length_nil, sI_len, cond_true, cond_false]; omega) | (simp only [List.length_append, List.length_cons, List.length_nil, sI_len, cond_eq_ite, apply_ite List.length]; split <;> simp only [List.length_append, List.length_cons, List.length_nil, sI_len] <;> omega) | grind))), (by rw [hX133]; exact (hE132.sub (L' := [(1, .pointer (some ⟨b2, 0, none⟩)), (4, .slice out4A ((out4).length) out4C), (5, .int .i64 x5)]) ⟨rfl, rfl, rfl, trivial⟩)), (by rw [hX133]; exact (St.pick (Γ' := [.own 2 1 out4A ((out4).length) out4C out4, .blk b2 #[.int .i64 ap0, .slice ap1A ap1.length ap1C] 43, .rd 1 ap1A ap1.length ap1C ap1]) hS51 [0, 1, 2] (by decide) rfl))⟩
    ·
      rintro a134 w135 ⟨out4A_47, out4C_47, hi139, hi140, hi141, hE136, hS137⟩; clear hE46 hS39
      refine p_tn ?_
      refine c_seq ?_
      refine c_reg ?_
      refine q_step (v := .slice out4A_47 (((F_s_OpenElements_L1 ap1 (Int.toNat ((ap1.length : Int) - 0) + 1) ([]) 0).1).length) out4C_47) hE136 (y_move rfl) rfl rfl rfl ?_; intro a142 hE143; clear hE136
      refine q_step (v := .slice out4A_47 (((F_s_OpenElements_L1 ap1 (Int.toNat ((ap1.length : Int) - 0) + 1) ([]) 0).1).length) out4C_47) hE143 (y_assign rfl) rfl rfl rfl ?_; intro a144 hE145; clear hE143
      refine q_step (v := .int .i64 0) hE145 (y_assign rfl) rfl rfl rfl ?_; intro a146 hE147; clear hE145
      refine c_nil ?_
      have hE148 := hE147.sub (L' := [(2, .slice out4A_47 (((F_s_OpenElements_L1 ap1 (Int.toNat ((ap1.length : Int) - 0) + 1) ([]) 0).1).length) out4C_47), (3, .int .i64 0)]) ⟨rfl, rfl, trivial⟩; clear hE147
      refine p_tn ?_
      refine wp_ret ?_
      have hF : F_s_OpenElements ap0 ap1 = ((F_s_OpenElements_L1 ap1 (Int.toNat ((ap1.length : Int) - 0) + 1) ([]) 0).1, 0) := by unfold F_s_OpenElements; rw [ht24]; first | done | rfl
      refine c_ret2 hE148 rfl rfl rfl ?_
      exact ⟨out4A_47, out4C_47, (by rw [hF]; first | done | rfl), (by rw [hF]; exact hS137.ok 0 _ rfl), hS137.ext⟩

def F_OpenElements_L1b (ap0 : Int) (ap1 : List Int) (rec : (List Int) → Int → (List Int) × Int) (out4 : List Int) (t12 : Int) : (List Int) × Int :=
  bif (decide (t12 < ((fullI ap0) + 1))) then (rec (bif (F_ModalAlgebra_isOpen ap0 ap1 t12) then out4 ++ ([t12]) else out4) (t12 + 1)) else (out4, t12)
def F_OpenElements_L1 (ap0 : Int) (ap1 : List Int) : Nat → (List Int) → Int → (List Int) × Int
  | 0, out4, t12 => (out4, t12)
  | r + 1, out4, t12 => F_OpenElements_L1b ap0 ap1 (F_OpenElements_L1 ap0 ap1 r) out4 t12
def F_OpenElements (ap0 : Int) (ap1 : List Int) : (List Int) × (Int) :=
  bif (!(F_isModalAlgebra ap0 ap1)) then ([], 1) else ((F_OpenElements_L1 ap0 ap1 (Int.toNat (((fullI ap0) + 1) - 0) + 1) ([]) 0).1, 0)
theorem cf_OpenElements (args : Array Value) (w : World) : (callFunc 34 args).run Try.prog w = .ok (.enter 34 args) w := by kernel_rfl
set_option maxRecDepth 100000 in
theorem c_OpenElements (ap0 : Int) (ap1A : Option Addr) (ap1N ap1C : Nat) (ap1 : List Int) (w : World) (ap1R : RdS w 1 ap1A ap1N ap1C ap1) :
    Calls Try.prog 34 #[.agg #[.int .i64 ap0, .slice ap1A ap1N ap1C]] w (Ret fun v w' => ∃ b1 : Option Addr, ∃ c1 : Nat, v = .tuple #[.slice b1 ((F_OpenElements ap0 ap1).1).length c1, .int .i64 ((F_OpenElements ap0 ap1).2)] ∧ OwnS w' w.heap.size 2 1 b1 ((F_OpenElements ap0 ap1).1).length c1 ((F_OpenElements ap0 ap1).1) ∧ Ext w w') := by
  obtain rfl : ap1N = ap1.length := ap1R.len1.symm
  have ap1Le := ap1R.le
  have hS := St.nil w
  have hS1 := St.rd0 hS rfl ap1R; clear hS
  refine enter (args := [.agg #[.int .i64 ap0, .slice ap1A ap1.length ap1C]]) Try.func34 rfl rfl ?_
  rw [Try.ntmps34]; intro a hE
  have hE := hE.sub (L' := [(0, .agg #[.int .i64 ap0, .slice ap1A ap1.length ap1C])]) ⟨rfl, trivial⟩
  refine c_seq ?_
  refine c_reg ?_
  refine l_step hE rfl (l_box (v := .agg #[.int .i64 ap0, .slice ap1A ap1.length ap1C]) (cs := #[.int .i64 ap0, .slice ap1A ap1.length ap1C]) hS1 hE rfl rfl rfl ?_)
  intro b2 w3 hS6 he7 a4 hE5; clear hS1 hE
  refine q_step (v := .slice none 0 0) hE5 (y_assign rfl) rfl rfl rfl ?_; intro a8 hE9; clear hE5
  refine q_step (v := .int .i64 0) hE9 (y_assign rfl) rfl rfl rfl ?_; intro a10 hE11; clear hE9
  refine c_nil ?_
  have hE12 := hE11.sub (L' := [(1, .pointer (some ⟨b2, 0, none⟩))]) ⟨rfl, trivial⟩; clear hE11
  refine p_tn ?_
  refine c_seq ?_
  refine c_seq ?_
  refine c_reg ?_
  refine q_step (v := .agg #[.int .i64 ap0, .slice ap1A ap1.length ap1C]) hE12 (y_loadS Try.underlying43 rfl (by kernel_rfl) rfl (St.row (i := 0) hS6 rfl)) rfl rfl rfl ?_; intro a13 hE14; clear hE12
  refine l_step hE14 rfl (l_call (f := 75) (argv := [.agg #[.int .i64 ap0, .slice ap1A ap1.length ap1C]]) hE14 (fun _ => cf_isModalAlgebra _ _) rfl rfl (c_isModalAlgebra ap0 ap1A ap1.length ap1C ap1 w3 (St.rdR (i := 1) hS6 rfl)) ?_)
  rintro _ w16 ⟨rfl, he20⟩ a17 hE18; clear hE14
  have hS19 := St.go hS6 he20; clear hS6
  refine q_step (v := .bool (!(F_isModalAlgebra ap0 ap1))) hE18 (y_not rfl) rfl rfl rfl ?_; intro a21 hE22; clear hE18
  refine c_nil ?_
  have hE23 := hE22.sub (L' := [(1, .pointer (some ⟨b2, 0, none⟩)), (8, .bool (!(F_isModalAlgebra ap0 ap1)))]) ⟨rfl, rfl, trivial⟩; clear hE22
  refine p_tn ?_
  refine c_cond hE23 rfl (fun ht24 => ?_) (fun ht24 => ?_)
  ·
    have ht25 := bn_t ht24
    have hE26 := hE23; rw [ht24] at hE26; clear hE23
    refine c_seq ?_
    refine c_reg ?_
    refine q_step (v := .slice none 0 0) hE26 (y_assign rfl) rfl rfl rfl ?_; intro a27 hE28; clear hE26
    refine q_step (v := .int .i64 1) hE28 (y_assign rfl) rfl rfl rfl ?_; intro a29 hE30; clear hE28
    refine c_nil ?_
    have hE31 := hE30.sub (L' := [(2, .slice none 0 0), (3, .int .i64 1)]) ⟨rfl, rfl, trivial⟩; clear hE30
    refine p_tn ?_
    refine wp_ret ?_
    refine p_tr ?_
    have hF : F_OpenElements ap0 ap1 = ([], 1) := by unfold F_OpenElements; rw [ht24]; first | done | rfl
    refine c_ret2 hE31 rfl rfl rfl ?_
    exact ⟨none, 0, (by rw [hF]; first | done | rfl), (by rw [hF]; exact OwnS.nilS _ _ _ _), hS19.ext⟩
  ·
    have ht32 := bn_f ht24
    have hp33 := isModal_t ht32
    have hE34 := hE23; rw [ht24] at hE34; clear hE23
    refine wp_skip ?_
    refine p_tn ?_
    refine c_seq ?_
    refine c_reg ?_
    refine q_step (v := .slice none 0 0) hE34 (y_assign rfl) rfl rfl rfl ?_; intro a35 hE36; clear hE34
    refine c_nil ?_
    have hE37 := hE36.sub (L' := [(1, .pointer (some ⟨b2, 0, none⟩)), (4, .slice none 0 0)]) ⟨rfl, rfl, trivial⟩; clear hE36
    refine p_tn ?_
    refine c_seq ?_
    refine c_seq ?_
    refine c_reg ?_
    refine q_step (v := .agg #[.int .i64 ap0, .slice ap1A ap1.length ap1C]) hE37 (y_loadS Try.underlying43 rfl (by kernel_rfl) rfl (St.row (i := 0) hS19 rfl)) rfl rfl rfl ?_; intro a38 hE39; clear hE37
    refine l_step hE39 rfl (l_call (f := 78) (argv := [.agg #[.int .i64 ap0, .slice ap1A ap1.length ap1C]]) hE39 (fun _ => cf_ModalAlgebra_full _ _) rfl rfl (d_ModalAlgebra_full ap0 ap1A ap1.length ap1C ap1 w16 (St.rdR (i := 1) hS19 rfl) (by omega) (by omega)) ?_)
    rintro _ w41 ⟨rfl, he45⟩ a42 hE43; clear hE39
    have hf46 := fullI_bd (n := ap0) (by omega) (by omega)
    have hS44 := St.go hS19 he45; clear hS19
    refine q_step (v := .int .i64 ((fullI ap0) + 1)) hE43 (y_add rfl rfl ⟨(by omega), (by omega)⟩) rfl rfl rfl ?_; intro a47 hE48; clear hE43
    refine q_step (v := .int .i64 0) hE48 (y_move rfl) rfl rfl rfl ?_; intro a49 hE50; clear hE48
    refine c_nil ?_
    have hE51 := hE50.sub (L' := [(1, .pointer (some ⟨b2, 0, none⟩)), (4, .slice none 0 0), (11, .int .i64 ((fullI ap0) + 1)), (12, .int .i64 0)]) ⟨rfl, rfl, rfl, rfl, trivial⟩; clear hE50
    refine p_tn ?_
    have hS52 := St.nils hS44 2 1; clear hS44
    refine c_cut1 (fun a' w' => ∃ out4A_53 : Option Addr, ∃ out4C_53 : Nat, (0 ≤ ((F_OpenElements_L1 ap0 ap1 (Int.toNat (((fullI ap0) + 1) - 0) + 1) ([]) 0).2)) ∧ ((((F_OpenElements_L1 ap0 ap1 (Int.toNat (((fullI ap0) + 1) - 0) + 1) ([]) 0).1).length : Int) ≤ ((F_OpenElements_L1 ap0 ap1 (Int.toNat (((fullI ap0) + 1) - 0) + 1) ([]) 0).2)) ∧ E a' 24 [(1, .pointer (some ⟨b2, 0, none⟩)), (4, .slice out4A_53 (((F_OpenElements_L1 ap0 ap1 (Int.toNat (((fullI ap0) + 1) - 0) + 1) ([]) 0).1).length) out4C_53), (11, .int .i64 ((fullI ap0) + 1)), (12, .int .i64 ((F_OpenElements_L1 ap0 ap1 (Int.toNat (((fullI ap0) + 1) - 0) + 1) ([]) 0).2))] ∧ St w w' [.own 2 1 out4A_53 (((F_OpenElements_L1 ap0 ap1 (Int.toNat (((fullI ap0) + 1) - 0) + 1) ([]) 0).1).length) out4C_53 ((F_OpenElements_L1 ap0 ap1 (Int.toNat (((fullI ap0) + 1) - 0) + 1) ([]) 0).1), .blk b2 #[.int .i64 ap0, .slice ap1A ap1.length ap1C] 43, .rd 1 ap1A ap1.length ap1C ap1]) ?_ ?_
    ·
      refine wp_block ?_
      refine c_loop (fun r a' w' => ∃ out4 : List Int, ∃ t12 : Int, ∃ out4A : Option Addr, ∃ out4C : Nat, F_OpenElements_L1 ap0 ap1 r out4 t12 = F_OpenElements_L1 ap0 ap1 (Int.toNat (((fullI ap0) + 1) - 0) + 1) ([]) 0 ∧ Int.toNat (((fullI ap0) + 1) - t12) < r ∧ (0 ≤ t12) ∧ ((out4.length : Int) ≤ t12) ∧ E a' 24 [(1, .pointer (some ⟨b2, 0, none⟩)), (4, .slice out4A ((out4).length) out4C), (11, .int .i64 ((fullI ap0) + 1)), (12, .int .i64 t12)] ∧ St w w' [.own 2 1 out4A ((out4).length) out4C out4, .blk b2 #[.int .i64 ap0, .slice ap1A ap1.length ap1C] 43, .rd 1 ap1A ap1.length ap1C ap1]) (r := (Int.toNat (((fullI ap0) + 1) - 0) + 1)) ?_ ?_
      · exact ⟨[], 0, none, 0, rfl, Nat.lt_succ_self _, (by first | omega | (simp only [List.length_append, List.length_cons, List.length_nil, sI_len, cond_true, cond_false]; omega) | (simp only [List.length_append, List.length_cons, List.length_nil, sI_len, cond_eq_ite, apply_ite List.length]; split <;> simp only [List.length_append, List.length_cons, List.length_nil, sI_len] <;> omega) | grind), (by first | omega | (simp only [List.length_append, List.length_cons, List.length_nil, sI_len, cond_true, cond_false]; omega) | (simp only [List.length_append, List.length_cons, List.length_nil, sI_len, cond_eq_ite, apply_ite List.length]; split <;> simp only [List.length_append, List.length_cons, List.length_nil, sI_len] <;> omega) | grind), (hE51.sub (L' := [(1, .pointer (some ⟨b2, 0, none⟩)), (4, .slice none 0 0), (11, .int .i64 ((fullI ap0) + 1)), (12, .int .i64 0)]) ⟨rfl, rfl, rfl, rfl, trivial⟩), (St.pick (Γ' := [.own 2 1 none 0 0 ([]), .blk b2 #[.int .i64 ap0, .slice ap1A ap1.length ap1C] 43, .rd 1 ap1A ap1.length ap1C ap1]) hS52 [0, 1, 2] (by decide) rfl)⟩
      ·
        clear hE51 hS52
        rintro r62 a54 w55 ⟨out4, t12, out4A, out4C, hT58, hr59, hi60, hi61, hE56, hS57⟩
        obtain ⟨r62, rfl⟩ : ∃ r', r62 = r' + 1 := ⟨r62 - 1, by omega⟩
        refine c_seq ?_
        refine c_reg ?_
        refine q_step (v := .bool (decide (t12 < ((fullI ap0) + 1)))) hE56 (y_lss rfl rfl) rfl rfl rfl ?_; intro a63 hE64; clear hE56
        refine c_nil ?_
        have hE65 := hE64.sub (L' := [(1, .pointer (some ⟨b2, 0, none⟩)), (4, .slice out4A ((out4).length) out4C), (11, .int .i64 ((fullI ap0) + 1)), (12, .int .i64 t12), (13, .bool (decide (t12 < ((fullI ap0) + 1))))]) ⟨rfl, rfl, rfl, rfl, rfl, trivial⟩; clear hE64
        refine p_tn ?_
        refine c_seq ?_
        refine c_cond hE65 rfl (fun ht66 => ?_) (fun ht66 => ?_)
        ·
          have hp67 := of_decide_eq_true ht66
          have hE68 := hE65; rw [ht66] at hE68; clear hE65
          refine wp_skip ?_
          refine p_tn ?_
          refine c_cut (fun a' w' => ∃ b69 : Option Addr, ∃ c70 : Nat, E a' 24 [(1, .pointer (some ⟨b2, 0, none⟩)), (4, .slice b69 ((bif (F_ModalAlgebra_isOpen ap0 ap1 t12) then out4 ++ ([t12]) else out4).length) c70), (11, .int .i64 ((fullI ap0) + 1)), (12, .int .i64 t12)] ∧ St w w' [.own 2 1 b69 ((bif (F_ModalAlgebra_isOpen ap0 ap1 t12) then out4 ++ ([t12]) else out4).length) c70 (bif (F_ModalAlgebra_isOpen ap0 ap1 t12) then out4 ++ ([t12]) else out4), .rd 1 ap1A ap1.length ap1C ap1, .blk b2 #[.int .i64 ap0, .slice ap1A ap1.length ap1C] 43]) ?_ ?_
          ·
            refine wp_block ?_
            refine c_seq ?_
            refine c_reg ?_
            refine q_step (v := .int .i64 t12) hE68 (y_move rfl) rfl rfl rfl ?_; intro a71 hE72; clear hE68
            refine q_step (v := .int .i64 t12) hE72 (y_assign rfl) rfl rfl rfl ?_; intro a73 hE74; clear hE72
            refine c_nil ?_
            have hE75 := hE74.sub (L' := [(1, .pointer (some ⟨b2, 0, none⟩)), (4, .slice out4A ((out4).length) out4C), (5, .int .i64 t12), (11, .int .i64 ((fullI ap0) + 1)), (12, .int .i64 t12)]) ⟨rfl, rfl, rfl, rfl, rfl, trivial⟩; clear hE74
            refine p_tn ?_
            refine c_seq ?_
            refine c_reg ?_
            refine q_step (v := .agg #[.int .i64 ap0, .slice ap1A ap1.length ap1C]) hE75 (y_loadS Try.underlying43 rfl (by kernel_rfl) rfl (St.row (i := 1) hS57 rfl)) rfl rfl rfl ?_; intro a76 hE77; clear hE75
            refine q_step (v := .int .i64 t12) hE77 (y_move rfl) rfl rfl rfl ?_; intro a78 hE79; clear hE77
            refine l_step hE79 rfl (l_call (f := 79) (argv := [.agg #[.int .i64 ap0, .slice ap1A ap1.length ap1C], .int .i64 t12]) hE79 (fun _ => cf_ModalAlgebra_isOpen _ _) rfl rfl (c_ModalAlgebra_isOpen ap0 ap1A ap1.length ap1C ap1 t12 w55 (St.rdR (i := 2) hS57 rfl) (by omega) (by omega)) ?_)
            rintro _ w81 ⟨rfl, he85⟩ a82 hE83; clear hE79
            have hS84 := St.go hS57 he85; clear hS57
            refine c_nil ?_
            have hE86 := hE83.sub (L' := [(1, .pointer (some ⟨b2, 0, none⟩)), (4, .slice out4A ((out4).length) out4C), (5, .int .i64 t12), (11, .int .i64 ((fullI ap0) + 1)), (12, .int .i64 t12), (17, .bool (F_ModalAlgebra_isOpen ap0 ap1 t12))]) ⟨rfl, rfl, rfl, rfl, rfl, rfl, trivial⟩; clear hE83
            refine p_tn ?_
            refine c_cond hE86 rfl (fun ht87 => ?_) (fun ht87 => ?_)
            ·
              have hE88 := hE86; rw [ht87] at hE88; clear hE86
              refine c_reg ?_
              refine q_step (v := .slice out4A ((out4).length) out4C) hE88 (y_move rfl) rfl rfl rfl ?_; intro a89 hE90; clear hE88
              refine q_step (v := .int .i64 t12) hE90 (y_move rfl) rfl rfl rfl ?_; intro a91 hE92; clear hE90
              refine l_step hE92 rfl (l_lit (e := 2) (s := 1) (xs := [t12]) (vs := [.int .i64 t12]) hS84 hE92 rfl (fun _ => by kernel_rfl) rfl rfl rfl ?_)
              intro b93 w94 hS97 he98 a95 hE96; clear hS84 hE92
              obtain ⟨_, hi1, hi2, hi3, hi4⟩ := info_parts (show (Try.prog.info? 2).map (fun i => (i.zero, i.size, i.bytes)) = some (some (.int .i64 0), 1, 8) by kernel_rfl)
              refine l_step hE96 rfl (l_append (k := 1) (n' := (out4 ++ ([t12])).length) hS97 hE96 (by kernel_rfl) hi1 hi2 hi3 rfl (by decide) (by rw [hi4]; decide) rfl rfl rfl (St.rdO (i := 0) hS97 rfl) (by first | omega | (simp only [List.length_append, List.length_cons, List.length_nil]; omega)) (by have h1 := (St.rdO (i := 1) hS97 rfl).len1; have h2 := (St.rdO (i := 0) hS97 rfl).len1; rw [List.length_append, h1, h2]) rfl ?_)
              intro b99 c105 w100 hS103 a101 hE102; clear hS97 hE96 hi1 hi2 hi3 hi4
              refine q_step (v := .slice b99 ((out4 ++ ([t12])).length) c105) hE102 (y_assign rfl) rfl rfl rfl ?_; intro a106 hE107; clear hE102
              refine c_nil ?_
              have hE108 := hE107.sub (L' := [(1, .pointer (some ⟨b2, 0, none⟩)), (4, .slice b99 ((out4 ++ ([t12])).length) c105), (11, .int .i64 ((fullI ap0) + 1)), (12, .int .i64 t12)]) ⟨rfl, rfl, rfl, rfl, trivial⟩; clear hE107
              refine p_bn ?_
              refine p_tn ?_
              have hE109 := hE108.sub (L' := [(1, .pointer (some ⟨b2, 0, none⟩)), (4, .slice b99 ((out4 ++ ([t12])).length) c105), (11, .int .i64 ((fullI ap0) + 1)), (12, .int .i64 t12)]) ⟨rfl, rfl, rfl, rfl, trivial⟩
              have hS110 := (St.pick (Γ' := [.own 2 1 b99 ((out4 ++ ([t12])).length) c105 (out4 ++ ([t12])), .rd 1 ap1A ap1.length ap1C ap1, .blk b2 #[.int .i64 ap0, .slice ap1A ap1.length ap1C] 43]) hS103 [1, 3, 2] (by decide) rfl)
              exact ⟨b99, c105, (by rw [ht87]; exact hE109), (by rw [ht87]; exact hS110)⟩
            ·
              have hE111 := hE86; rw [ht87] at hE111; clear hE86
              refine wp_skip ?_
              refine p_bn ?_
              refine p_tn ?_
              have hE112 := hE111.sub (L' := [(1, .pointer (some ⟨b2, 0, none⟩)), (4, .slice out4A ((out4).length) out4C), (11, .int .i64 ((fullI ap0) + 1)), (12, .int .i64 t12)]) ⟨rfl, rfl, rfl, rfl, trivial⟩
              have hS113 := (St.pick (Γ' := [.own 2 1 out4A ((out4).length) out4C out4, .rd 1 ap1A ap1.length ap1C ap1, .blk b2 #[.int .i64 ap0, .slice ap1A ap1.length ap1C] 43]) hS84 [0, 2, 1] (by decide) rfl)
              exact ⟨out4A, out4C, (by rw [ht87]; exact hE112), (by rw [ht87]; exact hS113)⟩
          ·
            rintro a114 w115 ⟨b69, c70, hE116, hS117⟩; clear hE68 hS57
            refine c_reg ?_
            refine q_step (v := .int .i64 (t12 + 1)) hE116 (y_add rfl rfl ⟨(by omega), (by omega)⟩) rfl rfl rfl ?_; intro a118 hE119; clear hE116
            refine q_step (v := .int .i64 (t12 + 1)) hE119 (y_move rfl) rfl rfl rfl ?_; intro a120 hE121; clear hE119
            refine c_nil ?_
            have hE122 := hE121.sub (L' := [(1, .pointer (some ⟨b2, 0, none⟩)), (4, .slice b69 ((bif (F_ModalAlgebra_isOpen ap0 ap1 t12) then out4 ++ ([t12]) else out4).length) c70), (11, .int .i64 ((fullI ap0) + 1)), (12, .int .i64 (t12 + 1))]) ⟨rfl, rfl, rfl, rfl, trivial⟩; clear hE121
            refine p_tn ⟨r62, Nat.lt_succ_self _, bif (F_ModalAlgebra_isOpen ap0 ap1 t12) then out4 ++ ([t12]) else out4, t12 + 1, b69, c70, (hT58.symm.trans (show F_OpenElements_L1b ap0 ap1 (F_OpenElements_L1 ap0 ap1 r62) out4 t12 = F_OpenElements_L1 ap0 ap1 r62 (bif (F_ModalAlgebra_isOpen ap0 ap1 t12) then out4 ++ ([t12]) else out4) (t12 + 1) by unfold F_OpenElements_L1b; rw [ht66]; first | done | rfl)).symm, (by omega), (by first | omega | (simp only [List.length_append, List.length_cons, List.length_nil, sI_len, cond_true, cond_false]; omega) | (simp only [List.length_append, List.length_cons, List.length_nil, sI_len, cond_eq_ite, apply_ite List.length]; split <;> simp only [List.length_append, List.length_cons, List.length_nil, sI_len] <;> omega) | grind), (by first | omega | (simp only [List.length_append, List.length_cons, List.length_nil, sI_len, cond_true, cond_false]; omega) | (simp only [List.length_append, List.length_cons, List.length_nil, sI_len, cond_eq_ite, apply_ite List.length]; split <;> simp only [List.length_append, List.length_cons, List.length_nil, sI_len] <;> omega) | grind), (hE122.sub (L' := [(1, .pointer (some ⟨b2, 0, none⟩)), (4, .slice b69 ((bif (F_ModalAlgebra_isOpen ap0 ap1 t12) then out4 ++ ([t12]) else out4).length) c70), (11, .int .i64 ((fullI ap0) + 1)), (12, .int .i64 (t12 + 1))]) ⟨rfl, rfl, rfl, rfl, trivial⟩), (St.pick (Γ' := [.own 2 1 b69 ((bif (F_ModalAlgebra_isOpen ap0 ap1 t12) then out4 ++ ([t12]) else out4).length) c70 (bif (F_ModalAlgebra_isOpen ap0 ap1 t12) then out4 ++ ([t12]) else out4), .blk b2 #[.int .i64 ap0, .slice ap1A ap1.length ap1C] 43, .rd 1 ap1A ap1.length ap1C ap1]) hS117 [0, 2, 1] (by decide) rfl)⟩
        ·
          have hp123 := of_decide_eq_false ht66
          have hE124 := hE65; rw [ht66] at hE124; clear hE65
          refine wp_exit ?_
          refine p_te ?_
          have hX125 : F_OpenElements_L1 ap0 ap1 (Int.toNat (((fullI ap0) + 1) - 0) + 1) ([]) 0 = (out4, t12) := hT58.symm.trans (show F_OpenElements_L1b ap0 ap1 (F_OpenElements_L1 ap0 ap1 r62) out4 t12 = (out4, t12) by unfold F_OpenElements_L1b; rw [ht66]; first | done | rfl)
          refine p_te (p_be (p_tn ?_))
          exact ⟨out4A, out4C, (by rw [hX125]; exact (show 0 ≤ t12 from (by first | omega | (simp only [List.length_append, List.length_cons, List.length_nil, sI_len, cond_true, cond_false]; omega) | (simp only [List.length_append, List.length_cons, List.length_nil, sI_len, cond_eq_ite, apply_ite List.length]; split <;> simp only [List.length_append, List.length_cons, List.length_nil, sI_len] <;> omega) | grind))), (by rw [hX125]; exact (show (out4.length : Int) ≤ t12 from (by first | omega | (simp only [List.length_append, List.length_cons, List.length_nil, sI_len, cond_true, cond_false]; omega) | (simp only [List.length_append, List.length_cons, List.length_nil, sI_len, cond_eq_ite, apply_ite List.length]; split <;> simp only [List.length_append, List.length_cons, List.length_nil, sI_len] <;> omega) | grind))), (by rw [hX125]; exact (hE124.sub (L' := [(1, .pointer (some ⟨b2, 0, none⟩)), (4, .slice out4A ((out4).length) out4C), (11, .int .i64 ((fullI ap0) + 1)), (12, .int .i64 t12)]) ⟨rfl, rfl, rfl, rfl, trivial⟩)), (by rw [hX125]; exact (St.pick (Γ' := [.own 2 1 out4A ((out4).length) out4C out4, .blk b2 #[.int .i64 ap0, .slice ap1A ap1.length ap1C] 43, .rd 1 ap1A ap1.length ap1C ap1]) hS57 [0, 1, 2] (by decide) rfl))⟩
    ·
      rintro a126 w127 ⟨out4A_53, out4C_53, hi131, hi132, hE128, hS129⟩; clear hE51 hS52
      refine p_tn ?_
      refine c_seq ?_
      refine c_reg ?_
      refine q_step (v := .slice out4A_53 (((F_OpenElements_L1 ap0 ap1 (Int.toNat (((fullI ap0) + 1) - 0) + 1) ([]) 0).1).length) out4C_53) hE128 (y_move rfl) rfl rfl rfl ?_; intro a133 hE134; clear hE128
      refine q_step (v := .slice out4A_53 (((F_OpenElements_L1 ap0 ap1 (Int.toNat (((fullI ap0) + 1) - 0) + 1) ([]) 0).1).length) out4C_53) hE134 (y_assign rfl) rfl rfl rfl ?_; intro a135 hE136; clear hE134
      refine q_step (v := .int .i64 0) hE136 (y_assign rfl) rfl rfl rfl ?_; intro a137 hE138; clear hE136
      refine c_nil ?_
      have hE139 := hE138.sub (L' := [(2, .slice out4A_53 (((F_OpenElements_L1 ap0 ap1 (Int.toNat (((fullI ap0) + 1) - 0) + 1) ([]) 0).1).length) out4C_53), (3, .int .i64 0)]) ⟨rfl, rfl, trivial⟩; clear hE138
      refine p_tn ?_
      refine wp_ret ?_
      have hF : F_OpenElements ap0 ap1 = ((F_OpenElements_L1 ap0 ap1 (Int.toNat (((fullI ap0) + 1) - 0) + 1) ([]) 0).1, 0) := by unfold F_OpenElements; rw [ht24]; first | done | rfl
      refine c_ret2 hE139 rfl rfl rfl ?_
      exact ⟨out4A_53, out4C_53, (by rw [hF]; first | done | rfl), (by rw [hF]; exact hS129.ok 0 _ rfl), hS129.ext⟩

theorem Open_loop (ap0 : Int) (ap1 : List Int) (hl : (ap1.length : Int) = fullI ap0 + 1) (r : Nat) (xs : List Int) (x : Int) : F_OpenElements_L1 ap0 ap1 r xs x = F_s_OpenElements_L1 ap1 r xs x := by
  induction r generalizing xs x with
  | zero => rfl
  | succ r ih =>
    show F_OpenElements_L1b ap0 ap1 _ xs x = F_s_OpenElements_L1b ap1 _ xs x
    unfold F_OpenElements_L1b F_s_OpenElements_L1b
    rw [ih, hl]; rfl
theorem Open_len (ap1 : List Int) (r : Nat) (xs : List Int) (x : Int) : (F_s_OpenElements_L1 ap1 r xs x).1.length ≤ xs.length + r := by
  induction r generalizing xs x with
  | zero => exact Nat.le_refl _
  | succ r ih =>
    show (F_s_OpenElements_L1b ap1 _ xs x).1.length ≤ _
    unfold F_s_OpenElements_L1b
    cases decide (x < (ap1.length : Int))
    · simp <;> omega
    · simp only [cond_true]
      refine Nat.le_trans (ih _ _) ?_
      cases decide (anI x (gI ap1 x) = 0) <;> simp <;> omega
theorem OpenElements_eq (ap0 : Int) (ap1 : List Int) : F_OpenElements ap0 ap1 = F_s_OpenElements ap0 ap1 := by
  unfold F_OpenElements F_s_OpenElements
  rw [isModal_eq]
  cases h : F_l15Is ap0 ap1
  · rfl
  · have hl := (l15Is_t h).2.1
    rw [Open_loop ap0 ap1 hl, hl]
theorem OpenElements_len (ap0 : Int) (ap1 : List Int) : (F_OpenElements ap0 ap1).1.length ≤ ap1.length + 1 := by
  rw [OpenElements_eq]
  unfold F_s_OpenElements
  cases (!(F_l15Is ap0 ap1))
  · have := Open_len ap1 (Int.toNat ((ap1.length : Int) - 0) + 1) [] 0
    simp only [cond_false]
    refine Nat.le_trans this ?_
    simp
  · simp

end Go.Proofs.Ytfilpikakdlgbaa
