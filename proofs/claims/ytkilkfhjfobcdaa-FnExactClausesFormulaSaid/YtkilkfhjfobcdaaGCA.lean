/- GCA: models and contracts, printed by wip/gen/gen.py -/
import Derived.Test.YtkilkfhjfobcdaaGNC
import Derived.Test.YtkilkfhjfobcdaaGSA
set_option linter.unusedVariables false
set_option linter.unusedSimpArgs false
namespace Go.Proofs.Ytkilkfhjfobcdaa
open Go.RowKit


theorem RdS.eltT {w : World} {a : Option Addr} {n c : Nat} {xs : List Int} (h : RdS w 1 a n c xs) {m : Int} (h1 : m.toNat < n) : ∀ w', Ext w w' → w'.cell? (adr a m.toNat) = some (.int .i64 (gI xs m)) := fun w' he => by
  have hl := h.1
  exact (h.ext he).2.2.2.2 m.toNat (by omega)
theorem clStep {l : List Int} {i : Int} (h : 0 ≤ gI l i ∧ gI l i ≤ 11) (hp : ∀ m : Int, 0 ≤ m → m < i → 0 ≤ gI l m ∧ gI l m ≤ 11) : ∀ m : Int, 0 ≤ m → m < i + 1 → 0 ≤ gI l m ∧ gI l m ≤ 11 := fun m h0 h1 => by
  by_cases e : m = i
  · rw [e]; exact h
  · exact hp m h0 (by omega)


def F_isClause_L1b (list : List Int) (rec : Int → Except (Bool) (Int)) (t7 : Int) : Except (Bool) (Int) :=
  bif (decide (t7 < (list.length : Int))) then (bif ((!(F_inRange (gI list t7) 0 11)) || ((decide (0 < t7)) && ((decide ((gI list t7) ≤ (gI list (t7 - 1)))) || (decide (((gI list (t7 - 1)) / 2) = ((gI list t7) / 2)))))) then (.error false) else (rec (t7 + 1))) else (.ok t7)
def F_isClause_L1 (list : List Int) : Nat → Int → Except (Bool) (Int)
  | 0, t7 => .ok t7
  | r + 1, t7 => F_isClause_L1b list (F_isClause_L1 list r) t7
def F_isClause (list : List Int) : Bool :=
  bif (isOk (F_isClause_L1 list (Int.toNat ((list.length : Int) - 0) + 1) 0)) then true else (errD (F_isClause_L1 list (Int.toNat ((list.length : Int) - 0) + 1) 0))
theorem cf_isClause (args : Array Value) (w : World) : (callFunc 159 args).run Try.prog w = .ok (.enter 159 args) w := by kernel_rfl
set_option maxRecDepth 100000 in
theorem c_isClause (listA : Option Addr) (listN listC : Nat) (list : List Int) (w : World) (listR : RdS w 1 listA listN listC list) :
    Calls Try.prog 159 #[.slice listA listN listC] w (Ret fun v w' => v = .bool (F_isClause list) ∧ Ext w w') := by
  obtain rfl : listN = list.length := listR.len1.symm
  have listLe := listR.le
  have hS := St.nil w
  have hS1 := St.rd0 hS rfl listR; clear hS
  refine enter (args := [.slice listA list.length listC]) Try.func159 rfl rfl ?_
  rw [Try.ntmps159]; intro a hE
  have hE := hE.sub (L' := [(0, .slice listA list.length listC)]) ⟨rfl, trivial⟩
  refine c_seq ?_
  refine c_reg ?_
  refine q_step (v := .bool false) hE (y_assign rfl) rfl rfl rfl ?_; intro a2 hE3; clear hE
  refine c_nil ?_
  have hE4 := hE3.sub (L' := [(0, .slice listA list.length listC)]) ⟨rfl, trivial⟩; clear hE3
  refine p_tn ?_
  refine c_seq ?_
  refine c_seq ?_
  refine c_reg ?_
  refine q_step (v := .slice listA list.length listC) hE4 (y_move rfl) rfl rfl rfl ?_; intro a5 hE6; clear hE4
  refine q_step (v := .int .i64 (list.length : Int)) hE6 (y_len (e := 2) (by kernel_rfl) rfl) rfl rfl rfl ?_; intro a7 hE8; clear hE6
  refine q_step (v := .int .i64 0) hE8 (y_move rfl) rfl rfl rfl ?_; intro a9 hE10; clear hE8
  refine c_nil ?_
  have hE11 := hE10.sub (L' := [(0, .slice listA list.length listC), (5, .slice listA list.length listC), (6, .int .i64 (list.length : Int)), (7, .int .i64 0)]) ⟨rfl, rfl, rfl, rfl, trivial⟩; clear hE10
  refine p_tn ?_
  refine c_cut1 (fun a' w' => isOk (F_isClause_L1 list (Int.toNat ((list.length : Int) - 0) + 1) 0) = true ∧ (0 ≤ (okD (F_isClause_L1 list (Int.toNat ((list.length : Int) - 0) + 1) 0))) ∧ (∀ m : Int, 0 ≤ m → m < (okD (F_isClause_L1 list (Int.toNat ((list.length : Int) - 0) + 1) 0)) → 0 ≤ gI list m ∧ gI list m ≤ 11) ∧ ((okD (F_isClause_L1 list (Int.toNat ((list.length : Int) - 0) + 1) 0)) ≤ (list.length : Int)) ∧ E a' 40 [(0, .slice listA list.length listC), (5, .slice listA list.length listC), (6, .int .i64 (list.length : Int)), (7, .int .i64 (okD (F_isClause_L1 list (Int.toNat ((list.length : Int) - 0) + 1) 0)))] ∧ St w w' [.rd 1 listA list.length listC list]) ?_ ?_
  ·
   refine wp_block ?_
   refine c_loop (fun r a' w' => ∃ t7 : Int, F_isClause_L1 list r t7 = F_isClause_L1 list (Int.toNat ((list.length : Int) - 0) + 1) 0 ∧ Int.toNat ((list.length : Int) - t7) < r ∧ (0 ≤ t7) ∧ (∀ m : Int, 0 ≤ m → m < t7 → 0 ≤ gI list m ∧ gI list m ≤ 11) ∧ (t7 ≤ (list.length : Int)) ∧ E a' 40 [(0, .slice listA list.length listC), (5, .slice listA list.length listC), (6, .int .i64 (list.length : Int)), (7, .int .i64 t7)] ∧ St w w' [.rd 1 listA list.length listC list]) (r := (Int.toNat ((list.length : Int) - 0) + 1)) ?_ ?_
   · exact ⟨0, rfl, Nat.lt_succ_self _, (by first | omega | (simp only [sS_len, sL_len]; omega) | (simp only [List.length_replicate, sI_len]; omega) | (simp only [List.length_append, List.length_cons, List.length_nil, sI_len, cond_true, cond_false]; omega) | (simp only [List.length_append, List.length_cons, List.length_nil, sI_len, cond_eq_ite, apply_ite List.length]; split <;> simp only [List.length_append, List.length_cons, List.length_nil, sI_len] <;> omega) | grind), (fun m h0 h1 => by omega), (by first | omega | (simp only [sS_len, sL_len]; omega) | (simp only [List.length_replicate, sI_len]; omega) | (simp only [List.length_append, List.length_cons, List.length_nil, sI_len, cond_true, cond_false]; omega) | (simp only [List.length_append, List.length_cons, List.length_nil, sI_len, cond_eq_ite, apply_ite List.length]; split <;> simp only [List.length_append, List.length_cons, List.length_nil, sI_len] <;> omega) | grind), (hE11.sub (L' := [(0, .slice listA list.length listC), (5, .slice listA list.length listC), (6, .int .i64 (list.length : Int)), (7, .int .i64 0)]) ⟨rfl, rfl, rfl, rfl, trivial⟩), (St.pick (Γ' := [.rd 1 listA list.length listC list]) hS1 [0] (by decide) rfl)⟩
   ·
    clear hE11 hS1
    rintro r22 a13 w14 ⟨t7, hT17, hr18, hi19, hi20, hi21, hE15, hS16⟩
    obtain ⟨r22, rfl⟩ : ∃ r', r22 = r' + 1 := ⟨r22 - 1, by omega⟩
    refine c_seq ?_
    refine c_reg ?_
    refine q_step (v := .bool (decide (t7 < (list.length : Int)))) hE15 (y_lss rfl rfl) rfl rfl rfl ?_; intro a23 hE24; clear hE15
    refine c_nil ?_
    have hE25 := hE24.sub (L' := [(0, .slice listA list.length listC), (5, .slice listA list.length listC), (6, .int .i64 (list.length : Int)), (7, .int .i64 t7), (8, .bool (decide (t7 < (list.length : Int))))]) ⟨rfl, rfl, rfl, rfl, rfl, trivial⟩; clear hE24
    refine p_tn ?_
    refine c_seq ?_
    refine c_cond hE25 rfl (fun ht26 => ?_) (fun ht26 => ?_)
    ·
     have hp27 := of_decide_eq_true ht26
     have hE28 := hE25; rw [ht26] at hE28; clear hE25
     have hm1 := (show ∀ m : Int, 0 ≤ m → m < t7 → 0 ≤ gI list m ∧ gI list m ≤ 11 by assumption) (t7 - 1)
     refine wp_skip ?_
     refine p_tn ?_
     refine c_seq ?_
     refine wp_block ?_
     refine c_seq ?_
     refine c_reg ?_
     refine q_step (v := .int .i64 t7) hE28 (y_move rfl) rfl rfl rfl ?_; intro a29 hE30; clear hE28
     refine q_step (v := .pointer (some (adr listA (Int.toNat t7)))) hE30 (y_idx (by kernel_rfl) (fun _ => by kernel_rfl) rfl rfl (RdS.isS (m := t7) (St.rdR (i := 0) hS16 rfl) (by omega) (by omega)) (by omega) (by omega) (Nat.mul_one _).symm) rfl rfl rfl ?_; intro a31 hE32; clear hE30
     refine q_step (v := .int .i64 (gI list t7)) hE32 (y_load (fun _ => by kernel_rfl) rfl (RdS.elt (St.rdR (i := 0) hS16 rfl) (by omega) (by omega))) rfl rfl rfl ?_; intro a33 hE34; clear hE32
     refine q_step (v := .int .i64 t7) hE34 (y_assign rfl) rfl rfl rfl ?_; intro a35 hE36; clear hE34
     refine q_step (v := .int .i64 (gI list t7)) hE36 (y_assign rfl) rfl rfl rfl ?_; intro a37 hE38; clear hE36
     refine c_nil ?_
     have hE39 := hE38.sub (L' := [(0, .slice listA list.length listC), (3, .int .i64 t7), (4, .int .i64 (gI list t7)), (5, .slice listA list.length listC), (6, .int .i64 (list.length : Int)), (7, .int .i64 t7)]) ⟨rfl, rfl, rfl, rfl, rfl, rfl, trivial⟩; clear hE38
     refine p_tn ?_
     refine c_cut (fun a' w' => E a' 40 [(0, .slice listA list.length listC), (5, .slice listA list.length listC), (6, .int .i64 (list.length : Int)), (7, .int .i64 t7), (38, .bool ((!(F_inRange (gI list t7) 0 11)) || ((decide (0 < t7)) && ((decide ((gI list t7) ≤ (gI list (t7 - 1)))) || (decide (((gI list (t7 - 1)) / 2) = ((gI list t7) / 2)))))))] ∧ St w w' [.rd 1 listA list.length listC list]) ?_ ?_
     ·
      refine c_reg ?_
      refine q_step (v := .int .i64 (gI list t7)) hE39 (y_move rfl) rfl rfl rfl ?_; intro a40 hE41; clear hE39
      refine l_step hE41 rfl (l_call (f := 75) (argv := [.int .i64 (gI list t7), .int .i64 0, .int .i64 11]) hE41 (fun _ => cf_inRange _ _) rfl rfl (c_inRange (gI list t7) 0 11 w14) ?_)
      rintro _ _ ⟨rfl, rfl⟩ a44 hE45; clear hE41
      refine q_step (v := .bool (!(F_inRange (gI list t7) 0 11))) hE45 (y_not rfl) rfl rfl rfl ?_; intro a48 hE49; clear hE45
      refine q_step (v := .bool (!(F_inRange (gI list t7) 0 11))) hE49 (y_move rfl) rfl rfl rfl ?_; intro a50 hE51; clear hE49
      rcases Bool.eq_false_or_eq_true (!(F_inRange (gI list t7) 0 11)) with hb52 | hb52
      ·
       have hE53 := hE51; (try rw [hb52] at hE53); clear hE51
       have ht54 := bn_t hb52
       refine q_skip hE53 rfl rfl rfl ?_; intro a55 hE56; clear hE53
       refine q_skip hE56 rfl rfl rfl ?_; intro a57 hE58; clear hE56
       refine q_skip hE58 rfl rfl rfl ?_; intro a59 hE60; clear hE58
       refine q_skip hE60 rfl rfl rfl ?_; intro a61 hE62; clear hE60
       refine q_skip hE62 rfl rfl rfl ?_; intro a63 hE64; clear hE62
       refine q_skip hE64 rfl rfl rfl ?_; intro a65 hE66; clear hE64
       refine q_skip hE66 rfl rfl rfl ?_; intro a67 hE68; clear hE66
       refine q_skip hE68 rfl rfl rfl ?_; intro a69 hE70; clear hE68
       refine q_skip hE70 rfl rfl rfl ?_; intro a71 hE72; clear hE70
       refine q_skip hE72 rfl rfl rfl ?_; intro a73 hE74; clear hE72
       refine q_skip hE74 rfl rfl rfl ?_; intro a75 hE76; clear hE74
       refine q_skip hE76 rfl rfl rfl ?_; intro a77 hE78; clear hE76
       refine q_skip hE78 rfl rfl rfl ?_; intro a79 hE80; clear hE78
       refine q_skip hE80 rfl rfl rfl ?_; intro a81 hE82; clear hE80
       refine q_skip hE82 rfl rfl rfl ?_; intro a83 hE84; clear hE82
       refine q_skip hE84 rfl rfl rfl ?_; intro a85 hE86; clear hE84
       refine q_skip hE86 rfl rfl rfl ?_; intro a87 hE88; clear hE86
       refine q_skip hE88 rfl rfl rfl ?_; intro a89 hE90; clear hE88
       refine q_skip hE90 rfl rfl rfl ?_; intro a91 hE92; clear hE90
       refine q_skip hE92 rfl rfl rfl ?_; intro a93 hE94; clear hE92
       refine q_skip hE94 rfl rfl rfl ?_; intro a95 hE96; clear hE94
       refine q_skip hE96 rfl rfl rfl ?_; intro a97 hE98; clear hE96
       refine q_step (v := .bool true) hE98 (y_pick (b := true) rfl rfl) rfl rfl rfl ?_; intro a99 hE100; clear hE98
       refine c_nil ?_
       have hE101 := hE100.sub (L' := [(0, .slice listA list.length listC), (5, .slice listA list.length listC), (6, .int .i64 (list.length : Int)), (7, .int .i64 t7), (38, .bool true)]) ⟨rfl, rfl, rfl, rfl, rfl, trivial⟩; clear hE100
       refine p_tn ?_
       have hE102 := hE101.sub (L' := [(0, .slice listA list.length listC), (5, .slice listA list.length listC), (6, .int .i64 (list.length : Int)), (7, .int .i64 t7), (38, .bool true)]) ⟨rfl, rfl, rfl, rfl, rfl, trivial⟩
       have hS103 := (St.pick (Γ' := [.rd 1 listA list.length listC list]) hS16 [0] (by decide) rfl)
       exact ⟨(by rw [hb52]; exact hE102), hS103⟩
      ·
       have hE104 := hE51; (try rw [hb52] at hE104); clear hE51
       have ht105 := bn_f hb52
       have hp106 := F_inRange_t ht105
       refine q_step (v := .int .i64 t7) hE104 (y_move rfl) rfl rfl rfl ?_; intro a107 hE108; clear hE104
       refine q_step (v := .bool (decide (0 < t7))) hE108 (y_gtr rfl rfl) rfl rfl rfl ?_; intro a109 hE110; clear hE108
       refine q_step (v := .bool (decide (0 < t7))) hE110 (y_move rfl) rfl rfl rfl ?_; intro a111 hE112; clear hE110
       rcases Bool.eq_false_or_eq_true (decide (0 < t7)) with hb113 | hb113
       ·
        have hE114 := hE112; (try rw [hb113] at hE114); clear hE112
        have hp115 := of_decide_eq_true hb113
        refine q_step (v := .slice listA list.length listC) hE114 (y_move rfl) rfl rfl rfl ?_; intro a116 hE117; clear hE114
        refine q_step (v := .int .i64 t7) hE117 (y_move rfl) rfl rfl rfl ?_; intro a118 hE119; clear hE117
        refine q_step (v := .int .i64 (t7 - 1)) hE119 (y_sub rfl rfl ⟨(by omega), (by omega)⟩) rfl rfl rfl ?_; intro a120 hE121; clear hE119
        refine q_step (v := .pointer (some (adr listA (Int.toNat (t7 - 1))))) hE121 (y_idx (by kernel_rfl) (fun _ => by kernel_rfl) rfl rfl (RdS.isS (m := t7 - 1) (St.rdR (i := 0) hS16 rfl) (by omega) (by omega)) (by omega) (by omega) (Nat.mul_one _).symm) rfl rfl rfl ?_; intro a122 hE123; clear hE121
        refine q_step (v := .int .i64 (gI list (t7 - 1))) hE123 (y_load (fun _ => by kernel_rfl) rfl (RdS.elt (St.rdR (i := 0) hS16 rfl) (by omega) (by omega))) rfl rfl rfl ?_; intro a124 hE125; clear hE123
        refine q_step (v := .int .i64 (gI list t7)) hE125 (y_move rfl) rfl rfl rfl ?_; intro a126 hE127; clear hE125
        refine q_step (v := .bool (decide ((gI list t7) ≤ (gI list (t7 - 1))))) hE127 (y_geq rfl rfl) rfl rfl rfl ?_; intro a128 hE129; clear hE127
        refine q_step (v := .bool (decide ((gI list t7) ≤ (gI list (t7 - 1))))) hE129 (y_move rfl) rfl rfl rfl ?_; intro a130 hE131; clear hE129
        rcases Bool.eq_false_or_eq_true (decide ((gI list t7) ≤ (gI list (t7 - 1)))) with hb132 | hb132
        ·
         have hE133 := hE131; (try rw [hb132] at hE133); clear hE131
         have hp134 := of_decide_eq_true hb132
         refine q_skip hE133 rfl rfl rfl ?_; intro a135 hE136; clear hE133
         refine q_skip hE136 rfl rfl rfl ?_; intro a137 hE138; clear hE136
         refine q_skip hE138 rfl rfl rfl ?_; intro a139 hE140; clear hE138
         refine q_skip hE140 rfl rfl rfl ?_; intro a141 hE142; clear hE140
         refine q_skip hE142 rfl rfl rfl ?_; intro a143 hE144; clear hE142
         refine q_skip hE144 rfl rfl rfl ?_; intro a145 hE146; clear hE144
         refine q_skip hE146 rfl rfl rfl ?_; intro a147 hE148; clear hE146
         refine q_skip hE148 rfl rfl rfl ?_; intro a149 hE150; clear hE148
         refine q_skip hE150 rfl rfl rfl ?_; intro a151 hE152; clear hE150
         refine q_step (v := .bool true) hE152 (y_pick (b := true) rfl rfl) rfl rfl rfl ?_; intro a153 hE154; clear hE152
         refine q_step (v := .bool true) hE154 (y_pick (b := true) rfl rfl) rfl rfl rfl ?_; intro a155 hE156; clear hE154
         refine q_step (v := .bool true) hE156 (y_pick (b := false) rfl rfl) rfl rfl rfl ?_; intro a157 hE158; clear hE156
         refine c_nil ?_
         have hE159 := hE158.sub (L' := [(0, .slice listA list.length listC), (5, .slice listA list.length listC), (6, .int .i64 (list.length : Int)), (7, .int .i64 t7), (38, .bool true)]) ⟨rfl, rfl, rfl, rfl, rfl, trivial⟩; clear hE158
         refine p_tn ?_
         have hE160 := hE159.sub (L' := [(0, .slice listA list.length listC), (5, .slice listA list.length listC), (6, .int .i64 (list.length : Int)), (7, .int .i64 t7), (38, .bool true)]) ⟨rfl, rfl, rfl, rfl, rfl, trivial⟩
         have hS161 := (St.pick (Γ' := [.rd 1 listA list.length listC list]) hS16 [0] (by decide) rfl)
         exact ⟨(by rw [hb132, hb113, hb52]; exact hE160), hS161⟩
        ·
         have hE162 := hE131; (try rw [hb132] at hE162); clear hE131
         have hp163 := of_decide_eq_false hb132
         refine q_step (v := .slice listA list.length listC) hE162 (y_move rfl) rfl rfl rfl ?_; intro a164 hE165; clear hE162
         refine q_step (v := .int .i64 t7) hE165 (y_move rfl) rfl rfl rfl ?_; intro a166 hE167; clear hE165
         refine q_step (v := .int .i64 (t7 - 1)) hE167 (y_sub rfl rfl ⟨(by omega), (by omega)⟩) rfl rfl rfl ?_; intro a168 hE169; clear hE167
         refine q_step (v := .pointer (some (adr listA (Int.toNat (t7 - 1))))) hE169 (y_idx (by kernel_rfl) (fun _ => by kernel_rfl) rfl rfl (RdS.isS (m := t7 - 1) (St.rdR (i := 0) hS16 rfl) (by omega) (by omega)) (by omega) (by omega) (Nat.mul_one _).symm) rfl rfl rfl ?_; intro a170 hE171; clear hE169
         refine q_step (v := .int .i64 (gI list (t7 - 1))) hE171 (y_load (fun _ => by kernel_rfl) rfl (RdS.elt (St.rdR (i := 0) hS16 rfl) (by omega) (by omega))) rfl rfl rfl ?_; intro a172 hE173; clear hE171
         refine q_step (v := .int .i64 ((gI list (t7 - 1)) / 2)) hE173 (y_quo rfl rfl (by omega) (by omega) (by omega)) rfl rfl rfl ?_; intro a174 hE175; clear hE173
         refine q_step (v := .int .i64 (gI list t7)) hE175 (y_move rfl) rfl rfl rfl ?_; intro a176 hE177; clear hE175
         refine q_step (v := .int .i64 ((gI list t7) / 2)) hE177 (y_quo rfl rfl (by omega) (by omega) (by omega)) rfl rfl rfl ?_; intro a178 hE179; clear hE177
         refine q_step (v := .bool (decide (((gI list (t7 - 1)) / 2) = ((gI list t7) / 2)))) hE179 (y_eql rfl rfl) rfl rfl rfl ?_; intro a180 hE181; clear hE179
         refine q_step (v := .bool (decide (((gI list (t7 - 1)) / 2) = ((gI list t7) / 2)))) hE181 (y_pick (b := false) rfl rfl) rfl rfl rfl ?_; intro a182 hE183; clear hE181
         refine q_step (v := .bool (decide (((gI list (t7 - 1)) / 2) = ((gI list t7) / 2)))) hE183 (y_pick (b := true) rfl rfl) rfl rfl rfl ?_; intro a184 hE185; clear hE183
         refine q_step (v := .bool (decide (((gI list (t7 - 1)) / 2) = ((gI list t7) / 2)))) hE185 (y_pick (b := false) rfl rfl) rfl rfl rfl ?_; intro a186 hE187; clear hE185
         refine c_nil ?_
         have hE188 := hE187.sub (L' := [(0, .slice listA list.length listC), (5, .slice listA list.length listC), (6, .int .i64 (list.length : Int)), (7, .int .i64 t7), (38, .bool (decide (((gI list (t7 - 1)) / 2) = ((gI list t7) / 2))))]) ⟨rfl, rfl, rfl, rfl, rfl, trivial⟩; clear hE187
         refine p_tn ?_
         have hE189 := hE188.sub (L' := [(0, .slice listA list.length listC), (5, .slice listA list.length listC), (6, .int .i64 (list.length : Int)), (7, .int .i64 t7), (38, .bool (decide (((gI list (t7 - 1)) / 2) = ((gI list t7) / 2))))]) ⟨rfl, rfl, rfl, rfl, rfl, trivial⟩
         have hS190 := (St.pick (Γ' := [.rd 1 listA list.length listC list]) hS16 [0] (by decide) rfl)
         exact ⟨(by rw [hb132, hb113, hb52]; exact hE189), hS190⟩
       ·
        have hE191 := hE112; (try rw [hb113] at hE191); clear hE112
        have hp192 := of_decide_eq_false hb113
        refine q_skip hE191 rfl rfl rfl ?_; intro a193 hE194; clear hE191
        refine q_skip hE194 rfl rfl rfl ?_; intro a195 hE196; clear hE194
        refine q_skip hE196 rfl rfl rfl ?_; intro a197 hE198; clear hE196
        refine q_skip hE198 rfl rfl rfl ?_; intro a199 hE200; clear hE198
        refine q_skip hE200 rfl rfl rfl ?_; intro a201 hE202; clear hE200
        refine q_skip hE202 rfl rfl rfl ?_; intro a203 hE204; clear hE202
        refine q_skip hE204 rfl rfl rfl ?_; intro a205 hE206; clear hE204
        refine q_skip hE206 rfl rfl rfl ?_; intro a207 hE208; clear hE206
        refine q_skip hE208 rfl rfl rfl ?_; intro a209 hE210; clear hE208
        refine q_skip hE210 rfl rfl rfl ?_; intro a211 hE212; clear hE210
        refine q_skip hE212 rfl rfl rfl ?_; intro a213 hE214; clear hE212
        refine q_skip hE214 rfl rfl rfl ?_; intro a215 hE216; clear hE214
        refine q_skip hE216 rfl rfl rfl ?_; intro a217 hE218; clear hE216
        refine q_skip hE218 rfl rfl rfl ?_; intro a219 hE220; clear hE218
        refine q_skip hE220 rfl rfl rfl ?_; intro a221 hE222; clear hE220
        refine q_skip hE222 rfl rfl rfl ?_; intro a223 hE224; clear hE222
        refine q_skip hE224 rfl rfl rfl ?_; intro a225 hE226; clear hE224
        refine q_skip hE226 rfl rfl rfl ?_; intro a227 hE228; clear hE226
        refine q_step (v := .bool false) hE228 (y_pick (b := false) rfl rfl) rfl rfl rfl ?_; intro a229 hE230; clear hE228
        refine q_step (v := .bool false) hE230 (y_pick (b := false) rfl rfl) rfl rfl rfl ?_; intro a231 hE232; clear hE230
        refine c_nil ?_
        have hE233 := hE232.sub (L' := [(0, .slice listA list.length listC), (5, .slice listA list.length listC), (6, .int .i64 (list.length : Int)), (7, .int .i64 t7), (38, .bool false)]) ⟨rfl, rfl, rfl, rfl, rfl, trivial⟩; clear hE232
        refine p_tn ?_
        have hE234 := hE233.sub (L' := [(0, .slice listA list.length listC), (5, .slice listA list.length listC), (6, .int .i64 (list.length : Int)), (7, .int .i64 t7), (38, .bool false)]) ⟨rfl, rfl, rfl, rfl, rfl, trivial⟩
        have hS235 := (St.pick (Γ' := [.rd 1 listA list.length listC list]) hS16 [0] (by decide) rfl)
        exact ⟨(by rw [hb113, hb52]; exact hE234), hS235⟩
     ·
      rintro a236 w237 ⟨hE238, hS239⟩; clear hE39 hS16
      refine c_cond hE238 rfl (fun ht241 => ?_) (fun ht241 => ?_)
      ·
       have hE242 := hE238; rw [ht241] at hE242; clear hE238
       refine c_seq ?_
       refine c_reg ?_
       refine q_step (v := .bool false) hE242 (y_assign rfl) rfl rfl rfl ?_; intro a243 hE244; clear hE242
       refine c_nil ?_
       have hE245 := hE244.sub (L' := [(2, .bool false)]) ⟨rfl, trivial⟩; clear hE244
       refine p_tn ?_
       refine wp_ret ?_
       refine p_br ?_
       refine p_tr ?_
       have hX246 : F_isClause_L1 list (Int.toNat ((list.length : Int) - 0) + 1) 0 = .error false := hT17.symm.trans (show F_isClause_L1b list (F_isClause_L1 list r22) t7 = .error false by unfold F_isClause_L1b; rw [ht241, ht26]; first | done | rfl)
       refine p_tr (p_br (p_tr ?_))
       refine p_tr ?_
       have hF : F_isClause list = false := by unfold F_isClause; rw [hX246]; first | done | rfl
       refine c_ret1 hE245 rfl rfl ?_
       exact ⟨(by rw [hF]; first | done | (dsimp only; done) | rfl), hS239.ext⟩
      ·
       obtain ⟨ht247, ht248⟩ := bor_f ht241
       have ht249 := bn_f ht247
       have hp250 := F_inRange_t ht249
       have hE251 := hE238; rw [ht241] at hE251; clear hE238
       refine wp_skip ?_
       refine p_bn ?_
       refine p_tn ?_
       refine c_reg ?_
       refine q_step (v := .int .i64 (t7 + 1)) hE251 (y_add rfl rfl ⟨(by omega), (by omega)⟩) rfl rfl rfl ?_; intro a252 hE253; clear hE251
       refine q_step (v := .int .i64 (t7 + 1)) hE253 (y_move rfl) rfl rfl rfl ?_; intro a254 hE255; clear hE253
       refine c_nil ?_
       have hE256 := hE255.sub (L' := [(0, .slice listA list.length listC), (5, .slice listA list.length listC), (6, .int .i64 (list.length : Int)), (7, .int .i64 (t7 + 1))]) ⟨rfl, rfl, rfl, rfl, trivial⟩; clear hE255
       refine p_tn ⟨r22, Nat.lt_succ_self _, t7 + 1, (hT17.symm.trans (show F_isClause_L1b list (F_isClause_L1 list r22) t7 = F_isClause_L1 list r22 (t7 + 1) by unfold F_isClause_L1b; rw [ht241, ht26]; first | done | rfl)).symm, (by omega), (by first | omega | (simp only [sS_len, sL_len]; omega) | (simp only [List.length_replicate, sI_len]; omega) | (simp only [List.length_append, List.length_cons, List.length_nil, sI_len, cond_true, cond_false]; omega) | (simp only [List.length_append, List.length_cons, List.length_nil, sI_len, cond_eq_ite, apply_ite List.length]; split <;> simp only [List.length_append, List.length_cons, List.length_nil, sI_len] <;> omega) | grind), (clStep (by omega) (by assumption)), (by first | omega | (simp only [sS_len, sL_len]; omega) | (simp only [List.length_replicate, sI_len]; omega) | (simp only [List.length_append, List.length_cons, List.length_nil, sI_len, cond_true, cond_false]; omega) | (simp only [List.length_append, List.length_cons, List.length_nil, sI_len, cond_eq_ite, apply_ite List.length]; split <;> simp only [List.length_append, List.length_cons, List.length_nil, sI_len] <;> omega) | grind), (hE256.sub (L' := [(0, .slice listA list.length listC), (5, .slice listA list.length listC), (6, .int .i64 (list.length : Int)), (7, .int .i64 (t7 + 1))]) ⟨rfl, rfl, rfl, rfl, trivial⟩), (St.pick (Γ' := [.rd 1 listA list.length listC list]) hS239 [0] (by decide) rfl)⟩
    ·
     have hp257 := of_decide_eq_false ht26
     have hE258 := hE25; rw [ht26] at hE258; clear hE25
     refine wp_exit ?_
     refine p_te ?_
     have hX259 : F_isClause_L1 list (Int.toNat ((list.length : Int) - 0) + 1) 0 = .ok t7 := hT17.symm.trans (show F_isClause_L1b list (F_isClause_L1 list r22) t7 = .ok t7 by unfold F_isClause_L1b; rw [ht26]; first | done | rfl)
     refine p_te (p_be (p_tn ?_))
     exact ⟨(by rw [hX259]; rfl), (by rw [hX259]; exact (show 0 ≤ t7 from (by first | omega | (simp only [sS_len, sL_len]; omega) | (simp only [List.length_replicate, sI_len]; omega) | (simp only [List.length_append, List.length_cons, List.length_nil, sI_len, cond_true, cond_false]; omega) | (simp only [List.length_append, List.length_cons, List.length_nil, sI_len, cond_eq_ite, apply_ite List.length]; split <;> simp only [List.length_append, List.length_cons, List.length_nil, sI_len] <;> omega) | grind))), (by rw [hX259]; exact (show ∀ m : Int, 0 ≤ m → m < t7 → 0 ≤ gI list m ∧ gI list m ≤ 11 from (by first | omega | (simp only [sS_len, sL_len]; omega) | (simp only [List.length_replicate, sI_len]; omega) | (simp only [List.length_append, List.length_cons, List.length_nil, sI_len, cond_true, cond_false]; omega) | (simp only [List.length_append, List.length_cons, List.length_nil, sI_len, cond_eq_ite, apply_ite List.length]; split <;> simp only [List.length_append, List.length_cons, List.length_nil, sI_len] <;> omega) | grind))), (by rw [hX259]; exact (show t7 ≤ (list.length : Int) from (by first | omega | (simp only [sS_len, sL_len]; omega) | (simp only [List.length_replicate, sI_len]; omega) | (simp only [List.length_append, List.length_cons, List.length_nil, sI_len, cond_true, cond_false]; omega) | (simp only [List.length_append, List.length_cons, List.length_nil, sI_len, cond_eq_ite, apply_ite List.length]; split <;> simp only [List.length_append, List.length_cons, List.length_nil, sI_len] <;> omega) | grind))), (by rw [hX259]; exact (hE258.sub (L' := [(0, .slice listA list.length listC), (5, .slice listA list.length listC), (6, .int .i64 (list.length : Int)), (7, .int .i64 t7)]) ⟨rfl, rfl, rfl, rfl, trivial⟩)), (St.pick (Γ' := [.rd 1 listA list.length listC list]) hS16 [0] (by decide) rfl)⟩
  ·
   rintro a260 w261 ⟨hO264, hi265, hi266, hi267, hE262, hS263⟩; clear hE11 hS1
   refine p_tn ?_
   refine c_seq ?_
   refine c_reg ?_
   refine q_step (v := .bool true) hE262 (y_assign rfl) rfl rfl rfl ?_; intro a268 hE269; clear hE262
   refine c_nil ?_
   have hE270 := hE269.sub (L' := [(2, .bool true)]) ⟨rfl, trivial⟩; clear hE269
   refine p_tn ?_
   refine wp_ret ?_
   have hF : F_isClause list = true := by unfold F_isClause; rw [hO264]; first | done | rfl
   refine c_ret1 hE270 rfl rfl ?_
   exact ⟨(by rw [hF]; first | done | (dsimp only; done) | rfl), hS263.ext⟩

def F_s_IsClause_L1b (list : List Int) (rec : Int → Except (Bool) (Int)) (i3 : Int) : Except (Bool) (Int) :=
  bif (decide (i3 < (list.length : Int))) then (bif ((!(F_l01In (gI list i3) 0 11)) || ((decide (0 < i3)) && (decide (((gI list i3) / 2) ≤ ((gI list (i3 - 1)) / 2))))) then (.error false) else (rec (i3 + 1))) else (.ok i3)
def F_s_IsClause_L1 (list : List Int) : Nat → Int → Except (Bool) (Int)
  | 0, i3 => .ok i3
  | r + 1, i3 => F_s_IsClause_L1b list (F_s_IsClause_L1 list r) i3
def F_s_IsClause (list : List Int) : Bool :=
  bif (isOk (F_s_IsClause_L1 list (Int.toNat ((list.length : Int) - 0) + 1) 0)) then true else (errD (F_s_IsClause_L1 list (Int.toNat ((list.length : Int) - 0) + 1) 0))
theorem cf_s_IsClause (args : Array Value) (w : World) : (callFunc 155 args).run Try.prog w = .ok (.enter 155 args) w := by kernel_rfl
set_option maxRecDepth 100000 in
theorem c_s_IsClause (listA : Option Addr) (listN listC : Nat) (list : List Int) (w : World) (listR : RdS w 1 listA listN listC list) :
    Calls Try.prog 155 #[.slice listA listN listC] w (Ret fun v w' => v = .bool (F_s_IsClause list) ∧ Ext w w') := by
  obtain rfl : listN = list.length := listR.len1.symm
  have listLe := listR.le
  have hS := St.nil w
  have hS1 := St.rd0 hS rfl listR; clear hS
  refine enter (args := [.slice listA list.length listC]) Try.func155 rfl rfl ?_
  rw [Try.ntmps155]; intro a hE
  have hE := hE.sub (L' := [(0, .slice listA list.length listC)]) ⟨rfl, trivial⟩
  refine c_seq ?_
  refine c_reg ?_
  refine q_step (v := .bool false) hE (y_assign rfl) rfl rfl rfl ?_; intro a2 hE3; clear hE
  refine c_nil ?_
  have hE4 := hE3.sub (L' := [(0, .slice listA list.length listC)]) ⟨rfl, trivial⟩; clear hE3
  refine p_tn ?_
  refine c_seq ?_
  refine c_seq ?_
  refine c_reg ?_
  refine q_step (v := .int .i64 0) hE4 (y_assign rfl) rfl rfl rfl ?_; intro a5 hE6; clear hE4
  refine c_nil ?_
  have hE7 := hE6.sub (L' := [(0, .slice listA list.length listC), (3, .int .i64 0)]) ⟨rfl, rfl, trivial⟩; clear hE6
  refine p_tn ?_
  refine c_cut1 (fun a' w' => isOk (F_s_IsClause_L1 list (Int.toNat ((list.length : Int) - 0) + 1) 0) = true ∧ (0 ≤ (okD (F_s_IsClause_L1 list (Int.toNat ((list.length : Int) - 0) + 1) 0))) ∧ (∀ m : Int, 0 ≤ m → m < (okD (F_s_IsClause_L1 list (Int.toNat ((list.length : Int) - 0) + 1) 0)) → 0 ≤ gI list m ∧ gI list m ≤ 11) ∧ ((okD (F_s_IsClause_L1 list (Int.toNat ((list.length : Int) - 0) + 1) 0)) ≤ (list.length : Int)) ∧ E a' 34 [(0, .slice listA list.length listC), (3, .int .i64 (okD (F_s_IsClause_L1 list (Int.toNat ((list.length : Int) - 0) + 1) 0)))] ∧ St w w' [.rd 1 listA list.length listC list]) ?_ ?_
  ·
   refine wp_block ?_
   refine c_loop (fun r a' w' => ∃ i3 : Int, F_s_IsClause_L1 list r i3 = F_s_IsClause_L1 list (Int.toNat ((list.length : Int) - 0) + 1) 0 ∧ Int.toNat ((list.length : Int) - i3) < r ∧ (0 ≤ i3) ∧ (∀ m : Int, 0 ≤ m → m < i3 → 0 ≤ gI list m ∧ gI list m ≤ 11) ∧ (i3 ≤ (list.length : Int)) ∧ E a' 34 [(0, .slice listA list.length listC), (3, .int .i64 i3)] ∧ St w w' [.rd 1 listA list.length listC list]) (r := (Int.toNat ((list.length : Int) - 0) + 1)) ?_ ?_
   · exact ⟨0, rfl, Nat.lt_succ_self _, (by first | omega | (simp only [sS_len, sL_len]; omega) | (simp only [List.length_replicate, sI_len]; omega) | (simp only [List.length_append, List.length_cons, List.length_nil, sI_len, cond_true, cond_false]; omega) | (simp only [List.length_append, List.length_cons, List.length_nil, sI_len, cond_eq_ite, apply_ite List.length]; split <;> simp only [List.length_append, List.length_cons, List.length_nil, sI_len] <;> omega) | grind), (fun m h0 h1 => by omega), (by first | omega | (simp only [sS_len, sL_len]; omega) | (simp only [List.length_replicate, sI_len]; omega) | (simp only [List.length_append, List.length_cons, List.length_nil, sI_len, cond_true, cond_false]; omega) | (simp only [List.length_append, List.length_cons, List.length_nil, sI_len, cond_eq_ite, apply_ite List.length]; split <;> simp only [List.length_append, List.length_cons, List.length_nil, sI_len] <;> omega) | grind), (hE7.sub (L' := [(0, .slice listA list.length listC), (3, .int .i64 0)]) ⟨rfl, rfl, trivial⟩), (St.pick (Γ' := [.rd 1 listA list.length listC list]) hS1 [0] (by decide) rfl)⟩
   ·
    clear hE7 hS1
    rintro r18 a9 w10 ⟨i3, hT13, hr14, hi15, hi16, hi17, hE11, hS12⟩
    obtain ⟨r18, rfl⟩ : ∃ r', r18 = r' + 1 := ⟨r18 - 1, by omega⟩
    refine c_seq ?_
    refine c_seq ?_
    refine c_reg ?_
    refine q_step (v := .int .i64 i3) hE11 (y_move rfl) rfl rfl rfl ?_; intro a19 hE20; clear hE11
    refine q_step (v := .slice listA list.length listC) hE20 (y_move rfl) rfl rfl rfl ?_; intro a21 hE22; clear hE20
    refine q_step (v := .int .i64 (list.length : Int)) hE22 (y_len (e := 2) (by kernel_rfl) rfl) rfl rfl rfl ?_; intro a23 hE24; clear hE22
    refine q_step (v := .bool (decide (i3 < (list.length : Int)))) hE24 (y_lss rfl rfl) rfl rfl rfl ?_; intro a25 hE26; clear hE24
    refine c_nil ?_
    have hE27 := hE26.sub (L' := [(0, .slice listA list.length listC), (3, .int .i64 i3), (7, .bool (decide (i3 < (list.length : Int))))]) ⟨rfl, rfl, rfl, trivial⟩; clear hE26
    refine p_tn ?_
    refine c_cond hE27 rfl (fun ht28 => ?_) (fun ht28 => ?_)
    ·
     have hp29 := of_decide_eq_true ht28
     have hE30 := hE27; rw [ht28] at hE30; clear hE27
     have hm1 := (show ∀ m : Int, 0 ≤ m → m < i3 → 0 ≤ gI list m ∧ gI list m ≤ 11 by assumption) (i3 - 1)
     refine wp_skip ?_
     refine p_tn ?_
     refine c_seq ?_
     refine wp_block ?_
     refine c_cut (fun a' w' => E a' 34 [(0, .slice listA list.length listC), (3, .int .i64 i3), (33, .bool ((!(F_l01In (gI list i3) 0 11)) || ((decide (0 < i3)) && (decide (((gI list i3) / 2) ≤ ((gI list (i3 - 1)) / 2))))))] ∧ St w w' [.rd 1 listA list.length listC list]) ?_ ?_
     ·
      refine d_start (fun w w' => (fun w' => w'.cell? (adr listA (Int.toNat i3)) = some (.int .i64 (gI list i3)) ∧ w'.cell? (adr listA (Int.toNat i3)) = some (.int .i64 (gI list i3)) ∧ w'.cell? (adr listA (Int.toNat (i3 - 1))) = some (.int .i64 (gI list (i3 - 1))) ∧ True) w → (fun w' => w'.cell? (adr listA (Int.toNat i3)) = some (.int .i64 (gI list i3)) ∧ w'.cell? (adr listA (Int.toNat i3)) = some (.int .i64 (gI list i3)) ∧ w'.cell? (adr listA (Int.toNat (i3 - 1))) = some (.int .i64 (gI list (i3 - 1))) ∧ True) w') [3, 13, 19] 24 (by kernel_rfl) rfl ?_
      intro w31 he32; have hS33 := St.go hS12 he32; clear hS12
      refine d_pure (fun _ h => h) (v := .slice listA list.length listC) 0 rfl hE30 (y_move rfl) rfl (by kernel_rfl) (by kernel_rfl) (by kernel_rfl) rfl rfl (fun _ _ _ h => h) ?_; intro a34 hE35; clear hE30
      refine d_pure (fun _ h => h) (v := .int .i64 i3) 1 rfl hE35 (y_move rfl) rfl (by kernel_rfl) (by kernel_rfl) (by kernel_rfl) rfl rfl (fun _ _ _ h => h) ?_; intro a36 hE37; clear hE35
      refine d_pure (fun _ h => h) (v := .pointer (some (adr listA (Int.toNat i3)))) 2 rfl hE37 (y_idx (by kernel_rfl) (fun _ => by kernel_rfl) rfl rfl (RdS.isS (m := i3) (St.rdR (i := 0) hS33 rfl) (by omega) (by omega)) (by omega) (by omega) (Nat.mul_one _).symm) rfl (by kernel_rfl) (by kernel_rfl) (by kernel_rfl) rfl rfl (fun _ _ _ h => h) ?_; intro a38 hE39; clear hE37
      refine d_take (fun _ h => h) (fun _ _ h k => h k) (v := .int .i64 (gI list i3)) 3 rfl hE39 (S := fun w' => w'.cell? (adr listA (Int.toNat i3)) = some (.int .i64 (gI list i3)) ∧ w'.cell? (adr listA (Int.toNat i3)) = some (.int .i64 (gI list i3)) ∧ w'.cell? (adr listA (Int.toNat (i3 - 1))) = some (.int .i64 (gI list (i3 - 1))) ∧ True) ⟨(RdS.eltT (St.rdR (i := 0) hS33 rfl) (by omega) _ (Ext.refl _)), (RdS.eltT (St.rdR (i := 0) hS33 rfl) (by omega) _ (Ext.refl _)), (RdS.eltT (St.rdR (i := 0) hS33 rfl) (by omega) _ (Ext.refl _)), trivial⟩ (y_load (fun _ => by kernel_rfl) rfl (fun _ h => h.1)) rfl rfl (by kernel_rfl) (by kernel_rfl) (by kernel_rfl) (by kernel_rfl) rfl rfl (fun _ _ _ h => h) ?_; intro a40 hE41; clear hE39
      refine d_only 4 (by kernel_rfl) rfl hE41 rfl (l_call (f := 71) (argv := [.int .i64 (gI list i3), .int .i64 0, .int .i64 11]) hE41 (fun _ => cf_l01In _ _) rfl rfl (c_l01In (gI list i3) 0 11 w31) ?_)
      rintro _ _ ⟨rfl, rfl⟩ a44 hE45; clear hE41
      refine ⟨fun _ _ => ⟨(RdS.eltT (St.rdR (i := 0) hS33 rfl) (by omega) _ (Ext.refl _)), (RdS.eltT (St.rdR (i := 0) hS33 rfl) (by omega) _ (Ext.refl _)), (RdS.eltT (St.rdR (i := 0) hS33 rfl) (by omega) _ (Ext.refl _)), trivial⟩, ?_⟩
      refine d_pure (fun _ h => h) (v := .bool (!(F_l01In (gI list i3) 0 11))) 5 rfl hE45 (y_not rfl) rfl (by kernel_rfl) (by kernel_rfl) (by kernel_rfl) rfl rfl (fun _ _ _ h => h) ?_; intro a48 hE49; clear hE45
      refine d_pure (fun _ h => h) (v := .bool (!(F_l01In (gI list i3) 0 11))) 6 rfl hE49 (y_move rfl) rfl (by kernel_rfl) (by kernel_rfl) (by kernel_rfl) rfl rfl (fun _ _ _ h => h) ?_; intro a50 hE51; clear hE49
      rcases Bool.eq_false_or_eq_true (!(F_l01In (gI list i3) 0 11)) with hb52 | hb52
      ·
       have hE53 := hE51; (try rw [hb52] at hE53); clear hE51
       have ht54 := bn_t hb52
       refine d_skip (fun _ h => h) 7 rfl hE53 rfl (by kernel_rfl) (by kernel_rfl) (by kernel_rfl) rfl rfl (fun _ _ _ h => h) ?_; intro a55 hE56; clear hE53
       refine d_skip (fun _ h => h) 8 rfl hE56 rfl (by kernel_rfl) (by kernel_rfl) (by kernel_rfl) rfl rfl (fun _ _ _ h => h) ?_; intro a57 hE58; clear hE56
       refine d_skip (fun _ h => h) 9 rfl hE58 rfl (by kernel_rfl) (by kernel_rfl) (by kernel_rfl) rfl rfl (fun _ _ _ h => h) ?_; intro a59 hE60; clear hE58
       refine d_skip (fun _ h => h) 10 rfl hE60 rfl (by kernel_rfl) (by kernel_rfl) (by kernel_rfl) rfl rfl (fun _ _ _ h => h) ?_; intro a61 hE62; clear hE60
       refine d_skip (fun _ h => h) 11 rfl hE62 rfl (by kernel_rfl) (by kernel_rfl) (by kernel_rfl) rfl rfl (fun _ _ _ h => h) ?_; intro a63 hE64; clear hE62
       refine d_skip (fun _ h => h) 12 rfl hE64 rfl (by kernel_rfl) (by kernel_rfl) (by kernel_rfl) rfl rfl (fun _ _ _ h => h) ?_; intro a65 hE66; clear hE64
       refine d_skip (fun _ h => h) 13 rfl hE66 rfl (by kernel_rfl) (by kernel_rfl) (by kernel_rfl) rfl rfl (fun _ _ _ h => h) ?_; intro a67 hE68; clear hE66
       refine d_skip (fun _ h => h) 14 rfl hE68 rfl (by kernel_rfl) (by kernel_rfl) (by kernel_rfl) rfl rfl (fun _ _ _ h => h) ?_; intro a69 hE70; clear hE68
       refine d_skip (fun _ h => h) 15 rfl hE70 rfl (by kernel_rfl) (by kernel_rfl) (by kernel_rfl) rfl rfl (fun _ _ _ h => h) ?_; intro a71 hE72; clear hE70
       refine d_skip (fun _ h => h) 16 rfl hE72 rfl (by kernel_rfl) (by kernel_rfl) (by kernel_rfl) rfl rfl (fun _ _ _ h => h) ?_; intro a73 hE74; clear hE72
       refine d_skip (fun _ h => h) 17 rfl hE74 rfl (by kernel_rfl) (by kernel_rfl) (by kernel_rfl) rfl rfl (fun _ _ _ h => h) ?_; intro a75 hE76; clear hE74
       refine d_skip (fun _ h => h) 18 rfl hE76 rfl (by kernel_rfl) (by kernel_rfl) (by kernel_rfl) rfl rfl (fun _ _ _ h => h) ?_; intro a77 hE78; clear hE76
       refine d_skip (fun _ h => h) 19 rfl hE78 rfl (by kernel_rfl) (by kernel_rfl) (by kernel_rfl) rfl rfl (fun _ _ _ h => h) ?_; intro a79 hE80; clear hE78
       refine d_skip (fun _ h => h) 20 rfl hE80 rfl (by kernel_rfl) (by kernel_rfl) (by kernel_rfl) rfl rfl (fun _ _ _ h => h) ?_; intro a81 hE82; clear hE80
       refine d_skip (fun _ h => h) 21 rfl hE82 rfl (by kernel_rfl) (by kernel_rfl) (by kernel_rfl) rfl rfl (fun _ _ _ h => h) ?_; intro a83 hE84; clear hE82
       refine d_skip (fun _ h => h) 22 rfl hE84 rfl (by kernel_rfl) (by kernel_rfl) (by kernel_rfl) rfl rfl (fun _ _ _ h => h) ?_; intro a85 hE86; clear hE84
       refine d_pure (fun _ h => h) (v := .bool true) 23 rfl hE86 (y_pick (b := true) rfl rfl) rfl (by kernel_rfl) (by kernel_rfl) (by kernel_rfl) rfl rfl (fun _ _ _ h => h) ?_; intro a87 hE88; clear hE86
       refine d_done (by kernel_rfl) ?_
       have hE89 := hE88.sub (L' := [(0, .slice listA list.length listC), (3, .int .i64 i3), (33, .bool true)]) ⟨rfl, rfl, rfl, trivial⟩; clear hE88
       refine p_tn ?_
       have hE90 := hE89.sub (L' := [(0, .slice listA list.length listC), (3, .int .i64 i3), (33, .bool true)]) ⟨rfl, rfl, rfl, trivial⟩
       have hS91 := (St.pick (Γ' := [.rd 1 listA list.length listC list]) hS33 [0] (by decide) rfl)
       exact ⟨(by rw [hb52]; exact hE90), hS91⟩
      ·
       have hE92 := hE51; (try rw [hb52] at hE92); clear hE51
       have ht93 := bn_f hb52
       have hp94 := F_l01In_t ht93
       refine d_pure (fun _ h => h) (v := .int .i64 i3) 7 rfl hE92 (y_move rfl) rfl (by kernel_rfl) (by kernel_rfl) (by kernel_rfl) rfl rfl (fun _ _ _ h => h) ?_; intro a95 hE96; clear hE92
       refine d_pure (fun _ h => h) (v := .bool (decide (0 < i3))) 8 rfl hE96 (y_gtr rfl rfl) rfl (by kernel_rfl) (by kernel_rfl) (by kernel_rfl) rfl rfl (fun _ _ _ h => h) ?_; intro a97 hE98; clear hE96
       refine d_pure (fun _ h => h) (v := .bool (decide (0 < i3))) 9 rfl hE98 (y_move rfl) rfl (by kernel_rfl) (by kernel_rfl) (by kernel_rfl) rfl rfl (fun _ _ _ h => h) ?_; intro a99 hE100; clear hE98
       rcases Bool.eq_false_or_eq_true (decide (0 < i3)) with hb101 | hb101
       ·
        have hE102 := hE100; (try rw [hb101] at hE102); clear hE100
        have hp103 := of_decide_eq_true hb101
        refine d_pure (fun _ h => h) (v := .slice listA list.length listC) 10 rfl hE102 (y_move rfl) rfl (by kernel_rfl) (by kernel_rfl) (by kernel_rfl) rfl rfl (fun _ _ _ h => h) ?_; intro a104 hE105; clear hE102
        refine d_pure (fun _ h => h) (v := .int .i64 i3) 11 rfl hE105 (y_move rfl) rfl (by kernel_rfl) (by kernel_rfl) (by kernel_rfl) rfl rfl (fun _ _ _ h => h) ?_; intro a106 hE107; clear hE105
        refine d_pure (fun _ h => h) (v := .pointer (some (adr listA (Int.toNat i3)))) 12 rfl hE107 (y_idx (by kernel_rfl) (fun _ => by kernel_rfl) rfl rfl (RdS.isS (m := i3) (St.rdR (i := 0) hS33 rfl) (by omega) (by omega)) (by omega) (by omega) (Nat.mul_one _).symm) rfl (by kernel_rfl) (by kernel_rfl) (by kernel_rfl) rfl rfl (fun _ _ _ h => h) ?_; intro a108 hE109; clear hE107
        refine d_take (fun _ h => h) (fun _ _ h k => h k) (v := .int .i64 (gI list i3)) 13 rfl hE109 (S := fun w' => w'.cell? (adr listA (Int.toNat i3)) = some (.int .i64 (gI list i3)) ∧ w'.cell? (adr listA (Int.toNat i3)) = some (.int .i64 (gI list i3)) ∧ w'.cell? (adr listA (Int.toNat (i3 - 1))) = some (.int .i64 (gI list (i3 - 1))) ∧ True) ⟨(RdS.eltT (St.rdR (i := 0) hS33 rfl) (by omega) _ (Ext.refl _)), (RdS.eltT (St.rdR (i := 0) hS33 rfl) (by omega) _ (Ext.refl _)), (RdS.eltT (St.rdR (i := 0) hS33 rfl) (by omega) _ (Ext.refl _)), trivial⟩ (y_load (fun _ => by kernel_rfl) rfl (fun _ h => h.2.1)) rfl rfl (by kernel_rfl) (by kernel_rfl) (by kernel_rfl) (by kernel_rfl) rfl rfl (fun _ _ _ h => h) ?_; intro a110 hE111; clear hE109
        refine d_pure (fun _ h => h) (v := .int .i64 ((gI list i3) / 2)) 14 rfl hE111 (y_quo rfl rfl (by omega) (by omega) (by omega)) rfl (by kernel_rfl) (by kernel_rfl) (by kernel_rfl) rfl rfl (fun _ _ _ h => h) ?_; intro a112 hE113; clear hE111
        refine d_pure (fun _ h => h) (v := .slice listA list.length listC) 15 rfl hE113 (y_move rfl) rfl (by kernel_rfl) (by kernel_rfl) (by kernel_rfl) rfl rfl (fun _ _ _ h => h) ?_; intro a114 hE115; clear hE113
        refine d_pure (fun _ h => h) (v := .int .i64 i3) 16 rfl hE115 (y_move rfl) rfl (by kernel_rfl) (by kernel_rfl) (by kernel_rfl) rfl rfl (fun _ _ _ h => h) ?_; intro a116 hE117; clear hE115
        refine d_pure (fun _ h => h) (v := .int .i64 (i3 - 1)) 17 rfl hE117 (y_sub rfl rfl ⟨(by omega), (by omega)⟩) rfl (by kernel_rfl) (by kernel_rfl) (by kernel_rfl) rfl rfl (fun _ _ _ h => h) ?_; intro a118 hE119; clear hE117
        refine d_pure (fun _ h => h) (v := .pointer (some (adr listA (Int.toNat (i3 - 1))))) 18 rfl hE119 (y_idx (by kernel_rfl) (fun _ => by kernel_rfl) rfl rfl (RdS.isS (m := i3 - 1) (St.rdR (i := 0) hS33 rfl) (by omega) (by omega)) (by omega) (by omega) (Nat.mul_one _).symm) rfl (by kernel_rfl) (by kernel_rfl) (by kernel_rfl) rfl rfl (fun _ _ _ h => h) ?_; intro a120 hE121; clear hE119
        refine d_take (fun _ h => h) (fun _ _ h k => h k) (v := .int .i64 (gI list (i3 - 1))) 19 rfl hE121 (S := fun w' => w'.cell? (adr listA (Int.toNat i3)) = some (.int .i64 (gI list i3)) ∧ w'.cell? (adr listA (Int.toNat i3)) = some (.int .i64 (gI list i3)) ∧ w'.cell? (adr listA (Int.toNat (i3 - 1))) = some (.int .i64 (gI list (i3 - 1))) ∧ True) ⟨(RdS.eltT (St.rdR (i := 0) hS33 rfl) (by omega) _ (Ext.refl _)), (RdS.eltT (St.rdR (i := 0) hS33 rfl) (by omega) _ (Ext.refl _)), (RdS.eltT (St.rdR (i := 0) hS33 rfl) (by omega) _ (Ext.refl _)), trivial⟩ (y_load (fun _ => by kernel_rfl) rfl (fun _ h => h.2.2.1)) rfl rfl (by kernel_rfl) (by kernel_rfl) (by kernel_rfl) (by kernel_rfl) rfl rfl (fun _ _ _ h => h) ?_; intro a122 hE123; clear hE121
        refine d_pure (fun _ h => h) (v := .int .i64 ((gI list (i3 - 1)) / 2)) 20 rfl hE123 (y_quo rfl rfl (by omega) (by omega) (by omega)) rfl (by kernel_rfl) (by kernel_rfl) (by kernel_rfl) rfl rfl (fun _ _ _ h => h) ?_; intro a124 hE125; clear hE123
        refine d_pure (fun _ h => h) (v := .bool (decide (((gI list i3) / 2) ≤ ((gI list (i3 - 1)) / 2)))) 21 rfl hE125 (y_leq rfl rfl) rfl (by kernel_rfl) (by kernel_rfl) (by kernel_rfl) rfl rfl (fun _ _ _ h => h) ?_; intro a126 hE127; clear hE125
        refine d_pure (fun _ h => h) (v := .bool (decide (((gI list i3) / 2) ≤ ((gI list (i3 - 1)) / 2)))) 22 rfl hE127 (y_pick (b := true) rfl rfl) rfl (by kernel_rfl) (by kernel_rfl) (by kernel_rfl) rfl rfl (fun _ _ _ h => h) ?_; intro a128 hE129; clear hE127
        refine d_pure (fun _ h => h) (v := .bool (decide (((gI list i3) / 2) ≤ ((gI list (i3 - 1)) / 2)))) 23 rfl hE129 (y_pick (b := false) rfl rfl) rfl (by kernel_rfl) (by kernel_rfl) (by kernel_rfl) rfl rfl (fun _ _ _ h => h) ?_; intro a130 hE131; clear hE129
        refine d_done (by kernel_rfl) ?_
        have hE132 := hE131.sub (L' := [(0, .slice listA list.length listC), (3, .int .i64 i3), (33, .bool (decide (((gI list i3) / 2) ≤ ((gI list (i3 - 1)) / 2))))]) ⟨rfl, rfl, rfl, trivial⟩; clear hE131
        refine p_tn ?_
        have hE133 := hE132.sub (L' := [(0, .slice listA list.length listC), (3, .int .i64 i3), (33, .bool (decide (((gI list i3) / 2) ≤ ((gI list (i3 - 1)) / 2))))]) ⟨rfl, rfl, rfl, trivial⟩
        have hS134 := (St.pick (Γ' := [.rd 1 listA list.length listC list]) hS33 [0] (by decide) rfl)
        exact ⟨(by rw [hb101, hb52]; exact hE133), hS134⟩
       ·
        have hE135 := hE100; (try rw [hb101] at hE135); clear hE100
        have hp136 := of_decide_eq_false hb101
        refine d_skip (fun _ h => h) 10 rfl hE135 rfl (by kernel_rfl) (by kernel_rfl) (by kernel_rfl) rfl rfl (fun _ _ _ h => h) ?_; intro a137 hE138; clear hE135
        refine d_skip (fun _ h => h) 11 rfl hE138 rfl (by kernel_rfl) (by kernel_rfl) (by kernel_rfl) rfl rfl (fun _ _ _ h => h) ?_; intro a139 hE140; clear hE138
        refine d_skip (fun _ h => h) 12 rfl hE140 rfl (by kernel_rfl) (by kernel_rfl) (by kernel_rfl) rfl rfl (fun _ _ _ h => h) ?_; intro a141 hE142; clear hE140
        refine d_skip (fun _ h => h) 13 rfl hE142 rfl (by kernel_rfl) (by kernel_rfl) (by kernel_rfl) rfl rfl (fun _ _ _ h => h) ?_; intro a143 hE144; clear hE142
        refine d_skip (fun _ h => h) 14 rfl hE144 rfl (by kernel_rfl) (by kernel_rfl) (by kernel_rfl) rfl rfl (fun _ _ _ h => h) ?_; intro a145 hE146; clear hE144
        refine d_skip (fun _ h => h) 15 rfl hE146 rfl (by kernel_rfl) (by kernel_rfl) (by kernel_rfl) rfl rfl (fun _ _ _ h => h) ?_; intro a147 hE148; clear hE146
        refine d_skip (fun _ h => h) 16 rfl hE148 rfl (by kernel_rfl) (by kernel_rfl) (by kernel_rfl) rfl rfl (fun _ _ _ h => h) ?_; intro a149 hE150; clear hE148
        refine d_skip (fun _ h => h) 17 rfl hE150 rfl (by kernel_rfl) (by kernel_rfl) (by kernel_rfl) rfl rfl (fun _ _ _ h => h) ?_; intro a151 hE152; clear hE150
        refine d_skip (fun _ h => h) 18 rfl hE152 rfl (by kernel_rfl) (by kernel_rfl) (by kernel_rfl) rfl rfl (fun _ _ _ h => h) ?_; intro a153 hE154; clear hE152
        refine d_skip (fun _ h => h) 19 rfl hE154 rfl (by kernel_rfl) (by kernel_rfl) (by kernel_rfl) rfl rfl (fun _ _ _ h => h) ?_; intro a155 hE156; clear hE154
        refine d_skip (fun _ h => h) 20 rfl hE156 rfl (by kernel_rfl) (by kernel_rfl) (by kernel_rfl) rfl rfl (fun _ _ _ h => h) ?_; intro a157 hE158; clear hE156
        refine d_skip (fun _ h => h) 21 rfl hE158 rfl (by kernel_rfl) (by kernel_rfl) (by kernel_rfl) rfl rfl (fun _ _ _ h => h) ?_; intro a159 hE160; clear hE158
        refine d_pure (fun _ h => h) (v := .bool false) 22 rfl hE160 (y_pick (b := false) rfl rfl) rfl (by kernel_rfl) (by kernel_rfl) (by kernel_rfl) rfl rfl (fun _ _ _ h => h) ?_; intro a161 hE162; clear hE160
        refine d_pure (fun _ h => h) (v := .bool false) 23 rfl hE162 (y_pick (b := false) rfl rfl) rfl (by kernel_rfl) (by kernel_rfl) (by kernel_rfl) rfl rfl (fun _ _ _ h => h) ?_; intro a163 hE164; clear hE162
        refine d_done (by kernel_rfl) ?_
        have hE165 := hE164.sub (L' := [(0, .slice listA list.length listC), (3, .int .i64 i3), (33, .bool false)]) ⟨rfl, rfl, rfl, trivial⟩; clear hE164
        refine p_tn ?_
        have hE166 := hE165.sub (L' := [(0, .slice listA list.length listC), (3, .int .i64 i3), (33, .bool false)]) ⟨rfl, rfl, rfl, trivial⟩
        have hS167 := (St.pick (Γ' := [.rd 1 listA list.length listC list]) hS33 [0] (by decide) rfl)
        exact ⟨(by rw [hb101, hb52]; exact hE166), hS167⟩
     ·
      rintro a168 w169 ⟨hE170, hS171⟩; clear hE30 hS12
      refine c_cond hE170 rfl (fun ht173 => ?_) (fun ht173 => ?_)
      ·
       have hE174 := hE170; rw [ht173] at hE174; clear hE170
       refine c_seq ?_
       refine c_reg ?_
       refine q_step (v := .bool false) hE174 (y_assign rfl) rfl rfl rfl ?_; intro a175 hE176; clear hE174
       refine c_nil ?_
       have hE177 := hE176.sub (L' := [(2, .bool false)]) ⟨rfl, trivial⟩; clear hE176
       refine p_tn ?_
       refine wp_ret ?_
       refine p_br ?_
       refine p_tr ?_
       have hX178 : F_s_IsClause_L1 list (Int.toNat ((list.length : Int) - 0) + 1) 0 = .error false := hT13.symm.trans (show F_s_IsClause_L1b list (F_s_IsClause_L1 list r18) i3 = .error false by unfold F_s_IsClause_L1b; rw [ht173, ht28]; first | done | rfl)
       refine p_tr (p_br (p_tr ?_))
       refine p_tr ?_
       have hF : F_s_IsClause list = false := by unfold F_s_IsClause; rw [hX178]; first | done | rfl
       refine c_ret1 hE177 rfl rfl ?_
       exact ⟨(by rw [hF]; first | done | (dsimp only; done) | rfl), hS171.ext⟩
      ·
       obtain ⟨ht179, ht180⟩ := bor_f ht173
       have ht181 := bn_f ht179
       have hp182 := F_l01In_t ht181
       have hE183 := hE170; rw [ht173] at hE183; clear hE170
       refine wp_skip ?_
       refine p_bn ?_
       refine p_tn ?_
       refine c_reg ?_
       refine q_step (v := .int .i64 i3) hE183 (y_move rfl) rfl rfl rfl ?_; intro a184 hE185; clear hE183
       refine q_step (v := .int .i64 (i3 + 1)) hE185 (y_add rfl rfl ⟨(by omega), (by omega)⟩) rfl rfl rfl ?_; intro a186 hE187; clear hE185
       refine q_step (v := .int .i64 (i3 + 1)) hE187 (y_assign rfl) rfl rfl rfl ?_; intro a188 hE189; clear hE187
       refine c_nil ?_
       have hE190 := hE189.sub (L' := [(0, .slice listA list.length listC), (3, .int .i64 (i3 + 1))]) ⟨rfl, rfl, trivial⟩; clear hE189
       refine p_tn ⟨r18, Nat.lt_succ_self _, i3 + 1, (hT13.symm.trans (show F_s_IsClause_L1b list (F_s_IsClause_L1 list r18) i3 = F_s_IsClause_L1 list r18 (i3 + 1) by unfold F_s_IsClause_L1b; rw [ht173, ht28]; first | done | rfl)).symm, (by omega), (by first | omega | (simp only [sS_len, sL_len]; omega) | (simp only [List.length_replicate, sI_len]; omega) | (simp only [List.length_append, List.length_cons, List.length_nil, sI_len, cond_true, cond_false]; omega) | (simp only [List.length_append, List.length_cons, List.length_nil, sI_len, cond_eq_ite, apply_ite List.length]; split <;> simp only [List.length_append, List.length_cons, List.length_nil, sI_len] <;> omega) | grind), (clStep (by omega) (by assumption)), (by first | omega | (simp only [sS_len, sL_len]; omega) | (simp only [List.length_replicate, sI_len]; omega) | (simp only [List.length_append, List.length_cons, List.length_nil, sI_len, cond_true, cond_false]; omega) | (simp only [List.length_append, List.length_cons, List.length_nil, sI_len, cond_eq_ite, apply_ite List.length]; split <;> simp only [List.length_append, List.length_cons, List.length_nil, sI_len] <;> omega) | grind), (hE190.sub (L' := [(0, .slice listA list.length listC), (3, .int .i64 (i3 + 1))]) ⟨rfl, rfl, trivial⟩), (St.pick (Γ' := [.rd 1 listA list.length listC list]) hS171 [0] (by decide) rfl)⟩
    ·
     have hp191 := of_decide_eq_false ht28
     have hE192 := hE27; rw [ht28] at hE192; clear hE27
     refine wp_exit ?_
     refine p_te ?_
     have hX193 : F_s_IsClause_L1 list (Int.toNat ((list.length : Int) - 0) + 1) 0 = .ok i3 := hT13.symm.trans (show F_s_IsClause_L1b list (F_s_IsClause_L1 list r18) i3 = .ok i3 by unfold F_s_IsClause_L1b; rw [ht28]; first | done | rfl)
     refine p_te (p_be (p_tn ?_))
     exact ⟨(by rw [hX193]; rfl), (by rw [hX193]; exact (show 0 ≤ i3 from (by first | omega | (simp only [sS_len, sL_len]; omega) | (simp only [List.length_replicate, sI_len]; omega) | (simp only [List.length_append, List.length_cons, List.length_nil, sI_len, cond_true, cond_false]; omega) | (simp only [List.length_append, List.length_cons, List.length_nil, sI_len, cond_eq_ite, apply_ite List.length]; split <;> simp only [List.length_append, List.length_cons, List.length_nil, sI_len] <;> omega) | grind))), (by rw [hX193]; exact (show ∀ m : Int, 0 ≤ m → m < i3 → 0 ≤ gI list m ∧ gI list m ≤ 11 from (by first | omega | (simp only [sS_len, sL_len]; omega) | (simp only [List.length_replicate, sI_len]; omega) | (simp only [List.length_append, List.length_cons, List.length_nil, sI_len, cond_true, cond_false]; omega) | (simp only [List.length_append, List.length_cons, List.length_nil, sI_len, cond_eq_ite, apply_ite List.length]; split <;> simp only [List.length_append, List.length_cons, List.length_nil, sI_len] <;> omega) | grind))), (by rw [hX193]; exact (show i3 ≤ (list.length : Int) from (by first | omega | (simp only [sS_len, sL_len]; omega) | (simp only [List.length_replicate, sI_len]; omega) | (simp only [List.length_append, List.length_cons, List.length_nil, sI_len, cond_true, cond_false]; omega) | (simp only [List.length_append, List.length_cons, List.length_nil, sI_len, cond_eq_ite, apply_ite List.length]; split <;> simp only [List.length_append, List.length_cons, List.length_nil, sI_len] <;> omega) | grind))), (by rw [hX193]; exact (hE192.sub (L' := [(0, .slice listA list.length listC), (3, .int .i64 i3)]) ⟨rfl, rfl, trivial⟩)), (St.pick (Γ' := [.rd 1 listA list.length listC list]) hS12 [0] (by decide) rfl)⟩
  ·
   rintro a194 w195 ⟨hO198, hi199, hi200, hi201, hE196, hS197⟩; clear hE7 hS1
   refine p_tn ?_
   refine c_seq ?_
   refine c_reg ?_
   refine q_step (v := .bool true) hE196 (y_assign rfl) rfl rfl rfl ?_; intro a202 hE203; clear hE196
   refine c_nil ?_
   have hE204 := hE203.sub (L' := [(2, .bool true)]) ⟨rfl, trivial⟩; clear hE203
   refine p_tn ?_
   refine wp_ret ?_
   have hF : F_s_IsClause list = true := by unfold F_s_IsClause; rw [hO198]; first | done | rfl
   refine c_ret1 hE204 rfl rfl ?_
   exact ⟨(by rw [hF]; first | done | (dsimp only; done) | rfl), hS197.ext⟩

def clP (l : List Int) (i : Int) : Bool := (decide (0 ≤ gI l i) && decide (gI l i ≤ 11)) && !(decide (0 < i) && decide (gI l i / 2 ≤ gI l (i - 1) / 2))
theorem s_IsClause_all (l : List Int) : F_s_IsClause l = (List.range l.length).all (fun (j : Nat) => clP l (j : Int)) := by
  unfold F_s_IsClause
  rw [allE (F_s_IsClause_L1 l) false (l.length : Int) (fun i => !clP l i) (by omega) (fun r i _ _ => ?_), isOk_bif, errD_bif, bif_tf, Int.toNat_natCast]
  · simp only [Bool.not_not]
  · show F_s_IsClause_L1b l (F_s_IsClause_L1 l r) i = _
    unfold F_s_IsClause_L1b clP F_l01In
    rw [show (!(decide (0 ≤ gI l i) && decide (gI l i ≤ 11)) || (decide (0 < i) && decide (gI l i / 2 ≤ gI l (i - 1) / 2))) = !((decide (0 ≤ gI l i) && decide (gI l i ≤ 11)) && !(decide (0 < i) && decide (gI l i / 2 ≤ gI l (i - 1) / 2))) by simp only [Bool.not_and, Bool.not_not, Bool.not_or]]
theorem isClause_L1 (l : List Int) : ∀ (r : Nat) (i : Int), F_isClause_L1 l r i = F_s_IsClause_L1 l r i := by
  intro r
  induction r with
  | zero => intro i; rfl
  | succ r ih =>
    intro i
    show F_isClause_L1b l (F_isClause_L1 l r) i = F_s_IsClause_L1b l (F_s_IsClause_L1 l r) i
    unfold F_isClause_L1b F_s_IsClause_L1b F_inRange F_l01In
    rw [ih, show (decide (gI l i ≤ gI l (i - 1)) || decide (gI l (i - 1) / 2 = gI l i / 2)) = decide (gI l i / 2 ≤ gI l (i - 1) / 2) by
      rw [← Bool.decide_or]
      exact decide_eq_decide.2 (by omega)]
theorem isClause_eq (l : List Int) : F_isClause l = F_s_IsClause l := by
  unfold F_isClause F_s_IsClause
  rw [isClause_L1]
theorem s_IsClause_t {l : List Int} (h : F_s_IsClause l = true) : l.length ≤ 12 ∧ ∀ m : Int, 0 ≤ m → m < (l.length : Int) → 0 ≤ gI l m ∧ gI l m ≤ 11 := by
  rw [s_IsClause_all, List.all_eq_true] at h
  have h1 : ∀ j : Nat, j < l.length → (0 ≤ gI l j ∧ gI l j ≤ 11) ∧ (0 < (j : Int) → gI l ((j : Int) - 1) / 2 < gI l j / 2) := fun j hj => by
    have := h j (List.mem_range.2 hj)
    unfold clP at this
    simp only [Bool.and_eq_true, decide_eq_true_eq, Bool.not_eq_true', Bool.and_eq_false_iff, decide_eq_false_iff_not] at this
    refine ⟨this.1, fun h0 => ?_⟩
    rcases this.2 with h2 | h2
    · exact absurd h0 h2
    · omega
  have h2 : ∀ j : Nat, j < l.length → (j : Int) ≤ gI l j / 2 := fun j => by
    induction j with
    | zero => intro hj; have := (h1 0 hj).1; omega
    | succ j ih =>
      intro hj
      have a1 := ih (by omega)
      have a2 := (h1 (j + 1) hj).2 (by omega)
      rw [show ((j + 1 : Nat) : Int) - 1 = (j : Int) by omega] at a2
      omega
  refine ⟨?_, fun m h0 hm => ?_⟩
  · by_cases h12 : l.length ≤ 12
    · exact h12
    · exfalso
      have a1 := h2 12 (by omega)
      have a2 := (h1 12 (by omega)).1
      omega
  · have := (h1 m.toNat (by omega)).1
    rw [show ((m.toNat : Nat) : Int) = m by omega] at this
    exact this


def F_areClauses_k1 (cp : List Int) : Bool :=
  (!(F_isClause cp))
theorem cf_areClauses_k1 (args : Array Value) (w : World) : (callFunc 158 args).run Try.prog w = .ok (.enter 158 args) w := by kernel_rfl
set_option maxRecDepth 100000 in
theorem c_areClauses_k1 (cpA : Option Addr) (cpN cpC : Nat) (cp : List Int) (w : World) (cpR : RdS w 1 cpA cpN cpC cp) :
    Calls Try.prog 158 #[.slice cpA cpN cpC] w (Ret fun v w' => v = .bool (F_areClauses_k1 cp) ∧ Ext w w') := by
  obtain rfl : cpN = cp.length := cpR.len1.symm
  have cpLe := cpR.le
  have hS := St.nil w
  have hS1 := St.rd0 hS rfl cpR; clear hS
  refine enter (args := [.slice cpA cp.length cpC]) Try.func158 rfl rfl ?_
  rw [Try.ntmps158]; intro a hE
  have hE := hE.sub (L' := [(0, .slice cpA cp.length cpC)]) ⟨rfl, trivial⟩
  refine c_seq ?_
  refine c_reg ?_
  refine q_step (v := .bool false) hE (y_assign rfl) rfl rfl rfl ?_; intro a2 hE3; clear hE
  refine c_nil ?_
  have hE4 := hE3.sub (L' := [(0, .slice cpA cp.length cpC)]) ⟨rfl, trivial⟩; clear hE3
  refine p_tn ?_
  refine c_seq ?_
  refine c_reg ?_
  refine q_step (v := .slice cpA cp.length cpC) hE4 (y_move rfl) rfl rfl rfl ?_; intro a5 hE6; clear hE4
  refine l_step hE6 rfl (l_call (f := 159) (argv := [.slice cpA cp.length cpC]) hE6 (fun _ => cf_isClause _ _) rfl rfl (c_isClause cpA cp.length cpC cp w (St.rdR (i := 0) hS1 rfl)) ?_)
  rintro _ w8 ⟨rfl, he12⟩ a9 hE10; clear hE6
  have hS11 := St.go hS1 he12; clear hS1
  refine q_step (v := .bool (!(F_isClause cp))) hE10 (y_not rfl) rfl rfl rfl ?_; intro a13 hE14; clear hE10
  refine q_step (v := .bool (!(F_isClause cp))) hE14 (y_assign rfl) rfl rfl rfl ?_; intro a15 hE16; clear hE14
  refine c_nil ?_
  have hE17 := hE16.sub (L' := [(2, .bool (!(F_isClause cp)))]) ⟨rfl, trivial⟩; clear hE16
  refine p_tn ?_
  refine wp_ret ?_
  have hF : F_areClauses_k1 cp = (!(F_isClause cp)) := by unfold F_areClauses_k1; rfl
  refine c_ret1 hE17 rfl rfl ?_
  exact ⟨(by rw [hF]; first | done | (dsimp only; done) | rfl), hS11.ext⟩

def F_z_IndexFuncS_L1b (sp : List (List Int)) (fp : List Int → Bool) (rec : Int → Except (Int) (Int)) (t8 : Int) : Except (Int) (Int) :=
  bif (decide (t8 < ((sp).length : Int))) then (bif (fp (gL sp t8)) then (.error t8) else (rec (t8 + 1))) else (.ok t8)
def F_z_IndexFuncS_L1 (sp : List (List Int)) (fp : List Int → Bool) : Nat → Int → Except (Int) (Int)
  | 0, t8 => .ok t8
  | r + 1, t8 => F_z_IndexFuncS_L1b sp fp (F_z_IndexFuncS_L1 sp fp r) t8
def F_z_IndexFuncS (sp : List (List Int)) (fp : List Int → Bool) : Int :=
  bif (isOk (F_z_IndexFuncS_L1 sp fp (Int.toNat (((sp).length : Int) - 0) + 1) 0)) then (-1) else (errD (F_z_IndexFuncS_L1 sp fp (Int.toNat (((sp).length : Int) - 0) + 1) 0))
theorem cf_z_IndexFuncS (args : Array Value) (w : World) : (callFunc 203 args).run Try.prog w = .ok (.enter 203 args) w := by kernel_rfl
set_option maxRecDepth 100000 in
theorem c_z_IndexFuncS (spA : Option Addr) (spN spC : Nat) (spQ : List Hd) (sp : List (List Int)) (fpF : FuncId) (fpC : List Value) (fp : List Int → Bool) (fpD : List Int → Prop) (w : World) (spR : RdN w 1 spA spN spC spQ sp) (fpE : ∀ args w, (callFunc fpF args).run Try.prog w = .ok (.enter fpF args) w) (fpH : ∀ (x0A : Option Addr) (x0N x0C : Nat) (x0 : List Int) (w' : World), fpD x0 → Ext w w' → RdS w' 1 x0A x0N x0C x0 → Calls Try.prog fpF (([.slice x0A x0N x0C] ++ fpC : List Value).toArray) w' (Ret fun v w'' => v = .bool (fp x0) ∧ Ext w' w'')) (fpDom : ∀ m : Int, 0 ≤ m → m < (sp.length : Int) → fpD (gL sp m)) :
    Calls Try.prog 203 #[.slice spA spN spC, .func (.func fpF) #[] fpC.toArray] w (Ret fun v w' => v = .int .i64 (F_z_IndexFuncS sp fp) ∧ Ext w w') := by
  obtain rfl : spN = sp.length := spR.len
  have spLe := spR.le
  have hS := St.nil w
  have hS1 := St.rdn0 hS rfl spR; clear hS
  refine enter (args := [.slice spA ((sp).length) spC, .func (.func fpF) #[] fpC.toArray]) Try.func203 rfl rfl ?_
  rw [Try.ntmps203]; intro a hE
  have hE := hE.sub (L' := [(0, .slice spA ((sp).length) spC), (1, .func (.func fpF) #[] fpC.toArray)]) ⟨rfl, rfl, trivial⟩
  refine c_seq ?_
  refine c_reg ?_
  refine q_step (v := .int .i64 0) hE (y_assign rfl) rfl rfl rfl ?_; intro a2 hE3; clear hE
  refine c_nil ?_
  have hE4 := hE3.sub (L' := [(0, .slice spA ((sp).length) spC), (1, .func (.func fpF) #[] fpC.toArray)]) ⟨rfl, rfl, trivial⟩; clear hE3
  refine p_tn ?_
  refine c_seq ?_
  refine c_seq ?_
  refine c_reg ?_
  refine q_step (v := .slice spA ((sp).length) spC) hE4 (y_move rfl) rfl rfl rfl ?_; intro a5 hE6; clear hE4
  refine q_step (v := .int .i64 ((sp).length : Int)) hE6 (y_len (e := 22) (by kernel_rfl) rfl) rfl rfl rfl ?_; intro a7 hE8; clear hE6
  refine q_step (v := .int .i64 0) hE8 (y_move rfl) rfl rfl rfl ?_; intro a9 hE10; clear hE8
  refine c_nil ?_
  have hE11 := hE10.sub (L' := [(0, .slice spA ((sp).length) spC), (1, .func (.func fpF) #[] fpC.toArray), (7, .int .i64 ((sp).length : Int)), (8, .int .i64 0)]) ⟨rfl, rfl, rfl, rfl, trivial⟩; clear hE10
  refine p_tn ?_
  refine c_cut1 (fun a' w' => isOk (F_z_IndexFuncS_L1 sp fp (Int.toNat (((sp).length : Int) - 0) + 1) 0) = true ∧ (0 ≤ (okD (F_z_IndexFuncS_L1 sp fp (Int.toNat (((sp).length : Int) - 0) + 1) 0))) ∧ ((okD (F_z_IndexFuncS_L1 sp fp (Int.toNat (((sp).length : Int) - 0) + 1) 0)) ≤ ((sp).length : Int)) ∧ E a' 19 [(0, .slice spA ((sp).length) spC), (1, .func (.func fpF) #[] fpC.toArray), (7, .int .i64 ((sp).length : Int)), (8, .int .i64 (okD (F_z_IndexFuncS_L1 sp fp (Int.toNat (((sp).length : Int) - 0) + 1) 0)))] ∧ St w w' [.rdn 1 spA ((sp).length) spC spQ sp]) ?_ ?_
  ·
   refine wp_block ?_
   refine c_loop (fun r a' w' => ∃ t8 : Int, F_z_IndexFuncS_L1 sp fp r t8 = F_z_IndexFuncS_L1 sp fp (Int.toNat (((sp).length : Int) - 0) + 1) 0 ∧ Int.toNat (((sp).length : Int) - t8) < r ∧ (0 ≤ t8) ∧ (t8 ≤ ((sp).length : Int)) ∧ E a' 19 [(0, .slice spA ((sp).length) spC), (1, .func (.func fpF) #[] fpC.toArray), (7, .int .i64 ((sp).length : Int)), (8, .int .i64 t8)] ∧ St w w' [.rdn 1 spA ((sp).length) spC spQ sp]) (r := (Int.toNat (((sp).length : Int) - 0) + 1)) ?_ ?_
   · exact ⟨0, rfl, Nat.lt_succ_self _, (by first | omega | (simp only [sS_len, sL_len]; omega) | (simp only [List.length_replicate, sI_len]; omega) | (simp only [List.length_append, List.length_cons, List.length_nil, sI_len, cond_true, cond_false]; omega) | (simp only [List.length_append, List.length_cons, List.length_nil, sI_len, cond_eq_ite, apply_ite List.length]; split <;> simp only [List.length_append, List.length_cons, List.length_nil, sI_len] <;> omega) | grind), (by first | omega | (simp only [sS_len, sL_len]; omega) | (simp only [List.length_replicate, sI_len]; omega) | (simp only [List.length_append, List.length_cons, List.length_nil, sI_len, cond_true, cond_false]; omega) | (simp only [List.length_append, List.length_cons, List.length_nil, sI_len, cond_eq_ite, apply_ite List.length]; split <;> simp only [List.length_append, List.length_cons, List.length_nil, sI_len] <;> omega) | grind), (hE11.sub (L' := [(0, .slice spA ((sp).length) spC), (1, .func (.func fpF) #[] fpC.toArray), (7, .int .i64 ((sp).length : Int)), (8, .int .i64 0)]) ⟨rfl, rfl, rfl, rfl, trivial⟩), (St.pick (Γ' := [.rdn 1 spA ((sp).length) spC spQ sp]) hS1 [0] (by decide) rfl)⟩
   ·
    clear hE11 hS1
    rintro r21 a13 w14 ⟨t8, hT17, hr18, hi19, hi20, hE15, hS16⟩
    obtain ⟨r21, rfl⟩ : ∃ r', r21 = r' + 1 := ⟨r21 - 1, by omega⟩
    refine c_seq ?_
    refine c_reg ?_
    refine q_step (v := .bool (decide (t8 < ((sp).length : Int)))) hE15 (y_lss rfl rfl) rfl rfl rfl ?_; intro a22 hE23; clear hE15
    refine c_nil ?_
    have hE24 := hE23.sub (L' := [(0, .slice spA ((sp).length) spC), (1, .func (.func fpF) #[] fpC.toArray), (7, .int .i64 ((sp).length : Int)), (8, .int .i64 t8), (9, .bool (decide (t8 < ((sp).length : Int))))]) ⟨rfl, rfl, rfl, rfl, rfl, trivial⟩; clear hE23
    refine p_tn ?_
    refine c_seq ?_
    refine c_cond hE24 rfl (fun ht25 => ?_) (fun ht25 => ?_)
    ·
     have hp26 := of_decide_eq_true ht25
     have hE27 := hE24; rw [ht25] at hE27; clear hE24
     refine wp_skip ?_
     refine p_tn ?_
     refine c_seq ?_
     refine wp_block ?_
     refine c_seq ?_
     refine c_reg ?_
     refine q_step (v := .int .i64 t8) hE27 (y_move rfl) rfl rfl rfl ?_; intro a28 hE29; clear hE27
     refine q_step (v := .int .i64 t8) hE29 (y_assign rfl) rfl rfl rfl ?_; intro a30 hE31; clear hE29
     refine c_nil ?_
     have hE32 := hE31.sub (L' := [(0, .slice spA ((sp).length) spC), (1, .func (.func fpF) #[] fpC.toArray), (5, .int .i64 t8), (7, .int .i64 ((sp).length : Int)), (8, .int .i64 t8)]) ⟨rfl, rfl, rfl, rfl, rfl, trivial⟩; clear hE31
     refine p_tn ?_
     refine c_seq ?_
     refine c_reg ?_
     refine q_step (v := .func (.func fpF) #[] fpC.toArray) hE32 (y_move rfl) rfl rfl rfl ?_; intro a33 hE34; clear hE32
     refine q_step (v := .slice spA ((sp).length) spC) hE34 (y_move rfl) rfl rfl rfl ?_; intro a35 hE36; clear hE34
     refine q_step (v := .int .i64 t8) hE36 (y_move rfl) rfl rfl rfl ?_; intro a37 hE38; clear hE36
     refine q_step (v := .pointer (some (adr spA (Int.toNat t8)))) hE38 (y_idx (by kernel_rfl) (fun _ => by kernel_rfl) rfl rfl (RdN.isS (m := t8) (St.rdNr (i := 0) hS16 rfl) (by omega) (by omega)) (by omega) (by omega) (Nat.mul_one _).symm) rfl rfl rfl ?_; intro a39 hE40; clear hE38
     have hv41 : (0 : Int) ≤ t8 ∧ t8 < (((sp).length) : Int) := ⟨(by omega), (by omega)⟩
     refine q_step (v := .slice (hdA spQ t8) ((gL sp t8).length) (hdC spQ t8)) hE40 (y_load (fun _ => by kernel_rfl) rfl (RdN.elt1 (St.rdNr (i := 0) hS16 rfl) (by omega) (by omega))) rfl rfl rfl ?_; intro a43 hE44; clear hE40
     refine l_step hE44 rfl (l_callv (f := fpF) (caps := fpC) (argv := [.slice (hdA spQ t8) ((gL sp t8).length) (hdC spQ t8)]) hE44 rfl (fun _ => fpE _ _) rfl rfl (fpH (hdA spQ t8) ((gL sp t8).length) (hdC spQ t8) (gL sp t8) w14 (fpDom t8 (by omega) (by omega)) hS16.ext (RdN.row1 (St.rdNr (i := 0) hS16 rfl) hv41.1 hv41.2)) ?_)
     rintro _ w46 ⟨rfl, he50⟩ a47 hE48; clear hE44
     have hS49 := St.go hS16 he50; clear hS16
     refine c_nil ?_
     have hE51 := hE48.sub (L' := [(0, .slice spA ((sp).length) spC), (1, .func (.func fpF) #[] fpC.toArray), (5, .int .i64 t8), (7, .int .i64 ((sp).length : Int)), (8, .int .i64 t8), (16, .bool (fp (gL sp t8)))]) ⟨rfl, rfl, rfl, rfl, rfl, rfl, trivial⟩; clear hE48
     refine p_tn ?_
     refine c_cond hE51 rfl (fun ht52 => ?_) (fun ht52 => ?_)
     ·
      have hE53 := hE51; rw [ht52] at hE53; clear hE51
      refine c_seq ?_
      refine c_reg ?_
      refine q_step (v := .int .i64 t8) hE53 (y_move rfl) rfl rfl rfl ?_; intro a54 hE55; clear hE53
      refine q_step (v := .int .i64 t8) hE55 (y_assign rfl) rfl rfl rfl ?_; intro a56 hE57; clear hE55
      refine c_nil ?_
      have hE58 := hE57.sub (L' := [(4, .int .i64 t8)]) ⟨rfl, trivial⟩; clear hE57
      refine p_tn ?_
      refine wp_ret ?_
      refine p_br ?_
      refine p_tr ?_
      have hX59 : F_z_IndexFuncS_L1 sp fp (Int.toNat (((sp).length : Int) - 0) + 1) 0 = .error t8 := hT17.symm.trans (show F_z_IndexFuncS_L1b sp fp (F_z_IndexFuncS_L1 sp fp r21) t8 = .error t8 by unfold F_z_IndexFuncS_L1b; rw [ht52, ht25]; first | done | rfl)
      refine p_tr (p_br (p_tr ?_))
      refine p_tr ?_
      have hF : F_z_IndexFuncS sp fp = t8 := by unfold F_z_IndexFuncS; rw [hX59]; first | done | rfl
      refine c_ret1 hE58 rfl rfl ?_
      exact ⟨(by rw [hF]; first | done | (dsimp only; done) | rfl), hS49.ext⟩
     ·
      have hE60 := hE51; rw [ht52] at hE60; clear hE51
      refine wp_skip ?_
      refine p_bn ?_
      refine p_tn ?_
      refine c_reg ?_
      refine q_step (v := .int .i64 (t8 + 1)) hE60 (y_add rfl rfl ⟨(by omega), (by omega)⟩) rfl rfl rfl ?_; intro a61 hE62; clear hE60
      refine q_step (v := .int .i64 (t8 + 1)) hE62 (y_move rfl) rfl rfl rfl ?_; intro a63 hE64; clear hE62
      refine c_nil ?_
      have hE65 := hE64.sub (L' := [(0, .slice spA ((sp).length) spC), (1, .func (.func fpF) #[] fpC.toArray), (7, .int .i64 ((sp).length : Int)), (8, .int .i64 (t8 + 1))]) ⟨rfl, rfl, rfl, rfl, trivial⟩; clear hE64
      refine p_tn ⟨r21, Nat.lt_succ_self _, t8 + 1, (hT17.symm.trans (show F_z_IndexFuncS_L1b sp fp (F_z_IndexFuncS_L1 sp fp r21) t8 = F_z_IndexFuncS_L1 sp fp r21 (t8 + 1) by unfold F_z_IndexFuncS_L1b; rw [ht52, ht25]; first | done | rfl)).symm, (by omega), (by first | omega | (simp only [sS_len, sL_len]; omega) | (simp only [List.length_replicate, sI_len]; omega) | (simp only [List.length_append, List.length_cons, List.length_nil, sI_len, cond_true, cond_false]; omega) | (simp only [List.length_append, List.length_cons, List.length_nil, sI_len, cond_eq_ite, apply_ite List.length]; split <;> simp only [List.length_append, List.length_cons, List.length_nil, sI_len] <;> omega) | grind), (by first | omega | (simp only [sS_len, sL_len]; omega) | (simp only [List.length_replicate, sI_len]; omega) | (simp only [List.length_append, List.length_cons, List.length_nil, sI_len, cond_true, cond_false]; omega) | (simp only [List.length_append, List.length_cons, List.length_nil, sI_len, cond_eq_ite, apply_ite List.length]; split <;> simp only [List.length_append, List.length_cons, List.length_nil, sI_len] <;> omega) | grind), (hE65.sub (L' := [(0, .slice spA ((sp).length) spC), (1, .func (.func fpF) #[] fpC.toArray), (7, .int .i64 ((sp).length : Int)), (8, .int .i64 (t8 + 1))]) ⟨rfl, rfl, rfl, rfl, trivial⟩), (St.pick (Γ' := [.rdn 1 spA ((sp).length) spC spQ sp]) hS49 [0] (by decide) rfl)⟩
    ·
     have hp66 := of_decide_eq_false ht25
     have hE67 := hE24; rw [ht25] at hE67; clear hE24
     refine wp_exit ?_
     refine p_te ?_
     have hX68 : F_z_IndexFuncS_L1 sp fp (Int.toNat (((sp).length : Int) - 0) + 1) 0 = .ok t8 := hT17.symm.trans (show F_z_IndexFuncS_L1b sp fp (F_z_IndexFuncS_L1 sp fp r21) t8 = .ok t8 by unfold F_z_IndexFuncS_L1b; rw [ht25]; first | done | rfl)
     refine p_te (p_be (p_tn ?_))
     exact ⟨(by rw [hX68]; rfl), (by rw [hX68]; exact (show 0 ≤ t8 from (by first | omega | (simp only [sS_len, sL_len]; omega) | (simp only [List.length_replicate, sI_len]; omega) | (simp only [List.length_append, List.length_cons, List.length_nil, sI_len, cond_true, cond_false]; omega) | (simp only [List.length_append, List.length_cons, List.length_nil, sI_len, cond_eq_ite, apply_ite List.length]; split <;> simp only [List.length_append, List.length_cons, List.length_nil, sI_len] <;> omega) | grind))), (by rw [hX68]; exact (show t8 ≤ ((sp).length : Int) from (by first | omega | (simp only [sS_len, sL_len]; omega) | (simp only [List.length_replicate, sI_len]; omega) | (simp only [List.length_append, List.length_cons, List.length_nil, sI_len, cond_true, cond_false]; omega) | (simp only [List.length_append, List.length_cons, List.length_nil, sI_len, cond_eq_ite, apply_ite List.length]; split <;> simp only [List.length_append, List.length_cons, List.length_nil, sI_len] <;> omega) | grind))), (by rw [hX68]; exact (hE67.sub (L' := [(0, .slice spA ((sp).length) spC), (1, .func (.func fpF) #[] fpC.toArray), (7, .int .i64 ((sp).length : Int)), (8, .int .i64 t8)]) ⟨rfl, rfl, rfl, rfl, trivial⟩)), (St.pick (Γ' := [.rdn 1 spA ((sp).length) spC spQ sp]) hS16 [0] (by decide) rfl)⟩
  ·
   rintro a69 w70 ⟨hO73, hi74, hi75, hE71, hS72⟩; clear hE11 hS1
   refine p_tn ?_
   refine c_seq ?_
   refine c_reg ?_
   refine q_step (v := .int .i64 (-1)) hE71 (y_assign rfl) rfl rfl rfl ?_; intro a76 hE77; clear hE71
   refine c_nil ?_
   have hE78 := hE77.sub (L' := [(4, .int .i64 (-1))]) ⟨rfl, trivial⟩; clear hE77
   refine p_tn ?_
   refine wp_ret ?_
   have hF : F_z_IndexFuncS sp fp = -1 := by unfold F_z_IndexFuncS; rw [hO73]; first | done | rfl
   refine c_ret1 hE78 rfl rfl ?_
   exact ⟨(by rw [hF]; first | done | (dsimp only; done) | rfl), hS72.ext⟩

def F_z_ContainsFuncS (sp : List (List Int)) (fp : List Int → Bool) : Bool :=
  decide (0 ≤ (F_z_IndexFuncS sp fp))
theorem cf_z_ContainsFuncS (args : Array Value) (w : World) : (callFunc 157 args).run Try.prog w = .ok (.enter 157 args) w := by kernel_rfl
set_option maxRecDepth 100000 in
theorem c_z_ContainsFuncS (spA : Option Addr) (spN spC : Nat) (spQ : List Hd) (sp : List (List Int)) (fpF : FuncId) (fpC : List Value) (fp : List Int → Bool) (fpD : List Int → Prop) (w : World) (spR : RdN w 1 spA spN spC spQ sp) (fpE : ∀ args w, (callFunc fpF args).run Try.prog w = .ok (.enter fpF args) w) (fpH : ∀ (x0A : Option Addr) (x0N x0C : Nat) (x0 : List Int) (w' : World), fpD x0 → Ext w w' → RdS w' 1 x0A x0N x0C x0 → Calls Try.prog fpF (([.slice x0A x0N x0C] ++ fpC : List Value).toArray) w' (Ret fun v w'' => v = .bool (fp x0) ∧ Ext w' w'')) (fpDom : ∀ m : Int, 0 ≤ m → m < (sp.length : Int) → fpD (gL sp m)) :
    Calls Try.prog 157 #[.slice spA spN spC, .func (.func fpF) #[] fpC.toArray] w (Ret fun v w' => v = .bool (F_z_ContainsFuncS sp fp) ∧ Ext w w') := by
  obtain rfl : spN = sp.length := spR.len
  have spLe := spR.le
  have hS := St.nil w
  have hS1 := St.rdn0 hS rfl spR; clear hS
  refine enter (args := [.slice spA ((sp).length) spC, .func (.func fpF) #[] fpC.toArray]) Try.func157 rfl rfl ?_
  rw [Try.ntmps157]; intro a hE
  have hE := hE.sub (L' := [(0, .slice spA ((sp).length) spC), (1, .func (.func fpF) #[] fpC.toArray)]) ⟨rfl, rfl, trivial⟩
  refine c_seq ?_
  refine c_reg ?_
  refine q_step (v := .bool false) hE (y_assign rfl) rfl rfl rfl ?_; intro a2 hE3; clear hE
  refine c_nil ?_
  have hE4 := hE3.sub (L' := [(0, .slice spA ((sp).length) spC), (1, .func (.func fpF) #[] fpC.toArray)]) ⟨rfl, rfl, trivial⟩; clear hE3
  refine p_tn ?_
  refine c_seq ?_
  refine c_reg ?_
  refine q_step (v := .slice spA ((sp).length) spC) hE4 (y_move rfl) rfl rfl rfl ?_; intro a5 hE6; clear hE4
  refine q_step (v := .func (.func fpF) #[] fpC.toArray) hE6 (y_move rfl) rfl rfl rfl ?_; intro a7 hE8; clear hE6
  refine l_step hE8 rfl (l_call (f := 203) (argv := [.slice spA ((sp).length) spC, .func (.func fpF) #[] fpC.toArray]) hE8 (fun _ => cf_z_IndexFuncS _ _) rfl rfl (c_z_IndexFuncS spA ((sp).length) spC spQ sp fpF fpC fp fpD w (St.rdNr (i := 0) hS1 rfl) fpE (fun x0A x0N x0C x0 w' hx he r0 => fpH x0A x0N x0C x0 w' hx (hS1.ext.trans he) r0) fpDom) ?_)
  rintro _ w10 ⟨rfl, he14⟩ a11 hE12; clear hE8
  have hS13 := St.go hS1 he14; clear hS1
  refine q_step (v := .bool (decide (0 ≤ (F_z_IndexFuncS sp fp)))) hE12 (y_geq rfl rfl) rfl rfl rfl ?_; intro a15 hE16; clear hE12
  refine q_step (v := .bool (decide (0 ≤ (F_z_IndexFuncS sp fp)))) hE16 (y_assign rfl) rfl rfl rfl ?_; intro a17 hE18; clear hE16
  refine c_nil ?_
  have hE19 := hE18.sub (L' := [(4, .bool (decide (0 ≤ (F_z_IndexFuncS sp fp))))]) ⟨rfl, trivial⟩; clear hE18
  refine p_tn ?_
  refine wp_ret ?_
  have hF : F_z_ContainsFuncS sp fp = decide (0 ≤ (F_z_IndexFuncS sp fp)) := by unfold F_z_ContainsFuncS; rfl
  refine c_ret1 hE19 rfl rfl ?_
  exact ⟨(by rw [hF]; first | done | (dsimp only; done) | rfl), hS13.ext⟩

def F_areClauses (list : List (List Int)) : Bool :=
  (!(F_z_ContainsFuncS list (fun x0 => F_areClauses_k1 x0)))
theorem cf_areClauses (args : Array Value) (w : World) : (callFunc 94 args).run Try.prog w = .ok (.enter 94 args) w := by kernel_rfl
set_option maxRecDepth 100000 in
theorem c_areClauses (listA : Option Addr) (listN listC : Nat) (listQ : List Hd) (list : List (List Int)) (w : World) (listR : RdN w 1 listA listN listC listQ list) :
    Calls Try.prog 94 #[.slice listA listN listC] w (Ret fun v w' => v = .bool (F_areClauses list) ∧ Ext w w') := by
  obtain rfl : listN = list.length := listR.len
  have listLe := listR.le
  have hS := St.nil w
  have hS1 := St.rdn0 hS rfl listR; clear hS
  refine enter (args := [.slice listA ((list).length) listC]) Try.func94 rfl rfl ?_
  rw [Try.ntmps94]; intro a hE
  have hE := hE.sub (L' := [(0, .slice listA ((list).length) listC)]) ⟨rfl, trivial⟩
  refine c_seq ?_
  refine c_reg ?_
  refine q_step (v := .bool false) hE (y_assign rfl) rfl rfl rfl ?_; intro a2 hE3; clear hE
  refine c_nil ?_
  have hE4 := hE3.sub (L' := [(0, .slice listA ((list).length) listC)]) ⟨rfl, trivial⟩; clear hE3
  refine p_tn ?_
  refine c_seq ?_
  refine c_reg ?_
  refine q_step (v := .slice listA ((list).length) listC) hE4 (y_move rfl) rfl rfl rfl ?_; intro a5 hE6; clear hE4
  refine l_step hE6 rfl (l_call (f := 157) (argv := [.slice listA ((list).length) listC, .func (.func 158) #[] #[]]) hE6 (fun _ => cf_z_ContainsFuncS _ _) rfl rfl (c_z_ContainsFuncS listA ((list).length) listC listQ list 158 [] (fun x0 => F_areClauses_k1 x0) (fun x => True) w (St.rdNr (i := 0) hS1 rfl) (fun _ _ => cf_areClauses_k1 _ _) (fun x0A x0N x0C x0 w' hx he r0 => c_areClauses_k1 x0A x0N x0C x0 w' r0) (fun _ _ _ => trivial)) ?_)
  rintro _ w8 ⟨rfl, he12⟩ a9 hE10; clear hE6
  have hS11 := St.go hS1 he12; clear hS1
  refine q_step (v := .bool (!(F_z_ContainsFuncS list (fun x0 => F_areClauses_k1 x0)))) hE10 (y_not rfl) rfl rfl rfl ?_; intro a13 hE14; clear hE10
  refine q_step (v := .bool (!(F_z_ContainsFuncS list (fun x0 => F_areClauses_k1 x0)))) hE14 (y_assign rfl) rfl rfl rfl ?_; intro a15 hE16; clear hE14
  refine c_nil ?_
  have hE17 := hE16.sub (L' := [(2, .bool (!(F_z_ContainsFuncS list (fun x0 => F_areClauses_k1 x0))))]) ⟨rfl, trivial⟩; clear hE16
  refine p_tn ?_
  refine wp_ret ?_
  have hF : F_areClauses list = (!(F_z_ContainsFuncS list (fun x0 => F_areClauses_k1 x0))) := by unfold F_areClauses; rfl
  refine c_ret1 hE17 rfl rfl ?_
  exact ⟨(by rw [hF]; first | done | (dsimp only; done) | rfl), hS11.ext⟩

def F_l04All_L1b (clauses : List (List Int)) (rec : Int → Except (Bool) (Int)) (i3 : Int) : Except (Bool) (Int) :=
  bif (decide (i3 < ((clauses).length : Int))) then (bif (!(F_s_IsClause (gL clauses i3))) then (.error false) else (rec (i3 + 1))) else (.ok i3)
def F_l04All_L1 (clauses : List (List Int)) : Nat → Int → Except (Bool) (Int)
  | 0, i3 => .ok i3
  | r + 1, i3 => F_l04All_L1b clauses (F_l04All_L1 clauses r) i3
def F_l04All (clauses : List (List Int)) : Bool :=
  bif (isOk (F_l04All_L1 clauses (Int.toNat (((clauses).length : Int) - 0) + 1) 0)) then true else (errD (F_l04All_L1 clauses (Int.toNat (((clauses).length : Int) - 0) + 1) 0))
theorem cf_l04All (args : Array Value) (w : World) : (callFunc 91 args).run Try.prog w = .ok (.enter 91 args) w := by kernel_rfl
set_option maxRecDepth 100000 in
theorem c_l04All (clausesA : Option Addr) (clausesN clausesC : Nat) (clausesQ : List Hd) (clauses : List (List Int)) (w : World) (clausesR : RdN w 1 clausesA clausesN clausesC clausesQ clauses) :
    Calls Try.prog 91 #[.slice clausesA clausesN clausesC] w (Ret fun v w' => v = .bool (F_l04All clauses) ∧ Ext w w') := by
  obtain rfl : clausesN = clauses.length := clausesR.len
  have clausesLe := clausesR.le
  have hS := St.nil w
  have hS1 := St.rdn0 hS rfl clausesR; clear hS
  refine enter (args := [.slice clausesA ((clauses).length) clausesC]) Try.func91 rfl rfl ?_
  rw [Try.ntmps91]; intro a hE
  have hE := hE.sub (L' := [(0, .slice clausesA ((clauses).length) clausesC)]) ⟨rfl, trivial⟩
  refine c_seq ?_
  refine c_reg ?_
  refine q_step (v := .bool false) hE (y_assign rfl) rfl rfl rfl ?_; intro a2 hE3; clear hE
  refine c_nil ?_
  have hE4 := hE3.sub (L' := [(0, .slice clausesA ((clauses).length) clausesC)]) ⟨rfl, trivial⟩; clear hE3
  refine p_tn ?_
  refine c_seq ?_
  refine c_seq ?_
  refine c_reg ?_
  refine q_step (v := .int .i64 0) hE4 (y_assign rfl) rfl rfl rfl ?_; intro a5 hE6; clear hE4
  refine c_nil ?_
  have hE7 := hE6.sub (L' := [(0, .slice clausesA ((clauses).length) clausesC), (3, .int .i64 0)]) ⟨rfl, rfl, trivial⟩; clear hE6
  refine p_tn ?_
  refine c_cut1 (fun a' w' => isOk (F_l04All_L1 clauses (Int.toNat (((clauses).length : Int) - 0) + 1) 0) = true ∧ (0 ≤ (okD (F_l04All_L1 clauses (Int.toNat (((clauses).length : Int) - 0) + 1) 0))) ∧ ((okD (F_l04All_L1 clauses (Int.toNat (((clauses).length : Int) - 0) + 1) 0)) ≤ ((clauses).length : Int)) ∧ E a' 16 [(0, .slice clausesA ((clauses).length) clausesC), (3, .int .i64 (okD (F_l04All_L1 clauses (Int.toNat (((clauses).length : Int) - 0) + 1) 0)))] ∧ St w w' [.rdn 1 clausesA ((clauses).length) clausesC clausesQ clauses]) ?_ ?_
  ·
   refine wp_block ?_
   refine c_loop (fun r a' w' => ∃ i3 : Int, F_l04All_L1 clauses r i3 = F_l04All_L1 clauses (Int.toNat (((clauses).length : Int) - 0) + 1) 0 ∧ Int.toNat (((clauses).length : Int) - i3) < r ∧ (0 ≤ i3) ∧ (i3 ≤ ((clauses).length : Int)) ∧ E a' 16 [(0, .slice clausesA ((clauses).length) clausesC), (3, .int .i64 i3)] ∧ St w w' [.rdn 1 clausesA ((clauses).length) clausesC clausesQ clauses]) (r := (Int.toNat (((clauses).length : Int) - 0) + 1)) ?_ ?_
   · exact ⟨0, rfl, Nat.lt_succ_self _, (by first | omega | (simp only [sS_len, sL_len]; omega) | (simp only [List.length_replicate, sI_len]; omega) | (simp only [List.length_append, List.length_cons, List.length_nil, sI_len, cond_true, cond_false]; omega) | (simp only [List.length_append, List.length_cons, List.length_nil, sI_len, cond_eq_ite, apply_ite List.length]; split <;> simp only [List.length_append, List.length_cons, List.length_nil, sI_len] <;> omega) | grind), (by first | omega | (simp only [sS_len, sL_len]; omega) | (simp only [List.length_replicate, sI_len]; omega) | (simp only [List.length_append, List.length_cons, List.length_nil, sI_len, cond_true, cond_false]; omega) | (simp only [List.length_append, List.length_cons, List.length_nil, sI_len, cond_eq_ite, apply_ite List.length]; split <;> simp only [List.length_append, List.length_cons, List.length_nil, sI_len] <;> omega) | grind), (hE7.sub (L' := [(0, .slice clausesA ((clauses).length) clausesC), (3, .int .i64 0)]) ⟨rfl, rfl, trivial⟩), (St.pick (Γ' := [.rdn 1 clausesA ((clauses).length) clausesC clausesQ clauses]) hS1 [0] (by decide) rfl)⟩
   ·
    clear hE7 hS1
    rintro r17 a9 w10 ⟨i3, hT13, hr14, hi15, hi16, hE11, hS12⟩
    obtain ⟨r17, rfl⟩ : ∃ r', r17 = r' + 1 := ⟨r17 - 1, by omega⟩
    refine c_seq ?_
    refine c_seq ?_
    refine c_reg ?_
    refine q_step (v := .int .i64 i3) hE11 (y_move rfl) rfl rfl rfl ?_; intro a18 hE19; clear hE11
    refine q_step (v := .slice clausesA ((clauses).length) clausesC) hE19 (y_move rfl) rfl rfl rfl ?_; intro a20 hE21; clear hE19
    refine q_step (v := .int .i64 ((clauses).length : Int)) hE21 (y_len (e := 22) (by kernel_rfl) rfl) rfl rfl rfl ?_; intro a22 hE23; clear hE21
    refine q_step (v := .bool (decide (i3 < ((clauses).length : Int)))) hE23 (y_lss rfl rfl) rfl rfl rfl ?_; intro a24 hE25; clear hE23
    refine c_nil ?_
    have hE26 := hE25.sub (L' := [(0, .slice clausesA ((clauses).length) clausesC), (3, .int .i64 i3), (7, .bool (decide (i3 < ((clauses).length : Int))))]) ⟨rfl, rfl, rfl, trivial⟩; clear hE25
    refine p_tn ?_
    refine c_cond hE26 rfl (fun ht27 => ?_) (fun ht27 => ?_)
    ·
     have hp28 := of_decide_eq_true ht27
     have hE29 := hE26; rw [ht27] at hE29; clear hE26
     refine wp_skip ?_
     refine p_tn ?_
     refine c_seq ?_
     refine wp_block ?_
     refine c_seq ?_
     refine c_reg ?_
     refine q_step (v := .slice clausesA ((clauses).length) clausesC) hE29 (y_move rfl) rfl rfl rfl ?_; intro a30 hE31; clear hE29
     refine q_step (v := .int .i64 i3) hE31 (y_move rfl) rfl rfl rfl ?_; intro a32 hE33; clear hE31
     refine q_step (v := .pointer (some (adr clausesA (Int.toNat i3)))) hE33 (y_idx (by kernel_rfl) (fun _ => by kernel_rfl) rfl rfl (RdN.isS (m := i3) (St.rdNr (i := 0) hS12 rfl) (by omega) (by omega)) (by omega) (by omega) (Nat.mul_one _).symm) rfl rfl rfl ?_; intro a34 hE35; clear hE33
     have hv36 : (0 : Int) ≤ i3 ∧ i3 < (((clauses).length) : Int) := ⟨(by omega), (by omega)⟩
     refine q_step (v := .slice (hdA clausesQ i3) ((gL clauses i3).length) (hdC clausesQ i3)) hE35 (y_load (fun _ => by kernel_rfl) rfl (RdN.elt1 (St.rdNr (i := 0) hS12 rfl) (by omega) (by omega))) rfl rfl rfl ?_; intro a38 hE39; clear hE35
     refine l_step hE39 rfl (l_call (f := 155) (argv := [.slice (hdA clausesQ i3) ((gL clauses i3).length) (hdC clausesQ i3)]) hE39 (fun _ => cf_s_IsClause _ _) rfl rfl (c_s_IsClause (hdA clausesQ i3) ((gL clauses i3).length) (hdC clausesQ i3) (gL clauses i3) w10 (RdN.row1 (St.rdNr (i := 0) hS12 rfl) hv36.1 hv36.2)) ?_)
     rintro _ w41 ⟨rfl, he45⟩ a42 hE43; clear hE39
     have hS44 := St.go hS12 he45; clear hS12
     refine q_step (v := .bool (!(F_s_IsClause (gL clauses i3)))) hE43 (y_not rfl) rfl rfl rfl ?_; intro a46 hE47; clear hE43
     refine c_nil ?_
     have hE48 := hE47.sub (L' := [(0, .slice clausesA ((clauses).length) clausesC), (3, .int .i64 i3), (15, .bool (!(F_s_IsClause (gL clauses i3))))]) ⟨rfl, rfl, rfl, trivial⟩; clear hE47
     refine p_tn ?_
     refine c_cond hE48 rfl (fun ht49 => ?_) (fun ht49 => ?_)
     ·
      have ht50 := bn_t ht49
      have hE51 := hE48; rw [ht49] at hE51; clear hE48
      refine c_seq ?_
      refine c_reg ?_
      refine q_step (v := .bool false) hE51 (y_assign rfl) rfl rfl rfl ?_; intro a52 hE53; clear hE51
      refine c_nil ?_
      have hE54 := hE53.sub (L' := [(2, .bool false)]) ⟨rfl, trivial⟩; clear hE53
      refine p_tn ?_
      refine wp_ret ?_
      refine p_br ?_
      refine p_tr ?_
      have hX55 : F_l04All_L1 clauses (Int.toNat (((clauses).length : Int) - 0) + 1) 0 = .error false := hT13.symm.trans (show F_l04All_L1b clauses (F_l04All_L1 clauses r17) i3 = .error false by unfold F_l04All_L1b; rw [ht49, ht27]; first | done | rfl)
      refine p_tr (p_br (p_tr ?_))
      refine p_tr ?_
      have hF : F_l04All clauses = false := by unfold F_l04All; rw [hX55]; first | done | rfl
      refine c_ret1 hE54 rfl rfl ?_
      exact ⟨(by rw [hF]; first | done | (dsimp only; done) | rfl), hS44.ext⟩
     ·
      have ht56 := bn_f ht49
      have hE57 := hE48; rw [ht49] at hE57; clear hE48
      refine wp_skip ?_
      refine p_bn ?_
      refine p_tn ?_
      refine c_reg ?_
      refine q_step (v := .int .i64 i3) hE57 (y_move rfl) rfl rfl rfl ?_; intro a58 hE59; clear hE57
      refine q_step (v := .int .i64 (i3 + 1)) hE59 (y_add rfl rfl ⟨(by omega), (by omega)⟩) rfl rfl rfl ?_; intro a60 hE61; clear hE59
      refine q_step (v := .int .i64 (i3 + 1)) hE61 (y_assign rfl) rfl rfl rfl ?_; intro a62 hE63; clear hE61
      refine c_nil ?_
      have hE64 := hE63.sub (L' := [(0, .slice clausesA ((clauses).length) clausesC), (3, .int .i64 (i3 + 1))]) ⟨rfl, rfl, trivial⟩; clear hE63
      refine p_tn ⟨r17, Nat.lt_succ_self _, i3 + 1, (hT13.symm.trans (show F_l04All_L1b clauses (F_l04All_L1 clauses r17) i3 = F_l04All_L1 clauses r17 (i3 + 1) by unfold F_l04All_L1b; rw [ht49, ht27]; first | done | rfl)).symm, (by omega), (by first | omega | (simp only [sS_len, sL_len]; omega) | (simp only [List.length_replicate, sI_len]; omega) | (simp only [List.length_append, List.length_cons, List.length_nil, sI_len, cond_true, cond_false]; omega) | (simp only [List.length_append, List.length_cons, List.length_nil, sI_len, cond_eq_ite, apply_ite List.length]; split <;> simp only [List.length_append, List.length_cons, List.length_nil, sI_len] <;> omega) | grind), (by first | omega | (simp only [sS_len, sL_len]; omega) | (simp only [List.length_replicate, sI_len]; omega) | (simp only [List.length_append, List.length_cons, List.length_nil, sI_len, cond_true, cond_false]; omega) | (simp only [List.length_append, List.length_cons, List.length_nil, sI_len, cond_eq_ite, apply_ite List.length]; split <;> simp only [List.length_append, List.length_cons, List.length_nil, sI_len] <;> omega) | grind), (hE64.sub (L' := [(0, .slice clausesA ((clauses).length) clausesC), (3, .int .i64 (i3 + 1))]) ⟨rfl, rfl, trivial⟩), (St.pick (Γ' := [.rdn 1 clausesA ((clauses).length) clausesC clausesQ clauses]) hS44 [0] (by decide) rfl)⟩
    ·
     have hp65 := of_decide_eq_false ht27
     have hE66 := hE26; rw [ht27] at hE66; clear hE26
     refine wp_exit ?_
     refine p_te ?_
     have hX67 : F_l04All_L1 clauses (Int.toNat (((clauses).length : Int) - 0) + 1) 0 = .ok i3 := hT13.symm.trans (show F_l04All_L1b clauses (F_l04All_L1 clauses r17) i3 = .ok i3 by unfold F_l04All_L1b; rw [ht27]; first | done | rfl)
     refine p_te (p_be (p_tn ?_))
     exact ⟨(by rw [hX67]; rfl), (by rw [hX67]; exact (show 0 ≤ i3 from (by first | omega | (simp only [sS_len, sL_len]; omega) | (simp only [List.length_replicate, sI_len]; omega) | (simp only [List.length_append, List.length_cons, List.length_nil, sI_len, cond_true, cond_false]; omega) | (simp only [List.length_append, List.length_cons, List.length_nil, sI_len, cond_eq_ite, apply_ite List.length]; split <;> simp only [List.length_append, List.length_cons, List.length_nil, sI_len] <;> omega) | grind))), (by rw [hX67]; exact (show i3 ≤ ((clauses).length : Int) from (by first | omega | (simp only [sS_len, sL_len]; omega) | (simp only [List.length_replicate, sI_len]; omega) | (simp only [List.length_append, List.length_cons, List.length_nil, sI_len, cond_true, cond_false]; omega) | (simp only [List.length_append, List.length_cons, List.length_nil, sI_len, cond_eq_ite, apply_ite List.length]; split <;> simp only [List.length_append, List.length_cons, List.length_nil, sI_len] <;> omega) | grind))), (by rw [hX67]; exact (hE66.sub (L' := [(0, .slice clausesA ((clauses).length) clausesC), (3, .int .i64 i3)]) ⟨rfl, rfl, trivial⟩)), (St.pick (Γ' := [.rdn 1 clausesA ((clauses).length) clausesC clausesQ clauses]) hS12 [0] (by decide) rfl)⟩
  ·
   rintro a68 w69 ⟨hO72, hi73, hi74, hE70, hS71⟩; clear hE7 hS1
   refine p_tn ?_
   refine c_seq ?_
   refine c_reg ?_
   refine q_step (v := .bool true) hE70 (y_assign rfl) rfl rfl rfl ?_; intro a75 hE76; clear hE70
   refine c_nil ?_
   have hE77 := hE76.sub (L' := [(2, .bool true)]) ⟨rfl, trivial⟩; clear hE76
   refine p_tn ?_
   refine wp_ret ?_
   have hF : F_l04All clauses = true := by unfold F_l04All; rw [hO72]; first | done | rfl
   refine c_ret1 hE77 rfl rfl ?_
   exact ⟨(by rw [hF]; first | done | (dsimp only; done) | rfl), hS71.ext⟩

theorem idx_key (l : List (List Int)) (p : List Int → Bool) : ∀ (k : Nat) (i : Int), 0 ≤ i → (l.length : Int) - i = (k : Int) →
    decide (0 ≤ (bif isOk (F_z_IndexFuncS_L1 l p (k + 1) i) then (-1 : Int) else errD (F_z_IndexFuncS_L1 l p (k + 1) i))) = !(List.range k).all (fun (j : Nat) => !p (gL l (i + (j : Int)))) := by
  intro k
  induction k with
  | zero =>
    intro i h0 h
    have e : F_z_IndexFuncS_L1 l p (0 + 1) i = .ok i := by
      show F_z_IndexFuncS_L1b l p _ i = _
      unfold F_z_IndexFuncS_L1b
      rw [decide_eq_false (by omega)]; rfl
    rw [e]; rfl
  | succ k ih =>
    intro i h0 h
    have e : F_z_IndexFuncS_L1 l p (k + 1 + 1) i = bif p (gL l i) then .error i else F_z_IndexFuncS_L1 l p (k + 1) (i + 1) := by
      show F_z_IndexFuncS_L1b l p _ i = _
      unfold F_z_IndexFuncS_L1b
      rw [decide_eq_true (by omega)]; rfl
    rw [e, List.range_succ_eq_map, List.all_cons, List.all_map, show i + ((0 : Nat) : Int) = i by omega]
    cases hp : p (gL l i)
    · rw [cond_false, ih (i + 1) (by omega) (by omega), Bool.not_false, Bool.true_and]
      refine congrArg _ (congrArg _ (funext fun j => ?_))
      show _ = !p (gL l (i + ((j + 1 : Nat) : Int)))
      rw [show i + 1 + (j : Int) = i + ((j + 1 : Nat) : Int) by omega]
    · rw [cond_true]
      show decide (0 ≤ i) = _
      rw [decide_eq_true h0]; rfl
theorem containsS_eq (l : List (List Int)) (p : List Int → Bool) : F_z_ContainsFuncS l p = !(List.range l.length).all (fun (j : Nat) => !p (gL l (j : Int))) := by
  unfold F_z_ContainsFuncS F_z_IndexFuncS
  rw [show Int.toNat ((l.length : Int) - 0) = l.length by omega, idx_key l p l.length 0 (by omega) (by omega)]
  simp only [Int.zero_add]
theorem l04All_all (l : List (List Int)) : F_l04All l = (List.range l.length).all (fun (j : Nat) => F_s_IsClause (gL l (j : Int))) := by
  unfold F_l04All
  rw [allE (F_l04All_L1 l) false (l.length : Int) (fun i => !F_s_IsClause (gL l i)) (by omega) (fun r i _ _ => rfl), isOk_bif, errD_bif, bif_tf, Int.toNat_natCast]
  simp only [Bool.not_not]
theorem areClauses_eq (l : List (List Int)) : F_areClauses l = F_l04All l := by
  unfold F_areClauses
  rw [containsS_eq, l04All_all, Bool.not_not]
  refine congrArg _ (funext fun j => ?_)
  show (!(!(F_isClause (gL l (j : Int))))) = _
  rw [Bool.not_not, isClause_eq]
theorem l04All_t {l : List (List Int)} (h : F_l04All l = true) : ∀ m : Int, 0 ≤ m → m < (l.length : Int) → (gL l m).length ≤ 12 ∧ ∀ k : Int, 0 ≤ k → k < ((gL l m).length : Int) → 0 ≤ gI (gL l m) k ∧ gI (gL l m) k ≤ 11 := fun m h0 hm => by
  rw [l04All_all, List.all_eq_true] at h
  have := h m.toNat (List.mem_range.2 (by omega))
  rw [show ((m.toNat : Nat) : Int) = m by omega] at this
  exact s_IsClause_t this
theorem areClauses_t {l : List (List Int)} (h : F_areClauses l = true) : ∀ m : Int, 0 ≤ m → m < (l.length : Int) → (gL l m).length ≤ 12 ∧ ∀ k : Int, 0 ≤ k → k < ((gL l m).length : Int) → 0 ≤ gI (gL l m) k ∧ gI (gL l m) k ≤ 11 := l04All_t (by rw [← areClauses_eq]; exact h)


theorem rowsLe_nil {c : Nat} : ∀ m : Int, 0 ≤ m → m < (([] : List (List Int)).length : Int) → (gL [] m).length ≤ c := fun m h0 h1 => by
  simp at h1; omega
theorem rowsLe_app {l : List (List Int)} {x : List Int} {c : Nat} (h : ∀ m : Int, 0 ≤ m → m < (l.length : Int) → (gL l m).length ≤ c) (hx : x.length ≤ c) : ∀ m : Int, 0 ≤ m → m < ((l ++ [x]).length : Int) → (gL (l ++ [x]) m).length ≤ c := fun m h0 h1 => by
  rw [List.length_append, List.length_singleton] at h1
  by_cases e : m < (l.length : Int)
  · have := h m h0 e
    unfold gL at *
    rw [List.getD_eq_getElem?_getD] at *
    rw [List.getElem?_append_left (by omega)]
    exact this
  · unfold gL
    rw [List.getD_eq_getElem?_getD, List.getElem?_append_right (by omega), show m.toNat - l.length = 0 by omega]
    exact hx
theorem rowsLe_mono {l : List (List Int)} {c d : Nat} (h : ∀ m : Int, 0 ≤ m → m < (l.length : Int) → (gL l m).length ≤ c) (hc : c ≤ d) : ∀ m : Int, 0 ≤ m → m < (l.length : Int) → (gL l m).length ≤ d := fun m h0 h1 => Nat.le_trans (h m h0 h1) hc
theorem app1_len (xss : List (List Int)) (xs : List Int) : (xss ++ [xs]).length = xss.length + 1 := by simp


end Go.Proofs.Ytkilkfhjfobcdaa
