/- GM: models and contracts, printed by wip/gen/gen.py -/
import Derived.Test.YtfilpikakdlgbaaGL
set_option linter.unusedVariables false
set_option linter.unusedSimpArgs false
namespace Go.Proofs.Ytfilpikakdlgbaa
open Go.RowKit

def F_l08Pull_L2b (images : List Int) (values : List Int) (v6 : Int) (rec : Int → Int → Int × Int) (mask7L2 : Int) (x8L2 : Int) : Int × Int :=
  bif (decide (x8L2 < (images.length : Int))) then (rec (bif (F_l01Bit (gI values v6) (gI images x8L2)) then orI mask7L2 (powI x8L2) else mask7L2) (x8L2 + 1)) else (mask7L2, x8L2)
def F_l08Pull_L2 (images : List Int) (values : List Int) (v6 : Int) : Nat → Int → Int → Int × Int
  | 0, mask7L2, x8L2 => (mask7L2, x8L2)
  | r + 1, mask7L2, x8L2 => F_l08Pull_L2b images values v6 (F_l08Pull_L2 images values v6 r) mask7L2 x8L2
def F_l08Pull_L1b (images : List Int) (values : List Int) (rec : (List Int) → Int → (List Int) × Int) (out5 : List Int) (v6 : Int) : (List Int) × Int :=
  bif (decide (v6 < (values.length : Int))) then (rec (out5 ++ ([(F_l08Pull_L2 images values v6 (Int.toNat ((images.length : Int) - 0) + 1) 0 0).1])) (v6 + 1)) else (out5, v6)
def F_l08Pull_L1 (images : List Int) (values : List Int) : Nat → (List Int) → Int → (List Int) × Int
  | 0, out5, v6 => (out5, v6)
  | r + 1, out5, v6 => F_l08Pull_L1b images values (F_l08Pull_L1 images values r) out5 v6
def F_l08Pull (images : List Int) (values : List Int) : List Int :=
  (F_l08Pull_L1 images values (Int.toNat ((values.length : Int) - 0) + 1) ([]) 0).1
theorem cf_l08Pull (args : Array Value) (w : World) : (callFunc 93 args).run Try.prog w = .ok (.enter 93 args) w := by kernel_rfl
set_option maxRecDepth 100000 in
theorem c_l08Pull (imagesA : Option Addr) (imagesN imagesC : Nat) (images : List Int) (valuesA : Option Addr) (valuesN valuesC : Nat) (values : List Int) (w : World) (imagesR : RdS w 1 imagesA imagesN imagesC images) (valuesR : RdS w 1 valuesA valuesN valuesC values) (hl : images.length ≤ 8) (hv : values.length ≤ 1048576) (him : ∀ m : Int, 0 ≤ m → m < (images.length : Int) → 0 ≤ gI images m ∧ gI images m ≤ 7) :
    Calls Try.prog 93 #[.slice imagesA imagesN imagesC, .slice valuesA valuesN valuesC] w (Ret fun v w' => ∃ b1 : Option Addr, ∃ c1 : Nat, v = .slice b1 (F_l08Pull images values).length c1 ∧ OwnS w' w.heap.size 2 1 b1 (F_l08Pull images values).length c1 (F_l08Pull images values) ∧ Ext w w') := by
  obtain rfl : imagesN = images.length := imagesR.len1.symm
  have imagesLe := imagesR.le
  obtain rfl : valuesN = values.length := valuesR.len1.symm
  have valuesLe := valuesR.le
  have hS := St.nil w
  have hS1 := St.rd0 hS rfl imagesR; clear hS
  have hS2 := St.rd0 hS1 rfl valuesR; clear hS1
  refine enter (args := [.slice imagesA images.length imagesC, .slice valuesA values.length valuesC]) Try.func93 rfl rfl ?_
  rw [Try.ntmps93]; intro a hE
  have hE := hE.sub (L' := [(0, .slice imagesA images.length imagesC), (1, .slice valuesA values.length valuesC)]) ⟨rfl, rfl, trivial⟩
  refine c_seq ?_
  refine c_reg ?_
  refine q_step (v := .slice none 0 0) hE (y_assign rfl) rfl rfl rfl ?_; intro a3 hE4; clear hE
  refine c_nil ?_
  have hE5 := hE4.sub (L' := [(0, .slice imagesA images.length imagesC), (1, .slice valuesA values.length valuesC)]) ⟨rfl, rfl, trivial⟩; clear hE4
  refine p_tn ?_
  refine c_seq ?_
  refine c_reg ?_
  refine l_step hE5 rfl (l_lit (e := 2) (s := 1) (xs := []) (vs := []) hS2 hE5 rfl (fun _ => by kernel_rfl) rfl rfl rfl ?_)
  intro b6 w7 hS10 he11 a8 hE9; clear hS2 hE5
  refine q_step (v := .slice (some ⟨b6, 0, none⟩) 0 0) hE9 (y_assign rfl) rfl rfl rfl ?_; intro a12 hE13; clear hE9
  refine c_nil ?_
  have hE14 := hE13.sub (L' := [(0, .slice imagesA images.length imagesC), (1, .slice valuesA values.length valuesC), (5, .slice (some ⟨b6, 0, none⟩) 0 0)]) ⟨rfl, rfl, rfl, trivial⟩; clear hE13
  refine p_tn ?_
  refine c_seq ?_
  refine c_seq ?_
  refine c_reg ?_
  refine q_step (v := .int .i64 0) hE14 (y_assign rfl) rfl rfl rfl ?_; intro a15 hE16; clear hE14
  refine c_nil ?_
  have hE17 := hE16.sub (L' := [(0, .slice imagesA images.length imagesC), (1, .slice valuesA values.length valuesC), (5, .slice (some ⟨b6, 0, none⟩) 0 0), (6, .int .i64 0)]) ⟨rfl, rfl, rfl, rfl, trivial⟩; clear hE16
  refine p_tn ?_
  refine c_cut1 (fun a' w' => ∃ out5A_18 : Option Addr, ∃ out5C_18 : Nat, (0 ≤ ((F_l08Pull_L1 images values (Int.toNat ((values.length : Int) - 0) + 1) ([]) 0).2)) ∧ (((F_l08Pull_L1 images values (Int.toNat ((values.length : Int) - 0) + 1) ([]) 0).2) ≤ (values.length : Int)) ∧ ((((F_l08Pull_L1 images values (Int.toNat ((values.length : Int) - 0) + 1) ([]) 0).1).length : Int) ≤ ((F_l08Pull_L1 images values (Int.toNat ((values.length : Int) - 0) + 1) ([]) 0).2)) ∧ E a' 40 [(0, .slice imagesA images.length imagesC), (1, .slice valuesA values.length valuesC), (5, .slice out5A_18 (((F_l08Pull_L1 images values (Int.toNat ((values.length : Int) - 0) + 1) ([]) 0).1).length) out5C_18), (6, .int .i64 ((F_l08Pull_L1 images values (Int.toNat ((values.length : Int) - 0) + 1) ([]) 0).2))] ∧ St w w' [.own 2 1 out5A_18 (((F_l08Pull_L1 images values (Int.toNat ((values.length : Int) - 0) + 1) ([]) 0).1).length) out5C_18 ((F_l08Pull_L1 images values (Int.toNat ((values.length : Int) - 0) + 1) ([]) 0).1), .rd 1 valuesA values.length valuesC values, .rd 1 imagesA images.length imagesC images]) ?_ ?_
  ·
    refine wp_block ?_
    refine c_loop (fun r a' w' => ∃ out5 : List Int, ∃ v6 : Int, ∃ out5A : Option Addr, ∃ out5C : Nat, F_l08Pull_L1 images values r out5 v6 = F_l08Pull_L1 images values (Int.toNat ((values.length : Int) - 0) + 1) ([]) 0 ∧ Int.toNat ((values.length : Int) - v6) < r ∧ (0 ≤ v6) ∧ (v6 ≤ (values.length : Int)) ∧ ((out5.length : Int) ≤ v6) ∧ E a' 40 [(0, .slice imagesA images.length imagesC), (1, .slice valuesA values.length valuesC), (5, .slice out5A ((out5).length) out5C), (6, .int .i64 v6)] ∧ St w w' [.own 2 1 out5A ((out5).length) out5C out5, .rd 1 valuesA values.length valuesC values, .rd 1 imagesA images.length imagesC images]) (r := (Int.toNat ((values.length : Int) - 0) + 1)) ?_ ?_
    · exact ⟨[], 0, some ⟨b6, 0, none⟩, 0, rfl, Nat.lt_succ_self _, (by first | omega | (simp only [List.length_append, List.length_cons, List.length_nil, sI_len, cond_true, cond_false]; omega) | (simp only [List.length_append, List.length_cons, List.length_nil, sI_len, cond_eq_ite, apply_ite List.length]; split <;> simp only [List.length_append, List.length_cons, List.length_nil, sI_len] <;> omega) | grind), (by first | omega | (simp only [List.length_append, List.length_cons, List.length_nil, sI_len, cond_true, cond_false]; omega) | (simp only [List.length_append, List.length_cons, List.length_nil, sI_len, cond_eq_ite, apply_ite List.length]; split <;> simp only [List.length_append, List.length_cons, List.length_nil, sI_len] <;> omega) | grind), (by first | omega | (simp only [List.length_append, List.length_cons, List.length_nil, sI_len, cond_true, cond_false]; omega) | (simp only [List.length_append, List.length_cons, List.length_nil, sI_len, cond_eq_ite, apply_ite List.length]; split <;> simp only [List.length_append, List.length_cons, List.length_nil, sI_len] <;> omega) | grind), (hE17.sub (L' := [(0, .slice imagesA images.length imagesC), (1, .slice valuesA values.length valuesC), (5, .slice (some ⟨b6, 0, none⟩) 0 0), (6, .int .i64 0)]) ⟨rfl, rfl, rfl, rfl, trivial⟩), (St.pick (Γ' := [.own 2 1 (some ⟨b6, 0, none⟩) 0 0 ([]), .rd 1 valuesA values.length valuesC values, .rd 1 imagesA images.length imagesC images]) hS10 [0, 1, 2] (by decide) rfl)⟩
    ·
      clear hE17 hS10
      rintro r28 a19 w20 ⟨out5, v6, out5A, out5C, hT23, hr24, hi25, hi26, hi27, hE21, hS22⟩
      obtain ⟨r28, rfl⟩ : ∃ r', r28 = r' + 1 := ⟨r28 - 1, by omega⟩
      refine c_seq ?_
      refine c_seq ?_
      refine c_reg ?_
      refine q_step (v := .int .i64 v6) hE21 (y_move rfl) rfl rfl rfl ?_; intro a29 hE30; clear hE21
      refine q_step (v := .slice valuesA values.length valuesC) hE30 (y_move rfl) rfl rfl rfl ?_; intro a31 hE32; clear hE30
      refine q_step (v := .int .i64 (values.length : Int)) hE32 (y_len (e := 2) (by kernel_rfl) rfl) rfl rfl rfl ?_; intro a33 hE34; clear hE32
      refine q_step (v := .bool (decide (v6 < (values.length : Int)))) hE34 (y_lss rfl rfl) rfl rfl rfl ?_; intro a35 hE36; clear hE34
      refine c_nil ?_
      have hE37 := hE36.sub (L' := [(0, .slice imagesA images.length imagesC), (1, .slice valuesA values.length valuesC), (5, .slice out5A ((out5).length) out5C), (6, .int .i64 v6), (13, .bool (decide (v6 < (values.length : Int))))]) ⟨rfl, rfl, rfl, rfl, rfl, trivial⟩; clear hE36
      refine p_tn ?_
      refine c_cond hE37 rfl (fun ht38 => ?_) (fun ht38 => ?_)
      ·
        have hp39 := of_decide_eq_true ht38
        have hE40 := hE37; rw [ht38] at hE40; clear hE37
        refine wp_skip ?_
        refine p_tn ?_
        refine c_seq ?_
        refine wp_block ?_
        refine c_seq ?_
        refine c_reg ?_
        refine q_step (v := .int .i64 0) hE40 (y_assign rfl) rfl rfl rfl ?_; intro a41 hE42; clear hE40
        refine c_nil ?_
        have hE43 := hE42.sub (L' := [(0, .slice imagesA images.length imagesC), (1, .slice valuesA values.length valuesC), (5, .slice out5A ((out5).length) out5C), (6, .int .i64 v6), (7, .int .i64 0)]) ⟨rfl, rfl, rfl, rfl, rfl, trivial⟩; clear hE42
        refine p_tn ?_
        refine c_seq ?_
        refine c_seq ?_
        refine c_reg ?_
        refine q_step (v := .int .i64 0) hE43 (y_assign rfl) rfl rfl rfl ?_; intro a44 hE45; clear hE43
        refine c_nil ?_
        have hE46 := hE45.sub (L' := [(0, .slice imagesA images.length imagesC), (1, .slice valuesA values.length valuesC), (5, .slice out5A ((out5).length) out5C), (6, .int .i64 v6), (7, .int .i64 0), (8, .int .i64 0)]) ⟨rfl, rfl, rfl, rfl, rfl, rfl, trivial⟩; clear hE45
        refine p_tn ?_
        refine c_cut1 (fun a' w' => (0 ≤ ((F_l08Pull_L2 images values v6 (Int.toNat ((images.length : Int) - 0) + 1) 0 0).2)) ∧ (((F_l08Pull_L2 images values v6 (Int.toNat ((images.length : Int) - 0) + 1) 0 0).2) ≤ (images.length : Int)) ∧ E a' 40 [(0, .slice imagesA images.length imagesC), (1, .slice valuesA values.length valuesC), (5, .slice out5A ((out5).length) out5C), (6, .int .i64 v6), (7, .int .i64 ((F_l08Pull_L2 images values v6 (Int.toNat ((images.length : Int) - 0) + 1) 0 0).1)), (8, .int .i64 ((F_l08Pull_L2 images values v6 (Int.toNat ((images.length : Int) - 0) + 1) 0 0).2))] ∧ St w w' [.own 2 1 out5A ((out5).length) out5C out5, .rd 1 valuesA values.length valuesC values, .rd 1 imagesA images.length imagesC images]) ?_ ?_
        ·
          refine wp_block ?_
          refine c_loop (fun r a' w' => ∃ mask7L2 : Int, ∃ x8L2 : Int, F_l08Pull_L2 images values v6 r mask7L2 x8L2 = F_l08Pull_L2 images values v6 (Int.toNat ((images.length : Int) - 0) + 1) 0 0 ∧ Int.toNat ((images.length : Int) - x8L2) < r ∧ (0 ≤ x8L2) ∧ (x8L2 ≤ (images.length : Int)) ∧ E a' 40 [(0, .slice imagesA images.length imagesC), (1, .slice valuesA values.length valuesC), (5, .slice out5A ((out5).length) out5C), (6, .int .i64 v6), (7, .int .i64 mask7L2), (8, .int .i64 x8L2)] ∧ St w w' [.own 2 1 out5A ((out5).length) out5C out5, .rd 1 valuesA values.length valuesC values, .rd 1 imagesA images.length imagesC images]) (r := (Int.toNat ((images.length : Int) - 0) + 1)) ?_ ?_
          · exact ⟨0, 0, rfl, Nat.lt_succ_self _, (by first | omega | (simp only [List.length_append, List.length_cons, List.length_nil, sI_len, cond_true, cond_false]; omega) | (simp only [List.length_append, List.length_cons, List.length_nil, sI_len, cond_eq_ite, apply_ite List.length]; split <;> simp only [List.length_append, List.length_cons, List.length_nil, sI_len] <;> omega) | grind), (by first | omega | (simp only [List.length_append, List.length_cons, List.length_nil, sI_len, cond_true, cond_false]; omega) | (simp only [List.length_append, List.length_cons, List.length_nil, sI_len, cond_eq_ite, apply_ite List.length]; split <;> simp only [List.length_append, List.length_cons, List.length_nil, sI_len] <;> omega) | grind), (hE46.sub (L' := [(0, .slice imagesA images.length imagesC), (1, .slice valuesA values.length valuesC), (5, .slice out5A ((out5).length) out5C), (6, .int .i64 v6), (7, .int .i64 0), (8, .int .i64 0)]) ⟨rfl, rfl, rfl, rfl, rfl, rfl, trivial⟩), (St.pick (Γ' := [.own 2 1 out5A ((out5).length) out5C out5, .rd 1 valuesA values.length valuesC values, .rd 1 imagesA images.length imagesC images]) hS22 [0, 1, 2] (by decide) rfl)⟩
          ·
            clear hE46 hS22
            rintro r56 a48 w49 ⟨mask7L2, x8L2, hT52, hr53, hi54, hi55, hE50, hS51⟩
            obtain ⟨r56, rfl⟩ : ∃ r', r56 = r' + 1 := ⟨r56 - 1, by omega⟩
            refine c_seq ?_
            refine c_seq ?_
            refine c_reg ?_
            refine q_step (v := .int .i64 x8L2) hE50 (y_move rfl) rfl rfl rfl ?_; intro a57 hE58; clear hE50
            refine q_step (v := .slice imagesA images.length imagesC) hE58 (y_move rfl) rfl rfl rfl ?_; intro a59 hE60; clear hE58
            refine q_step (v := .int .i64 (images.length : Int)) hE60 (y_len (e := 2) (by kernel_rfl) rfl) rfl rfl rfl ?_; intro a61 hE62; clear hE60
            refine q_step (v := .bool (decide (x8L2 < (images.length : Int)))) hE62 (y_lss rfl rfl) rfl rfl rfl ?_; intro a63 hE64; clear hE62
            refine c_nil ?_
            have hE65 := hE64.sub (L' := [(0, .slice imagesA images.length imagesC), (1, .slice valuesA values.length valuesC), (5, .slice out5A ((out5).length) out5C), (6, .int .i64 v6), (7, .int .i64 mask7L2), (8, .int .i64 x8L2), (19, .bool (decide (x8L2 < (images.length : Int))))]) ⟨rfl, rfl, rfl, rfl, rfl, rfl, rfl, trivial⟩; clear hE64
            refine p_tn ?_
            refine c_cond hE65 rfl (fun ht66 => ?_) (fun ht66 => ?_)
            ·
              have hp67 := of_decide_eq_true ht66
              have hE68 := hE65; rw [ht66] at hE68; clear hE65
              have hx1 := him x8L2 (by omega) (by omega)
              refine wp_skip ?_
              refine p_tn ?_
              refine c_cut (fun a' w' => E a' 40 [(0, .slice imagesA images.length imagesC), (1, .slice valuesA values.length valuesC), (5, .slice out5A ((out5).length) out5C), (6, .int .i64 v6), (7, .int .i64 (bif (F_l01Bit (gI values v6) (gI images x8L2)) then orI mask7L2 (powI x8L2) else mask7L2)), (8, .int .i64 x8L2)] ∧ St w w' [.own 2 1 out5A ((out5).length) out5C out5, .rd 1 valuesA values.length valuesC values, .rd 1 imagesA images.length imagesC images]) ?_ ?_
              ·
                refine wp_block ?_
                refine c_seq ?_
                refine d_start (fun w' => w'.cell? (adr valuesA (Int.toNat v6)) = some (.int .i64 (gI values v6)) ∧ w'.cell? (adr imagesA (Int.toNat x8L2)) = some (.int .i64 (gI images x8L2)) ∧ True) [3, 7] 9 (by kernel_rfl) rfl ?_
                intro w69 he70; have hS71 := St.go hS51 he70; clear hS51
                refine d_pure (v := .slice valuesA values.length valuesC) 0 rfl hE68 (y_move rfl) rfl (by kernel_rfl) (by kernel_rfl) (by kernel_rfl) rfl rfl (fun _ _ _ h => h) ?_; intro a72 hE73; clear hE68
                refine d_pure (v := .int .i64 v6) 1 rfl hE73 (y_move rfl) rfl (by kernel_rfl) (by kernel_rfl) (by kernel_rfl) rfl rfl (fun _ _ _ h => h) ?_; intro a74 hE75; clear hE73
                refine d_pure (v := .pointer (some (adr valuesA (Int.toNat v6)))) 2 rfl hE75 (y_idx (by kernel_rfl) (fun _ => by kernel_rfl) rfl rfl (RdS.isS (m := v6) (St.rdR (i := 1) hS71 rfl) (by omega) (by omega)) (by omega) (by omega) (Nat.mul_one _).symm) rfl (by kernel_rfl) (by kernel_rfl) (by kernel_rfl) rfl rfl (fun _ _ _ h => h) ?_; intro a76 hE77; clear hE75
                refine d_take (v := .int .i64 (gI values v6)) 3 rfl hE77 ⟨(RdS.elt (St.rdR (i := 1) hS71 rfl) (by omega) (by omega) _ (Ext.refl _)), (RdS.elt (St.rdR (i := 2) hS71 rfl) (by omega) (by omega) _ (Ext.refl _)), trivial⟩ (y_load (fun _ => by kernel_rfl) rfl (fun _ h => h.1)) rfl rfl (by kernel_rfl) (by kernel_rfl) (by kernel_rfl) rfl rfl (fun _ _ _ h => h) ?_; intro a78 hE79; clear hE77
                refine d_pure (v := .slice imagesA images.length imagesC) 4 rfl hE79 (y_move rfl) rfl (by kernel_rfl) (by kernel_rfl) (by kernel_rfl) rfl rfl (fun _ _ _ h => h) ?_; intro a80 hE81; clear hE79
                refine d_pure (v := .int .i64 x8L2) 5 rfl hE81 (y_move rfl) rfl (by kernel_rfl) (by kernel_rfl) (by kernel_rfl) rfl rfl (fun _ _ _ h => h) ?_; intro a82 hE83; clear hE81
                refine d_pure (v := .pointer (some (adr imagesA (Int.toNat x8L2)))) 6 rfl hE83 (y_idx (by kernel_rfl) (fun _ => by kernel_rfl) rfl rfl (RdS.isS (m := x8L2) (St.rdR (i := 2) hS71 rfl) (by omega) (by omega)) (by omega) (by omega) (Nat.mul_one _).symm) rfl (by kernel_rfl) (by kernel_rfl) (by kernel_rfl) rfl rfl (fun _ _ _ h => h) ?_; intro a84 hE85; clear hE83
                refine d_take (v := .int .i64 (gI images x8L2)) 7 rfl hE85 ⟨(RdS.elt (St.rdR (i := 1) hS71 rfl) (by omega) (by omega) _ (Ext.refl _)), (RdS.elt (St.rdR (i := 2) hS71 rfl) (by omega) (by omega) _ (Ext.refl _)), trivial⟩ (y_load (fun _ => by kernel_rfl) rfl (fun _ h => h.2.1)) rfl rfl (by kernel_rfl) (by kernel_rfl) (by kernel_rfl) rfl rfl (fun _ _ _ h => h) ?_; intro a86 hE87; clear hE85
                refine d_only 8 (by kernel_rfl) rfl hE87 rfl (l_call (f := 86) (argv := [.int .i64 (gI values v6), .int .i64 (gI images x8L2)]) hE87 (fun _ => cf_l01Bit _ _) rfl rfl (c_l01Bit (gI values v6) (gI images x8L2) w69 (by omega) (by omega)) ?_)
                rintro _ _ ⟨rfl, rfl⟩ a90 hE91; clear hE87
                refine ⟨fun h => Bool.noConfusion (h.symm.trans (show exm _ _ _ = true by kernel_rfl)), ?_⟩
                refine d_done (by kernel_rfl) ?_
                have hE94 := hE91.sub (L' := [(0, .slice imagesA images.length imagesC), (1, .slice valuesA values.length valuesC), (5, .slice out5A ((out5).length) out5C), (6, .int .i64 v6), (7, .int .i64 mask7L2), (8, .int .i64 x8L2), (30, .bool (F_l01Bit (gI values v6) (gI images x8L2)))]) ⟨rfl, rfl, rfl, rfl, rfl, rfl, rfl, trivial⟩; clear hE91
                refine p_tn ?_
                refine c_cond hE94 rfl (fun ht95 => ?_) (fun ht95 => ?_)
                ·
                  have hE96 := hE94; rw [ht95] at hE96; clear hE94
                  refine c_reg ?_
                  refine q_step (v := .int .i64 mask7L2) hE96 (y_move rfl) rfl rfl rfl ?_; intro a97 hE98; clear hE96
                  refine q_step (v := .int .i64 x8L2) hE98 (y_move rfl) rfl rfl rfl ?_; intro a99 hE100; clear hE98
                  refine l_step hE100 rfl (l_call (f := 115) (argv := [.int .i64 x8L2]) hE100 (fun _ => cf_l01One _ _) rfl rfl (d_l01One x8L2 w69 (by omega) (by omega)) ?_)
                  rintro _ _ ⟨rfl, rfl⟩ a103 hE104; clear hE100
                  refine q_step (v := .int .i64 (orI mask7L2 (powI x8L2))) hE104 (y_or rfl rfl) rfl rfl rfl ?_; intro a107 hE108; clear hE104
                  refine q_step (v := .int .i64 (orI mask7L2 (powI x8L2))) hE108 (y_assign rfl) rfl rfl rfl ?_; intro a109 hE110; clear hE108
                  refine c_nil ?_
                  have hE111 := hE110.sub (L' := [(0, .slice imagesA images.length imagesC), (1, .slice valuesA values.length valuesC), (5, .slice out5A ((out5).length) out5C), (6, .int .i64 v6), (7, .int .i64 (orI mask7L2 (powI x8L2))), (8, .int .i64 x8L2)]) ⟨rfl, rfl, rfl, rfl, rfl, rfl, trivial⟩; clear hE110
                  refine p_bn ?_
                  refine p_tn ?_
                  have hE112 := hE111.sub (L' := [(0, .slice imagesA images.length imagesC), (1, .slice valuesA values.length valuesC), (5, .slice out5A ((out5).length) out5C), (6, .int .i64 v6), (7, .int .i64 (orI mask7L2 (powI x8L2))), (8, .int .i64 x8L2)]) ⟨rfl, rfl, rfl, rfl, rfl, rfl, trivial⟩
                  have hS113 := (St.pick (Γ' := [.own 2 1 out5A ((out5).length) out5C out5, .rd 1 valuesA values.length valuesC values, .rd 1 imagesA images.length imagesC images]) hS71 [0, 1, 2] (by decide) rfl)
                  exact ⟨(by rw [ht95]; exact hE112), hS113⟩
                ·
                  have hE114 := hE94; rw [ht95] at hE114; clear hE94
                  refine wp_skip ?_
                  refine p_bn ?_
                  refine p_tn ?_
                  have hE115 := hE114.sub (L' := [(0, .slice imagesA images.length imagesC), (1, .slice valuesA values.length valuesC), (5, .slice out5A ((out5).length) out5C), (6, .int .i64 v6), (7, .int .i64 mask7L2), (8, .int .i64 x8L2)]) ⟨rfl, rfl, rfl, rfl, rfl, rfl, trivial⟩
                  have hS116 := (St.pick (Γ' := [.own 2 1 out5A ((out5).length) out5C out5, .rd 1 valuesA values.length valuesC values, .rd 1 imagesA images.length imagesC images]) hS71 [0, 1, 2] (by decide) rfl)
                  exact ⟨(by rw [ht95]; exact hE115), hS116⟩
              ·
                rintro a117 w118 ⟨hE119, hS120⟩; clear hE68 hS51
                refine c_reg ?_
                refine q_step (v := .int .i64 x8L2) hE119 (y_move rfl) rfl rfl rfl ?_; intro a121 hE122; clear hE119
                refine q_step (v := .int .i64 (x8L2 + 1)) hE122 (y_add rfl rfl ⟨(by omega), (by omega)⟩) rfl rfl rfl ?_; intro a123 hE124; clear hE122
                refine q_step (v := .int .i64 (x8L2 + 1)) hE124 (y_assign rfl) rfl rfl rfl ?_; intro a125 hE126; clear hE124
                refine c_nil ?_
                have hE127 := hE126.sub (L' := [(0, .slice imagesA images.length imagesC), (1, .slice valuesA values.length valuesC), (5, .slice out5A ((out5).length) out5C), (6, .int .i64 v6), (7, .int .i64 (bif (F_l01Bit (gI values v6) (gI images x8L2)) then orI mask7L2 (powI x8L2) else mask7L2)), (8, .int .i64 (x8L2 + 1))]) ⟨rfl, rfl, rfl, rfl, rfl, rfl, trivial⟩; clear hE126
                refine p_tn ⟨r56, Nat.lt_succ_self _, bif (F_l01Bit (gI values v6) (gI images x8L2)) then orI mask7L2 (powI x8L2) else mask7L2, x8L2 + 1, (hT52.symm.trans (show F_l08Pull_L2b images values v6 (F_l08Pull_L2 images values v6 r56) mask7L2 x8L2 = F_l08Pull_L2 images values v6 r56 (bif (F_l01Bit (gI values v6) (gI images x8L2)) then orI mask7L2 (powI x8L2) else mask7L2) (x8L2 + 1) by unfold F_l08Pull_L2b; rw [ht66]; first | done | rfl)).symm, (by omega), (by first | omega | (simp only [List.length_append, List.length_cons, List.length_nil, sI_len, cond_true, cond_false]; omega) | (simp only [List.length_append, List.length_cons, List.length_nil, sI_len, cond_eq_ite, apply_ite List.length]; split <;> simp only [List.length_append, List.length_cons, List.length_nil, sI_len] <;> omega) | grind), (by first | omega | (simp only [List.length_append, List.length_cons, List.length_nil, sI_len, cond_true, cond_false]; omega) | (simp only [List.length_append, List.length_cons, List.length_nil, sI_len, cond_eq_ite, apply_ite List.length]; split <;> simp only [List.length_append, List.length_cons, List.length_nil, sI_len] <;> omega) | grind), (hE127.sub (L' := [(0, .slice imagesA images.length imagesC), (1, .slice valuesA values.length valuesC), (5, .slice out5A ((out5).length) out5C), (6, .int .i64 v6), (7, .int .i64 (bif (F_l01Bit (gI values v6) (gI images x8L2)) then orI mask7L2 (powI x8L2) else mask7L2)), (8, .int .i64 (x8L2 + 1))]) ⟨rfl, rfl, rfl, rfl, rfl, rfl, trivial⟩), (St.pick (Γ' := [.own 2 1 out5A ((out5).length) out5C out5, .rd 1 valuesA values.length valuesC values, .rd 1 imagesA images.length imagesC images]) hS120 [0, 1, 2] (by decide) rfl)⟩
            ·
              have hp128 := of_decide_eq_false ht66
              have hE129 := hE65; rw [ht66] at hE129; clear hE65
              refine wp_exit ?_
              refine p_te ?_
              have hX130 : F_l08Pull_L2 images values v6 (Int.toNat ((images.length : Int) - 0) + 1) 0 0 = (mask7L2, x8L2) := hT52.symm.trans (show F_l08Pull_L2b images values v6 (F_l08Pull_L2 images values v6 r56) mask7L2 x8L2 = (mask7L2, x8L2) by unfold F_l08Pull_L2b; rw [ht66]; first | done | rfl)
              refine p_te (p_be (p_tn ?_))
              exact ⟨(by rw [hX130]; exact (show 0 ≤ x8L2 from (by first | omega | (simp only [List.length_append, List.length_cons, List.length_nil, sI_len, cond_true, cond_false]; omega) | (simp only [List.length_append, List.length_cons, List.length_nil, sI_len, cond_eq_ite, apply_ite List.length]; split <;> simp only [List.length_append, List.length_cons, List.length_nil, sI_len] <;> omega) | grind))), (by rw [hX130]; exact (show x8L2 ≤ (images.length : Int) from (by first | omega | (simp only [List.length_append, List.length_cons, List.length_nil, sI_len, cond_true, cond_false]; omega) | (simp only [List.length_append, List.length_cons, List.length_nil, sI_len, cond_eq_ite, apply_ite List.length]; split <;> simp only [List.length_append, List.length_cons, List.length_nil, sI_len] <;> omega) | grind))), (by rw [hX130]; exact (hE129.sub (L' := [(0, .slice imagesA images.length imagesC), (1, .slice valuesA values.length valuesC), (5, .slice out5A ((out5).length) out5C), (6, .int .i64 v6), (7, .int .i64 mask7L2), (8, .int .i64 x8L2)]) ⟨rfl, rfl, rfl, rfl, rfl, rfl, trivial⟩)), (St.pick (Γ' := [.own 2 1 out5A ((out5).length) out5C out5, .rd 1 valuesA values.length valuesC values, .rd 1 imagesA images.length imagesC images]) hS51 [0, 1, 2] (by decide) rfl)⟩
        ·
          rintro a131 w132 ⟨hi136, hi137, hE133, hS134⟩; clear hE46 hS22
          refine p_tn ?_
          refine c_reg ?_
          refine q_step (v := .slice out5A ((out5).length) out5C) hE133 (y_move rfl) rfl rfl rfl ?_; intro a138 hE139; clear hE133
          refine q_step (v := .int .i64 ((F_l08Pull_L2 images values v6 (Int.toNat ((images.length : Int) - 0) + 1) 0 0).1)) hE139 (y_move rfl) rfl rfl rfl ?_; intro a140 hE141; clear hE139
          refine l_step hE141 rfl (l_lit (e := 2) (s := 1) (xs := [(F_l08Pull_L2 images values v6 (Int.toNat ((images.length : Int) - 0) + 1) 0 0).1]) (vs := [.int .i64 ((F_l08Pull_L2 images values v6 (Int.toNat ((images.length : Int) - 0) + 1) 0 0).1)]) hS134 hE141 rfl (fun _ => by kernel_rfl) rfl rfl rfl ?_)
          intro b142 w143 hS146 he147 a144 hE145; clear hS134 hE141
          obtain ⟨_, hi1, hi2, hi3, hi4⟩ := info_parts (show (Try.prog.info? 2).map (fun i => (i.zero, i.size, i.bytes)) = some (some (.int .i64 0), 1, 8) by kernel_rfl)
          refine l_step hE145 rfl (l_append (k := 1) (n' := (out5 ++ ([(F_l08Pull_L2 images values v6 (Int.toNat ((images.length : Int) - 0) + 1) 0 0).1])).length) hS146 hE145 (by kernel_rfl) hi1 hi2 hi3 rfl (by decide) (by rw [hi4]; decide) rfl rfl rfl (St.rdO (i := 0) hS146 rfl) (by first | omega | (simp only [List.length_append, List.length_cons, List.length_nil]; omega)) (by have h1 := (St.rdO (i := 1) hS146 rfl).len1; have h2 := (St.rdO (i := 0) hS146 rfl).len1; rw [List.length_append, h1, h2]) rfl ?_)
          intro b148 c154 w149 hS152 a150 hE151; clear hS146 hE145 hi1 hi2 hi3 hi4
          refine q_step (v := .slice b148 ((out5 ++ ([(F_l08Pull_L2 images values v6 (Int.toNat ((images.length : Int) - 0) + 1) 0 0).1])).length) c154) hE151 (y_assign rfl) rfl rfl rfl ?_; intro a155 hE156; clear hE151
          refine c_nil ?_
          have hE157 := hE156.sub (L' := [(0, .slice imagesA images.length imagesC), (1, .slice valuesA values.length valuesC), (5, .slice b148 ((out5 ++ ([(F_l08Pull_L2 images values v6 (Int.toNat ((images.length : Int) - 0) + 1) 0 0).1])).length) c154), (6, .int .i64 v6)]) ⟨rfl, rfl, rfl, rfl, trivial⟩; clear hE156
          refine p_bn ?_
          refine p_tn ?_
          refine c_reg ?_
          refine q_step (v := .int .i64 v6) hE157 (y_move rfl) rfl rfl rfl ?_; intro a158 hE159; clear hE157
          refine q_step (v := .int .i64 (v6 + 1)) hE159 (y_add rfl rfl ⟨(by omega), (by omega)⟩) rfl rfl rfl ?_; intro a160 hE161; clear hE159
          refine q_step (v := .int .i64 (v6 + 1)) hE161 (y_assign rfl) rfl rfl rfl ?_; intro a162 hE163; clear hE161
          refine c_nil ?_
          have hE164 := hE163.sub (L' := [(0, .slice imagesA images.length imagesC), (1, .slice valuesA values.length valuesC), (5, .slice b148 ((out5 ++ ([(F_l08Pull_L2 images values v6 (Int.toNat ((images.length : Int) - 0) + 1) 0 0).1])).length) c154), (6, .int .i64 (v6 + 1))]) ⟨rfl, rfl, rfl, rfl, trivial⟩; clear hE163
          refine p_tn ⟨r28, Nat.lt_succ_self _, out5 ++ ([(F_l08Pull_L2 images values v6 (Int.toNat ((images.length : Int) - 0) + 1) 0 0).1]), v6 + 1, b148, c154, (hT23.symm.trans (show F_l08Pull_L1b images values (F_l08Pull_L1 images values r28) out5 v6 = F_l08Pull_L1 images values r28 (out5 ++ ([(F_l08Pull_L2 images values v6 (Int.toNat ((images.length : Int) - 0) + 1) 0 0).1])) (v6 + 1) by unfold F_l08Pull_L1b; rw [ht38]; first | done | rfl)).symm, (by omega), (by first | omega | (simp only [List.length_append, List.length_cons, List.length_nil, sI_len, cond_true, cond_false]; omega) | (simp only [List.length_append, List.length_cons, List.length_nil, sI_len, cond_eq_ite, apply_ite List.length]; split <;> simp only [List.length_append, List.length_cons, List.length_nil, sI_len] <;> omega) | grind), (by first | omega | (simp only [List.length_append, List.length_cons, List.length_nil, sI_len, cond_true, cond_false]; omega) | (simp only [List.length_append, List.length_cons, List.length_nil, sI_len, cond_eq_ite, apply_ite List.length]; split <;> simp only [List.length_append, List.length_cons, List.length_nil, sI_len] <;> omega) | grind), (by first | omega | (simp only [List.length_append, List.length_cons, List.length_nil, sI_len, cond_true, cond_false]; omega) | (simp only [List.length_append, List.length_cons, List.length_nil, sI_len, cond_eq_ite, apply_ite List.length]; split <;> simp only [List.length_append, List.length_cons, List.length_nil, sI_len] <;> omega) | grind), (hE164.sub (L' := [(0, .slice imagesA images.length imagesC), (1, .slice valuesA values.length valuesC), (5, .slice b148 ((out5 ++ ([(F_l08Pull_L2 images values v6 (Int.toNat ((images.length : Int) - 0) + 1) 0 0).1])).length) c154), (6, .int .i64 (v6 + 1))]) ⟨rfl, rfl, rfl, rfl, trivial⟩), (St.pick (Γ' := [.own 2 1 b148 ((out5 ++ ([(F_l08Pull_L2 images values v6 (Int.toNat ((images.length : Int) - 0) + 1) 0 0).1])).length) c154 (out5 ++ ([(F_l08Pull_L2 images values v6 (Int.toNat ((images.length : Int) - 0) + 1) 0 0).1])), .rd 1 valuesA values.length valuesC values, .rd 1 imagesA images.length imagesC images]) hS152 [1, 2, 3] (by decide) rfl)⟩
      ·
        have hp165 := of_decide_eq_false ht38
        have hE166 := hE37; rw [ht38] at hE166; clear hE37
        refine wp_exit ?_
        refine p_te ?_
        have hX167 : F_l08Pull_L1 images values (Int.toNat ((values.length : Int) - 0) + 1) ([]) 0 = (out5, v6) := hT23.symm.trans (show F_l08Pull_L1b images values (F_l08Pull_L1 images values r28) out5 v6 = (out5, v6) by unfold F_l08Pull_L1b; rw [ht38]; first | done | rfl)
        refine p_te (p_be (p_tn ?_))
        exact ⟨out5A, out5C, (by rw [hX167]; exact (show 0 ≤ v6 from (by first | omega | (simp only [List.length_append, List.length_cons, List.length_nil, sI_len, cond_true, cond_false]; omega) | (simp only [List.length_append, List.length_cons, List.length_nil, sI_len, cond_eq_ite, apply_ite List.length]; split <;> simp only [List.length_append, List.length_cons, List.length_nil, sI_len] <;> omega) | grind))), (by rw [hX167]; exact (show v6 ≤ (values.length : Int) from (by first | omega | (simp only [List.length_append, List.length_cons, List.length_nil, sI_len, cond_true, cond_false]; omega) | (simp only [List.length_append, List.length_cons, List.length_nil, sI_len, cond_eq_ite, apply_ite List.length]; split <;> simp only [List.length_append, List.length_cons, List.length_nil, sI_len] <;> omega) | grind))), (by rw [hX167]; exact (show (out5.length : Int) ≤ v6 from (by first | omega | (simp only [List.length_append, List.length_cons, List.length_nil, sI_len, cond_true, cond_false]; omega) | (simp only [List.length_append, List.length_cons, List.length_nil, sI_len, cond_eq_ite, apply_ite List.length]; split <;> simp only [List.length_append, List.length_cons, List.length_nil, sI_len] <;> omega) | grind))), (by rw [hX167]; exact (hE166.sub (L' := [(0, .slice imagesA images.length imagesC), (1, .slice valuesA values.length valuesC), (5, .slice out5A ((out5).length) out5C), (6, .int .i64 v6)]) ⟨rfl, rfl, rfl, rfl, trivial⟩)), (by rw [hX167]; exact (St.pick (Γ' := [.own 2 1 out5A ((out5).length) out5C out5, .rd 1 valuesA values.length valuesC values, .rd 1 imagesA images.length imagesC images]) hS22 [0, 1, 2] (by decide) rfl))⟩
  ·
    rintro a168 w169 ⟨out5A_18, out5C_18, hi173, hi174, hi175, hE170, hS171⟩; clear hE17 hS10
    refine p_tn ?_
    refine c_seq ?_
    refine c_reg ?_
    refine q_step (v := .slice out5A_18 (((F_l08Pull_L1 images values (Int.toNat ((values.length : Int) - 0) + 1) ([]) 0).1).length) out5C_18) hE170 (y_move rfl) rfl rfl rfl ?_; intro a176 hE177; clear hE170
    refine q_step (v := .slice out5A_18 (((F_l08Pull_L1 images values (Int.toNat ((values.length : Int) - 0) + 1) ([]) 0).1).length) out5C_18) hE177 (y_assign rfl) rfl rfl rfl ?_; intro a178 hE179; clear hE177
    refine c_nil ?_
    have hE180 := hE179.sub (L' := [(4, .slice out5A_18 (((F_l08Pull_L1 images values (Int.toNat ((values.length : Int) - 0) + 1) ([]) 0).1).length) out5C_18)]) ⟨rfl, trivial⟩; clear hE179
    refine p_tn ?_
    refine wp_ret ?_
    have hF : F_l08Pull images values = (F_l08Pull_L1 images values (Int.toNat ((values.length : Int) - 0) + 1) ([]) 0).1 := by unfold F_l08Pull; rfl
    refine c_ret1 hE180 rfl rfl ?_
    exact ⟨out5A_18, out5C_18, (by rw [hF]; first | done | rfl), (by rw [hF]; exact hS171.ok 0 _ rfl), hS171.ext⟩

def F_s_PullValues (f0 : Int) (f1 : List Int) (g0 : Int) (g1 : List Int) (images : List Int) (values : List Int) : (List Int) × (Int) :=
  bif ((!decide ((F_l08Code f0 f1 g0 g1 images) = 0)) || (!(F_l01Masks g0 values))) then ([], 1) else (F_l08Pull images values, 0)
theorem cf_s_PullValues (args : Array Value) (w : World) : (callFunc 50 args).run Try.prog w = .ok (.enter 50 args) w := by kernel_rfl
set_option maxRecDepth 100000 in
theorem c_s_PullValues (f0 : Int) (f1A : Option Addr) (f1N f1C : Nat) (f1 : List Int) (g0 : Int) (g1A : Option Addr) (g1N g1C : Nat) (g1 : List Int) (imagesA : Option Addr) (imagesN imagesC : Nat) (images : List Int) (valuesA : Option Addr) (valuesN valuesC : Nat) (values : List Int) (w : World) (f1R : RdS w 1 f1A f1N f1C f1) (g1R : RdS w 1 g1A g1N g1C g1) (imagesR : RdS w 1 imagesA imagesN imagesC images) (valuesR : RdS w 1 valuesA valuesN valuesC values) (hv : values.length ≤ 1048576) :
    Calls Try.prog 50 #[.agg #[.int .i64 f0, .slice f1A f1N f1C], .agg #[.int .i64 g0, .slice g1A g1N g1C], .slice imagesA imagesN imagesC, .slice valuesA valuesN valuesC] w (Ret fun v w' => ∃ b1 : Option Addr, ∃ c1 : Nat, v = .tuple #[.slice b1 ((F_s_PullValues f0 f1 g0 g1 images values).1).length c1, .int .i64 ((F_s_PullValues f0 f1 g0 g1 images values).2)] ∧ OwnS w' w.heap.size 2 1 b1 ((F_s_PullValues f0 f1 g0 g1 images values).1).length c1 ((F_s_PullValues f0 f1 g0 g1 images values).1) ∧ Ext w w') := by
  obtain rfl : f1N = f1.length := f1R.len1.symm
  have f1Le := f1R.le
  obtain rfl : g1N = g1.length := g1R.len1.symm
  have g1Le := g1R.le
  obtain rfl : imagesN = images.length := imagesR.len1.symm
  have imagesLe := imagesR.le
  obtain rfl : valuesN = values.length := valuesR.len1.symm
  have valuesLe := valuesR.le
  have hS := St.nil w
  have hS1 := St.rd0 hS rfl f1R; clear hS
  have hS2 := St.rd0 hS1 rfl g1R; clear hS1
  have hS3 := St.rd0 hS2 rfl imagesR; clear hS2
  have hS4 := St.rd0 hS3 rfl valuesR; clear hS3
  refine enter (args := [.agg #[.int .i64 f0, .slice f1A f1.length f1C], .agg #[.int .i64 g0, .slice g1A g1.length g1C], .slice imagesA images.length imagesC, .slice valuesA values.length valuesC]) Try.func50 rfl rfl ?_
  rw [Try.ntmps50]; intro a hE
  have hE := hE.sub (L' := [(0, .agg #[.int .i64 f0, .slice f1A f1.length f1C]), (1, .agg #[.int .i64 g0, .slice g1A g1.length g1C]), (2, .slice imagesA images.length imagesC), (3, .slice valuesA values.length valuesC)]) ⟨rfl, rfl, rfl, rfl, trivial⟩
  refine c_seq ?_
  refine c_reg ?_
  refine l_step hE rfl (l_box (v := .agg #[.int .i64 f0, .slice f1A f1.length f1C]) (cs := #[.int .i64 f0, .slice f1A f1.length f1C]) hS4 hE rfl rfl rfl ?_)
  intro b5 w6 hS9 he10 a7 hE8; clear hS4 hE
  refine l_step hE8 rfl (l_box (v := .agg #[.int .i64 g0, .slice g1A g1.length g1C]) (cs := #[.int .i64 g0, .slice g1A g1.length g1C]) hS9 hE8 rfl rfl rfl ?_)
  intro b11 w12 hS15 he16 a13 hE14; clear hS9 hE8
  refine q_step (v := .slice none 0 0) hE14 (y_assign rfl) rfl rfl rfl ?_; intro a17 hE18; clear hE14
  refine q_step (v := .int .i64 0) hE18 (y_assign rfl) rfl rfl rfl ?_; intro a19 hE20; clear hE18
  refine c_nil ?_
  have hE21 := hE20.sub (L' := [(2, .slice imagesA images.length imagesC), (3, .slice valuesA values.length valuesC), (4, .pointer (some ⟨b5, 0, none⟩)), (5, .pointer (some ⟨b11, 0, none⟩))]) ⟨rfl, rfl, rfl, rfl, trivial⟩; clear hE20
  refine p_tn ?_
  refine c_seq ?_
  refine c_cut (fun a' w' => E a' 25 [(2, .slice imagesA images.length imagesC), (3, .slice valuesA values.length valuesC), (21, .bool ((!decide ((F_l08Code f0 f1 g0 g1 images) = 0)) || (!(F_l01Masks g0 values))))] ∧ St w w' [.rd 1 g1A g1.length g1C g1, .blk b11 #[.int .i64 g0, .slice g1A g1.length g1C] 53, .rd 1 f1A f1.length f1C f1, .blk b5 #[.int .i64 f0, .slice f1A f1.length f1C] 53, .rd 1 valuesA values.length valuesC values, .rd 1 imagesA images.length imagesC images]) ?_ ?_
  ·
    refine c_reg ?_
    refine q_step (v := .agg #[.int .i64 f0, .slice f1A f1.length f1C]) hE21 (y_loadS Try.underlying53 rfl (by kernel_rfl) rfl (St.row (i := 1) hS15 rfl)) rfl rfl rfl ?_; intro a22 hE23; clear hE21
    refine q_step (v := .agg #[.int .i64 g0, .slice g1A g1.length g1C]) hE23 (y_loadS Try.underlying53 rfl (by kernel_rfl) rfl (St.row (i := 0) hS15 rfl)) rfl rfl rfl ?_; intro a24 hE25; clear hE23
    refine q_step (v := .slice imagesA images.length imagesC) hE25 (y_move rfl) rfl rfl rfl ?_; intro a26 hE27; clear hE25
    refine l_step hE27 rfl (l_call (f := 89) (argv := [.agg #[.int .i64 f0, .slice f1A f1.length f1C], .agg #[.int .i64 g0, .slice g1A g1.length g1C], .slice imagesA images.length imagesC]) hE27 (fun _ => cf_l08Code _ _) rfl rfl (c_l08Code f0 f1A f1.length f1C f1 g0 g1A g1.length g1C g1 imagesA images.length imagesC images w12 (St.rdR (i := 5) hS15 rfl) (St.rdR (i := 4) hS15 rfl) (St.rdR (i := 3) hS15 rfl)) ?_)
    rintro _ w29 ⟨rfl, he33⟩ a30 hE31; clear hE27
    have hS32 := St.go hS15 he33; clear hS15
    refine q_step (v := .bool (!decide ((F_l08Code f0 f1 g0 g1 images) = 0))) hE31 (y_neq rfl rfl) rfl rfl rfl ?_; intro a34 hE35; clear hE31
    refine q_step (v := .bool (!decide ((F_l08Code f0 f1 g0 g1 images) = 0))) hE35 (y_move rfl) rfl rfl rfl ?_; intro a36 hE37; clear hE35
    rcases Bool.eq_false_or_eq_true (!decide ((F_l08Code f0 f1 g0 g1 images) = 0)) with hb38 | hb38
    ·
      have hE39 := hE37; rw [hb38] at hE39; clear hE37
      have ht40 := bn_t hb38
      have hp41 := of_decide_eq_false ht40
      refine q_skip hE39 rfl rfl rfl ?_; intro a42 hE43; clear hE39
      refine q_skip hE43 rfl rfl rfl ?_; intro a44 hE45; clear hE43
      refine q_skip hE45 rfl rfl rfl ?_; intro a46 hE47; clear hE45
      refine q_skip hE47 rfl rfl rfl ?_; intro a48 hE49; clear hE47
      refine q_skip hE49 rfl rfl rfl ?_; intro a50 hE51; clear hE49
      refine q_step (v := .bool true) hE51 (y_pick (b := true) rfl rfl) rfl rfl rfl ?_; intro a52 hE53; clear hE51
      refine c_nil ?_
      have hE54 := hE53.sub (L' := [(2, .slice imagesA images.length imagesC), (3, .slice valuesA values.length valuesC), (21, .bool true)]) ⟨rfl, rfl, rfl, trivial⟩; clear hE53
      refine p_tn ?_
      have hE55 := hE54.sub (L' := [(2, .slice imagesA images.length imagesC), (3, .slice valuesA values.length valuesC), (21, .bool true)]) ⟨rfl, rfl, rfl, trivial⟩
      have hS56 := (St.pick (Γ' := [.rd 1 g1A g1.length g1C g1, .blk b11 #[.int .i64 g0, .slice g1A g1.length g1C] 53, .rd 1 f1A f1.length f1C f1, .blk b5 #[.int .i64 f0, .slice f1A f1.length f1C] 53, .rd 1 valuesA values.length valuesC values, .rd 1 imagesA images.length imagesC images]) hS32 [4, 0, 5, 1, 2, 3] (by decide) rfl)
      exact ⟨(by rw [hb38]; exact hE55), hS56⟩
    ·
      have hE57 := hE37; rw [hb38] at hE57; clear hE37
      have ht58 := bn_f hb38
      have hp59 := of_decide_eq_true ht58
      have hq60 := l08Code_t hp59
      refine q_step (v := .pointer (some ⟨b11, 0, none⟩)) hE57 (y_field rfl (fun _ => by kernel_rfl)) rfl rfl rfl ?_; intro a61 hE62; clear hE57
      refine q_step (v := .int .i64 g0) hE62 (y_load (fun _ => by kernel_rfl) rfl (St.cell (i := 0) hS32 rfl rfl)) rfl rfl rfl ?_; intro a63 hE64; clear hE62
      refine q_step (v := .slice valuesA values.length valuesC) hE64 (y_move rfl) rfl rfl rfl ?_; intro a65 hE66; clear hE64
      refine l_step hE66 rfl (l_call (f := 73) (argv := [.int .i64 g0, .slice valuesA values.length valuesC]) hE66 (fun _ => cf_l01Masks _ _) rfl rfl (c_l01Masks g0 valuesA values.length valuesC values w29 (St.rdR (i := 2) hS32 rfl) (by omega) (by omega)) ?_)
      rintro _ w68 ⟨rfl, he72⟩ a69 hE70; clear hE66
      have hS71 := St.go hS32 he72; clear hS32
      refine q_step (v := .bool (!(F_l01Masks g0 values))) hE70 (y_not rfl) rfl rfl rfl ?_; intro a73 hE74; clear hE70
      refine q_step (v := .bool (!(F_l01Masks g0 values))) hE74 (y_pick (b := false) rfl rfl) rfl rfl rfl ?_; intro a75 hE76; clear hE74
      refine c_nil ?_
      have hE77 := hE76.sub (L' := [(2, .slice imagesA images.length imagesC), (3, .slice valuesA values.length valuesC), (21, .bool (!(F_l01Masks g0 values)))]) ⟨rfl, rfl, rfl, trivial⟩; clear hE76
      refine p_tn ?_
      have hE78 := hE77.sub (L' := [(2, .slice imagesA images.length imagesC), (3, .slice valuesA values.length valuesC), (21, .bool (!(F_l01Masks g0 values)))]) ⟨rfl, rfl, rfl, trivial⟩
      have hS79 := (St.pick (Γ' := [.rd 1 g1A g1.length g1C g1, .blk b11 #[.int .i64 g0, .slice g1A g1.length g1C] 53, .rd 1 f1A f1.length f1C f1, .blk b5 #[.int .i64 f0, .slice f1A f1.length f1C] 53, .rd 1 valuesA values.length valuesC values, .rd 1 imagesA images.length imagesC images]) hS71 [4, 0, 5, 1, 2, 3] (by decide) rfl)
      exact ⟨(by rw [hb38]; exact hE78), hS79⟩
  ·
    rintro a80 w81 ⟨hE82, hS83⟩; clear hE21 hS15
    refine c_cond hE82 rfl (fun ht84 => ?_) (fun ht84 => ?_)
    ·
      have hE85 := hE82; rw [ht84] at hE85; clear hE82
      refine c_seq ?_
      refine c_reg ?_
      refine q_step (v := .slice none 0 0) hE85 (y_assign rfl) rfl rfl rfl ?_; intro a86 hE87; clear hE85
      refine q_step (v := .int .i64 1) hE87 (y_assign rfl) rfl rfl rfl ?_; intro a88 hE89; clear hE87
      refine c_nil ?_
      have hE90 := hE89.sub (L' := [(8, .slice none 0 0), (9, .int .i64 1)]) ⟨rfl, rfl, trivial⟩; clear hE89
      refine p_tn ?_
      refine wp_ret ?_
      refine p_tr ?_
      have hF : F_s_PullValues f0 f1 g0 g1 images values = ([], 1) := by unfold F_s_PullValues; rw [ht84]; first | done | rfl
      refine c_ret2 hE90 rfl rfl rfl ?_
      exact ⟨none, 0, (by rw [hF]; first | done | rfl), (by rw [hF]; exact OwnS.nilS _ _ _ _), hS83.ext⟩
    ·
      obtain ⟨ht91, ht92⟩ := bor_f ht84
      have ht93 := bn_f ht91
      have hp94 := of_decide_eq_true ht93
      have hq95 := l08Code_t hp94
      have ht96 := bn_f ht92
      have hE97 := hE82; rw [ht84] at hE97; clear hE82
      refine wp_skip ?_
      refine p_tn ?_
      refine c_seq ?_
      refine c_reg ?_
      refine q_step (v := .slice imagesA images.length imagesC) hE97 (y_move rfl) rfl rfl rfl ?_; intro a98 hE99; clear hE97
      refine q_step (v := .slice valuesA values.length valuesC) hE99 (y_move rfl) rfl rfl rfl ?_; intro a100 hE101; clear hE99
      refine l_step hE101 rfl (l_call (f := 93) (argv := [.slice imagesA images.length imagesC, .slice valuesA values.length valuesC]) hE101 (fun _ => cf_l08Pull _ _) rfl rfl (c_l08Pull imagesA images.length imagesC images valuesA values.length valuesC values w81 (St.rdR (i := 5) hS83 rfl) (St.rdR (i := 4) hS83 rfl) (by omega) (by omega) (fun m h0 h1 => by have := (l08Code_t (by assumption)).2.2.2.2.2 m h0 h1; omega)) ?_)
      rintro _ w103 ⟨b108, c109, rfl, ho110, he107⟩ a104 hE105; clear hE101
      have hS106 := St.own hS83 he107 ho110; clear hS83
      refine q_step (v := .slice b108 ((F_l08Pull images values).length) c109) hE105 (y_assign rfl) rfl rfl rfl ?_; intro a111 hE112; clear hE105
      refine q_step (v := .int .i64 0) hE112 (y_assign rfl) rfl rfl rfl ?_; intro a113 hE114; clear hE112
      refine c_nil ?_
      have hE115 := hE114.sub (L' := [(8, .slice b108 ((F_l08Pull images values).length) c109), (9, .int .i64 0)]) ⟨rfl, rfl, trivial⟩; clear hE114
      refine p_tn ?_
      refine wp_ret ?_
      have hF : F_s_PullValues f0 f1 g0 g1 images values = (F_l08Pull images values, 0) := by unfold F_s_PullValues; rw [ht84]; first | done | rfl
      refine c_ret2 hE115 rfl rfl rfl ?_
      exact ⟨b108, c109, (by rw [hF]; first | done | rfl), (by rw [hF]; exact hS106.ok 0 _ rfl), hS106.ext⟩

def F_PullValues_k1 (mask : Int) (cap00 : Int) (cap01 : List Int) : Bool :=
  (!(F_isMask cap00 mask))
theorem cf_PullValues_k1 (args : Array Value) (w : World) : (callFunc 95 args).run Try.prog w = .ok (.enter 95 args) w := by kernel_rfl
set_option maxRecDepth 100000 in
theorem c_PullValues_k1 (mask : Int) (cap0B : Nat) (cap00 : Int) (cap01A : Option Addr) (cap01N cap01C : Nat) (cap01 : List Int) (w : World) (cap01R : RdS w 1 cap01A cap01N cap01C cap01) (cap0H : w.heap[cap0B]? = some (.cells #[.int .i64 cap00, .slice cap01A cap01N cap01C] 53 (0, 0))) :
    Calls Try.prog 95 #[.int .i64 mask, .pointer (some ⟨cap0B, 0, none⟩)] w (Ret fun v w' => v = .bool (F_PullValues_k1 mask cap00 cap01) ∧ w = w') := by
  obtain rfl : cap01N = cap01.length := cap01R.len1.symm
  have cap01Le := cap01R.le
  have hS := St.nil w
  have hS1 := St.rd0 hS rfl cap01R; clear hS
  have hS2 := St.rb0 hS1 rfl cap0H; clear hS1
  refine enter (args := [.int .i64 mask, .pointer (some ⟨cap0B, 0, none⟩)]) Try.func95 rfl rfl ?_
  rw [Try.ntmps95]; intro a hE
  have hE := hE.sub (L' := [(0, .int .i64 mask), (1, .pointer (some ⟨cap0B, 0, none⟩))]) ⟨rfl, rfl, trivial⟩
  refine c_seq ?_
  refine c_reg ?_
  refine q_step (v := .bool false) hE (y_assign rfl) rfl rfl rfl ?_; intro a3 hE4; clear hE
  refine c_nil ?_
  have hE5 := hE4.sub (L' := [(0, .int .i64 mask), (1, .pointer (some ⟨cap0B, 0, none⟩))]) ⟨rfl, rfl, trivial⟩; clear hE4
  refine p_tn ?_
  refine c_seq ?_
  refine c_reg ?_
  refine q_step (v := .pointer (some ⟨cap0B, 0, none⟩)) hE5 (y_field rfl (fun _ => by kernel_rfl)) rfl rfl rfl ?_; intro a6 hE7; clear hE5
  refine q_step (v := .int .i64 cap00) hE7 (y_load (fun _ => by kernel_rfl) rfl (St.cellR (i := 0) hS2 rfl rfl)) rfl rfl rfl ?_; intro a8 hE9; clear hE7
  refine q_step (v := .int .i64 mask) hE9 (y_move rfl) rfl rfl rfl ?_; intro a10 hE11; clear hE9
  refine l_step hE11 rfl (l_call (f := 96) (argv := [.int .i64 cap00, .int .i64 mask]) hE11 (fun _ => cf_isMask _ _) rfl rfl (c_isMask cap00 mask w) ?_)
  rintro _ _ ⟨rfl, rfl⟩ a14 hE15; clear hE11
  refine q_step (v := .bool (!(F_isMask cap00 mask))) hE15 (y_not rfl) rfl rfl rfl ?_; intro a18 hE19; clear hE15
  refine q_step (v := .bool (!(F_isMask cap00 mask))) hE19 (y_assign rfl) rfl rfl rfl ?_; intro a20 hE21; clear hE19
  refine c_nil ?_
  have hE22 := hE21.sub (L' := [(3, .bool (!(F_isMask cap00 mask)))]) ⟨rfl, trivial⟩; clear hE21
  refine p_tn ?_
  refine wp_ret ?_
  have hF : F_PullValues_k1 mask cap00 cap01 = (!(F_isMask cap00 mask)) := by unfold F_PullValues_k1; rfl
  refine c_ret1 hE22 rfl rfl ?_
  exact ⟨(by rw [hF]; first | done | rfl), rfl⟩

def F_pull_L1b (images : List Int) (mask : Int) (rec : Int → Int → Int × Int) (out5 : Int) (t10 : Int) : Int × Int :=
  bif (decide (t10 < (images.length : Int))) then (rec (bif (F_has mask (gI images t10)) then orI out5 (shlI 1 t10) else out5) (t10 + 1)) else (out5, t10)
def F_pull_L1 (images : List Int) (mask : Int) : Nat → Int → Int → Int × Int
  | 0, out5, t10 => (out5, t10)
  | r + 1, out5, t10 => F_pull_L1b images mask (F_pull_L1 images mask r) out5 t10
def F_pull (images : List Int) (mask : Int) : Int :=
  (F_pull_L1 images mask (Int.toNat ((images.length : Int) - 0) + 1) 0 0).1
theorem cf_pull (args : Array Value) (w : World) : (callFunc 97 args).run Try.prog w = .ok (.enter 97 args) w := by kernel_rfl
set_option maxRecDepth 100000 in
theorem c_pull (imagesA : Option Addr) (imagesN imagesC : Nat) (images : List Int) (mask : Int) (w : World) (imagesR : RdS w 1 imagesA imagesN imagesC images) (hl : images.length ≤ 8) (him : ∀ m : Int, 0 ≤ m → m < (images.length : Int) → 0 ≤ gI images m ∧ gI images m ≤ 7) :
    Calls Try.prog 97 #[.slice imagesA imagesN imagesC, .int .i64 mask] w (Ret fun v w' => v = .int .i64 (F_pull images mask) ∧ Ext w w') := by
  obtain rfl : imagesN = images.length := imagesR.len1.symm
  have imagesLe := imagesR.le
  have hS := St.nil w
  have hS1 := St.rd0 hS rfl imagesR; clear hS
  refine enter (args := [.slice imagesA images.length imagesC, .int .i64 mask]) Try.func97 rfl rfl ?_
  rw [Try.ntmps97]; intro a hE
  have hE := hE.sub (L' := [(0, .slice imagesA images.length imagesC), (1, .int .i64 mask)]) ⟨rfl, rfl, trivial⟩
  refine c_seq ?_
  refine c_reg ?_
  refine q_step (v := .int .i64 0) hE (y_assign rfl) rfl rfl rfl ?_; intro a2 hE3; clear hE
  refine c_nil ?_
  have hE4 := hE3.sub (L' := [(0, .slice imagesA images.length imagesC), (1, .int .i64 mask)]) ⟨rfl, rfl, trivial⟩; clear hE3
  refine p_tn ?_
  refine c_seq ?_
  refine c_reg ?_
  refine q_step (v := .int .i64 0) hE4 (y_assign rfl) rfl rfl rfl ?_; intro a5 hE6; clear hE4
  refine c_nil ?_
  have hE7 := hE6.sub (L' := [(0, .slice imagesA images.length imagesC), (1, .int .i64 mask), (5, .int .i64 0)]) ⟨rfl, rfl, rfl, trivial⟩; clear hE6
  refine p_tn ?_
  refine c_seq ?_
  refine c_seq ?_
  refine c_reg ?_
  refine q_step (v := .slice imagesA images.length imagesC) hE7 (y_move rfl) rfl rfl rfl ?_; intro a8 hE9; clear hE7
  refine q_step (v := .int .i64 (images.length : Int)) hE9 (y_len (e := 2) (by kernel_rfl) rfl) rfl rfl rfl ?_; intro a10 hE11; clear hE9
  refine q_step (v := .int .i64 0) hE11 (y_move rfl) rfl rfl rfl ?_; intro a12 hE13; clear hE11
  refine c_nil ?_
  have hE14 := hE13.sub (L' := [(1, .int .i64 mask), (5, .int .i64 0), (8, .slice imagesA images.length imagesC), (9, .int .i64 (images.length : Int)), (10, .int .i64 0)]) ⟨rfl, rfl, rfl, rfl, rfl, trivial⟩; clear hE13
  refine p_tn ?_
  refine c_cut1 (fun a' w' => (0 ≤ ((F_pull_L1 images mask (Int.toNat ((images.length : Int) - 0) + 1) 0 0).2)) ∧ (((F_pull_L1 images mask (Int.toNat ((images.length : Int) - 0) + 1) 0 0).2) ≤ (images.length : Int)) ∧ E a' 24 [(1, .int .i64 mask), (5, .int .i64 ((F_pull_L1 images mask (Int.toNat ((images.length : Int) - 0) + 1) 0 0).1)), (8, .slice imagesA images.length imagesC), (9, .int .i64 (images.length : Int)), (10, .int .i64 ((F_pull_L1 images mask (Int.toNat ((images.length : Int) - 0) + 1) 0 0).2))] ∧ St w w' [.rd 1 imagesA images.length imagesC images]) ?_ ?_
  ·
    refine wp_block ?_
    refine c_loop (fun r a' w' => ∃ out5 : Int, ∃ t10 : Int, F_pull_L1 images mask r out5 t10 = F_pull_L1 images mask (Int.toNat ((images.length : Int) - 0) + 1) 0 0 ∧ Int.toNat ((images.length : Int) - t10) < r ∧ (0 ≤ t10) ∧ (t10 ≤ (images.length : Int)) ∧ E a' 24 [(1, .int .i64 mask), (5, .int .i64 out5), (8, .slice imagesA images.length imagesC), (9, .int .i64 (images.length : Int)), (10, .int .i64 t10)] ∧ St w w' [.rd 1 imagesA images.length imagesC images]) (r := (Int.toNat ((images.length : Int) - 0) + 1)) ?_ ?_
    · exact ⟨0, 0, rfl, Nat.lt_succ_self _, (by first | omega | (simp only [List.length_append, List.length_cons, List.length_nil, sI_len, cond_true, cond_false]; omega) | (simp only [List.length_append, List.length_cons, List.length_nil, sI_len, cond_eq_ite, apply_ite List.length]; split <;> simp only [List.length_append, List.length_cons, List.length_nil, sI_len] <;> omega) | grind), (by first | omega | (simp only [List.length_append, List.length_cons, List.length_nil, sI_len, cond_true, cond_false]; omega) | (simp only [List.length_append, List.length_cons, List.length_nil, sI_len, cond_eq_ite, apply_ite List.length]; split <;> simp only [List.length_append, List.length_cons, List.length_nil, sI_len] <;> omega) | grind), (hE14.sub (L' := [(1, .int .i64 mask), (5, .int .i64 0), (8, .slice imagesA images.length imagesC), (9, .int .i64 (images.length : Int)), (10, .int .i64 0)]) ⟨rfl, rfl, rfl, rfl, rfl, trivial⟩), (St.pick (Γ' := [.rd 1 imagesA images.length imagesC images]) hS1 [0] (by decide) rfl)⟩
    ·
      clear hE14 hS1
      rintro r24 a16 w17 ⟨out5, t10, hT20, hr21, hi22, hi23, hE18, hS19⟩
      obtain ⟨r24, rfl⟩ : ∃ r', r24 = r' + 1 := ⟨r24 - 1, by omega⟩
      refine c_seq ?_
      refine c_reg ?_
      refine q_step (v := .bool (decide (t10 < (images.length : Int)))) hE18 (y_lss rfl rfl) rfl rfl rfl ?_; intro a25 hE26; clear hE18
      refine c_nil ?_
      have hE27 := hE26.sub (L' := [(1, .int .i64 mask), (5, .int .i64 out5), (8, .slice imagesA images.length imagesC), (9, .int .i64 (images.length : Int)), (10, .int .i64 t10), (11, .bool (decide (t10 < (images.length : Int))))]) ⟨rfl, rfl, rfl, rfl, rfl, rfl, trivial⟩; clear hE26
      refine p_tn ?_
      refine c_seq ?_
      refine c_cond hE27 rfl (fun ht28 => ?_) (fun ht28 => ?_)
      ·
        have hp29 := of_decide_eq_true ht28
        have hE30 := hE27; rw [ht28] at hE30; clear hE27
        have hx1 := him t10 (by omega) (by omega)
        refine wp_skip ?_
        refine p_tn ?_
        refine c_cut (fun a' w' => E a' 24 [(1, .int .i64 mask), (5, .int .i64 (bif (F_has mask (gI images t10)) then orI out5 (shlI 1 t10) else out5)), (8, .slice imagesA images.length imagesC), (9, .int .i64 (images.length : Int)), (10, .int .i64 t10)] ∧ St w w' [.rd 1 imagesA images.length imagesC images]) ?_ ?_
        ·
          refine wp_block ?_
          refine c_seq ?_
          refine c_reg ?_
          refine q_step (v := .int .i64 t10) hE30 (y_move rfl) rfl rfl rfl ?_; intro a31 hE32; clear hE30
          refine q_step (v := .pointer (some (adr imagesA (Int.toNat t10)))) hE32 (y_idx (by kernel_rfl) (fun _ => by kernel_rfl) rfl rfl (RdS.isS (m := t10) (St.rdR (i := 0) hS19 rfl) (by omega) (by omega)) (by omega) (by omega) (Nat.mul_one _).symm) rfl rfl rfl ?_; intro a33 hE34; clear hE32
          refine q_step (v := .int .i64 (gI images t10)) hE34 (y_load (fun _ => by kernel_rfl) rfl (RdS.elt (St.rdR (i := 0) hS19 rfl) (by omega) (by omega))) rfl rfl rfl ?_; intro a35 hE36; clear hE34
          refine q_step (v := .int .i64 t10) hE36 (y_assign rfl) rfl rfl rfl ?_; intro a37 hE38; clear hE36
          refine q_step (v := .int .i64 (gI images t10)) hE38 (y_assign rfl) rfl rfl rfl ?_; intro a39 hE40; clear hE38
          refine c_nil ?_
          have hE41 := hE40.sub (L' := [(1, .int .i64 mask), (5, .int .i64 out5), (6, .int .i64 t10), (7, .int .i64 (gI images t10)), (8, .slice imagesA images.length imagesC), (9, .int .i64 (images.length : Int)), (10, .int .i64 t10)]) ⟨rfl, rfl, rfl, rfl, rfl, rfl, rfl, trivial⟩; clear hE40
          refine p_tn ?_
          refine c_seq ?_
          refine c_reg ?_
          refine q_step (v := .int .i64 mask) hE41 (y_move rfl) rfl rfl rfl ?_; intro a42 hE43; clear hE41
          refine q_step (v := .int .i64 (gI images t10)) hE43 (y_move rfl) rfl rfl rfl ?_; intro a44 hE45; clear hE43
          refine l_step hE45 rfl (l_call (f := 113) (argv := [.int .i64 mask, .int .i64 (gI images t10)]) hE45 (fun _ => cf_has _ _) rfl rfl (c_has mask (gI images t10) w17 (by omega)) ?_)
          rintro _ _ ⟨rfl, rfl⟩ a48 hE49; clear hE45
          refine c_nil ?_
          have hE52 := hE49.sub (L' := [(1, .int .i64 mask), (5, .int .i64 out5), (6, .int .i64 t10), (8, .slice imagesA images.length imagesC), (9, .int .i64 (images.length : Int)), (10, .int .i64 t10), (17, .bool (F_has mask (gI images t10)))]) ⟨rfl, rfl, rfl, rfl, rfl, rfl, rfl, trivial⟩; clear hE49
          refine p_tn ?_
          refine c_cond hE52 rfl (fun ht53 => ?_) (fun ht53 => ?_)
          ·
            have hE54 := hE52; rw [ht53] at hE54; clear hE52
            refine c_reg ?_
            refine q_step (v := .int .i64 out5) hE54 (y_move rfl) rfl rfl rfl ?_; intro a55 hE56; clear hE54
            refine q_step (v := .int .i64 t10) hE56 (y_move rfl) rfl rfl rfl ?_; intro a57 hE58; clear hE56
            refine q_step (v := .int .i64 (shlI 1 t10)) hE58 (y_shl rfl rfl (by omega)) rfl rfl rfl ?_; intro a59 hE60; clear hE58
            refine q_step (v := .int .i64 (orI out5 (shlI 1 t10))) hE60 (y_or rfl rfl) rfl rfl rfl ?_; intro a61 hE62; clear hE60
            refine q_step (v := .int .i64 (orI out5 (shlI 1 t10))) hE62 (y_assign rfl) rfl rfl rfl ?_; intro a63 hE64; clear hE62
            refine c_nil ?_
            have hE65 := hE64.sub (L' := [(1, .int .i64 mask), (5, .int .i64 (orI out5 (shlI 1 t10))), (8, .slice imagesA images.length imagesC), (9, .int .i64 (images.length : Int)), (10, .int .i64 t10)]) ⟨rfl, rfl, rfl, rfl, rfl, trivial⟩; clear hE64
            refine p_bn ?_
            refine p_tn ?_
            have hE66 := hE65.sub (L' := [(1, .int .i64 mask), (5, .int .i64 (orI out5 (shlI 1 t10))), (8, .slice imagesA images.length imagesC), (9, .int .i64 (images.length : Int)), (10, .int .i64 t10)]) ⟨rfl, rfl, rfl, rfl, rfl, trivial⟩
            have hS67 := (St.pick (Γ' := [.rd 1 imagesA images.length imagesC images]) hS19 [0] (by decide) rfl)
            exact ⟨(by rw [ht53]; exact hE66), hS67⟩
          ·
            have hE68 := hE52; rw [ht53] at hE68; clear hE52
            refine wp_skip ?_
            refine p_bn ?_
            refine p_tn ?_
            have hE69 := hE68.sub (L' := [(1, .int .i64 mask), (5, .int .i64 out5), (8, .slice imagesA images.length imagesC), (9, .int .i64 (images.length : Int)), (10, .int .i64 t10)]) ⟨rfl, rfl, rfl, rfl, rfl, trivial⟩
            have hS70 := (St.pick (Γ' := [.rd 1 imagesA images.length imagesC images]) hS19 [0] (by decide) rfl)
            exact ⟨(by rw [ht53]; exact hE69), hS70⟩
        ·
          rintro a71 w72 ⟨hE73, hS74⟩; clear hE30 hS19
          refine c_reg ?_
          refine q_step (v := .int .i64 (t10 + 1)) hE73 (y_add rfl rfl ⟨(by omega), (by omega)⟩) rfl rfl rfl ?_; intro a75 hE76; clear hE73
          refine q_step (v := .int .i64 (t10 + 1)) hE76 (y_move rfl) rfl rfl rfl ?_; intro a77 hE78; clear hE76
          refine c_nil ?_
          have hE79 := hE78.sub (L' := [(1, .int .i64 mask), (5, .int .i64 (bif (F_has mask (gI images t10)) then orI out5 (shlI 1 t10) else out5)), (8, .slice imagesA images.length imagesC), (9, .int .i64 (images.length : Int)), (10, .int .i64 (t10 + 1))]) ⟨rfl, rfl, rfl, rfl, rfl, trivial⟩; clear hE78
          refine p_tn ⟨r24, Nat.lt_succ_self _, bif (F_has mask (gI images t10)) then orI out5 (shlI 1 t10) else out5, t10 + 1, (hT20.symm.trans (show F_pull_L1b images mask (F_pull_L1 images mask r24) out5 t10 = F_pull_L1 images mask r24 (bif (F_has mask (gI images t10)) then orI out5 (shlI 1 t10) else out5) (t10 + 1) by unfold F_pull_L1b; rw [ht28]; first | done | rfl)).symm, (by omega), (by first | omega | (simp only [List.length_append, List.length_cons, List.length_nil, sI_len, cond_true, cond_false]; omega) | (simp only [List.length_append, List.length_cons, List.length_nil, sI_len, cond_eq_ite, apply_ite List.length]; split <;> simp only [List.length_append, List.length_cons, List.length_nil, sI_len] <;> omega) | grind), (by first | omega | (simp only [List.length_append, List.length_cons, List.length_nil, sI_len, cond_true, cond_false]; omega) | (simp only [List.length_append, List.length_cons, List.length_nil, sI_len, cond_eq_ite, apply_ite List.length]; split <;> simp only [List.length_append, List.length_cons, List.length_nil, sI_len] <;> omega) | grind), (hE79.sub (L' := [(1, .int .i64 mask), (5, .int .i64 (bif (F_has mask (gI images t10)) then orI out5 (shlI 1 t10) else out5)), (8, .slice imagesA images.length imagesC), (9, .int .i64 (images.length : Int)), (10, .int .i64 (t10 + 1))]) ⟨rfl, rfl, rfl, rfl, rfl, trivial⟩), (St.pick (Γ' := [.rd 1 imagesA images.length imagesC images]) hS74 [0] (by decide) rfl)⟩
      ·
        have hp80 := of_decide_eq_false ht28
        have hE81 := hE27; rw [ht28] at hE81; clear hE27
        refine wp_exit ?_
        refine p_te ?_
        have hX82 : F_pull_L1 images mask (Int.toNat ((images.length : Int) - 0) + 1) 0 0 = (out5, t10) := hT20.symm.trans (show F_pull_L1b images mask (F_pull_L1 images mask r24) out5 t10 = (out5, t10) by unfold F_pull_L1b; rw [ht28]; first | done | rfl)
        refine p_te (p_be (p_tn ?_))
        exact ⟨(by rw [hX82]; exact (show 0 ≤ t10 from (by first | omega | (simp only [List.length_append, List.length_cons, List.length_nil, sI_len, cond_true, cond_false]; omega) | (simp only [List.length_append, List.length_cons, List.length_nil, sI_len, cond_eq_ite, apply_ite List.length]; split <;> simp only [List.length_append, List.length_cons, List.length_nil, sI_len] <;> omega) | grind))), (by rw [hX82]; exact (show t10 ≤ (images.length : Int) from (by first | omega | (simp only [List.length_append, List.length_cons, List.length_nil, sI_len, cond_true, cond_false]; omega) | (simp only [List.length_append, List.length_cons, List.length_nil, sI_len, cond_eq_ite, apply_ite List.length]; split <;> simp only [List.length_append, List.length_cons, List.length_nil, sI_len] <;> omega) | grind))), (by rw [hX82]; exact (hE81.sub (L' := [(1, .int .i64 mask), (5, .int .i64 out5), (8, .slice imagesA images.length imagesC), (9, .int .i64 (images.length : Int)), (10, .int .i64 t10)]) ⟨rfl, rfl, rfl, rfl, rfl, trivial⟩)), (St.pick (Γ' := [.rd 1 imagesA images.length imagesC images]) hS19 [0] (by decide) rfl)⟩
  ·
    rintro a83 w84 ⟨hi88, hi89, hE85, hS86⟩; clear hE14 hS1
    refine p_tn ?_
    refine c_seq ?_
    refine c_reg ?_
    refine q_step (v := .int .i64 ((F_pull_L1 images mask (Int.toNat ((images.length : Int) - 0) + 1) 0 0).1)) hE85 (y_move rfl) rfl rfl rfl ?_; intro a90 hE91; clear hE85
    refine q_step (v := .int .i64 ((F_pull_L1 images mask (Int.toNat ((images.length : Int) - 0) + 1) 0 0).1)) hE91 (y_assign rfl) rfl rfl rfl ?_; intro a92 hE93; clear hE91
    refine c_nil ?_
    have hE94 := hE93.sub (L' := [(4, .int .i64 ((F_pull_L1 images mask (Int.toNat ((images.length : Int) - 0) + 1) 0 0).1))]) ⟨rfl, trivial⟩; clear hE93
    refine p_tn ?_
    refine wp_ret ?_
    have hF : F_pull images mask = (F_pull_L1 images mask (Int.toNat ((images.length : Int) - 0) + 1) 0 0).1 := by unfold F_pull; rfl
    refine c_ret1 hE94 rfl rfl ?_
    exact ⟨(by rw [hF]; first | done | rfl), hS86.ext⟩

def F_PullValues_L1b (images : List Int) (values : List Int) (rec : (List Int) → Int → (List Int) × Int) (out10 : List Int) (t25 : Int) : (List Int) × Int :=
  bif (decide (t25 < (values.length : Int))) then (rec (out10 ++ ([F_pull images (gI values t25)])) (t25 + 1)) else (out10, t25)
def F_PullValues_L1 (images : List Int) (values : List Int) : Nat → (List Int) → Int → (List Int) × Int
  | 0, out10, t25 => (out10, t25)
  | r + 1, out10, t25 => F_PullValues_L1b images values (F_PullValues_L1 images values r) out10 t25
def F_PullValues (f0 : Int) (f1 : List Int) (g0 : Int) (g1 : List Int) (images : List Int) (values : List Int) : (List Int) × (Int) :=
  bif ((!decide ((F_mapCode f0 f1 g0 g1 images) = 0)) || (F_z_ContainsFunc values (fun x0 => F_PullValues_k1 x0 g0 g1))) then ([], 1) else ((F_PullValues_L1 images values (Int.toNat ((values.length : Int) - 0) + 1) ([]) 0).1, 0)
theorem cf_PullValues (args : Array Value) (w : World) : (callFunc 51 args).run Try.prog w = .ok (.enter 51 args) w := by kernel_rfl
set_option maxRecDepth 100000 in
theorem c_PullValues (f0 : Int) (f1A : Option Addr) (f1N f1C : Nat) (f1 : List Int) (g0 : Int) (g1A : Option Addr) (g1N g1C : Nat) (g1 : List Int) (imagesA : Option Addr) (imagesN imagesC : Nat) (images : List Int) (valuesA : Option Addr) (valuesN valuesC : Nat) (values : List Int) (w : World) (f1R : RdS w 1 f1A f1N f1C f1) (g1R : RdS w 1 g1A g1N g1C g1) (imagesR : RdS w 1 imagesA imagesN imagesC images) (valuesR : RdS w 1 valuesA valuesN valuesC values) (hv : values.length ≤ 1048576) :
    Calls Try.prog 51 #[.agg #[.int .i64 f0, .slice f1A f1N f1C], .agg #[.int .i64 g0, .slice g1A g1N g1C], .slice imagesA imagesN imagesC, .slice valuesA valuesN valuesC] w (Ret fun v w' => ∃ b1 : Option Addr, ∃ c1 : Nat, v = .tuple #[.slice b1 ((F_PullValues f0 f1 g0 g1 images values).1).length c1, .int .i64 ((F_PullValues f0 f1 g0 g1 images values).2)] ∧ OwnS w' w.heap.size 2 1 b1 ((F_PullValues f0 f1 g0 g1 images values).1).length c1 ((F_PullValues f0 f1 g0 g1 images values).1) ∧ Ext w w') := by
  obtain rfl : f1N = f1.length := f1R.len1.symm
  have f1Le := f1R.le
  obtain rfl : g1N = g1.length := g1R.len1.symm
  have g1Le := g1R.le
  obtain rfl : imagesN = images.length := imagesR.len1.symm
  have imagesLe := imagesR.le
  obtain rfl : valuesN = values.length := valuesR.len1.symm
  have valuesLe := valuesR.le
  have hS := St.nil w
  have hS1 := St.rd0 hS rfl f1R; clear hS
  have hS2 := St.rd0 hS1 rfl g1R; clear hS1
  have hS3 := St.rd0 hS2 rfl imagesR; clear hS2
  have hS4 := St.rd0 hS3 rfl valuesR; clear hS3
  refine enter (args := [.agg #[.int .i64 f0, .slice f1A f1.length f1C], .agg #[.int .i64 g0, .slice g1A g1.length g1C], .slice imagesA images.length imagesC, .slice valuesA values.length valuesC]) Try.func51 rfl rfl ?_
  rw [Try.ntmps51]; intro a hE
  have hE := hE.sub (L' := [(0, .agg #[.int .i64 f0, .slice f1A f1.length f1C]), (1, .agg #[.int .i64 g0, .slice g1A g1.length g1C]), (2, .slice imagesA images.length imagesC), (3, .slice valuesA values.length valuesC)]) ⟨rfl, rfl, rfl, rfl, trivial⟩
  refine c_seq ?_
  refine c_reg ?_
  refine l_step hE rfl (l_box (v := .agg #[.int .i64 f0, .slice f1A f1.length f1C]) (cs := #[.int .i64 f0, .slice f1A f1.length f1C]) hS4 hE rfl rfl rfl ?_)
  intro b5 w6 hS9 he10 a7 hE8; clear hS4 hE
  refine l_step hE8 rfl (l_box (v := .agg #[.int .i64 g0, .slice g1A g1.length g1C]) (cs := #[.int .i64 g0, .slice g1A g1.length g1C]) hS9 hE8 rfl rfl rfl ?_)
  intro b11 w12 hS15 he16 a13 hE14; clear hS9 hE8
  refine q_step (v := .slice none 0 0) hE14 (y_assign rfl) rfl rfl rfl ?_; intro a17 hE18; clear hE14
  refine q_step (v := .int .i64 0) hE18 (y_assign rfl) rfl rfl rfl ?_; intro a19 hE20; clear hE18
  refine c_nil ?_
  have hE21 := hE20.sub (L' := [(2, .slice imagesA images.length imagesC), (3, .slice valuesA values.length valuesC), (4, .pointer (some ⟨b5, 0, none⟩)), (5, .pointer (some ⟨b11, 0, none⟩))]) ⟨rfl, rfl, rfl, rfl, trivial⟩; clear hE20
  refine p_tn ?_
  refine c_seq ?_
  refine c_cut (fun a' w' => E a' 37 [(2, .slice imagesA images.length imagesC), (3, .slice valuesA values.length valuesC), (22, .bool ((!decide ((F_mapCode f0 f1 g0 g1 images) = 0)) || (F_z_ContainsFunc values (fun x0 => F_PullValues_k1 x0 g0 g1))))] ∧ St w w' [.rd 1 g1A g1.length g1C g1, .blk b11 #[.int .i64 g0, .slice g1A g1.length g1C] 53, .rd 1 f1A f1.length f1C f1, .blk b5 #[.int .i64 f0, .slice f1A f1.length f1C] 53, .rd 1 valuesA values.length valuesC values, .rd 1 imagesA images.length imagesC images]) ?_ ?_
  ·
    refine c_reg ?_
    refine q_step (v := .agg #[.int .i64 f0, .slice f1A f1.length f1C]) hE21 (y_loadS Try.underlying53 rfl (by kernel_rfl) rfl (St.row (i := 1) hS15 rfl)) rfl rfl rfl ?_; intro a22 hE23; clear hE21
    refine q_step (v := .agg #[.int .i64 g0, .slice g1A g1.length g1C]) hE23 (y_loadS Try.underlying53 rfl (by kernel_rfl) rfl (St.row (i := 0) hS15 rfl)) rfl rfl rfl ?_; intro a24 hE25; clear hE23
    refine q_step (v := .slice imagesA images.length imagesC) hE25 (y_move rfl) rfl rfl rfl ?_; intro a26 hE27; clear hE25
    refine l_step hE27 rfl (l_call (f := 91) (argv := [.agg #[.int .i64 f0, .slice f1A f1.length f1C], .agg #[.int .i64 g0, .slice g1A g1.length g1C], .slice imagesA images.length imagesC]) hE27 (fun _ => cf_mapCode _ _) rfl rfl (c_mapCode f0 f1A f1.length f1C f1 g0 g1A g1.length g1C g1 imagesA images.length imagesC images w12 (St.rdR (i := 5) hS15 rfl) (St.rdR (i := 4) hS15 rfl) (St.rdR (i := 3) hS15 rfl)) ?_)
    rintro _ w29 ⟨rfl, he33⟩ a30 hE31; clear hE27
    have hS32 := St.go hS15 he33; clear hS15
    refine q_step (v := .bool (!decide ((F_mapCode f0 f1 g0 g1 images) = 0))) hE31 (y_neq rfl rfl) rfl rfl rfl ?_; intro a34 hE35; clear hE31
    refine q_step (v := .bool (!decide ((F_mapCode f0 f1 g0 g1 images) = 0))) hE35 (y_move rfl) rfl rfl rfl ?_; intro a36 hE37; clear hE35
    rcases Bool.eq_false_or_eq_true (!decide ((F_mapCode f0 f1 g0 g1 images) = 0)) with hb38 | hb38
    ·
      have hE39 := hE37; rw [hb38] at hE39; clear hE37
      have ht40 := bn_t hb38
      have hp41 := of_decide_eq_false ht40
      refine q_skip hE39 rfl rfl rfl ?_; intro a42 hE43; clear hE39
      refine q_skip hE43 rfl rfl rfl ?_; intro a44 hE45; clear hE43
      refine q_skip hE45 rfl rfl rfl ?_; intro a46 hE47; clear hE45
      refine q_step (v := .bool true) hE47 (y_pick (b := true) rfl rfl) rfl rfl rfl ?_; intro a48 hE49; clear hE47
      refine c_nil ?_
      have hE50 := hE49.sub (L' := [(2, .slice imagesA images.length imagesC), (3, .slice valuesA values.length valuesC), (22, .bool true)]) ⟨rfl, rfl, rfl, trivial⟩; clear hE49
      refine p_tn ?_
      have hE51 := hE50.sub (L' := [(2, .slice imagesA images.length imagesC), (3, .slice valuesA values.length valuesC), (22, .bool true)]) ⟨rfl, rfl, rfl, trivial⟩
      have hS52 := (St.pick (Γ' := [.rd 1 g1A g1.length g1C g1, .blk b11 #[.int .i64 g0, .slice g1A g1.length g1C] 53, .rd 1 f1A f1.length f1C f1, .blk b5 #[.int .i64 f0, .slice f1A f1.length f1C] 53, .rd 1 valuesA values.length valuesC values, .rd 1 imagesA images.length imagesC images]) hS32 [4, 0, 5, 1, 2, 3] (by decide) rfl)
      exact ⟨(by rw [hb38]; exact hE51), hS52⟩
    ·
      have hE53 := hE37; rw [hb38] at hE53; clear hE37
      have ht54 := bn_f hb38
      have hp55 := of_decide_eq_true ht54
      have hq56 := mapCode_t hp55
      refine q_step (v := .slice valuesA values.length valuesC) hE53 (y_move rfl) rfl rfl rfl ?_; intro a57 hE58; clear hE53
      refine q_step (v := .func (.func 95) #[] #[.pointer (some ⟨b11, 0, none⟩)]) hE58 (y_makeFunc (vs := [.pointer (some ⟨b11, 0, none⟩)]) rfl) rfl rfl rfl ?_; intro a59 hE60; clear hE58
      refine l_step hE60 rfl (l_call (f := 94) (argv := [.slice valuesA values.length valuesC, .func (.func 95) #[] #[.pointer (some ⟨b11, 0, none⟩)]]) hE60 (fun _ => cf_z_ContainsFunc _ _) rfl rfl (c_z_ContainsFunc valuesA values.length valuesC values 95 [.pointer (some ⟨b11, 0, none⟩)] (fun x0 => F_PullValues_k1 x0 g0 g1) (fun _ => True) w29 (St.rdR (i := 2) hS32 rfl) (fun _ _ => cf_PullValues_k1 _ _) (fun x0 w' hx he => Ret.ext (c_PullValues_k1 x0 b11 g0 g1A g1.length g1C g1 w' (RdS.ext (St.rdR (i := 4) hS32 rfl) he) (St.row (i := 0) hS32 rfl w' he))) (fun _ _ _ => trivial)) ?_)
      rintro _ w62 ⟨rfl, he66⟩ a63 hE64; clear hE60
      have hS65 := St.go hS32 he66; clear hS32
      refine q_step (v := .bool (F_z_ContainsFunc values (fun x0 => F_PullValues_k1 x0 g0 g1))) hE64 (y_pick (b := false) rfl rfl) rfl rfl rfl ?_; intro a67 hE68; clear hE64
      refine c_nil ?_
      have hE69 := hE68.sub (L' := [(2, .slice imagesA images.length imagesC), (3, .slice valuesA values.length valuesC), (22, .bool (F_z_ContainsFunc values (fun x0 => F_PullValues_k1 x0 g0 g1)))]) ⟨rfl, rfl, rfl, trivial⟩; clear hE68
      refine p_tn ?_
      have hE70 := hE69.sub (L' := [(2, .slice imagesA images.length imagesC), (3, .slice valuesA values.length valuesC), (22, .bool (F_z_ContainsFunc values (fun x0 => F_PullValues_k1 x0 g0 g1)))]) ⟨rfl, rfl, rfl, trivial⟩
      have hS71 := (St.pick (Γ' := [.rd 1 g1A g1.length g1C g1, .blk b11 #[.int .i64 g0, .slice g1A g1.length g1C] 53, .rd 1 f1A f1.length f1C f1, .blk b5 #[.int .i64 f0, .slice f1A f1.length f1C] 53, .rd 1 valuesA values.length valuesC values, .rd 1 imagesA images.length imagesC images]) hS65 [4, 0, 5, 1, 2, 3] (by decide) rfl)
      exact ⟨(by rw [hb38]; exact hE70), hS71⟩
  ·
    rintro a72 w73 ⟨hE74, hS75⟩; clear hE21 hS15
    refine c_cond hE74 rfl (fun ht76 => ?_) (fun ht76 => ?_)
    ·
      have hE77 := hE74; rw [ht76] at hE77; clear hE74
      refine c_seq ?_
      refine c_reg ?_
      refine q_step (v := .slice none 0 0) hE77 (y_assign rfl) rfl rfl rfl ?_; intro a78 hE79; clear hE77
      refine q_step (v := .int .i64 1) hE79 (y_assign rfl) rfl rfl rfl ?_; intro a80 hE81; clear hE79
      refine c_nil ?_
      have hE82 := hE81.sub (L' := [(8, .slice none 0 0), (9, .int .i64 1)]) ⟨rfl, rfl, trivial⟩; clear hE81
      refine p_tn ?_
      refine wp_ret ?_
      refine p_tr ?_
      have hF : F_PullValues f0 f1 g0 g1 images values = ([], 1) := by unfold F_PullValues; rw [ht76]; first | done | rfl
      refine c_ret2 hE82 rfl rfl rfl ?_
      exact ⟨none, 0, (by rw [hF]; first | done | rfl), (by rw [hF]; exact OwnS.nilS _ _ _ _), hS75.ext⟩
    ·
      obtain ⟨ht83, ht84⟩ := bor_f ht76
      have ht85 := bn_f ht83
      have hp86 := of_decide_eq_true ht85
      have hq87 := mapCode_t hp86
      have hE88 := hE74; rw [ht76] at hE88; clear hE74
      refine wp_skip ?_
      refine p_tn ?_
      refine c_seq ?_
      refine c_reg ?_
      refine q_step (v := .slice none 0 0) hE88 (y_assign rfl) rfl rfl rfl ?_; intro a89 hE90; clear hE88
      refine c_nil ?_
      have hE91 := hE90.sub (L' := [(2, .slice imagesA images.length imagesC), (3, .slice valuesA values.length valuesC), (10, .slice none 0 0)]) ⟨rfl, rfl, rfl, trivial⟩; clear hE90
      refine p_tn ?_
      refine c_seq ?_
      refine c_seq ?_
      refine c_reg ?_
      refine q_step (v := .slice valuesA values.length valuesC) hE91 (y_move rfl) rfl rfl rfl ?_; intro a92 hE93; clear hE91
      refine q_step (v := .int .i64 (values.length : Int)) hE93 (y_len (e := 2) (by kernel_rfl) rfl) rfl rfl rfl ?_; intro a94 hE95; clear hE93
      refine q_step (v := .int .i64 0) hE95 (y_move rfl) rfl rfl rfl ?_; intro a96 hE97; clear hE95
      refine c_nil ?_
      have hE98 := hE97.sub (L' := [(2, .slice imagesA images.length imagesC), (10, .slice none 0 0), (23, .slice valuesA values.length valuesC), (24, .int .i64 (values.length : Int)), (25, .int .i64 0)]) ⟨rfl, rfl, rfl, rfl, rfl, trivial⟩; clear hE97
      refine p_tn ?_
      have hS99 := St.nils hS75 2 1; clear hS75
      refine c_cut1 (fun a' w' => ∃ out10A_100 : Option Addr, ∃ out10C_100 : Nat, (0 ≤ ((F_PullValues_L1 images values (Int.toNat ((values.length : Int) - 0) + 1) ([]) 0).2)) ∧ (((F_PullValues_L1 images values (Int.toNat ((values.length : Int) - 0) + 1) ([]) 0).2) ≤ (values.length : Int)) ∧ ((((F_PullValues_L1 images values (Int.toNat ((values.length : Int) - 0) + 1) ([]) 0).1).length : Int) ≤ ((F_PullValues_L1 images values (Int.toNat ((values.length : Int) - 0) + 1) ([]) 0).2)) ∧ E a' 37 [(2, .slice imagesA images.length imagesC), (10, .slice out10A_100 (((F_PullValues_L1 images values (Int.toNat ((values.length : Int) - 0) + 1) ([]) 0).1).length) out10C_100), (23, .slice valuesA values.length valuesC), (24, .int .i64 (values.length : Int)), (25, .int .i64 ((F_PullValues_L1 images values (Int.toNat ((values.length : Int) - 0) + 1) ([]) 0).2))] ∧ St w w' [.own 2 1 out10A_100 (((F_PullValues_L1 images values (Int.toNat ((values.length : Int) - 0) + 1) ([]) 0).1).length) out10C_100 ((F_PullValues_L1 images values (Int.toNat ((values.length : Int) - 0) + 1) ([]) 0).1), .rd 1 g1A g1.length g1C g1, .blk b11 #[.int .i64 g0, .slice g1A g1.length g1C] 53, .rd 1 f1A f1.length f1C f1, .blk b5 #[.int .i64 f0, .slice f1A f1.length f1C] 53, .rd 1 valuesA values.length valuesC values, .rd 1 imagesA images.length imagesC images]) ?_ ?_
      ·
        refine wp_block ?_
        refine c_loop (fun r a' w' => ∃ out10 : List Int, ∃ t25 : Int, ∃ out10A : Option Addr, ∃ out10C : Nat, F_PullValues_L1 images values r out10 t25 = F_PullValues_L1 images values (Int.toNat ((values.length : Int) - 0) + 1) ([]) 0 ∧ Int.toNat ((values.length : Int) - t25) < r ∧ (0 ≤ t25) ∧ (t25 ≤ (values.length : Int)) ∧ ((out10.length : Int) ≤ t25) ∧ E a' 37 [(2, .slice imagesA images.length imagesC), (10, .slice out10A ((out10).length) out10C), (23, .slice valuesA values.length valuesC), (24, .int .i64 (values.length : Int)), (25, .int .i64 t25)] ∧ St w w' [.own 2 1 out10A ((out10).length) out10C out10, .rd 1 g1A g1.length g1C g1, .blk b11 #[.int .i64 g0, .slice g1A g1.length g1C] 53, .rd 1 f1A f1.length f1C f1, .blk b5 #[.int .i64 f0, .slice f1A f1.length f1C] 53, .rd 1 valuesA values.length valuesC values, .rd 1 imagesA images.length imagesC images]) (r := (Int.toNat ((values.length : Int) - 0) + 1)) ?_ ?_
        · exact ⟨[], 0, none, 0, rfl, Nat.lt_succ_self _, (by first | omega | (simp only [List.length_append, List.length_cons, List.length_nil, sI_len, cond_true, cond_false]; omega) | (simp only [List.length_append, List.length_cons, List.length_nil, sI_len, cond_eq_ite, apply_ite List.length]; split <;> simp only [List.length_append, List.length_cons, List.length_nil, sI_len] <;> omega) | grind), (by first | omega | (simp only [List.length_append, List.length_cons, List.length_nil, sI_len, cond_true, cond_false]; omega) | (simp only [List.length_append, List.length_cons, List.length_nil, sI_len, cond_eq_ite, apply_ite List.length]; split <;> simp only [List.length_append, List.length_cons, List.length_nil, sI_len] <;> omega) | grind), (by first | omega | (simp only [List.length_append, List.length_cons, List.length_nil, sI_len, cond_true, cond_false]; omega) | (simp only [List.length_append, List.length_cons, List.length_nil, sI_len, cond_eq_ite, apply_ite List.length]; split <;> simp only [List.length_append, List.length_cons, List.length_nil, sI_len] <;> omega) | grind), (hE98.sub (L' := [(2, .slice imagesA images.length imagesC), (10, .slice none 0 0), (23, .slice valuesA values.length valuesC), (24, .int .i64 (values.length : Int)), (25, .int .i64 0)]) ⟨rfl, rfl, rfl, rfl, rfl, trivial⟩), (St.pick (Γ' := [.own 2 1 none 0 0 ([]), .rd 1 g1A g1.length g1C g1, .blk b11 #[.int .i64 g0, .slice g1A g1.length g1C] 53, .rd 1 f1A f1.length f1C f1, .blk b5 #[.int .i64 f0, .slice f1A f1.length f1C] 53, .rd 1 valuesA values.length valuesC values, .rd 1 imagesA images.length imagesC images]) hS99 [0, 1, 2, 3, 4, 5, 6] (by decide) rfl)⟩
        ·
          clear hE98 hS99
          rintro r110 a101 w102 ⟨out10, t25, out10A, out10C, hT105, hr106, hi107, hi108, hi109, hE103, hS104⟩
          obtain ⟨r110, rfl⟩ : ∃ r', r110 = r' + 1 := ⟨r110 - 1, by omega⟩
          refine c_seq ?_
          refine c_reg ?_
          refine q_step (v := .bool (decide (t25 < (values.length : Int)))) hE103 (y_lss rfl rfl) rfl rfl rfl ?_; intro a111 hE112; clear hE103
          refine c_nil ?_
          have hE113 := hE112.sub (L' := [(2, .slice imagesA images.length imagesC), (10, .slice out10A ((out10).length) out10C), (23, .slice valuesA values.length valuesC), (24, .int .i64 (values.length : Int)), (25, .int .i64 t25), (26, .bool (decide (t25 < (values.length : Int))))]) ⟨rfl, rfl, rfl, rfl, rfl, rfl, trivial⟩; clear hE112
          refine p_tn ?_
          refine c_seq ?_
          refine c_cond hE113 rfl (fun ht114 => ?_) (fun ht114 => ?_)
          ·
            have hp115 := of_decide_eq_true ht114
            have hE116 := hE113; rw [ht114] at hE116; clear hE113
            refine wp_skip ?_
            refine p_tn ?_
            refine c_seq ?_
            refine wp_block ?_
            refine c_seq ?_
            refine c_reg ?_
            refine q_step (v := .pointer (some (adr valuesA (Int.toNat t25)))) hE116 (y_idx (by kernel_rfl) (fun _ => by kernel_rfl) rfl rfl (RdS.isS (m := t25) (St.rdR (i := 5) hS104 rfl) (by omega) (by omega)) (by omega) (by omega) (Nat.mul_one _).symm) rfl rfl rfl ?_; intro a117 hE118; clear hE116
            refine q_step (v := .int .i64 (gI values t25)) hE118 (y_load (fun _ => by kernel_rfl) rfl (RdS.elt (St.rdR (i := 5) hS104 rfl) (by omega) (by omega))) rfl rfl rfl ?_; intro a119 hE120; clear hE118
            refine q_step (v := .int .i64 (gI values t25)) hE120 (y_assign rfl) rfl rfl rfl ?_; intro a121 hE122; clear hE120
            refine c_nil ?_
            have hE123 := hE122.sub (L' := [(2, .slice imagesA images.length imagesC), (10, .slice out10A ((out10).length) out10C), (12, .int .i64 (gI values t25)), (23, .slice valuesA values.length valuesC), (24, .int .i64 (values.length : Int)), (25, .int .i64 t25)]) ⟨rfl, rfl, rfl, rfl, rfl, rfl, trivial⟩; clear hE122
            refine p_tn ?_
            refine c_reg ?_
            refine q_step (v := .slice out10A ((out10).length) out10C) hE123 (y_move rfl) rfl rfl rfl ?_; intro a124 hE125; clear hE123
            refine q_step (v := .slice imagesA images.length imagesC) hE125 (y_move rfl) rfl rfl rfl ?_; intro a126 hE127; clear hE125
            refine q_step (v := .int .i64 (gI values t25)) hE127 (y_move rfl) rfl rfl rfl ?_; intro a128 hE129; clear hE127
            refine l_step hE129 rfl (l_call (f := 97) (argv := [.slice imagesA images.length imagesC, .int .i64 (gI values t25)]) hE129 (fun _ => cf_pull _ _) rfl rfl (c_pull imagesA images.length imagesC images (gI values t25) w102 (St.rdR (i := 6) hS104 rfl) (by omega) (fun m h0 h1 => by have := (mapCode_t (by assumption)).2.2.2.2.2 m h0 h1; omega)) ?_)
            rintro _ w131 ⟨rfl, he135⟩ a132 hE133; clear hE129
            have hS134 := St.go hS104 he135; clear hS104
            refine l_step hE133 rfl (l_lit (e := 2) (s := 1) (xs := [F_pull images (gI values t25)]) (vs := [.int .i64 (F_pull images (gI values t25))]) hS134 hE133 rfl (fun _ => by kernel_rfl) rfl rfl rfl ?_)
            intro b136 w137 hS140 he141 a138 hE139; clear hS134 hE133
            obtain ⟨_, hi1, hi2, hi3, hi4⟩ := info_parts (show (Try.prog.info? 2).map (fun i => (i.zero, i.size, i.bytes)) = some (some (.int .i64 0), 1, 8) by kernel_rfl)
            refine l_step hE139 rfl (l_append (k := 1) (n' := (out10 ++ ([F_pull images (gI values t25)])).length) hS140 hE139 (by kernel_rfl) hi1 hi2 hi3 rfl (by decide) (by rw [hi4]; decide) rfl rfl rfl (St.rdO (i := 0) hS140 rfl) (by first | omega | (simp only [List.length_append, List.length_cons, List.length_nil]; omega)) (by have h1 := (St.rdO (i := 1) hS140 rfl).len1; have h2 := (St.rdO (i := 0) hS140 rfl).len1; rw [List.length_append, h1, h2]) rfl ?_)
            intro b142 c148 w143 hS146 a144 hE145; clear hS140 hE139 hi1 hi2 hi3 hi4
            refine q_step (v := .slice b142 ((out10 ++ ([F_pull images (gI values t25)])).length) c148) hE145 (y_assign rfl) rfl rfl rfl ?_; intro a149 hE150; clear hE145
            refine c_nil ?_
            have hE151 := hE150.sub (L' := [(2, .slice imagesA images.length imagesC), (10, .slice b142 ((out10 ++ ([F_pull images (gI values t25)])).length) c148), (23, .slice valuesA values.length valuesC), (24, .int .i64 (values.length : Int)), (25, .int .i64 t25)]) ⟨rfl, rfl, rfl, rfl, rfl, trivial⟩; clear hE150
            refine p_bn ?_
            refine p_tn ?_
            refine c_reg ?_
            refine q_step (v := .int .i64 (t25 + 1)) hE151 (y_add rfl rfl ⟨(by omega), (by omega)⟩) rfl rfl rfl ?_; intro a152 hE153; clear hE151
            refine q_step (v := .int .i64 (t25 + 1)) hE153 (y_move rfl) rfl rfl rfl ?_; intro a154 hE155; clear hE153
            refine c_nil ?_
            have hE156 := hE155.sub (L' := [(2, .slice imagesA images.length imagesC), (10, .slice b142 ((out10 ++ ([F_pull images (gI values t25)])).length) c148), (23, .slice valuesA values.length valuesC), (24, .int .i64 (values.length : Int)), (25, .int .i64 (t25 + 1))]) ⟨rfl, rfl, rfl, rfl, rfl, trivial⟩; clear hE155
            refine p_tn ⟨r110, Nat.lt_succ_self _, out10 ++ ([F_pull images (gI values t25)]), t25 + 1, b142, c148, (hT105.symm.trans (show F_PullValues_L1b images values (F_PullValues_L1 images values r110) out10 t25 = F_PullValues_L1 images values r110 (out10 ++ ([F_pull images (gI values t25)])) (t25 + 1) by unfold F_PullValues_L1b; rw [ht114]; first | done | rfl)).symm, (by omega), (by first | omega | (simp only [List.length_append, List.length_cons, List.length_nil, sI_len, cond_true, cond_false]; omega) | (simp only [List.length_append, List.length_cons, List.length_nil, sI_len, cond_eq_ite, apply_ite List.length]; split <;> simp only [List.length_append, List.length_cons, List.length_nil, sI_len] <;> omega) | grind), (by first | omega | (simp only [List.length_append, List.length_cons, List.length_nil, sI_len, cond_true, cond_false]; omega) | (simp only [List.length_append, List.length_cons, List.length_nil, sI_len, cond_eq_ite, apply_ite List.length]; split <;> simp only [List.length_append, List.length_cons, List.length_nil, sI_len] <;> omega) | grind), (by first | omega | (simp only [List.length_append, List.length_cons, List.length_nil, sI_len, cond_true, cond_false]; omega) | (simp only [List.length_append, List.length_cons, List.length_nil, sI_len, cond_eq_ite, apply_ite List.length]; split <;> simp only [List.length_append, List.length_cons, List.length_nil, sI_len] <;> omega) | grind), (hE156.sub (L' := [(2, .slice imagesA images.length imagesC), (10, .slice b142 ((out10 ++ ([F_pull images (gI values t25)])).length) c148), (23, .slice valuesA values.length valuesC), (24, .int .i64 (values.length : Int)), (25, .int .i64 (t25 + 1))]) ⟨rfl, rfl, rfl, rfl, rfl, trivial⟩), (St.pick (Γ' := [.own 2 1 b142 ((out10 ++ ([F_pull images (gI values t25)])).length) c148 (out10 ++ ([F_pull images (gI values t25)])), .rd 1 g1A g1.length g1C g1, .blk b11 #[.int .i64 g0, .slice g1A g1.length g1C] 53, .rd 1 f1A f1.length f1C f1, .blk b5 #[.int .i64 f0, .slice f1A f1.length f1C] 53, .rd 1 valuesA values.length valuesC values, .rd 1 imagesA images.length imagesC images]) hS146 [1, 2, 3, 4, 5, 6, 7] (by decide) rfl)⟩
          ·
            have hp157 := of_decide_eq_false ht114
            have hE158 := hE113; rw [ht114] at hE158; clear hE113
            refine wp_exit ?_
            refine p_te ?_
            have hX159 : F_PullValues_L1 images values (Int.toNat ((values.length : Int) - 0) + 1) ([]) 0 = (out10, t25) := hT105.symm.trans (show F_PullValues_L1b images values (F_PullValues_L1 images values r110) out10 t25 = (out10, t25) by unfold F_PullValues_L1b; rw [ht114]; first | done | rfl)
            refine p_te (p_be (p_tn ?_))
            exact ⟨out10A, out10C, (by rw [hX159]; exact (show 0 ≤ t25 from (by first | omega | (simp only [List.length_append, List.length_cons, List.length_nil, sI_len, cond_true, cond_false]; omega) | (simp only [List.length_append, List.length_cons, List.length_nil, sI_len, cond_eq_ite, apply_ite List.length]; split <;> simp only [List.length_append, List.length_cons, List.length_nil, sI_len] <;> omega) | grind))), (by rw [hX159]; exact (show t25 ≤ (values.length : Int) from (by first | omega | (simp only [List.length_append, List.length_cons, List.length_nil, sI_len, cond_true, cond_false]; omega) | (simp only [List.length_append, List.length_cons, List.length_nil, sI_len, cond_eq_ite, apply_ite List.length]; split <;> simp only [List.length_append, List.length_cons, List.length_nil, sI_len] <;> omega) | grind))), (by rw [hX159]; exact (show (out10.length : Int) ≤ t25 from (by first | omega | (simp only [List.length_append, List.length_cons, List.length_nil, sI_len, cond_true, cond_false]; omega) | (simp only [List.length_append, List.length_cons, List.length_nil, sI_len, cond_eq_ite, apply_ite List.length]; split <;> simp only [List.length_append, List.length_cons, List.length_nil, sI_len] <;> omega) | grind))), (by rw [hX159]; exact (hE158.sub (L' := [(2, .slice imagesA images.length imagesC), (10, .slice out10A ((out10).length) out10C), (23, .slice valuesA values.length valuesC), (24, .int .i64 (values.length : Int)), (25, .int .i64 t25)]) ⟨rfl, rfl, rfl, rfl, rfl, trivial⟩)), (by rw [hX159]; exact (St.pick (Γ' := [.own 2 1 out10A ((out10).length) out10C out10, .rd 1 g1A g1.length g1C g1, .blk b11 #[.int .i64 g0, .slice g1A g1.length g1C] 53, .rd 1 f1A f1.length f1C f1, .blk b5 #[.int .i64 f0, .slice f1A f1.length f1C] 53, .rd 1 valuesA values.length valuesC values, .rd 1 imagesA images.length imagesC images]) hS104 [0, 1, 2, 3, 4, 5, 6] (by decide) rfl))⟩
      ·
        rintro a160 w161 ⟨out10A_100, out10C_100, hi165, hi166, hi167, hE162, hS163⟩; clear hE98 hS99
        refine p_tn ?_
        refine c_seq ?_
        refine c_reg ?_
        refine q_step (v := .slice out10A_100 (((F_PullValues_L1 images values (Int.toNat ((values.length : Int) - 0) + 1) ([]) 0).1).length) out10C_100) hE162 (y_move rfl) rfl rfl rfl ?_; intro a168 hE169; clear hE162
        refine q_step (v := .slice out10A_100 (((F_PullValues_L1 images values (Int.toNat ((values.length : Int) - 0) + 1) ([]) 0).1).length) out10C_100) hE169 (y_assign rfl) rfl rfl rfl ?_; intro a170 hE171; clear hE169
        refine q_step (v := .int .i64 0) hE171 (y_assign rfl) rfl rfl rfl ?_; intro a172 hE173; clear hE171
        refine c_nil ?_
        have hE174 := hE173.sub (L' := [(8, .slice out10A_100 (((F_PullValues_L1 images values (Int.toNat ((values.length : Int) - 0) + 1) ([]) 0).1).length) out10C_100), (9, .int .i64 0)]) ⟨rfl, rfl, trivial⟩; clear hE173
        refine p_tn ?_
        refine wp_ret ?_
        have hF : F_PullValues f0 f1 g0 g1 images values = ((F_PullValues_L1 images values (Int.toNat ((values.length : Int) - 0) + 1) ([]) 0).1, 0) := by unfold F_PullValues; rw [ht76]; first | done | rfl
        refine c_ret2 hE174 rfl rfl rfl ?_
        exact ⟨out10A_100, out10C_100, (by rw [hF]; first | done | rfl), (by rw [hF]; exact hS163.ok 0 _ rfl), hS163.ext⟩

theorem pull_eq {images values : List Int} (hl : images.length ≤ 8) (v : Int) : F_pull images (gI values v) = (F_l08Pull_L2 images values v (Int.toNat ((images.length : Int) - 0) + 1) 0 0).1 := by
  unfold F_pull
  rw [rangeLoop0 (images.length : Int) (by omega) (fun o j => bif F_has (gI values v) (gI images j) then orI o (shlI 1 j) else o) (F_pull_L1 images (gI values v)) (fun _ _ _ => rfl),
    rangeLoop0 (images.length : Int) (by omega) (fun o j => bif F_l01Bit (gI values v) (gI images j) then orI o (powI j) else o) (F_l08Pull_L2 images values v) (fun _ _ _ => rfl), Int.toNat_natCast]
  apply foldl_ext'
  intro j hj o
  have hj := List.mem_range.1 hj
  rw [pow_shl (i := (j : Int)) (by omega) (by omega)]; rfl
theorem Pull_loop {images values : List Int} (hl : images.length ≤ 8) (r : Nat) (xs : List Int) (v : Int) : F_PullValues_L1 images values r xs v = F_l08Pull_L1 images values r xs v := by
  induction r generalizing xs v with
  | zero => rfl
  | succ r ih =>
    show F_PullValues_L1b images values _ xs v = F_l08Pull_L1b images values _ xs v
    unfold F_PullValues_L1b F_l08Pull_L1b
    rw [ih, pull_eq hl]
theorem PullValues_eq (f0 : Int) (f1 : List Int) (g0 : Int) (g1 images values : List Int) : F_PullValues f0 f1 g0 g1 images values = F_s_PullValues f0 f1 g0 g1 images values := by
  unfold F_PullValues F_s_PullValues F_l08Pull
  rw [mapCode_eq]
  by_cases h : F_l08Code f0 f1 g0 g1 images = 0
  · obtain ⟨hf, hg, hf2, hg2, hl, hx⟩ := l08Code_t h
    have e : F_z_ContainsFunc values (fun x0 => F_PullValues_k1 x0 g0 g1) = !F_l01Masks g0 values := by
      rw [contains_eq, masks_eq, List.all_eq_not_any_not, Bool.not_not]
      congr 1; funext x
      unfold F_PullValues_k1
      rw [isMask_eq (by omega) (by omega)]
    rw [e, Pull_loop (by omega)]
  · rw [decide_eq_false h, Bool.not_false, Bool.true_or, Bool.true_or, cond_true, cond_true]
theorem Pull_len (images values : List Int) (r : Nat) (xs : List Int) (v : Int) : (F_l08Pull_L1 images values r xs v).1.length ≤ xs.length + r := by
  induction r generalizing xs v with
  | zero => exact Nat.le_refl _
  | succ r ih =>
    show (F_l08Pull_L1b images values _ xs v).1.length ≤ _
    unfold F_l08Pull_L1b
    cases decide (v < (values.length : Int))
    · simp <;> omega
    · simp only [cond_true]
      refine Nat.le_trans (ih _ _) ?_
      simp <;> omega
theorem PullValues_len (f0 : Int) (f1 : List Int) (g0 : Int) (g1 images values : List Int) : (F_PullValues f0 f1 g0 g1 images values).1.length ≤ values.length + 1 := by
  rw [PullValues_eq]
  unfold F_s_PullValues F_l08Pull
  cases ((!decide ((F_l08Code f0 f1 g0 g1 images) = 0)) || (!(F_l01Masks g0 values)))
  · have := Pull_len images values (Int.toNat ((values.length : Int) - 0) + 1) [] 0
    simp only [cond_false]
    refine Nat.le_trans this ?_
    simp
  · simp

end Go.Proofs.Ytfilpikakdlgbaa
