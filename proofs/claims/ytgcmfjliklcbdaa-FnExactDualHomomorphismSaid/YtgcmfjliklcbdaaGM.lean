/- GM: models and contracts, printed by wip/gen/gen.py -/
import Derived.Test.YtgcmfjliklcbdaaGL
set_option linter.unusedVariables false
set_option linter.unusedSimpArgs false
namespace Go.Proofs.Ytgcmfjliklcbdaa
open Go.RowKit

def F_l08Pull_L2b (images : List Int) (values : List Int) (v6 : Int) (rec : Int → Int → Int × Int) (mask7L2 : Int) (x8L2 : Int) : Int × Int :=
  bif (decide (x8L2 < (images.length : Int))) then (rec (bif (F_l01Bit (gI values v6) (gI images x8L2)) then orI mask7L2 (powI x8L2) else mask7L2) (x8L2 + 1)) else (mask7L2, x8L2)
def F_l08Pull_L2 (images : List Int) (values : List Int) (v6 : Int) : Nat → Int → Int → Int × Int
  | 0, mask7L2, x8L2 => (mask7L2, x8L2)
  | r + 1, mask7L2, x8L2 => F_l08Pull_L2b images values v6 (F_l08Pull_L2 images values v6 r) mask7L2 x8L2
def F_l08Pull_L1b (images : List Int) (values : List Int) (rec : (List Int) → Int → (List Int) × Int) (out5 : List Int) (v6 : Int) : (List Int) × Int :=
  bif (decide (v6 < (values.length : Int))) then (rec (out5 ++ ([(F_l08Pull_L2 images values v6 (Int.toNat ((images.length : Int) - 0) + 1) 0 0).1])) (v6 + 1)) else (out5, v6)
def F_l08Pull_L1 (images : List Int) (values : List Int) : Nat → (List Int) → Int → (List Int) × Int
  | 0, out5, v6 => (out5, v6)
  | r + 1, out5, v6 => F_l08Pull_L1b images values (F_l08Pull_L1 images values r) out5 v6
def F_l08Pull (images : List Int) (values : List Int) : List Int :=
  (F_l08Pull_L1 images values (Int.toNat ((values.length : Int) - 0) + 1) ([]) 0).1
theorem cf_l08Pull (args : Array Value) (w : World) : (callFunc 128 args).run Try.prog w = .ok (.enter 128 args) w := by kernel_rfl
set_option maxRecDepth 100000 in
theorem c_l08Pull (imagesA : Option Addr) (imagesN imagesC : Nat) (images : List Int) (valuesA : Option Addr) (valuesN valuesC : Nat) (values : List Int) (w : World) (imagesR : RdS w 1 imagesA imagesN imagesC images) (valuesR : RdS w 1 valuesA valuesN valuesC values) (hl : images.length ≤ 8) (hv : values.length ≤ 1048576) (him : ∀ m : Int, 0 ≤ m → m < (images.length : Int) → 0 ≤ gI images m ∧ gI images m ≤ 7) :
    Calls Try.prog 128 #[.slice imagesA imagesN imagesC, .slice valuesA valuesN valuesC] w (Ret fun v w' => ∃ b1 : Option Addr, ∃ c1 : Nat, v = .slice b1 (F_l08Pull images values).length c1 ∧ OwnS w' w.heap.size 2 1 b1 (F_l08Pull images values).length c1 (F_l08Pull images values) ∧ Ext w w') := by
  obtain rfl : imagesN = images.length := imagesR.len1.symm
  have imagesLe := imagesR.le
  obtain rfl : valuesN = values.length := valuesR.len1.symm
  have valuesLe := valuesR.le
  have hS := St.nil w
  have hS1 := St.rd0 hS rfl imagesR; clear hS
  have hS2 := St.rd0 hS1 rfl valuesR; clear hS1
  refine enter (args := [.slice imagesA images.length imagesC, .slice valuesA values.length valuesC]) Try.func128 rfl rfl ?_
  rw [Try.ntmps128]; intro a hE
  have hE := hE.sub (L' := [(0, .slice imagesA images.length imagesC), (1, .slice valuesA values.length valuesC)]) ⟨rfl, rfl, trivial⟩
  refine c_seq ?_
  refine c_reg ?_
  refine q_step (v := .slice none 0 0) hE (y_assign rfl) rfl rfl rfl ?_; intro a3 hE4; clear hE
  refine c_nil ?_
  have hE5 := hE4.sub (L' := [(0, .slice imagesA images.length imagesC), (1, .slice valuesA values.length valuesC)]) ⟨rfl, rfl, trivial⟩; clear hE4
  refine p_tn ?_
  refine c_seq ?_
  refine c_reg ?_
  refine l_step hE5 rfl (l_lit (e := 2) (s := 1) (xs := []) (vs := []) hS2 hE5 rfl (fun _ => by kernel_rfl) rfl rfl rfl ?_)
  intro b6 w7 hS10 he11 a8 hE9; clear hS2 hE5
  refine q_step (v := .slice (some ⟨b6, 0, none⟩) 0 0) hE9 (y_assign rfl) rfl rfl rfl ?_; intro a12 hE13; clear hE9
  refine c_nil ?_
  have hE14 := hE13.sub (L' := [(0, .slice imagesA images.length imagesC), (1, .slice valuesA values.length valuesC), (5, .slice (some ⟨b6, 0, none⟩) 0 0)]) ⟨rfl, rfl, rfl, trivial⟩; clear hE13
  refine p_tn ?_
  refine c_seq ?_
  refine c_seq ?_
  refine c_reg ?_
  refine q_step (v := .int .i64 0) hE14 (y_assign rfl) rfl rfl rfl ?_; intro a15 hE16; clear hE14
  refine c_nil ?_
  have hE17 := hE16.sub (L' := [(0, .slice imagesA images.length imagesC), (1, .slice valuesA values.length valuesC), (5, .slice (some ⟨b6, 0, none⟩) 0 0), (6, .int .i64 0)]) ⟨rfl, rfl, rfl, rfl, trivial⟩; clear hE16
  refine p_tn ?_
  refine c_cut1 (fun a' w' => ∃ out5A_18 : Option Addr, ∃ out5C_18 : Nat, (0 ≤ ((F_l08Pull_L1 images values (Int.toNat ((values.length : Int) - 0) + 1) ([]) 0).2)) ∧ (((F_l08Pull_L1 images values (Int.toNat ((values.length : Int) - 0) + 1) ([]) 0).2) ≤ (values.length : Int)) ∧ ((((F_l08Pull_L1 images values (Int.toNat ((values.length : Int) - 0) + 1) ([]) 0).1).length : Int) ≤ ((F_l08Pull_L1 images values (Int.toNat ((values.length : Int) - 0) + 1) ([]) 0).2)) ∧ E a' 40 [(0, .slice imagesA images.length imagesC), (1, .slice valuesA values.length valuesC), (5, .slice out5A_18 (((F_l08Pull_L1 images values (Int.toNat ((values.length : Int) - 0) + 1) ([]) 0).1).length) out5C_18), (6, .int .i64 ((F_l08Pull_L1 images values (Int.toNat ((values.length : Int) - 0) + 1) ([]) 0).2))] ∧ St w w' [.own 2 1 out5A_18 (((F_l08Pull_L1 images values (Int.toNat ((values.length : Int) - 0) + 1) ([]) 0).1).length) out5C_18 ((F_l08Pull_L1 images values (Int.toNat ((values.length : Int) - 0) + 1) ([]) 0).1), .rd 1 valuesA values.length valuesC values, .rd 1 imagesA images.length imagesC images]) ?_ ?_
  ·
    refine wp_block ?_
    refine c_loop (fun r a' w' => ∃ out5 : List Int, ∃ v6 : Int, ∃ out5A : Option Addr, ∃ out5C : Nat, F_l08Pull_L1 images values r out5 v6 = F_l08Pull_L1 images values (Int.toNat ((values.length : Int) - 0) + 1) ([]) 0 ∧ Int.toNat ((values.length : Int) - v6) < r ∧ (0 ≤ v6) ∧ (v6 ≤ (values.length : Int)) ∧ ((out5.length : Int) ≤ v6) ∧ E a' 40 [(0, .slice imagesA images.length imagesC), (1, .slice valuesA values.length valuesC), (5, .slice out5A ((out5).length) out5C), (6, .int .i64 v6)] ∧ St w w' [.own 2 1 out5A ((out5).length) out5C out5, .rd 1 valuesA values.length valuesC values, .rd 1 imagesA images.length imagesC images]) (r := (Int.toNat ((values.length : Int) - 0) + 1)) ?_ ?_
    · exact ⟨[], 0, some ⟨b6, 0, none⟩, 0, rfl, Nat.lt_succ_self _, (by first | omega | (simp only [List.length_append, List.length_cons, List.length_nil, sI_len, cond_true, cond_false]; omega) | (simp only [List.length_append, List.length_cons, List.length_nil, sI_len, cond_eq_ite, apply_ite List.length]; split <;> simp only [List.length_append, List.length_cons, List.length_nil, sI_len] <;> omega) | grind), (by first | omega | (simp only [List.length_append, List.length_cons, List.length_nil, sI_len, cond_true, cond_false]; omega) | (simp only [List.length_append, List.length_cons, List.length_nil, sI_len, cond_eq_ite, apply_ite List.length]; split <;> simp only [List.length_append, List.length_cons, List.length_nil, sI_len] <;> omega) | grind), (by first | omega | (simp only [List.length_append, List.length_cons, List.length_nil, sI_len, cond_true, cond_false]; omega) | (simp only [List.length_append, List.length_cons, List.length_nil, sI_len, cond_eq_ite, apply_ite List.length]; split <;> simp only [List.length_append, List.length_cons, List.length_nil, sI_len] <;> omega) | grind), (hE17.sub (L' := [(0, .slice imagesA images.length imagesC), (1, .slice valuesA values.length valuesC), (5, .slice (some ⟨b6, 0, none⟩) 0 0), (6, .int .i64 0)]) ⟨rfl, rfl, rfl, rfl, trivial⟩), (St.pick (Γ' := [.own 2 1 (some ⟨b6, 0, none⟩) 0 0 ([]), .rd 1 valuesA values.length valuesC values, .rd 1 imagesA images.length imagesC images]) hS10 [0, 1, 2] (by decide) rfl)⟩
    ·
      clear hE17 hS10
      rintro r28 a19 w20 ⟨out5, v6, out5A, out5C, hT23, hr24, hi25, hi26, hi27, hE21, hS22⟩
      obtain ⟨r28, rfl⟩ : ∃ r', r28 = r' + 1 := ⟨r28 - 1, by omega⟩
      refine c_seq ?_
      refine c_seq ?_
      refine c_reg ?_
      refine q_step (v := .int .i64 v6) hE21 (y_move rfl) rfl rfl rfl ?_; intro a29 hE30; clear hE21
      refine q_step (v := .slice valuesA values.length valuesC) hE30 (y_move rfl) rfl rfl rfl ?_; intro a31 hE32; clear hE30
      refine q_step (v := .int .i64 (values.length : Int)) hE32 (y_len (e := 2) (by kernel_rfl) rfl) rfl rfl rfl ?_; intro a33 hE34; clear hE32
      refine q_step (v := .bool (decide (v6 < (values.length : Int)))) hE34 (y_lss rfl rfl) rfl rfl rfl ?_; intro a35 hE36; clear hE34
      refine c_nil ?_
      have hE37 := hE36.sub (L' := [(0, .slice imagesA images.length imagesC), (1, .slice valuesA values.length valuesC), (5, .slice out5A ((out5).length) out5C), (6, .int .i64 v6), (13, .bool (decide (v6 < (values.length : Int))))]) ⟨rfl, rfl, rfl, rfl, rfl, trivial⟩; clear hE36
      refine p_tn ?_
      refine c_cond hE37 rfl (fun ht38 => ?_) (fun ht38 => ?_)
      ·
        have hp39 := of_decide_eq_true ht38
        have hE40 := hE37; rw [ht38] at hE40; clear hE37
        refine wp_skip ?_
        refine p_tn ?_
        refine c_seq ?_
        refine wp_block ?_
        refine c_seq ?_
        refine c_reg ?_
        refine q_step (v := .int .i64 0) hE40 (y_assign rfl) rfl rfl rfl ?_; intro a41 hE42; clear hE40
        refine c_nil ?_
        have hE43 := hE42.sub (L' := [(0, .slice imagesA images.length imagesC), (1, .slice valuesA values.length valuesC), (5, .slice out5A ((out5).length) out5C), (6, .int .i64 v6), (7, .int .i64 0)]) ⟨rfl, rfl, rfl, rfl, rfl, trivial⟩; clear hE42
        refine p_tn ?_
        refine c_seq ?_
        refine c_seq ?_
        refine c_reg ?_
        refine q_step (v := .int .i64 0) hE43 (y_assign rfl) rfl rfl rfl ?_; intro a44 hE45; clear hE43
        refine c_nil ?_
        have hE46 := hE45.sub (L' := [(0, .slice imagesA images.length imagesC), (1, .slice valuesA values.length valuesC), (5, .slice out5A ((out5).length) out5C), (6, .int .i64 v6), (7, .int .i64 0), (8, .int .i64 0)]) ⟨rfl, rfl, rfl, rfl, rfl, rfl, trivial⟩; clear hE45
        refine p_tn ?_
        refine c_cut1 (fun a' w' => (0 ≤ ((F_l08Pull_L2 images values v6 (Int.toNat ((images.length : Int) - 0) + 1) 0 0).2)) ∧ (((F_l08Pull_L2 images values v6 (Int.toNat ((images.length : Int) - 0) + 1) 0 0).2) ≤ (images.length : Int)) ∧ E a' 40 [(0, .slice imagesA images.length imagesC), (1, .slice valuesA values.length valuesC), (5, .slice out5A ((out5).length) out5C), (6, .int .i64 v6), (7, .int .i64 ((F_l08Pull_L2 images values v6 (Int.toNat ((images.length : Int) - 0) + 1) 0 0).1)), (8, .int .i64 ((F_l08Pull_L2 images values v6 (Int.toNat ((images.length : Int) - 0) + 1) 0 0).2))] ∧ St w w' [.own 2 1 out5A ((out5).length) out5C out5, .rd 1 valuesA values.length valuesC values, .rd 1 imagesA images.length imagesC images]) ?_ ?_
        ·
          refine wp_block ?_
          refine c_loop (fun r a' w' => ∃ mask7L2 : Int, ∃ x8L2 : Int, F_l08Pull_L2 images values v6 r mask7L2 x8L2 = F_l08Pull_L2 images values v6 (Int.toNat ((images.length : Int) - 0) + 1) 0 0 ∧ Int.toNat ((images.length : Int) - x8L2) < r ∧ (0 ≤ x8L2) ∧ (x8L2 ≤ (images.length : Int)) ∧ E a' 40 [(0, .slice imagesA images.length imagesC), (1, .slice valuesA values.length valuesC), (5, .slice out5A ((out5).length) out5C), (6, .int .i64 v6), (7, .int .i64 mask7L2), (8, .int .i64 x8L2)] ∧ St w w' [.own 2 1 out5A ((out5).length) out5C out5, .rd 1 valuesA values.length valuesC values, .rd 1 imagesA images.length imagesC images]) (r := (Int.toNat ((images.length : Int) - 0) + 1)) ?_ ?_
          · exact ⟨0, 0, rfl, Nat.lt_succ_self _, (by first | omega | (simp only [List.length_append, List.length_cons, List.length_nil, sI_len, cond_true, cond_false]; omega) | (simp only [List.length_append, List.length_cons, List.length_nil, sI_len, cond_eq_ite, apply_ite List.length]; split <;> simp only [List.length_append, List.length_cons, List.length_nil, sI_len] <;> omega) | grind), (by first | omega | (simp only [List.length_append, List.length_cons, List.length_nil, sI_len, cond_true, cond_false]; omega) | (simp only [List.length_append, List.length_cons, List.length_nil, sI_len, cond_eq_ite, apply_ite List.length]; split <;> simp only [List.length_append, List.length_cons, List.length_nil, sI_len] <;> omega) | grind), (hE46.sub (L' := [(0, .slice imagesA images.length imagesC), (1, .slice valuesA values.length valuesC), (5, .slice out5A ((out5).length) out5C), (6, .int .i64 v6), (7, .int .i64 0), (8, .int .i64 0)]) ⟨rfl, rfl, rfl, rfl, rfl, rfl, trivial⟩), (St.pick (Γ' := [.own 2 1 out5A ((out5).length) out5C out5, .rd 1 valuesA values.length valuesC values, .rd 1 imagesA images.length imagesC images]) hS22 [0, 1, 2] (by decide) rfl)⟩
          ·
            clear hE46 hS22
            rintro r56 a48 w49 ⟨mask7L2, x8L2, hT52, hr53, hi54, hi55, hE50, hS51⟩
            obtain ⟨r56, rfl⟩ : ∃ r', r56 = r' + 1 := ⟨r56 - 1, by omega⟩
            refine c_seq ?_
            refine c_seq ?_
            refine c_reg ?_
            refine q_step (v := .int .i64 x8L2) hE50 (y_move rfl) rfl rfl rfl ?_; intro a57 hE58; clear hE50
            refine q_step (v := .slice imagesA images.length imagesC) hE58 (y_move rfl) rfl rfl rfl ?_; intro a59 hE60; clear hE58
            refine q_step (v := .int .i64 (images.length : Int)) hE60 (y_len (e := 2) (by kernel_rfl) rfl) rfl rfl rfl ?_; intro a61 hE62; clear hE60
            refine q_step (v := .bool (decide (x8L2 < (images.length : Int)))) hE62 (y_lss rfl rfl) rfl rfl rfl ?_; intro a63 hE64; clear hE62
            refine c_nil ?_
            have hE65 := hE64.sub (L' := [(0, .slice imagesA images.length imagesC), (1, .slice valuesA values.length valuesC), (5, .slice out5A ((out5).length) out5C), (6, .int .i64 v6), (7, .int .i64 mask7L2), (8, .int .i64 x8L2), (19, .bool (decide (x8L2 < (images.length : Int))))]) ⟨rfl, rfl, rfl, rfl, rfl, rfl, rfl, trivial⟩; clear hE64
            refine p_tn ?_
            refine c_cond hE65 rfl (fun ht66 => ?_) (fun ht66 => ?_)
            ·
              have hp67 := of_decide_eq_true ht66
              have hE68 := hE65; rw [ht66] at hE68; clear hE65
              have hx1 := him x8L2 (by omega) (by omega)
              refine wp_skip ?_
              refine p_tn ?_
              refine c_cut (fun a' w' => E a' 40 [(0, .slice imagesA images.length imagesC), (1, .slice valuesA values.length valuesC), (5, .slice out5A ((out5).length) out5C), (6, .int .i64 v6), (7, .int .i64 (bif (F_l01Bit (gI values v6) (gI images x8L2)) then orI mask7L2 (powI x8L2) else mask7L2)), (8, .int .i64 x8L2)] ∧ St w w' [.own 2 1 out5A ((out5).length) out5C out5, .rd 1 valuesA values.length valuesC values, .rd 1 imagesA images.length imagesC images]) ?_ ?_
              ·
                refine wp_block ?_
                refine c_seq ?_
                refine d_start (fun w' => w'.cell? (adr valuesA (Int.toNat v6)) = some (.int .i64 (gI values v6)) ∧ w'.cell? (adr imagesA (Int.toNat x8L2)) = some (.int .i64 (gI images x8L2)) ∧ True) [3, 7] 9 (by kernel_rfl) rfl ?_
                intro w69 he70; have hS71 := St.go hS51 he70; clear hS51
                refine d_pure (v := .slice valuesA values.length valuesC) 0 rfl hE68 (y_move rfl) rfl (by kernel_rfl) (by kernel_rfl) (by kernel_rfl) rfl rfl (fun _ _ _ h => h) ?_; intro a72 hE73; clear hE68
                refine d_pure (v := .int .i64 v6) 1 rfl hE73 (y_move rfl) rfl (by kernel_rfl) (by kernel_rfl) (by kernel_rfl) rfl rfl (fun _ _ _ h => h) ?_; intro a74 hE75; clear hE73
                refine d_pure (v := .pointer (some (adr valuesA (Int.toNat v6)))) 2 rfl hE75 (y_idx (by kernel_rfl) (fun _ => by kernel_rfl) rfl rfl (RdS.isS (m := v6) (St.rdR (i := 1) hS71 rfl) (by omega) (by omega)) (by omega) (by omega) (Nat.mul_one _).symm) rfl (by kernel_rfl) (by kernel_rfl) (by kernel_rfl) rfl rfl (fun _ _ _ h => h) ?_; intro a76 hE77; clear hE75
                refine d_take (v := .int .i64 (gI values v6)) 3 rfl hE77 ⟨(RdS.elt (St.rdR (i := 1) hS71 rfl) (by omega) (by omega) _ (Ext.refl _)), (RdS.elt (St.rdR (i := 2) hS71 rfl) (by omega) (by omega) _ (Ext.refl _)), trivial⟩ (y_load (fun _ => by kernel_rfl) rfl (fun _ h => h.1)) rfl rfl (by kernel_rfl) (by kernel_rfl) (by kernel_rfl) rfl rfl (fun _ _ _ h => h) ?_; intro a78 hE79; clear hE77
                refine d_pure (v := .slice imagesA images.length imagesC) 4 rfl hE79 (y_move rfl) rfl (by kernel_rfl) (by kernel_rfl) (by kernel_rfl) rfl rfl (fun _ _ _ h => h) ?_; intro a80 hE81; clear hE79
                refine d_pure (v := .int .i64 x8L2) 5 rfl hE81 (y_move rfl) rfl (by kernel_rfl) (by kernel_rfl) (by kernel_rfl) rfl rfl (fun _ _ _ h => h) ?_; intro a82 hE83; clear hE81
                refine d_pure (v := .pointer (some (adr imagesA (Int.toNat x8L2)))) 6 rfl hE83 (y_idx (by kernel_rfl) (fun _ => by kernel_rfl) rfl rfl (RdS.isS (m := x8L2) (St.rdR (i := 2) hS71 rfl) (by omega) (by omega)) (by omega) (by omega) (Nat.mul_one _).symm) rfl (by kernel_rfl) (by kernel_rfl) (by kernel_rfl) rfl rfl (fun _ _ _ h => h) ?_; intro a84 hE85; clear hE83
                refine d_take (v := .int .i64 (gI images x8L2)) 7 rfl hE85 ⟨(RdS.elt (St.rdR (i := 1) hS71 rfl) (by omega) (by omega) _ (Ext.refl _)), (RdS.elt (St.rdR (i := 2) hS71 rfl) (by omega) (by omega) _ (Ext.refl _)), trivial⟩ (y_load (fun _ => by kernel_rfl) rfl (fun _ h => h.2.1)) rfl rfl (by kernel_rfl) (by kernel_rfl) (by kernel_rfl) rfl rfl (fun _ _ _ h => h) ?_; intro a86 hE87; clear hE85
                refine d_only 8 (by kernel_rfl) rfl hE87 rfl (l_call (f := 109) (argv := [.int .i64 (gI values v6), .int .i64 (gI images x8L2)]) hE87 (fun _ => cf_l01Bit _ _) rfl rfl (c_l01Bit (gI values v6) (gI images x8L2) w69 (by omega) (by omega)) ?_)
                rintro _ _ ⟨rfl, rfl⟩ a90 hE91; clear hE87
                refine ⟨fun h => Bool.noConfusion (h.symm.trans (show exm _ _ _ = true by kernel_rfl)), ?_⟩
                refine d_done (by kernel_rfl) ?_
                have hE94 := hE91.sub (L' := [(0, .slice imagesA images.length imagesC), (1, .slice valuesA values.length valuesC), (5, .slice out5A ((out5).length) out5C), (6, .int .i64 v6), (7, .int .i64 mask7L2), (8, .int .i64 x8L2), (30, .bool (F_l01Bit (gI values v6) (gI images x8L2)))]) ⟨rfl, rfl, rfl, rfl, rfl, rfl, rfl, trivial⟩; clear hE91
                refine p_tn ?_
                refine c_cond hE94 rfl (fun ht95 => ?_) (fun ht95 => ?_)
                ·
                  have hE96 := hE94; rw [ht95] at hE96; clear hE94
                  refine c_reg ?_
                  refine q_step (v := .int .i64 mask7L2) hE96 (y_move rfl) rfl rfl rfl ?_; intro a97 hE98; clear hE96
                  refine q_step (v := .int .i64 x8L2) hE98 (y_move rfl) rfl rfl rfl ?_; intro a99 hE100; clear hE98
                  refine l_step hE100 rfl (l_call (f := 110) (argv := [.int .i64 x8L2]) hE100 (fun _ => cf_l01One _ _) rfl rfl (d_l01One x8L2 w69 (by omega) (by omega)) ?_)
                  rintro _ _ ⟨rfl, rfl⟩ a103 hE104; clear hE100
                  refine q_step (v := .int .i64 (orI mask7L2 (powI x8L2))) hE104 (y_or rfl rfl) rfl rfl rfl ?_; intro a107 hE108; clear hE104
                  refine q_step (v := .int .i64 (orI mask7L2 (powI x8L2))) hE108 (y_assign rfl) rfl rfl rfl ?_; intro a109 hE110; clear hE108
                  refine c_nil ?_
                  have hE111 := hE110.sub (L' := [(0, .slice imagesA images.length imagesC), (1, .slice valuesA values.length valuesC), (5, .slice out5A ((out5).length) out5C), (6, .int .i64 v6), (7, .int .i64 (orI mask7L2 (powI x8L2))), (8, .int .i64 x8L2)]) ⟨rfl, rfl, rfl, rfl, rfl, rfl, trivial⟩; clear hE110
                  refine p_bn ?_
                  refine p_tn ?_
                  have hE112 := hE111.sub (L' := [(0, .slice imagesA images.length imagesC), (1, .slice valuesA values.length valuesC), (5, .slice out5A ((out5).length) out5C), (6, .int .i64 v6), (7, .int .i64 (orI mask7L2 (powI x8L2))), (8, .int .i64 x8L2)]) ⟨rfl, rfl, rfl, rfl, rfl, rfl, trivial⟩
                  have hS113 := (St.pick (Γ' := [.own 2 1 out5A ((out5).length) out5C out5, .rd 1 valuesA values.length valuesC values, .rd 1 imagesA images.length imagesC images]) hS71 [0, 1, 2] (by decide) rfl)
                  exact ⟨(by rw [ht95]; exact hE112), hS113⟩
                ·
                  have hE114 := hE94; rw [ht95] at hE114; clear hE94
                  refine wp_skip ?_
                  refine p_bn ?_
                  refine p_tn ?_
                  have hE115 := hE114.sub (L' := [(0, .slice imagesA images.length imagesC), (1, .slice valuesA values.length valuesC), (5, .slice out5A ((out5).length) out5C), (6, .int .i64 v6), (7, .int .i64 mask7L2), (8, .int .i64 x8L2)]) ⟨rfl, rfl, rfl, rfl, rfl, rfl, trivial⟩
                  have hS116 := (St.pick (Γ' := [.own 2 1 out5A ((out5).length) out5C out5, .rd 1 valuesA values.length valuesC values, .rd 1 imagesA images.length imagesC images]) hS71 [0, 1, 2] (by decide) rfl)
                  exact ⟨(by rw [ht95]; exact hE115), hS116⟩
              ·
                rintro a117 w118 ⟨hE119, hS120⟩; clear hE68 hS51
                refine c_reg ?_
                refine q_step (v := .int .i64 x8L2) hE119 (y_move rfl) rfl rfl rfl ?_; intro a121 hE122; clear hE119
                refine q_step (v := .int .i64 (x8L2 + 1)) hE122 (y_add rfl rfl ⟨(by omega), (by omega)⟩) rfl rfl rfl ?_; intro a123 hE124; clear hE122
                refine q_step (v := .int .i64 (x8L2 + 1)) hE124 (y_assign rfl) rfl rfl rfl ?_; intro a125 hE126; clear hE124
                refine c_nil ?_
                have hE127 := hE126.sub (L' := [(0, .slice imagesA images.length imagesC), (1, .slice valuesA values.length valuesC), (5, .slice out5A ((out5).length) out5C), (6, .int .i64 v6), (7, .int .i64 (bif (F_l01Bit (gI values v6) (gI images x8L2)) then orI mask7L2 (powI x8L2) else mask7L2)), (8, .int .i64 (x8L2 + 1))]) ⟨rfl, rfl, rfl, rfl, rfl, rfl, trivial⟩; clear hE126
                refine p_tn ⟨r56, Nat.lt_succ_self _, bif (F_l01Bit (gI values v6) (gI images x8L2)) then orI mask7L2 (powI x8L2) else mask7L2, x8L2 + 1, (hT52.symm.trans (show F_l08Pull_L2b images values v6 (F_l08Pull_L2 images values v6 r56) mask7L2 x8L2 = F_l08Pull_L2 images values v6 r56 (bif (F_l01Bit (gI values v6) (gI images x8L2)) then orI mask7L2 (powI x8L2) else mask7L2) (x8L2 + 1) by unfold F_l08Pull_L2b; rw [ht66]; first | done | rfl)).symm, (by omega), (by first | omega | (simp only [List.length_append, List.length_cons, List.length_nil, sI_len, cond_true, cond_false]; omega) | (simp only [List.length_append, List.length_cons, List.length_nil, sI_len, cond_eq_ite, apply_ite List.length]; split <;> simp only [List.length_append, List.length_cons, List.length_nil, sI_len] <;> omega) | grind), (by first | omega | (simp only [List.length_append, List.length_cons, List.length_nil, sI_len, cond_true, cond_false]; omega) | (simp only [List.length_append, List.length_cons, List.length_nil, sI_len, cond_eq_ite, apply_ite List.length]; split <;> simp only [List.length_append, List.length_cons, List.length_nil, sI_len] <;> omega) | grind), (hE127.sub (L' := [(0, .slice imagesA images.length imagesC), (1, .slice valuesA values.length valuesC), (5, .slice out5A ((out5).length) out5C), (6, .int .i64 v6), (7, .int .i64 (bif (F_l01Bit (gI values v6) (gI images x8L2)) then orI mask7L2 (powI x8L2) else mask7L2)), (8, .int .i64 (x8L2 + 1))]) ⟨rfl, rfl, rfl, rfl, rfl, rfl, trivial⟩), (St.pick (Γ' := [.own 2 1 out5A ((out5).length) out5C out5, .rd 1 valuesA values.length valuesC values, .rd 1 imagesA images.length imagesC images]) hS120 [0, 1, 2] (by decide) rfl)⟩
            ·
              have hp128 := of_decide_eq_false ht66
              have hE129 := hE65; rw [ht66] at hE129; clear hE65
              refine wp_exit ?_
              refine p_te ?_
              have hX130 : F_l08Pull_L2 images values v6 (Int.toNat ((images.length : Int) - 0) + 1) 0 0 = (mask7L2, x8L2) := hT52.symm.trans (show F_l08Pull_L2b images values v6 (F_l08Pull_L2 images values v6 r56) mask7L2 x8L2 = (mask7L2, x8L2) by unfold F_l08Pull_L2b; rw [ht66]; first | done | rfl)
              refine p_te (p_be (p_tn ?_))
              exact ⟨(by rw [hX130]; exact (show 0 ≤ x8L2 from (by first | omega | (simp only [List.length_append, List.length_cons, List.length_nil, sI_len, cond_true, cond_false]; omega) | (simp only [List.length_append, List.length_cons, List.length_nil, sI_len, cond_eq_ite, apply_ite List.length]; split <;> simp only [List.length_append, List.length_cons, List.length_nil, sI_len] <;> omega) | grind))), (by rw [hX130]; exact (show x8L2 ≤ (images.length : Int) from (by first | omega | (simp only [List.length_append, List.length_cons, List.length_nil, sI_len, cond_true, cond_false]; omega) | (simp only [List.length_append, List.length_cons, List.length_nil, sI_len, cond_eq_ite, apply_ite List.length]; split <;> simp only [List.length_append, List.length_cons, List.length_nil, sI_len] <;> omega) | grind))), (by rw [hX130]; exact (hE129.sub (L' := [(0, .slice imagesA images.length imagesC), (1, .slice valuesA values.length valuesC), (5, .slice out5A ((out5).length) out5C), (6, .int .i64 v6), (7, .int .i64 mask7L2), (8, .int .i64 x8L2)]) ⟨rfl, rfl, rfl, rfl, rfl, rfl, trivial⟩)), (St.pick (Γ' := [.own 2 1 out5A ((out5).length) out5C out5, .rd 1 valuesA values.length valuesC values, .rd 1 imagesA images.length imagesC images]) hS51 [0, 1, 2] (by decide) rfl)⟩
        ·
          rintro a131 w132 ⟨hi136, hi137, hE133, hS134⟩; clear hE46 hS22
          refine p_tn ?_
          refine c_reg ?_
          refine q_step (v := .slice out5A ((out5).length) out5C) hE133 (y_move rfl) rfl rfl rfl ?_; intro a138 hE139; clear hE133
          refine q_step (v := .int .i64 ((F_l08Pull_L2 images values v6 (Int.toNat ((images.length : Int) - 0) + 1) 0 0).1)) hE139 (y_move rfl) rfl rfl rfl ?_; intro a140 hE141; clear hE139
          refine l_step hE141 rfl (l_lit (e := 2) (s := 1) (xs := [(F_l08Pull_L2 images values v6 (Int.toNat ((images.length : Int) - 0) + 1) 0 0).1]) (vs := [.int .i64 ((F_l08Pull_L2 images values v6 (Int.toNat ((images.length : Int) - 0) + 1) 0 0).1)]) hS134 hE141 rfl (fun _ => by kernel_rfl) rfl rfl rfl ?_)
          intro b142 w143 hS146 he147 a144 hE145; clear hS134 hE141
          obtain ⟨_, hi1, hi2, hi3, hi4⟩ := info_parts (show (Try.prog.info? 2).map (fun i => (i.zero, i.size, i.bytes)) = some (some (.int .i64 0), 1, 8) by kernel_rfl)
          refine l_step hE145 rfl (l_append (k := 1) (n' := (out5 ++ ([(F_l08Pull_L2 images values v6 (Int.toNat ((images.length : Int) - 0) + 1) 0 0).1])).length) hS146 hE145 (by kernel_rfl) hi1 hi2 hi3 rfl (by decide) (by rw [hi4]; decide) rfl rfl rfl (St.rdO (i := 0) hS146 rfl) (by first | omega | (simp only [List.length_append, List.length_cons, List.length_nil]; omega)) (by have h1 := (St.rdO (i := 1) hS146 rfl).len1; have h2 := (St.rdO (i := 0) hS146 rfl).len1; rw [List.length_append, h1, h2]) rfl ?_)
          intro b148 c154 w149 hS152 a150 hE151; clear hS146 hE145 hi1 hi2 hi3 hi4
          refine q_step (v := .slice b148 ((out5 ++ ([(F_l08Pull_L2 images values v6 (Int.toNat ((images.length : Int) - 0) + 1) 0 0).1])).length) c154) hE151 (y_assign rfl) rfl rfl rfl ?_; intro a155 hE156; clear hE151
          refine c_nil ?_
          have hE157 := hE156.sub (L' := [(0, .slice imagesA images.length imagesC), (1, .slice valuesA values.length valuesC), (5, .slice b148 ((out5 ++ ([(F_l08Pull_L2 images values v6 (Int.toNat ((images.length : Int) - 0) + 1) 0 0).1])).length) c154), (6, .int .i64 v6)]) ⟨rfl, rfl, rfl, rfl, trivial⟩; clear hE156
          refine p_bn ?_
          refine p_tn ?_
          refine c_reg ?_
          refine q_step (v := .int .i64 v6) hE157 (y_move rfl) rfl rfl rfl ?_; intro a158 hE159; clear hE157
          refine q_step (v := .int .i64 (v6 + 1)) hE159 (y_add rfl rfl ⟨(by omega), (by omega)⟩) rfl rfl rfl ?_; intro a160 hE161; clear hE159
          refine q_step (v := .int .i64 (v6 + 1)) hE161 (y_assign rfl) rfl rfl rfl ?_; intro a162 hE163; clear hE161
          refine c_nil ?_
          have hE164 := hE163.sub (L' := [(0, .slice imagesA images.length imagesC), (1, .slice valuesA values.length valuesC), (5, .slice b148 ((out5 ++ ([(F_l08Pull_L2 images values v6 (Int.toNat ((images.length : Int) - 0) + 1) 0 0).1])).length) c154), (6, .int .i64 (v6 + 1))]) ⟨rfl, rfl, rfl, rfl, trivial⟩; clear hE163
          refine p_tn ⟨r28, Nat.lt_succ_self _, out5 ++ ([(F_l08Pull_L2 images values v6 (Int.toNat ((images.length : Int) - 0) + 1) 0 0).1]), v6 + 1, b148, c154, (hT23.symm.trans (show F_l08Pull_L1b images values (F_l08Pull_L1 images values r28) out5 v6 = F_l08Pull_L1 images values r28 (out5 ++ ([(F_l08Pull_L2 images values v6 (Int.toNat ((images.length : Int) - 0) + 1) 0 0).1])) (v6 + 1) by unfold F_l08Pull_L1b; rw [ht38]; first | done | rfl)).symm, (by omega), (by first | omega | (simp only [List.length_append, List.length_cons, List.length_nil, sI_len, cond_true, cond_false]; omega) | (simp only [List.length_append, List.length_cons, List.length_nil, sI_len, cond_eq_ite, apply_ite List.length]; split <;> simp only [List.length_append, List.length_cons, List.length_nil, sI_len] <;> omega) | grind), (by first | omega | (simp only [List.length_append, List.length_cons, List.length_nil, sI_len, cond_true, cond_false]; omega) | (simp only [List.length_append, List.length_cons, List.length_nil, sI_len, cond_eq_ite, apply_ite List.length]; split <;> simp only [List.length_append, List.length_cons, List.length_nil, sI_len] <;> omega) | grind), (by first | omega | (simp only [List.length_append, List.length_cons, List.length_nil, sI_len, cond_true, cond_false]; omega) | (simp only [List.length_append, List.length_cons, List.length_nil, sI_len, cond_eq_ite, apply_ite List.length]; split <;> simp only [List.length_append, List.length_cons, List.length_nil, sI_len] <;> omega) | grind), (hE164.sub (L' := [(0, .slice imagesA images.length imagesC), (1, .slice valuesA values.length valuesC), (5, .slice b148 ((out5 ++ ([(F_l08Pull_L2 images values v6 (Int.toNat ((images.length : Int) - 0) + 1) 0 0).1])).length) c154), (6, .int .i64 (v6 + 1))]) ⟨rfl, rfl, rfl, rfl, trivial⟩), (St.pick (Γ' := [.own 2 1 b148 ((out5 ++ ([(F_l08Pull_L2 images values v6 (Int.toNat ((images.length : Int) - 0) + 1) 0 0).1])).length) c154 (out5 ++ ([(F_l08Pull_L2 images values v6 (Int.toNat ((images.length : Int) - 0) + 1) 0 0).1])), .rd 1 valuesA values.length valuesC values, .rd 1 imagesA images.length imagesC images]) hS152 [1, 2, 3] (by decide) rfl)⟩
      ·
        have hp165 := of_decide_eq_false ht38
        have hE166 := hE37; rw [ht38] at hE166; clear hE37
        refine wp_exit ?_
        refine p_te ?_
        have hX167 : F_l08Pull_L1 images values (Int.toNat ((values.length : Int) - 0) + 1) ([]) 0 = (out5, v6) := hT23.symm.trans (show F_l08Pull_L1b images values (F_l08Pull_L1 images values r28) out5 v6 = (out5, v6) by unfold F_l08Pull_L1b; rw [ht38]; first | done | rfl)
        refine p_te (p_be (p_tn ?_))
        exact ⟨out5A, out5C, (by rw [hX167]; exact (show 0 ≤ v6 from (by first | omega | (simp only [List.length_append, List.length_cons, List.length_nil, sI_len, cond_true, cond_false]; omega) | (simp only [List.length_append, List.length_cons, List.length_nil, sI_len, cond_eq_ite, apply_ite List.length]; split <;> simp only [List.length_append, List.length_cons, List.length_nil, sI_len] <;> omega) | grind))), (by rw [hX167]; exact (show v6 ≤ (values.length : Int) from (by first | omega | (simp only [List.length_append, List.length_cons, List.length_nil, sI_len, cond_true, cond_false]; omega) | (simp only [List.length_append, List.length_cons, List.length_nil, sI_len, cond_eq_ite, apply_ite List.length]; split <;> simp only [List.length_append, List.length_cons, List.length_nil, sI_len] <;> omega) | grind))), (by rw [hX167]; exact (show (out5.length : Int) ≤ v6 from (by first | omega | (simp only [List.length_append, List.length_cons, List.length_nil, sI_len, cond_true, cond_false]; omega) | (simp only [List.length_append, List.length_cons, List.length_nil, sI_len, cond_eq_ite, apply_ite List.length]; split <;> simp only [List.length_append, List.length_cons, List.length_nil, sI_len] <;> omega) | grind))), (by rw [hX167]; exact (hE166.sub (L' := [(0, .slice imagesA images.length imagesC), (1, .slice valuesA values.length valuesC), (5, .slice out5A ((out5).length) out5C), (6, .int .i64 v6)]) ⟨rfl, rfl, rfl, rfl, trivial⟩)), (by rw [hX167]; exact (St.pick (Γ' := [.own 2 1 out5A ((out5).length) out5C out5, .rd 1 valuesA values.length valuesC values, .rd 1 imagesA images.length imagesC images]) hS22 [0, 1, 2] (by decide) rfl))⟩
  ·
    rintro a168 w169 ⟨out5A_18, out5C_18, hi173, hi174, hi175, hE170, hS171⟩; clear hE17 hS10
    refine p_tn ?_
    refine c_seq ?_
    refine c_reg ?_
    refine q_step (v := .slice out5A_18 (((F_l08Pull_L1 images values (Int.toNat ((values.length : Int) - 0) + 1) ([]) 0).1).length) out5C_18) hE170 (y_move rfl) rfl rfl rfl ?_; intro a176 hE177; clear hE170
    refine q_step (v := .slice out5A_18 (((F_l08Pull_L1 images values (Int.toNat ((values.length : Int) - 0) + 1) ([]) 0).1).length) out5C_18) hE177 (y_assign rfl) rfl rfl rfl ?_; intro a178 hE179; clear hE177
    refine c_nil ?_
    have hE180 := hE179.sub (L' := [(4, .slice out5A_18 (((F_l08Pull_L1 images values (Int.toNat ((values.length : Int) - 0) + 1) ([]) 0).1).length) out5C_18)]) ⟨rfl, trivial⟩; clear hE179
    refine p_tn ?_
    refine wp_ret ?_
    have hF : F_l08Pull images values = (F_l08Pull_L1 images values (Int.toNat ((values.length : Int) - 0) + 1) ([]) 0).1 := by unfold F_l08Pull; rfl
    refine c_ret1 hE180 rfl rfl ?_
    exact ⟨out5A_18, out5C_18, (by rw [hF]; first | done | rfl), (by rw [hF]; exact hS171.ok 0 _ rfl), hS171.ext⟩

def F_pull_L1b (images : List Int) (mask : Int) (rec : Int → Int → Int × Int) (out5 : Int) (t10 : Int) : Int × Int :=
  bif (decide (t10 < (images.length : Int))) then (rec (bif (F_has mask (gI images t10)) then orI out5 (shlI 1 t10) else out5) (t10 + 1)) else (out5, t10)
def F_pull_L1 (images : List Int) (mask : Int) : Nat → Int → Int → Int × Int
  | 0, out5, t10 => (out5, t10)
  | r + 1, out5, t10 => F_pull_L1b images mask (F_pull_L1 images mask r) out5 t10
def F_pull (images : List Int) (mask : Int) : Int :=
  (F_pull_L1 images mask (Int.toNat ((images.length : Int) - 0) + 1) 0 0).1
theorem cf_pull (args : Array Value) (w : World) : (callFunc 129 args).run Try.prog w = .ok (.enter 129 args) w := by kernel_rfl
set_option maxRecDepth 100000 in
theorem c_pull (imagesA : Option Addr) (imagesN imagesC : Nat) (images : List Int) (mask : Int) (w : World) (imagesR : RdS w 1 imagesA imagesN imagesC images) (hl : images.length ≤ 8) (him : ∀ m : Int, 0 ≤ m → m < (images.length : Int) → 0 ≤ gI images m ∧ gI images m ≤ 7) :
    Calls Try.prog 129 #[.slice imagesA imagesN imagesC, .int .i64 mask] w (Ret fun v w' => v = .int .i64 (F_pull images mask) ∧ Ext w w') := by
  obtain rfl : imagesN = images.length := imagesR.len1.symm
  have imagesLe := imagesR.le
  have hS := St.nil w
  have hS1 := St.rd0 hS rfl imagesR; clear hS
  refine enter (args := [.slice imagesA images.length imagesC, .int .i64 mask]) Try.func129 rfl rfl ?_
  rw [Try.ntmps129]; intro a hE
  have hE := hE.sub (L' := [(0, .slice imagesA images.length imagesC), (1, .int .i64 mask)]) ⟨rfl, rfl, trivial⟩
  refine c_seq ?_
  refine c_reg ?_
  refine q_step (v := .int .i64 0) hE (y_assign rfl) rfl rfl rfl ?_; intro a2 hE3; clear hE
  refine c_nil ?_
  have hE4 := hE3.sub (L' := [(0, .slice imagesA images.length imagesC), (1, .int .i64 mask)]) ⟨rfl, rfl, trivial⟩; clear hE3
  refine p_tn ?_
  refine c_seq ?_
  refine c_reg ?_
  refine q_step (v := .int .i64 0) hE4 (y_assign rfl) rfl rfl rfl ?_; intro a5 hE6; clear hE4
  refine c_nil ?_
  have hE7 := hE6.sub (L' := [(0, .slice imagesA images.length imagesC), (1, .int .i64 mask), (5, .int .i64 0)]) ⟨rfl, rfl, rfl, trivial⟩; clear hE6
  refine p_tn ?_
  refine c_seq ?_
  refine c_seq ?_
  refine c_reg ?_
  refine q_step (v := .slice imagesA images.length imagesC) hE7 (y_move rfl) rfl rfl rfl ?_; intro a8 hE9; clear hE7
  refine q_step (v := .int .i64 (images.length : Int)) hE9 (y_len (e := 2) (by kernel_rfl) rfl) rfl rfl rfl ?_; intro a10 hE11; clear hE9
  refine q_step (v := .int .i64 0) hE11 (y_move rfl) rfl rfl rfl ?_; intro a12 hE13; clear hE11
  refine c_nil ?_
  have hE14 := hE13.sub (L' := [(1, .int .i64 mask), (5, .int .i64 0), (8, .slice imagesA images.length imagesC), (9, .int .i64 (images.length : Int)), (10, .int .i64 0)]) ⟨rfl, rfl, rfl, rfl, rfl, trivial⟩; clear hE13
  refine p_tn ?_
  refine c_cut1 (fun a' w' => (0 ≤ ((F_pull_L1 images mask (Int.toNat ((images.length : Int) - 0) + 1) 0 0).2)) ∧ (((F_pull_L1 images mask (Int.toNat ((images.length : Int) - 0) + 1) 0 0).2) ≤ (images.length : Int)) ∧ E a' 24 [(1, .int .i64 mask), (5, .int .i64 ((F_pull_L1 images mask (Int.toNat ((images.length : Int) - 0) + 1) 0 0).1)), (8, .slice imagesA images.length imagesC), (9, .int .i64 (images.length : Int)), (10, .int .i64 ((F_pull_L1 images mask (Int.toNat ((images.length : Int) - 0) + 1) 0 0).2))] ∧ St w w' [.rd 1 imagesA images.length imagesC images]) ?_ ?_
  ·
    refine wp_block ?_
    refine c_loop (fun r a' w' => ∃ out5 : Int, ∃ t10 : Int, F_pull_L1 images mask r out5 t10 = F_pull_L1 images mask (Int.toNat ((images.length : Int) - 0) + 1) 0 0 ∧ Int.toNat ((images.length : Int) - t10) < r ∧ (0 ≤ t10) ∧ (t10 ≤ (images.length : Int)) ∧ E a' 24 [(1, .int .i64 mask), (5, .int .i64 out5), (8, .slice imagesA images.length imagesC), (9, .int .i64 (images.length : Int)), (10, .int .i64 t10)] ∧ St w w' [.rd 1 imagesA images.length imagesC images]) (r := (Int.toNat ((images.length : Int) - 0) + 1)) ?_ ?_
    · exact ⟨0, 0, rfl, Nat.lt_succ_self _, (by first | omega | (simp only [List.length_append, List.length_cons, List.length_nil, sI_len, cond_true, cond_false]; omega) | (simp only [List.length_append, List.length_cons, List.length_nil, sI_len, cond_eq_ite, apply_ite List.length]; split <;> simp only [List.length_append, List.length_cons, List.length_nil, sI_len] <;> omega) | grind), (by first | omega | (simp only [List.length_append, List.length_cons, List.length_nil, sI_len, cond_true, cond_false]; omega) | (simp only [List.length_append, List.length_cons, List.length_nil, sI_len, cond_eq_ite, apply_ite List.length]; split <;> simp only [List.length_append, List.length_cons, List.length_nil, sI_len] <;> omega) | grind), (hE14.sub (L' := [(1, .int .i64 mask), (5, .int .i64 0), (8, .slice imagesA images.length imagesC), (9, .int .i64 (images.length : Int)), (10, .int .i64 0)]) ⟨rfl, rfl, rfl, rfl, rfl, trivial⟩), (St.pick (Γ' := [.rd 1 imagesA images.length imagesC images]) hS1 [0] (by decide) rfl)⟩
    ·
      clear hE14 hS1
      rintro r24 a16 w17 ⟨out5, t10, hT20, hr21, hi22, hi23, hE18, hS19⟩
      obtain ⟨r24, rfl⟩ : ∃ r', r24 = r' + 1 := ⟨r24 - 1, by omega⟩
      refine c_seq ?_
      refine c_reg ?_
      refine q_step (v := .bool (decide (t10 < (images.length : Int)))) hE18 (y_lss rfl rfl) rfl rfl rfl ?_; intro a25 hE26; clear hE18
      refine c_nil ?_
      have hE27 := hE26.sub (L' := [(1, .int .i64 mask), (5, .int .i64 out5), (8, .slice imagesA images.length imagesC), (9, .int .i64 (images.length : Int)), (10, .int .i64 t10), (11, .bool (decide (t10 < (images.length : Int))))]) ⟨rfl, rfl, rfl, rfl, rfl, rfl, trivial⟩; clear hE26
      refine p_tn ?_
      refine c_seq ?_
      refine c_cond hE27 rfl (fun ht28 => ?_) (fun ht28 => ?_)
      ·
        have hp29 := of_decide_eq_true ht28
        have hE30 := hE27; rw [ht28] at hE30; clear hE27
        have hx1 := him t10 (by omega) (by omega)
        refine wp_skip ?_
        refine p_tn ?_
        refine c_cut (fun a' w' => E a' 24 [(1, .int .i64 mask), (5, .int .i64 (bif (F_has mask (gI images t10)) then orI out5 (shlI 1 t10) else out5)), (8, .slice imagesA images.length imagesC), (9, .int .i64 (images.length : Int)), (10, .int .i64 t10)] ∧ St w w' [.rd 1 imagesA images.length imagesC images]) ?_ ?_
        ·
          refine wp_block ?_
          refine c_seq ?_
          refine c_reg ?_
          refine q_step (v := .int .i64 t10) hE30 (y_move rfl) rfl rfl rfl ?_; intro a31 hE32; clear hE30
          refine q_step (v := .pointer (some (adr imagesA (Int.toNat t10)))) hE32 (y_idx (by kernel_rfl) (fun _ => by kernel_rfl) rfl rfl (RdS.isS (m := t10) (St.rdR (i := 0) hS19 rfl) (by omega) (by omega)) (by omega) (by omega) (Nat.mul_one _).symm) rfl rfl rfl ?_; intro a33 hE34; clear hE32
          refine q_step (v := .int .i64 (gI images t10)) hE34 (y_load (fun _ => by kernel_rfl) rfl (RdS.elt (St.rdR (i := 0) hS19 rfl) (by omega) (by omega))) rfl rfl rfl ?_; intro a35 hE36; clear hE34
          refine q_step (v := .int .i64 t10) hE36 (y_assign rfl) rfl rfl rfl ?_; intro a37 hE38; clear hE36
          refine q_step (v := .int .i64 (gI images t10)) hE38 (y_assign rfl) rfl rfl rfl ?_; intro a39 hE40; clear hE38
          refine c_nil ?_
          have hE41 := hE40.sub (L' := [(1, .int .i64 mask), (5, .int .i64 out5), (6, .int .i64 t10), (7, .int .i64 (gI images t10)), (8, .slice imagesA images.length imagesC), (9, .int .i64 (images.length : Int)), (10, .int .i64 t10)]) ⟨rfl, rfl, rfl, rfl, rfl, rfl, rfl, trivial⟩; clear hE40
          refine p_tn ?_
          refine c_seq ?_
          refine c_reg ?_
          refine q_step (v := .int .i64 mask) hE41 (y_move rfl) rfl rfl rfl ?_; intro a42 hE43; clear hE41
          refine q_step (v := .int .i64 (gI images t10)) hE43 (y_move rfl) rfl rfl rfl ?_; intro a44 hE45; clear hE43
          refine l_step hE45 rfl (l_call (f := 132) (argv := [.int .i64 mask, .int .i64 (gI images t10)]) hE45 (fun _ => cf_has _ _) rfl rfl (c_has mask (gI images t10) w17 (by omega)) ?_)
          rintro _ _ ⟨rfl, rfl⟩ a48 hE49; clear hE45
          refine c_nil ?_
          have hE52 := hE49.sub (L' := [(1, .int .i64 mask), (5, .int .i64 out5), (6, .int .i64 t10), (8, .slice imagesA images.length imagesC), (9, .int .i64 (images.length : Int)), (10, .int .i64 t10), (17, .bool (F_has mask (gI images t10)))]) ⟨rfl, rfl, rfl, rfl, rfl, rfl, rfl, trivial⟩; clear hE49
          refine p_tn ?_
          refine c_cond hE52 rfl (fun ht53 => ?_) (fun ht53 => ?_)
          ·
            have hE54 := hE52; rw [ht53] at hE54; clear hE52
            refine c_reg ?_
            refine q_step (v := .int .i64 out5) hE54 (y_move rfl) rfl rfl rfl ?_; intro a55 hE56; clear hE54
            refine q_step (v := .int .i64 t10) hE56 (y_move rfl) rfl rfl rfl ?_; intro a57 hE58; clear hE56
            refine q_step (v := .int .i64 (shlI 1 t10)) hE58 (y_shl rfl rfl (by omega)) rfl rfl rfl ?_; intro a59 hE60; clear hE58
            refine q_step (v := .int .i64 (orI out5 (shlI 1 t10))) hE60 (y_or rfl rfl) rfl rfl rfl ?_; intro a61 hE62; clear hE60
            refine q_step (v := .int .i64 (orI out5 (shlI 1 t10))) hE62 (y_assign rfl) rfl rfl rfl ?_; intro a63 hE64; clear hE62
            refine c_nil ?_
            have hE65 := hE64.sub (L' := [(1, .int .i64 mask), (5, .int .i64 (orI out5 (shlI 1 t10))), (8, .slice imagesA images.length imagesC), (9, .int .i64 (images.length : Int)), (10, .int .i64 t10)]) ⟨rfl, rfl, rfl, rfl, rfl, trivial⟩; clear hE64
            refine p_bn ?_
            refine p_tn ?_
            have hE66 := hE65.sub (L' := [(1, .int .i64 mask), (5, .int .i64 (orI out5 (shlI 1 t10))), (8, .slice imagesA images.length imagesC), (9, .int .i64 (images.length : Int)), (10, .int .i64 t10)]) ⟨rfl, rfl, rfl, rfl, rfl, trivial⟩
            have hS67 := (St.pick (Γ' := [.rd 1 imagesA images.length imagesC images]) hS19 [0] (by decide) rfl)
            exact ⟨(by rw [ht53]; exact hE66), hS67⟩
          ·
            have hE68 := hE52; rw [ht53] at hE68; clear hE52
            refine wp_skip ?_
            refine p_bn ?_
            refine p_tn ?_
            have hE69 := hE68.sub (L' := [(1, .int .i64 mask), (5, .int .i64 out5), (8, .slice imagesA images.length imagesC), (9, .int .i64 (images.length : Int)), (10, .int .i64 t10)]) ⟨rfl, rfl, rfl, rfl, rfl, trivial⟩
            have hS70 := (St.pick (Γ' := [.rd 1 imagesA images.length imagesC images]) hS19 [0] (by decide) rfl)
            exact ⟨(by rw [ht53]; exact hE69), hS70⟩
        ·
          rintro a71 w72 ⟨hE73, hS74⟩; clear hE30 hS19
          refine c_reg ?_
          refine q_step (v := .int .i64 (t10 + 1)) hE73 (y_add rfl rfl ⟨(by omega), (by omega)⟩) rfl rfl rfl ?_; intro a75 hE76; clear hE73
          refine q_step (v := .int .i64 (t10 + 1)) hE76 (y_move rfl) rfl rfl rfl ?_; intro a77 hE78; clear hE76
          refine c_nil ?_
          have hE79 := hE78.sub (L' := [(1, .int .i64 mask), (5, .int .i64 (bif (F_has mask (gI images t10)) then orI out5 (shlI 1 t10) else out5)), (8, .slice imagesA images.length imagesC), (9, .int .i64 (images.length : Int)), (10, .int .i64 (t10 + 1))]) ⟨rfl, rfl, rfl, rfl, rfl, trivial⟩; clear hE78
          refine p_tn ⟨r24, Nat.lt_succ_self _, bif (F_has mask (gI images t10)) then orI out5 (shlI 1 t10) else out5, t10 + 1, (hT20.symm.trans (show F_pull_L1b images mask (F_pull_L1 images mask r24) out5 t10 = F_pull_L1 images mask r24 (bif (F_has mask (gI images t10)) then orI out5 (shlI 1 t10) else out5) (t10 + 1) by unfold F_pull_L1b; rw [ht28]; first | done | rfl)).symm, (by omega), (by first | omega | (simp only [List.length_append, List.length_cons, List.length_nil, sI_len, cond_true, cond_false]; omega) | (simp only [List.length_append, List.length_cons, List.length_nil, sI_len, cond_eq_ite, apply_ite List.length]; split <;> simp only [List.length_append, List.length_cons, List.length_nil, sI_len] <;> omega) | grind), (by first | omega | (simp only [List.length_append, List.length_cons, List.length_nil, sI_len, cond_true, cond_false]; omega) | (simp only [List.length_append, List.length_cons, List.length_nil, sI_len, cond_eq_ite, apply_ite List.length]; split <;> simp only [List.length_append, List.length_cons, List.length_nil, sI_len] <;> omega) | grind), (hE79.sub (L' := [(1, .int .i64 mask), (5, .int .i64 (bif (F_has mask (gI images t10)) then orI out5 (shlI 1 t10) else out5)), (8, .slice imagesA images.length imagesC), (9, .int .i64 (images.length : Int)), (10, .int .i64 (t10 + 1))]) ⟨rfl, rfl, rfl, rfl, rfl, trivial⟩), (St.pick (Γ' := [.rd 1 imagesA images.length imagesC images]) hS74 [0] (by decide) rfl)⟩
      ·
        have hp80 := of_decide_eq_false ht28
        have hE81 := hE27; rw [ht28] at hE81; clear hE27
        refine wp_exit ?_
        refine p_te ?_
        have hX82 : F_pull_L1 images mask (Int.toNat ((images.length : Int) - 0) + 1) 0 0 = (out5, t10) := hT20.symm.trans (show F_pull_L1b images mask (F_pull_L1 images mask r24) out5 t10 = (out5, t10) by unfold F_pull_L1b; rw [ht28]; first | done | rfl)
        refine p_te (p_be (p_tn ?_))
        exact ⟨(by rw [hX82]; exact (show 0 ≤ t10 from (by first | omega | (simp only [List.length_append, List.length_cons, List.length_nil, sI_len, cond_true, cond_false]; omega) | (simp only [List.length_append, List.length_cons, List.length_nil, sI_len, cond_eq_ite, apply_ite List.length]; split <;> simp only [List.length_append, List.length_cons, List.length_nil, sI_len] <;> omega) | grind))), (by rw [hX82]; exact (show t10 ≤ (images.length : Int) from (by first | omega | (simp only [List.length_append, List.length_cons, List.length_nil, sI_len, cond_true, cond_false]; omega) | (simp only [List.length_append, List.length_cons, List.length_nil, sI_len, cond_eq_ite, apply_ite List.length]; split <;> simp only [List.length_append, List.length_cons, List.length_nil, sI_len] <;> omega) | grind))), (by rw [hX82]; exact (hE81.sub (L' := [(1, .int .i64 mask), (5, .int .i64 out5), (8, .slice imagesA images.length imagesC), (9, .int .i64 (images.length : Int)), (10, .int .i64 t10)]) ⟨rfl, rfl, rfl, rfl, rfl, trivial⟩)), (St.pick (Γ' := [.rd 1 imagesA images.length imagesC images]) hS19 [0] (by decide) rfl)⟩
  ·
    rintro a83 w84 ⟨hi88, hi89, hE85, hS86⟩; clear hE14 hS1
    refine p_tn ?_
    refine c_seq ?_
    refine c_reg ?_
    refine q_step (v := .int .i64 ((F_pull_L1 images mask (Int.toNat ((images.length : Int) - 0) + 1) 0 0).1)) hE85 (y_move rfl) rfl rfl rfl ?_; intro a90 hE91; clear hE85
    refine q_step (v := .int .i64 ((F_pull_L1 images mask (Int.toNat ((images.length : Int) - 0) + 1) 0 0).1)) hE91 (y_assign rfl) rfl rfl rfl ?_; intro a92 hE93; clear hE91
    refine c_nil ?_
    have hE94 := hE93.sub (L' := [(4, .int .i64 ((F_pull_L1 images mask (Int.toNat ((images.length : Int) - 0) + 1) 0 0).1))]) ⟨rfl, trivial⟩; clear hE93
    refine p_tn ?_
    refine wp_ret ?_
    have hF : F_pull images mask = (F_pull_L1 images mask (Int.toNat ((images.length : Int) - 0) + 1) 0 0).1 := by unfold F_pull; rfl
    refine c_ret1 hE94 rfl rfl ?_
    exact ⟨(by rw [hF]; first | done | rfl), hS86.ext⟩

theorem pull_eq {images values : List Int} (hl : images.length ≤ 8) (v : Int) : F_pull images (gI values v) = (F_l08Pull_L2 images values v (Int.toNat ((images.length : Int) - 0) + 1) 0 0).1 := by
  unfold F_pull
  rw [rangeLoop0 (images.length : Int) (by omega) (fun o j => bif F_has (gI values v) (gI images j) then orI o (shlI 1 j) else o) (F_pull_L1 images (gI values v)) (fun _ _ _ => rfl),
    rangeLoop0 (images.length : Int) (by omega) (fun o j => bif F_l01Bit (gI values v) (gI images j) then orI o (powI j) else o) (F_l08Pull_L2 images values v) (fun _ _ _ => rfl), Int.toNat_natCast]
  apply foldl_ext'
  intro j hj o
  have hj := List.mem_range.1 hj
  rw [pow_shl (i := (j : Int)) (by omega) (by omega)]; rfl

theorem shl5 {n : Int} (h0 : 0 ≤ n) (h1 : n ≤ 5) : shlI 1 n = fullI n + 1 ∧ 0 ≤ fullI n ∧ fullI n ≤ 31 := by
  refine ⟨?_, fullI5 h0 h1⟩
  rw [pow_shl h0 (by omega), fullI_pow]; omega
theorem foldl_app {β : Type} (f : β → Int) (l : List β) (o : List Int) : l.foldl (fun o j => o ++ [f j]) o = o ++ l.map f := by
  induction l generalizing o with
  | nil => simp
  | cons a l ih => rw [List.foldl_cons, ih, List.map_cons, List.append_assoc]; rfl
theorem rangeLoopLe {α : Type} (n : Int) (h0 : -1 ≤ n) (g : α → Int → α) (L : Nat → α → Int → α × Int) (hL : ∀ r o t, L (r + 1) o t = bif decide (t ≤ n) then L r (g o t) (t + 1) else (o, t)) (o : α) :
    (L (Int.toNat (n + 1 - 0) + 1) o 0).1 = (List.range (n + 1).toNat).foldl (fun o (j : Nat) => g o (j : Int)) o :=
  rangeLoop0 (n + 1) (by omega) g L (fun r o t => by rw [hL, show decide (t ≤ n) = decide (t < n + 1) from decide_eq_decide.2 (by omega)]) o

def F_l15Dual_L1b (gp0 : Int) (rec : (List Int) → Int → (List Int) × Int) (sets5 : List Int) (mask6 : Int) : (List Int) × Int :=
  bif (decide (mask6 ≤ (fullI gp0))) then (rec (sets5 ++ ([mask6])) (mask6 + 1)) else (sets5, mask6)
def F_l15Dual_L1 (gp0 : Int) : Nat → (List Int) → Int → (List Int) × Int
  | 0, sets5, mask6 => (sets5, mask6)
  | r + 1, sets5, mask6 => F_l15Dual_L1b gp0 (F_l15Dual_L1 gp0 r) sets5 mask6
def F_l15Dual (gp0 : Int) (gp1 : List Int) (images : List Int) : List Int :=
  F_l08Pull images ((F_l15Dual_L1 gp0 (Int.toNat ((fullI gp0) + 1 - 0) + 1) ([]) 0).1)
theorem cf_l15Dual (args : Array Value) (w : World) : (callFunc 72 args).run Try.prog w = .ok (.enter 72 args) w := by kernel_rfl
set_option maxRecDepth 100000 in
theorem c_l15Dual (gp0 : Int) (gp1A : Option Addr) (gp1N gp1C : Nat) (gp1 : List Int) (imagesA : Option Addr) (imagesN imagesC : Nat) (images : List Int) (w : World) (gp1R : RdS w 1 gp1A gp1N gp1C gp1) (imagesR : RdS w 1 imagesA imagesN imagesC images) (h0 : 0 ≤ gp0) (h1 : gp0 ≤ 5) (hl : images.length ≤ 8) (him : ∀ m : Int, 0 ≤ m → m < (images.length : Int) → 0 ≤ gI images m ∧ gI images m ≤ 7) :
    Calls Try.prog 72 #[.agg #[.int .i64 gp0, .slice gp1A gp1N gp1C], .slice imagesA imagesN imagesC] w (Ret fun v w' => ∃ b1 : Option Addr, ∃ c1 : Nat, v = .slice b1 (F_l15Dual gp0 gp1 images).length c1 ∧ OwnS w' w.heap.size 2 1 b1 (F_l15Dual gp0 gp1 images).length c1 (F_l15Dual gp0 gp1 images) ∧ Ext w w') := by
  obtain rfl : gp1N = gp1.length := gp1R.len1.symm
  have gp1Le := gp1R.le
  obtain rfl : imagesN = images.length := imagesR.len1.symm
  have imagesLe := imagesR.le
  have hf5 := fullI5 h0 h1
  have hS := St.nil w
  have hS1 := St.rd0 hS rfl gp1R; clear hS
  have hS2 := St.rd0 hS1 rfl imagesR; clear hS1
  refine enter (args := [.agg #[.int .i64 gp0, .slice gp1A gp1.length gp1C], .slice imagesA images.length imagesC]) Try.func72 rfl rfl ?_
  rw [Try.ntmps72]; intro a hE
  have hE := hE.sub (L' := [(0, .agg #[.int .i64 gp0, .slice gp1A gp1.length gp1C]), (1, .slice imagesA images.length imagesC)]) ⟨rfl, rfl, trivial⟩
  refine c_seq ?_
  refine c_reg ?_
  refine l_step hE rfl (l_box (v := .agg #[.int .i64 gp0, .slice gp1A gp1.length gp1C]) (cs := #[.int .i64 gp0, .slice gp1A gp1.length gp1C]) hS2 hE rfl rfl rfl ?_)
  intro b3 w4 hS7 he8 a5 hE6; clear hS2 hE
  refine q_step (v := .slice none 0 0) hE6 (y_assign rfl) rfl rfl rfl ?_; intro a9 hE10; clear hE6
  refine c_nil ?_
  have hE11 := hE10.sub (L' := [(1, .slice imagesA images.length imagesC), (2, .pointer (some ⟨b3, 0, none⟩))]) ⟨rfl, rfl, trivial⟩; clear hE10
  refine p_tn ?_
  refine c_seq ?_
  refine c_reg ?_
  refine l_step hE11 rfl (l_lit (e := 2) (s := 1) (xs := []) (vs := []) hS7 hE11 rfl (fun _ => by kernel_rfl) rfl rfl rfl ?_)
  intro b12 w13 hS16 he17 a14 hE15; clear hS7 hE11
  refine q_step (v := .slice (some ⟨b12, 0, none⟩) 0 0) hE15 (y_assign rfl) rfl rfl rfl ?_; intro a18 hE19; clear hE15
  refine c_nil ?_
  have hE20 := hE19.sub (L' := [(1, .slice imagesA images.length imagesC), (2, .pointer (some ⟨b3, 0, none⟩)), (5, .slice (some ⟨b12, 0, none⟩) 0 0)]) ⟨rfl, rfl, rfl, trivial⟩; clear hE19
  refine p_tn ?_
  refine c_seq ?_
  refine c_seq ?_
  refine c_reg ?_
  refine q_step (v := .int .i64 0) hE20 (y_assign rfl) rfl rfl rfl ?_; intro a21 hE22; clear hE20
  refine c_nil ?_
  have hE23 := hE22.sub (L' := [(1, .slice imagesA images.length imagesC), (2, .pointer (some ⟨b3, 0, none⟩)), (5, .slice (some ⟨b12, 0, none⟩) 0 0), (6, .int .i64 0)]) ⟨rfl, rfl, rfl, rfl, trivial⟩; clear hE22
  refine p_tn ?_
  refine c_cut1 (fun a' w' => ∃ sets5A_24 : Option Addr, ∃ sets5C_24 : Nat, (0 ≤ ((F_l15Dual_L1 gp0 (Int.toNat ((fullI gp0) + 1 - 0) + 1) ([]) 0).2)) ∧ (((F_l15Dual_L1 gp0 (Int.toNat ((fullI gp0) + 1 - 0) + 1) ([]) 0).2) ≤ fullI gp0 + 1) ∧ ((((F_l15Dual_L1 gp0 (Int.toNat ((fullI gp0) + 1 - 0) + 1) ([]) 0).1).length : Int) ≤ ((F_l15Dual_L1 gp0 (Int.toNat ((fullI gp0) + 1 - 0) + 1) ([]) 0).2)) ∧ E a' 22 [(1, .slice imagesA images.length imagesC), (2, .pointer (some ⟨b3, 0, none⟩)), (5, .slice sets5A_24 (((F_l15Dual_L1 gp0 (Int.toNat ((fullI gp0) + 1 - 0) + 1) ([]) 0).1).length) sets5C_24), (6, .int .i64 ((F_l15Dual_L1 gp0 (Int.toNat ((fullI gp0) + 1 - 0) + 1) ([]) 0).2))] ∧ St w w' [.own 2 1 sets5A_24 (((F_l15Dual_L1 gp0 (Int.toNat ((fullI gp0) + 1 - 0) + 1) ([]) 0).1).length) sets5C_24 ((F_l15Dual_L1 gp0 (Int.toNat ((fullI gp0) + 1 - 0) + 1) ([]) 0).1), .blk b3 #[.int .i64 gp0, .slice gp1A gp1.length gp1C] 26, .rd 1 imagesA images.length imagesC images, .rd 1 gp1A gp1.length gp1C gp1]) ?_ ?_
  ·
    refine wp_block ?_
    refine c_loop (fun r a' w' => ∃ sets5 : List Int, ∃ mask6 : Int, ∃ sets5A : Option Addr, ∃ sets5C : Nat, F_l15Dual_L1 gp0 r sets5 mask6 = F_l15Dual_L1 gp0 (Int.toNat ((fullI gp0) + 1 - 0) + 1) ([]) 0 ∧ Int.toNat ((fullI gp0) + 1 - mask6) < r ∧ (0 ≤ mask6) ∧ (mask6 ≤ fullI gp0 + 1) ∧ ((sets5.length : Int) ≤ mask6) ∧ E a' 22 [(1, .slice imagesA images.length imagesC), (2, .pointer (some ⟨b3, 0, none⟩)), (5, .slice sets5A ((sets5).length) sets5C), (6, .int .i64 mask6)] ∧ St w w' [.own 2 1 sets5A ((sets5).length) sets5C sets5, .blk b3 #[.int .i64 gp0, .slice gp1A gp1.length gp1C] 26, .rd 1 imagesA images.length imagesC images, .rd 1 gp1A gp1.length gp1C gp1]) (r := (Int.toNat ((fullI gp0) + 1 - 0) + 1)) ?_ ?_
    · exact ⟨[], 0, some ⟨b12, 0, none⟩, 0, rfl, Nat.lt_succ_self _, (by first | omega | (simp only [List.length_append, List.length_cons, List.length_nil, sI_len, cond_true, cond_false]; omega) | (simp only [List.length_append, List.length_cons, List.length_nil, sI_len, cond_eq_ite, apply_ite List.length]; split <;> simp only [List.length_append, List.length_cons, List.length_nil, sI_len] <;> omega) | grind), (by first | omega | (simp only [List.length_append, List.length_cons, List.length_nil, sI_len, cond_true, cond_false]; omega) | (simp only [List.length_append, List.length_cons, List.length_nil, sI_len, cond_eq_ite, apply_ite List.length]; split <;> simp only [List.length_append, List.length_cons, List.length_nil, sI_len] <;> omega) | grind), (by first | omega | (simp only [List.length_append, List.length_cons, List.length_nil, sI_len, cond_true, cond_false]; omega) | (simp only [List.length_append, List.length_cons, List.length_nil, sI_len, cond_eq_ite, apply_ite List.length]; split <;> simp only [List.length_append, List.length_cons, List.length_nil, sI_len] <;> omega) | grind), (hE23.sub (L' := [(1, .slice imagesA images.length imagesC), (2, .pointer (some ⟨b3, 0, none⟩)), (5, .slice (some ⟨b12, 0, none⟩) 0 0), (6, .int .i64 0)]) ⟨rfl, rfl, rfl, rfl, trivial⟩), (St.pick (Γ' := [.own 2 1 (some ⟨b12, 0, none⟩) 0 0 ([]), .blk b3 #[.int .i64 gp0, .slice gp1A gp1.length gp1C] 26, .rd 1 imagesA images.length imagesC images, .rd 1 gp1A gp1.length gp1C gp1]) hS16 [0, 1, 2, 3] (by decide) rfl)⟩
    ·
      clear hE23 hS16
      rintro r34 a25 w26 ⟨sets5, mask6, sets5A, sets5C, hT29, hr30, hi31, hi32, hi33, hE27, hS28⟩
      obtain ⟨r34, rfl⟩ : ∃ r', r34 = r' + 1 := ⟨r34 - 1, by omega⟩
      refine c_seq ?_
      refine c_seq ?_
      refine c_reg ?_
      refine q_step (v := .int .i64 mask6) hE27 (y_move rfl) rfl rfl rfl ?_; intro a35 hE36; clear hE27
      refine q_step (v := .pointer (some ⟨b3, 0, none⟩)) hE36 (y_field rfl (fun _ => by kernel_rfl)) rfl rfl rfl ?_; intro a37 hE38; clear hE36
      refine q_step (v := .int .i64 gp0) hE38 (y_load (fun _ => by kernel_rfl) rfl (St.cell (i := 1) hS28 rfl rfl)) rfl rfl rfl ?_; intro a39 hE40; clear hE38
      refine l_step hE40 rfl (l_call (f := 108) (argv := [.int .i64 gp0]) hE40 (fun _ => cf_l01Full _ _) rfl rfl (d_l01Full gp0 w26 (by omega) (by omega)) ?_)
      rintro _ _ ⟨rfl, rfl⟩ a43 hE44; clear hE40
      refine q_step (v := .bool (decide (mask6 ≤ (fullI gp0)))) hE44 (y_leq rfl rfl) rfl rfl rfl ?_; intro a47 hE48; clear hE44
      refine c_nil ?_
      have hE49 := hE48.sub (L' := [(1, .slice imagesA images.length imagesC), (2, .pointer (some ⟨b3, 0, none⟩)), (5, .slice sets5A ((sets5).length) sets5C), (6, .int .i64 mask6), (12, .bool (decide (mask6 ≤ (fullI gp0))))]) ⟨rfl, rfl, rfl, rfl, rfl, trivial⟩; clear hE48
      refine p_tn ?_
      refine c_cond hE49 rfl (fun ht50 => ?_) (fun ht50 => ?_)
      ·
        have hp51 := of_decide_eq_true ht50
        have hE52 := hE49; rw [ht50] at hE52; clear hE49
        refine wp_skip ?_
        refine p_tn ?_
        refine c_seq ?_
        refine wp_block ?_
        refine c_reg ?_
        refine q_step (v := .slice sets5A ((sets5).length) sets5C) hE52 (y_move rfl) rfl rfl rfl ?_; intro a53 hE54; clear hE52
        refine q_step (v := .int .i64 mask6) hE54 (y_move rfl) rfl rfl rfl ?_; intro a55 hE56; clear hE54
        refine l_step hE56 rfl (l_lit (e := 2) (s := 1) (xs := [mask6]) (vs := [.int .i64 mask6]) hS28 hE56 rfl (fun _ => by kernel_rfl) rfl rfl rfl ?_)
        intro b57 w58 hS61 he62 a59 hE60; clear hS28 hE56
        obtain ⟨_, hi1, hi2, hi3, hi4⟩ := info_parts (show (Try.prog.info? 2).map (fun i => (i.zero, i.size, i.bytes)) = some (some (.int .i64 0), 1, 8) by kernel_rfl)
        refine l_step hE60 rfl (l_append (k := 1) (n' := (sets5 ++ ([mask6])).length) hS61 hE60 (by kernel_rfl) hi1 hi2 hi3 rfl (by decide) (by rw [hi4]; decide) rfl rfl rfl (St.rdO (i := 0) hS61 rfl) (by first | omega | (simp only [List.length_append, List.length_cons, List.length_nil]; omega)) (by have h1 := (St.rdO (i := 1) hS61 rfl).len1; have h2 := (St.rdO (i := 0) hS61 rfl).len1; rw [List.length_append, h1, h2]) rfl ?_)
        intro b63 c69 w64 hS67 a65 hE66; clear hS61 hE60 hi1 hi2 hi3 hi4
        refine q_step (v := .slice b63 ((sets5 ++ ([mask6])).length) c69) hE66 (y_assign rfl) rfl rfl rfl ?_; intro a70 hE71; clear hE66
        refine c_nil ?_
        have hE72 := hE71.sub (L' := [(1, .slice imagesA images.length imagesC), (2, .pointer (some ⟨b3, 0, none⟩)), (5, .slice b63 ((sets5 ++ ([mask6])).length) c69), (6, .int .i64 mask6)]) ⟨rfl, rfl, rfl, rfl, trivial⟩; clear hE71
        refine p_bn ?_
        refine p_tn ?_
        refine c_reg ?_
        refine q_step (v := .int .i64 mask6) hE72 (y_move rfl) rfl rfl rfl ?_; intro a73 hE74; clear hE72
        refine q_step (v := .int .i64 (mask6 + 1)) hE74 (y_add rfl rfl ⟨(by omega), (by omega)⟩) rfl rfl rfl ?_; intro a75 hE76; clear hE74
        refine q_step (v := .int .i64 (mask6 + 1)) hE76 (y_assign rfl) rfl rfl rfl ?_; intro a77 hE78; clear hE76
        refine c_nil ?_
        have hE79 := hE78.sub (L' := [(1, .slice imagesA images.length imagesC), (2, .pointer (some ⟨b3, 0, none⟩)), (5, .slice b63 ((sets5 ++ ([mask6])).length) c69), (6, .int .i64 (mask6 + 1))]) ⟨rfl, rfl, rfl, rfl, trivial⟩; clear hE78
        refine p_tn ⟨r34, Nat.lt_succ_self _, sets5 ++ ([mask6]), mask6 + 1, b63, c69, (hT29.symm.trans (show F_l15Dual_L1b gp0 (F_l15Dual_L1 gp0 r34) sets5 mask6 = F_l15Dual_L1 gp0 r34 (sets5 ++ ([mask6])) (mask6 + 1) by unfold F_l15Dual_L1b; rw [ht50]; first | done | rfl)).symm, (by omega), (by first | omega | (simp only [List.length_append, List.length_cons, List.length_nil, sI_len, cond_true, cond_false]; omega) | (simp only [List.length_append, List.length_cons, List.length_nil, sI_len, cond_eq_ite, apply_ite List.length]; split <;> simp only [List.length_append, List.length_cons, List.length_nil, sI_len] <;> omega) | grind), (by first | omega | (simp only [List.length_append, List.length_cons, List.length_nil, sI_len, cond_true, cond_false]; omega) | (simp only [List.length_append, List.length_cons, List.length_nil, sI_len, cond_eq_ite, apply_ite List.length]; split <;> simp only [List.length_append, List.length_cons, List.length_nil, sI_len] <;> omega) | grind), (by first | omega | (simp only [List.length_append, List.length_cons, List.length_nil, sI_len, cond_true, cond_false]; omega) | (simp only [List.length_append, List.length_cons, List.length_nil, sI_len, cond_eq_ite, apply_ite List.length]; split <;> simp only [List.length_append, List.length_cons, List.length_nil, sI_len] <;> omega) | grind), (hE79.sub (L' := [(1, .slice imagesA images.length imagesC), (2, .pointer (some ⟨b3, 0, none⟩)), (5, .slice b63 ((sets5 ++ ([mask6])).length) c69), (6, .int .i64 (mask6 + 1))]) ⟨rfl, rfl, rfl, rfl, trivial⟩), (St.pick (Γ' := [.own 2 1 b63 ((sets5 ++ ([mask6])).length) c69 (sets5 ++ ([mask6])), .blk b3 #[.int .i64 gp0, .slice gp1A gp1.length gp1C] 26, .rd 1 imagesA images.length imagesC images, .rd 1 gp1A gp1.length gp1C gp1]) hS67 [1, 2, 3, 4] (by decide) rfl)⟩
      ·
        have hp80 := of_decide_eq_false ht50
        have hE81 := hE49; rw [ht50] at hE81; clear hE49
        refine wp_exit ?_
        refine p_te ?_
        have hX82 : F_l15Dual_L1 gp0 (Int.toNat ((fullI gp0) + 1 - 0) + 1) ([]) 0 = (sets5, mask6) := hT29.symm.trans (show F_l15Dual_L1b gp0 (F_l15Dual_L1 gp0 r34) sets5 mask6 = (sets5, mask6) by unfold F_l15Dual_L1b; rw [ht50]; first | done | rfl)
        refine p_te (p_be (p_tn ?_))
        exact ⟨sets5A, sets5C, (by rw [hX82]; exact (show 0 ≤ mask6 from (by first | omega | (simp only [List.length_append, List.length_cons, List.length_nil, sI_len, cond_true, cond_false]; omega) | (simp only [List.length_append, List.length_cons, List.length_nil, sI_len, cond_eq_ite, apply_ite List.length]; split <;> simp only [List.length_append, List.length_cons, List.length_nil, sI_len] <;> omega) | grind))), (by rw [hX82]; exact (show mask6 ≤ fullI gp0 + 1 from (by first | omega | (simp only [List.length_append, List.length_cons, List.length_nil, sI_len, cond_true, cond_false]; omega) | (simp only [List.length_append, List.length_cons, List.length_nil, sI_len, cond_eq_ite, apply_ite List.length]; split <;> simp only [List.length_append, List.length_cons, List.length_nil, sI_len] <;> omega) | grind))), (by rw [hX82]; exact (show (sets5.length : Int) ≤ mask6 from (by first | omega | (simp only [List.length_append, List.length_cons, List.length_nil, sI_len, cond_true, cond_false]; omega) | (simp only [List.length_append, List.length_cons, List.length_nil, sI_len, cond_eq_ite, apply_ite List.length]; split <;> simp only [List.length_append, List.length_cons, List.length_nil, sI_len] <;> omega) | grind))), (by rw [hX82]; exact (hE81.sub (L' := [(1, .slice imagesA images.length imagesC), (2, .pointer (some ⟨b3, 0, none⟩)), (5, .slice sets5A ((sets5).length) sets5C), (6, .int .i64 mask6)]) ⟨rfl, rfl, rfl, rfl, trivial⟩)), (by rw [hX82]; exact (St.pick (Γ' := [.own 2 1 sets5A ((sets5).length) sets5C sets5, .blk b3 #[.int .i64 gp0, .slice gp1A gp1.length gp1C] 26, .rd 1 imagesA images.length imagesC images, .rd 1 gp1A gp1.length gp1C gp1]) hS28 [0, 1, 2, 3] (by decide) rfl))⟩
  ·
    rintro a83 w84 ⟨sets5A_24, sets5C_24, hi88, hi89, hi90, hE85, hS86⟩; clear hE23 hS16
    refine p_tn ?_
    refine c_seq ?_
    refine c_reg ?_
    refine q_step (v := .slice imagesA images.length imagesC) hE85 (y_move rfl) rfl rfl rfl ?_; intro a91 hE92; clear hE85
    refine q_step (v := .slice sets5A_24 (((F_l15Dual_L1 gp0 (Int.toNat ((fullI gp0) + 1 - 0) + 1) ([]) 0).1).length) sets5C_24) hE92 (y_move rfl) rfl rfl rfl ?_; intro a93 hE94; clear hE92
    refine l_step hE94 rfl (l_call (f := 128) (argv := [.slice imagesA images.length imagesC, .slice sets5A_24 (((F_l15Dual_L1 gp0 (Int.toNat ((fullI gp0) + 1 - 0) + 1) ([]) 0).1).length) sets5C_24]) hE94 (fun _ => cf_l08Pull _ _) rfl rfl (c_l08Pull imagesA images.length imagesC images sets5A_24 (((F_l15Dual_L1 gp0 (Int.toNat ((fullI gp0) + 1 - 0) + 1) ([]) 0).1).length) sets5C_24 ((F_l15Dual_L1 gp0 (Int.toNat ((fullI gp0) + 1 - 0) + 1) ([]) 0).1) w84 (St.rdR (i := 2) hS86 rfl) (St.rdO (i := 0) hS86 rfl) (by omega) (by omega) him) ?_)
    rintro _ w96 ⟨b101, c102, rfl, ho103, he100⟩ a97 hE98; clear hE94
    have hS99 := St.own hS86 he100 ho103; clear hS86
    refine q_step (v := .slice b101 ((F_l08Pull images ((F_l15Dual_L1 gp0 (Int.toNat ((fullI gp0) + 1 - 0) + 1) ([]) 0).1)).length) c102) hE98 (y_assign rfl) rfl rfl rfl ?_; intro a104 hE105; clear hE98
    refine c_nil ?_
    have hE106 := hE105.sub (L' := [(4, .slice b101 ((F_l08Pull images ((F_l15Dual_L1 gp0 (Int.toNat ((fullI gp0) + 1 - 0) + 1) ([]) 0).1)).length) c102)]) ⟨rfl, trivial⟩; clear hE105
    refine p_tn ?_
    refine wp_ret ?_
    have hF : F_l15Dual gp0 gp1 images = F_l08Pull images ((F_l15Dual_L1 gp0 (Int.toNat ((fullI gp0) + 1 - 0) + 1) ([]) 0).1) := by unfold F_l15Dual; rfl
    refine c_ret1 hE106 rfl rfl ?_
    exact ⟨b101, c102, (by rw [hF]; first | done | rfl), (by rw [hF]; exact hS99.ok 0 _ rfl), hS99.ext⟩

def F_s_DualHomomorphism (f0 : Int) (f1 : List Int) (g0 : Int) (g1 : List Int) (images : List Int) : (List Int) × (Int) :=
  bif (!decide ((F_l08Code f0 f1 g0 g1 images) = 0)) then ([], F_l08Code f0 f1 g0 g1 images) else (bif (decide (5 < g0)) then ([], 3) else (F_l15Dual g0 g1 images, 0))
theorem cf_s_DualHomomorphism (args : Array Value) (w : World) : (callFunc 30 args).run Try.prog w = .ok (.enter 30 args) w := by kernel_rfl
set_option maxRecDepth 100000 in
theorem c_s_DualHomomorphism (f0 : Int) (f1A : Option Addr) (f1N f1C : Nat) (f1 : List Int) (g0 : Int) (g1A : Option Addr) (g1N g1C : Nat) (g1 : List Int) (imagesA : Option Addr) (imagesN imagesC : Nat) (images : List Int) (w : World) (f1R : RdS w 1 f1A f1N f1C f1) (g1R : RdS w 1 g1A g1N g1C g1) (imagesR : RdS w 1 imagesA imagesN imagesC images) :
    Calls Try.prog 30 #[.agg #[.int .i64 f0, .slice f1A f1N f1C], .agg #[.int .i64 g0, .slice g1A g1N g1C], .slice imagesA imagesN imagesC] w (Ret fun v w' => ∃ b1 : Option Addr, ∃ c1 : Nat, v = .tuple #[.slice b1 ((F_s_DualHomomorphism f0 f1 g0 g1 images).1).length c1, .int .i64 ((F_s_DualHomomorphism f0 f1 g0 g1 images).2)] ∧ OwnS w' w.heap.size 2 1 b1 ((F_s_DualHomomorphism f0 f1 g0 g1 images).1).length c1 ((F_s_DualHomomorphism f0 f1 g0 g1 images).1) ∧ Ext w w') := by
  obtain rfl : f1N = f1.length := f1R.len1.symm
  have f1Le := f1R.le
  obtain rfl : g1N = g1.length := g1R.len1.symm
  have g1Le := g1R.le
  obtain rfl : imagesN = images.length := imagesR.len1.symm
  have imagesLe := imagesR.le
  have hS := St.nil w
  have hS1 := St.rd0 hS rfl f1R; clear hS
  have hS2 := St.rd0 hS1 rfl g1R; clear hS1
  have hS3 := St.rd0 hS2 rfl imagesR; clear hS2
  refine enter (args := [.agg #[.int .i64 f0, .slice f1A f1.length f1C], .agg #[.int .i64 g0, .slice g1A g1.length g1C], .slice imagesA images.length imagesC]) Try.func30 rfl rfl ?_
  rw [Try.ntmps30]; intro a hE
  have hE := hE.sub (L' := [(0, .agg #[.int .i64 f0, .slice f1A f1.length f1C]), (1, .agg #[.int .i64 g0, .slice g1A g1.length g1C]), (2, .slice imagesA images.length imagesC)]) ⟨rfl, rfl, rfl, trivial⟩
  refine c_seq ?_
  refine c_reg ?_
  refine l_step hE rfl (l_box (v := .agg #[.int .i64 f0, .slice f1A f1.length f1C]) (cs := #[.int .i64 f0, .slice f1A f1.length f1C]) hS3 hE rfl rfl rfl ?_)
  intro b4 w5 hS8 he9 a6 hE7; clear hS3 hE
  refine l_step hE7 rfl (l_box (v := .agg #[.int .i64 g0, .slice g1A g1.length g1C]) (cs := #[.int .i64 g0, .slice g1A g1.length g1C]) hS8 hE7 rfl rfl rfl ?_)
  intro b10 w11 hS14 he15 a12 hE13; clear hS8 hE7
  refine q_step (v := .slice none 0 0) hE13 (y_assign rfl) rfl rfl rfl ?_; intro a16 hE17; clear hE13
  refine q_step (v := .int .i64 0) hE17 (y_assign rfl) rfl rfl rfl ?_; intro a18 hE19; clear hE17
  refine c_nil ?_
  have hE20 := hE19.sub (L' := [(2, .slice imagesA images.length imagesC), (3, .pointer (some ⟨b4, 0, none⟩)), (4, .pointer (some ⟨b10, 0, none⟩))]) ⟨rfl, rfl, rfl, trivial⟩; clear hE19
  refine p_tn ?_
  refine c_seq ?_
  refine c_seq ?_
  refine c_reg ?_
  refine q_step (v := .agg #[.int .i64 f0, .slice f1A f1.length f1C]) hE20 (y_loadS Try.underlying26 rfl (by kernel_rfl) rfl (St.row (i := 1) hS14 rfl)) rfl rfl rfl ?_; intro a21 hE22; clear hE20
  refine q_step (v := .agg #[.int .i64 g0, .slice g1A g1.length g1C]) hE22 (y_loadS Try.underlying26 rfl (by kernel_rfl) rfl (St.row (i := 0) hS14 rfl)) rfl rfl rfl ?_; intro a23 hE24; clear hE22
  refine q_step (v := .slice imagesA images.length imagesC) hE24 (y_move rfl) rfl rfl rfl ?_; intro a25 hE26; clear hE24
  refine l_step hE26 rfl (l_call (f := 64) (argv := [.agg #[.int .i64 f0, .slice f1A f1.length f1C], .agg #[.int .i64 g0, .slice g1A g1.length g1C], .slice imagesA images.length imagesC]) hE26 (fun _ => cf_l08Code _ _) rfl rfl (c_l08Code f0 f1A f1.length f1C f1 g0 g1A g1.length g1C g1 imagesA images.length imagesC images w11 (St.rdR (i := 4) hS14 rfl) (St.rdR (i := 3) hS14 rfl) (St.rdR (i := 2) hS14 rfl)) ?_)
  rintro _ w28 ⟨rfl, he32⟩ a29 hE30; clear hE26
  have hS31 := St.go hS14 he32; clear hS14
  refine q_step (v := .int .i64 (F_l08Code f0 f1 g0 g1 images)) hE30 (y_assign rfl) rfl rfl rfl ?_; intro a33 hE34; clear hE30
  refine c_nil ?_
  have hE35 := hE34.sub (L' := [(2, .slice imagesA images.length imagesC), (4, .pointer (some ⟨b10, 0, none⟩)), (8, .int .i64 (F_l08Code f0 f1 g0 g1 images))]) ⟨rfl, rfl, rfl, trivial⟩; clear hE34
  refine p_tn ?_
  refine c_seq ?_
  refine c_reg ?_
  refine q_step (v := .int .i64 (F_l08Code f0 f1 g0 g1 images)) hE35 (y_move rfl) rfl rfl rfl ?_; intro a36 hE37; clear hE35
  refine q_step (v := .bool (!decide ((F_l08Code f0 f1 g0 g1 images) = 0))) hE37 (y_neq rfl rfl) rfl rfl rfl ?_; intro a38 hE39; clear hE37
  refine c_nil ?_
  have hE40 := hE39.sub (L' := [(2, .slice imagesA images.length imagesC), (4, .pointer (some ⟨b10, 0, none⟩)), (8, .int .i64 (F_l08Code f0 f1 g0 g1 images)), (14, .bool (!decide ((F_l08Code f0 f1 g0 g1 images) = 0)))]) ⟨rfl, rfl, rfl, rfl, trivial⟩; clear hE39
  refine p_tn ?_
  refine c_cond hE40 rfl (fun ht41 => ?_) (fun ht41 => ?_)
  ·
    have ht42 := bn_t ht41
    have hp43 := of_decide_eq_false ht42
    have hE44 := hE40; rw [ht41] at hE44; clear hE40
    refine c_seq ?_
    refine c_reg ?_
    refine q_step (v := .int .i64 (F_l08Code f0 f1 g0 g1 images)) hE44 (y_move rfl) rfl rfl rfl ?_; intro a45 hE46; clear hE44
    refine q_step (v := .slice none 0 0) hE46 (y_assign rfl) rfl rfl rfl ?_; intro a47 hE48; clear hE46
    refine q_step (v := .int .i64 (F_l08Code f0 f1 g0 g1 images)) hE48 (y_assign rfl) rfl rfl rfl ?_; intro a49 hE50; clear hE48
    refine c_nil ?_
    have hE51 := hE50.sub (L' := [(6, .slice none 0 0), (7, .int .i64 (F_l08Code f0 f1 g0 g1 images))]) ⟨rfl, rfl, trivial⟩; clear hE50
    refine p_tn ?_
    refine wp_ret ?_
    refine p_tr ?_
    have hF : F_s_DualHomomorphism f0 f1 g0 g1 images = ([], F_l08Code f0 f1 g0 g1 images) := by unfold F_s_DualHomomorphism; rw [ht41]; first | done | rfl
    refine c_ret2 hE51 rfl rfl rfl ?_
    exact ⟨none, 0, (by rw [hF]; first | done | rfl), (by rw [hF]; exact OwnS.nilS _ _ _ _), hS31.ext⟩
  ·
    have ht52 := bn_f ht41
    have hp53 := of_decide_eq_true ht52
    have hq54 := l08Code_t hp53
    have hE55 := hE40; rw [ht41] at hE55; clear hE40
    refine wp_skip ?_
    refine p_tn ?_
    refine c_seq ?_
    refine c_seq ?_
    refine c_reg ?_
    refine q_step (v := .pointer (some ⟨b10, 0, none⟩)) hE55 (y_field rfl (fun _ => by kernel_rfl)) rfl rfl rfl ?_; intro a56 hE57; clear hE55
    refine q_step (v := .int .i64 g0) hE57 (y_load (fun _ => by kernel_rfl) rfl (St.cell (i := 0) hS31 rfl rfl)) rfl rfl rfl ?_; intro a58 hE59; clear hE57
    refine q_step (v := .bool (decide (5 < g0))) hE59 (y_gtr rfl rfl) rfl rfl rfl ?_; intro a60 hE61; clear hE59
    refine c_nil ?_
    have hE62 := hE61.sub (L' := [(2, .slice imagesA images.length imagesC), (4, .pointer (some ⟨b10, 0, none⟩)), (18, .bool (decide (5 < g0)))]) ⟨rfl, rfl, rfl, trivial⟩; clear hE61
    refine p_tn ?_
    refine c_cond hE62 rfl (fun ht63 => ?_) (fun ht63 => ?_)
    ·
      have hp64 := of_decide_eq_true ht63
      have hE65 := hE62; rw [ht63] at hE65; clear hE62
      refine c_seq ?_
      refine c_reg ?_
      refine q_step (v := .slice none 0 0) hE65 (y_assign rfl) rfl rfl rfl ?_; intro a66 hE67; clear hE65
      refine q_step (v := .int .i64 3) hE67 (y_assign rfl) rfl rfl rfl ?_; intro a68 hE69; clear hE67
      refine c_nil ?_
      have hE70 := hE69.sub (L' := [(6, .slice none 0 0), (7, .int .i64 3)]) ⟨rfl, rfl, trivial⟩; clear hE69
      refine p_tn ?_
      refine wp_ret ?_
      refine p_tr ?_
      have hF : F_s_DualHomomorphism f0 f1 g0 g1 images = ([], 3) := by unfold F_s_DualHomomorphism; rw [ht63, ht41]; first | done | rfl
      refine c_ret2 hE70 rfl rfl rfl ?_
      exact ⟨none, 0, (by rw [hF]; first | done | rfl), (by rw [hF]; exact OwnS.nilS _ _ _ _), hS31.ext⟩
    ·
      have hp71 := of_decide_eq_false ht63
      have hE72 := hE62; rw [ht63] at hE72; clear hE62
      refine wp_skip ?_
      refine p_tn ?_
      refine c_seq ?_
      refine c_reg ?_
      refine q_step (v := .agg #[.int .i64 g0, .slice g1A g1.length g1C]) hE72 (y_loadS Try.underlying26 rfl (by kernel_rfl) rfl (St.row (i := 0) hS31 rfl)) rfl rfl rfl ?_; intro a73 hE74; clear hE72
      refine q_step (v := .slice imagesA images.length imagesC) hE74 (y_move rfl) rfl rfl rfl ?_; intro a75 hE76; clear hE74
      refine l_step hE76 rfl (l_call (f := 72) (argv := [.agg #[.int .i64 g0, .slice g1A g1.length g1C], .slice imagesA images.length imagesC]) hE76 (fun _ => cf_l15Dual _ _) rfl rfl (c_l15Dual g0 g1A g1.length g1C g1 imagesA images.length imagesC images w28 (St.rdR (i := 3) hS31 rfl) (St.rdR (i := 2) hS31 rfl) (by omega) (by omega) (by omega) (fun m h0 h1 => by have := (l08Code_t (by assumption)).2.2.2.2.2 m h0 h1; omega)) ?_)
      rintro _ w78 ⟨b83, c84, rfl, ho85, he82⟩ a79 hE80; clear hE76
      have hS81 := St.own hS31 he82 ho85; clear hS31
      refine q_step (v := .slice b83 ((F_l15Dual g0 g1 images).length) c84) hE80 (y_assign rfl) rfl rfl rfl ?_; intro a86 hE87; clear hE80
      refine q_step (v := .int .i64 0) hE87 (y_assign rfl) rfl rfl rfl ?_; intro a88 hE89; clear hE87
      refine c_nil ?_
      have hE90 := hE89.sub (L' := [(6, .slice b83 ((F_l15Dual g0 g1 images).length) c84), (7, .int .i64 0)]) ⟨rfl, rfl, trivial⟩; clear hE89
      refine p_tn ?_
      refine wp_ret ?_
      have hF : F_s_DualHomomorphism f0 f1 g0 g1 images = (F_l15Dual g0 g1 images, 0) := by unfold F_s_DualHomomorphism; rw [ht63, ht41]; first | done | rfl
      refine c_ret2 hE90 rfl rfl rfl ?_
      exact ⟨b83, c84, (by rw [hF]; first | done | rfl), (by rw [hF]; exact hS81.ok 0 _ rfl), hS81.ext⟩

def F_dualOf_L1b (images : List Int) (np : Int) (rec : (List Int) → Int → (List Int) × Int) (out5 : List Int) (t9 : Int) : (List Int) × Int :=
  bif (decide (t9 < (shlI 1 np))) then (rec (out5 ++ ([F_pull images t9])) (t9 + 1)) else (out5, t9)
def F_dualOf_L1 (images : List Int) (np : Int) : Nat → (List Int) → Int → (List Int) × Int
  | 0, out5, t9 => (out5, t9)
  | r + 1, out5, t9 => F_dualOf_L1b images np (F_dualOf_L1 images np r) out5 t9
def F_dualOf (images : List Int) (np : Int) : List Int :=
  (F_dualOf_L1 images np (Int.toNat ((shlI 1 np) - 0) + 1) ([]) 0).1
theorem cf_dualOf (args : Array Value) (w : World) : (callFunc 73 args).run Try.prog w = .ok (.enter 73 args) w := by kernel_rfl
set_option maxRecDepth 100000 in
theorem c_dualOf (imagesA : Option Addr) (imagesN imagesC : Nat) (images : List Int) (np : Int) (w : World) (imagesR : RdS w 1 imagesA imagesN imagesC images) (h0 : 0 ≤ np) (h1 : np ≤ 5) (hl : images.length ≤ 8) (him : ∀ m : Int, 0 ≤ m → m < (images.length : Int) → 0 ≤ gI images m ∧ gI images m ≤ 7) :
    Calls Try.prog 73 #[.slice imagesA imagesN imagesC, .int .i64 np] w (Ret fun v w' => ∃ b1 : Option Addr, ∃ c1 : Nat, v = .slice b1 (F_dualOf images np).length c1 ∧ OwnS w' w.heap.size 2 1 b1 (F_dualOf images np).length c1 (F_dualOf images np) ∧ Ext w w') := by
  obtain rfl : imagesN = images.length := imagesR.len1.symm
  have imagesLe := imagesR.le
  have hf5 := shl5 h0 h1
  have hS := St.nil w
  have hS1 := St.rd0 hS rfl imagesR; clear hS
  refine enter (args := [.slice imagesA images.length imagesC, .int .i64 np]) Try.func73 rfl rfl ?_
  rw [Try.ntmps73]; intro a hE
  have hE := hE.sub (L' := [(0, .slice imagesA images.length imagesC), (1, .int .i64 np)]) ⟨rfl, rfl, trivial⟩
  refine c_seq ?_
  refine c_reg ?_
  refine q_step (v := .slice none 0 0) hE (y_assign rfl) rfl rfl rfl ?_; intro a2 hE3; clear hE
  refine c_nil ?_
  have hE4 := hE3.sub (L' := [(0, .slice imagesA images.length imagesC), (1, .int .i64 np)]) ⟨rfl, rfl, trivial⟩; clear hE3
  refine p_tn ?_
  refine c_seq ?_
  refine c_reg ?_
  refine q_step (v := .slice none 0 0) hE4 (y_assign rfl) rfl rfl rfl ?_; intro a5 hE6; clear hE4
  refine c_nil ?_
  have hE7 := hE6.sub (L' := [(0, .slice imagesA images.length imagesC), (1, .int .i64 np), (5, .slice none 0 0)]) ⟨rfl, rfl, rfl, trivial⟩; clear hE6
  refine p_tn ?_
  refine c_seq ?_
  refine c_seq ?_
  refine c_reg ?_
  refine q_step (v := .int .i64 np) hE7 (y_move rfl) rfl rfl rfl ?_; intro a8 hE9; clear hE7
  refine q_step (v := .int .i64 (shlI 1 np)) hE9 (y_shl rfl rfl (by omega)) rfl rfl rfl ?_; intro a10 hE11; clear hE9
  refine q_step (v := .int .i64 0) hE11 (y_move rfl) rfl rfl rfl ?_; intro a12 hE13; clear hE11
  refine c_nil ?_
  have hE14 := hE13.sub (L' := [(0, .slice imagesA images.length imagesC), (5, .slice none 0 0), (8, .int .i64 (shlI 1 np)), (9, .int .i64 0)]) ⟨rfl, rfl, rfl, rfl, trivial⟩; clear hE13
  refine p_tn ?_
  have hS15 := St.nils hS1 2 1; clear hS1
  refine c_cut1 (fun a' w' => ∃ out5A_16 : Option Addr, ∃ out5C_16 : Nat, (0 ≤ ((F_dualOf_L1 images np (Int.toNat ((shlI 1 np) - 0) + 1) ([]) 0).2)) ∧ ((((F_dualOf_L1 images np (Int.toNat ((shlI 1 np) - 0) + 1) ([]) 0).1).length : Int) ≤ ((F_dualOf_L1 images np (Int.toNat ((shlI 1 np) - 0) + 1) ([]) 0).2)) ∧ E a' 20 [(0, .slice imagesA images.length imagesC), (5, .slice out5A_16 (((F_dualOf_L1 images np (Int.toNat ((shlI 1 np) - 0) + 1) ([]) 0).1).length) out5C_16), (8, .int .i64 (shlI 1 np)), (9, .int .i64 ((F_dualOf_L1 images np (Int.toNat ((shlI 1 np) - 0) + 1) ([]) 0).2))] ∧ St w w' [.own 2 1 out5A_16 (((F_dualOf_L1 images np (Int.toNat ((shlI 1 np) - 0) + 1) ([]) 0).1).length) out5C_16 ((F_dualOf_L1 images np (Int.toNat ((shlI 1 np) - 0) + 1) ([]) 0).1), .rd 1 imagesA images.length imagesC images]) ?_ ?_
  ·
    refine wp_block ?_
    refine c_loop (fun r a' w' => ∃ out5 : List Int, ∃ t9 : Int, ∃ out5A : Option Addr, ∃ out5C : Nat, F_dualOf_L1 images np r out5 t9 = F_dualOf_L1 images np (Int.toNat ((shlI 1 np) - 0) + 1) ([]) 0 ∧ Int.toNat ((shlI 1 np) - t9) < r ∧ (0 ≤ t9) ∧ ((out5.length : Int) ≤ t9) ∧ E a' 20 [(0, .slice imagesA images.length imagesC), (5, .slice out5A ((out5).length) out5C), (8, .int .i64 (shlI 1 np)), (9, .int .i64 t9)] ∧ St w w' [.own 2 1 out5A ((out5).length) out5C out5, .rd 1 imagesA images.length imagesC images]) (r := (Int.toNat ((shlI 1 np) - 0) + 1)) ?_ ?_
    · exact ⟨[], 0, none, 0, rfl, Nat.lt_succ_self _, (by first | omega | (simp only [List.length_append, List.length_cons, List.length_nil, sI_len, cond_true, cond_false]; omega) | (simp only [List.length_append, List.length_cons, List.length_nil, sI_len, cond_eq_ite, apply_ite List.length]; split <;> simp only [List.length_append, List.length_cons, List.length_nil, sI_len] <;> omega) | grind), (by first | omega | (simp only [List.length_append, List.length_cons, List.length_nil, sI_len, cond_true, cond_false]; omega) | (simp only [List.length_append, List.length_cons, List.length_nil, sI_len, cond_eq_ite, apply_ite List.length]; split <;> simp only [List.length_append, List.length_cons, List.length_nil, sI_len] <;> omega) | grind), (hE14.sub (L' := [(0, .slice imagesA images.length imagesC), (5, .slice none 0 0), (8, .int .i64 (shlI 1 np)), (9, .int .i64 0)]) ⟨rfl, rfl, rfl, rfl, trivial⟩), (St.pick (Γ' := [.own 2 1 none 0 0 ([]), .rd 1 imagesA images.length imagesC images]) hS15 [0, 1] (by decide) rfl)⟩
    ·
      clear hE14 hS15
      rintro r25 a17 w18 ⟨out5, t9, out5A, out5C, hT21, hr22, hi23, hi24, hE19, hS20⟩
      obtain ⟨r25, rfl⟩ : ∃ r', r25 = r' + 1 := ⟨r25 - 1, by omega⟩
      refine c_seq ?_
      refine c_reg ?_
      refine q_step (v := .bool (decide (t9 < (shlI 1 np)))) hE19 (y_lss rfl rfl) rfl rfl rfl ?_; intro a26 hE27; clear hE19
      refine c_nil ?_
      have hE28 := hE27.sub (L' := [(0, .slice imagesA images.length imagesC), (5, .slice out5A ((out5).length) out5C), (8, .int .i64 (shlI 1 np)), (9, .int .i64 t9), (10, .bool (decide (t9 < (shlI 1 np))))]) ⟨rfl, rfl, rfl, rfl, rfl, trivial⟩; clear hE27
      refine p_tn ?_
      refine c_seq ?_
      refine c_cond hE28 rfl (fun ht29 => ?_) (fun ht29 => ?_)
      ·
        have hp30 := of_decide_eq_true ht29
        have hE31 := hE28; rw [ht29] at hE31; clear hE28
        refine wp_skip ?_
        refine p_tn ?_
        refine c_seq ?_
        refine wp_block ?_
        refine c_seq ?_
        refine c_reg ?_
        refine q_step (v := .int .i64 t9) hE31 (y_move rfl) rfl rfl rfl ?_; intro a32 hE33; clear hE31
        refine q_step (v := .int .i64 t9) hE33 (y_assign rfl) rfl rfl rfl ?_; intro a34 hE35; clear hE33
        refine c_nil ?_
        have hE36 := hE35.sub (L' := [(0, .slice imagesA images.length imagesC), (5, .slice out5A ((out5).length) out5C), (6, .int .i64 t9), (8, .int .i64 (shlI 1 np)), (9, .int .i64 t9)]) ⟨rfl, rfl, rfl, rfl, rfl, trivial⟩; clear hE35
        refine p_tn ?_
        refine c_reg ?_
        refine q_step (v := .slice out5A ((out5).length) out5C) hE36 (y_move rfl) rfl rfl rfl ?_; intro a37 hE38; clear hE36
        refine q_step (v := .slice imagesA images.length imagesC) hE38 (y_move rfl) rfl rfl rfl ?_; intro a39 hE40; clear hE38
        refine q_step (v := .int .i64 t9) hE40 (y_move rfl) rfl rfl rfl ?_; intro a41 hE42; clear hE40
        refine l_step hE42 rfl (l_call (f := 129) (argv := [.slice imagesA images.length imagesC, .int .i64 t9]) hE42 (fun _ => cf_pull _ _) rfl rfl (c_pull imagesA images.length imagesC images t9 w18 (St.rdR (i := 1) hS20 rfl) (by omega) him) ?_)
        rintro _ w44 ⟨rfl, he48⟩ a45 hE46; clear hE42
        have hS47 := St.go hS20 he48; clear hS20
        refine l_step hE46 rfl (l_lit (e := 2) (s := 1) (xs := [F_pull images t9]) (vs := [.int .i64 (F_pull images t9)]) hS47 hE46 rfl (fun _ => by kernel_rfl) rfl rfl rfl ?_)
        intro b49 w50 hS53 he54 a51 hE52; clear hS47 hE46
        obtain ⟨_, hi1, hi2, hi3, hi4⟩ := info_parts (show (Try.prog.info? 2).map (fun i => (i.zero, i.size, i.bytes)) = some (some (.int .i64 0), 1, 8) by kernel_rfl)
        refine l_step hE52 rfl (l_append (k := 1) (n' := (out5 ++ ([F_pull images t9])).length) hS53 hE52 (by kernel_rfl) hi1 hi2 hi3 rfl (by decide) (by rw [hi4]; decide) rfl rfl rfl (St.rdO (i := 0) hS53 rfl) (by first | omega | (simp only [List.length_append, List.length_cons, List.length_nil]; omega)) (by have h1 := (St.rdO (i := 1) hS53 rfl).len1; have h2 := (St.rdO (i := 0) hS53 rfl).len1; rw [List.length_append, h1, h2]) rfl ?_)
        intro b55 c61 w56 hS59 a57 hE58; clear hS53 hE52 hi1 hi2 hi3 hi4
        refine q_step (v := .slice b55 ((out5 ++ ([F_pull images t9])).length) c61) hE58 (y_assign rfl) rfl rfl rfl ?_; intro a62 hE63; clear hE58
        refine c_nil ?_
        have hE64 := hE63.sub (L' := [(0, .slice imagesA images.length imagesC), (5, .slice b55 ((out5 ++ ([F_pull images t9])).length) c61), (8, .int .i64 (shlI 1 np)), (9, .int .i64 t9)]) ⟨rfl, rfl, rfl, rfl, trivial⟩; clear hE63
        refine p_bn ?_
        refine p_tn ?_
        refine c_reg ?_
        refine q_step (v := .int .i64 (t9 + 1)) hE64 (y_add rfl rfl ⟨(by omega), (by omega)⟩) rfl rfl rfl ?_; intro a65 hE66; clear hE64
        refine q_step (v := .int .i64 (t9 + 1)) hE66 (y_move rfl) rfl rfl rfl ?_; intro a67 hE68; clear hE66
        refine c_nil ?_
        have hE69 := hE68.sub (L' := [(0, .slice imagesA images.length imagesC), (5, .slice b55 ((out5 ++ ([F_pull images t9])).length) c61), (8, .int .i64 (shlI 1 np)), (9, .int .i64 (t9 + 1))]) ⟨rfl, rfl, rfl, rfl, trivial⟩; clear hE68
        refine p_tn ⟨r25, Nat.lt_succ_self _, out5 ++ ([F_pull images t9]), t9 + 1, b55, c61, (hT21.symm.trans (show F_dualOf_L1b images np (F_dualOf_L1 images np r25) out5 t9 = F_dualOf_L1 images np r25 (out5 ++ ([F_pull images t9])) (t9 + 1) by unfold F_dualOf_L1b; rw [ht29]; first | done | rfl)).symm, (by omega), (by first | omega | (simp only [List.length_append, List.length_cons, List.length_nil, sI_len, cond_true, cond_false]; omega) | (simp only [List.length_append, List.length_cons, List.length_nil, sI_len, cond_eq_ite, apply_ite List.length]; split <;> simp only [List.length_append, List.length_cons, List.length_nil, sI_len] <;> omega) | grind), (by first | omega | (simp only [List.length_append, List.length_cons, List.length_nil, sI_len, cond_true, cond_false]; omega) | (simp only [List.length_append, List.length_cons, List.length_nil, sI_len, cond_eq_ite, apply_ite List.length]; split <;> simp only [List.length_append, List.length_cons, List.length_nil, sI_len] <;> omega) | grind), (hE69.sub (L' := [(0, .slice imagesA images.length imagesC), (5, .slice b55 ((out5 ++ ([F_pull images t9])).length) c61), (8, .int .i64 (shlI 1 np)), (9, .int .i64 (t9 + 1))]) ⟨rfl, rfl, rfl, rfl, trivial⟩), (St.pick (Γ' := [.own 2 1 b55 ((out5 ++ ([F_pull images t9])).length) c61 (out5 ++ ([F_pull images t9])), .rd 1 imagesA images.length imagesC images]) hS59 [1, 2] (by decide) rfl)⟩
      ·
        have hp70 := of_decide_eq_false ht29
        have hE71 := hE28; rw [ht29] at hE71; clear hE28
        refine wp_exit ?_
        refine p_te ?_
        have hX72 : F_dualOf_L1 images np (Int.toNat ((shlI 1 np) - 0) + 1) ([]) 0 = (out5, t9) := hT21.symm.trans (show F_dualOf_L1b images np (F_dualOf_L1 images np r25) out5 t9 = (out5, t9) by unfold F_dualOf_L1b; rw [ht29]; first | done | rfl)
        refine p_te (p_be (p_tn ?_))
        exact ⟨out5A, out5C, (by rw [hX72]; exact (show 0 ≤ t9 from (by first | omega | (simp only [List.length_append, List.length_cons, List.length_nil, sI_len, cond_true, cond_false]; omega) | (simp only [List.length_append, List.length_cons, List.length_nil, sI_len, cond_eq_ite, apply_ite List.length]; split <;> simp only [List.length_append, List.length_cons, List.length_nil, sI_len] <;> omega) | grind))), (by rw [hX72]; exact (show (out5.length : Int) ≤ t9 from (by first | omega | (simp only [List.length_append, List.length_cons, List.length_nil, sI_len, cond_true, cond_false]; omega) | (simp only [List.length_append, List.length_cons, List.length_nil, sI_len, cond_eq_ite, apply_ite List.length]; split <;> simp only [List.length_append, List.length_cons, List.length_nil, sI_len] <;> omega) | grind))), (by rw [hX72]; exact (hE71.sub (L' := [(0, .slice imagesA images.length imagesC), (5, .slice out5A ((out5).length) out5C), (8, .int .i64 (shlI 1 np)), (9, .int .i64 t9)]) ⟨rfl, rfl, rfl, rfl, trivial⟩)), (by rw [hX72]; exact (St.pick (Γ' := [.own 2 1 out5A ((out5).length) out5C out5, .rd 1 imagesA images.length imagesC images]) hS20 [0, 1] (by decide) rfl))⟩
  ·
    rintro a73 w74 ⟨out5A_16, out5C_16, hi78, hi79, hE75, hS76⟩; clear hE14 hS15
    refine p_tn ?_
    refine c_seq ?_
    refine c_reg ?_
    refine q_step (v := .slice out5A_16 (((F_dualOf_L1 images np (Int.toNat ((shlI 1 np) - 0) + 1) ([]) 0).1).length) out5C_16) hE75 (y_move rfl) rfl rfl rfl ?_; intro a80 hE81; clear hE75
    refine q_step (v := .slice out5A_16 (((F_dualOf_L1 images np (Int.toNat ((shlI 1 np) - 0) + 1) ([]) 0).1).length) out5C_16) hE81 (y_assign rfl) rfl rfl rfl ?_; intro a82 hE83; clear hE81
    refine c_nil ?_
    have hE84 := hE83.sub (L' := [(4, .slice out5A_16 (((F_dualOf_L1 images np (Int.toNat ((shlI 1 np) - 0) + 1) ([]) 0).1).length) out5C_16)]) ⟨rfl, trivial⟩; clear hE83
    refine p_tn ?_
    refine wp_ret ?_
    have hF : F_dualOf images np = (F_dualOf_L1 images np (Int.toNat ((shlI 1 np) - 0) + 1) ([]) 0).1 := by unfold F_dualOf; rfl
    refine c_ret1 hE84 rfl rfl ?_
    exact ⟨out5A_16, out5C_16, (by rw [hF]; first | done | rfl), (by rw [hF]; exact hS76.ok 0 _ rfl), hS76.ext⟩

def F_DualHomomorphism (f0 : Int) (f1 : List Int) (g0 : Int) (g1 : List Int) (images : List Int) : (List Int) × (Int) :=
  bif (!decide ((F_mapCode f0 f1 g0 g1 images) = 0)) then ([], F_mapCode f0 f1 g0 g1 images) else (bif (decide (5 < g0)) then ([], 3) else (F_dualOf images g0, 0))
theorem cf_DualHomomorphism (args : Array Value) (w : World) : (callFunc 31 args).run Try.prog w = .ok (.enter 31 args) w := by kernel_rfl
set_option maxRecDepth 100000 in
theorem c_DualHomomorphism (f0 : Int) (f1A : Option Addr) (f1N f1C : Nat) (f1 : List Int) (g0 : Int) (g1A : Option Addr) (g1N g1C : Nat) (g1 : List Int) (imagesA : Option Addr) (imagesN imagesC : Nat) (images : List Int) (w : World) (f1R : RdS w 1 f1A f1N f1C f1) (g1R : RdS w 1 g1A g1N g1C g1) (imagesR : RdS w 1 imagesA imagesN imagesC images) :
    Calls Try.prog 31 #[.agg #[.int .i64 f0, .slice f1A f1N f1C], .agg #[.int .i64 g0, .slice g1A g1N g1C], .slice imagesA imagesN imagesC] w (Ret fun v w' => ∃ b1 : Option Addr, ∃ c1 : Nat, v = .tuple #[.slice b1 ((F_DualHomomorphism f0 f1 g0 g1 images).1).length c1, .int .i64 ((F_DualHomomorphism f0 f1 g0 g1 images).2)] ∧ OwnS w' w.heap.size 2 1 b1 ((F_DualHomomorphism f0 f1 g0 g1 images).1).length c1 ((F_DualHomomorphism f0 f1 g0 g1 images).1) ∧ Ext w w') := by
  obtain rfl : f1N = f1.length := f1R.len1.symm
  have f1Le := f1R.le
  obtain rfl : g1N = g1.length := g1R.len1.symm
  have g1Le := g1R.le
  obtain rfl : imagesN = images.length := imagesR.len1.symm
  have imagesLe := imagesR.le
  have hS := St.nil w
  have hS1 := St.rd0 hS rfl f1R; clear hS
  have hS2 := St.rd0 hS1 rfl g1R; clear hS1
  have hS3 := St.rd0 hS2 rfl imagesR; clear hS2
  refine enter (args := [.agg #[.int .i64 f0, .slice f1A f1.length f1C], .agg #[.int .i64 g0, .slice g1A g1.length g1C], .slice imagesA images.length imagesC]) Try.func31 rfl rfl ?_
  rw [Try.ntmps31]; intro a hE
  have hE := hE.sub (L' := [(0, .agg #[.int .i64 f0, .slice f1A f1.length f1C]), (1, .agg #[.int .i64 g0, .slice g1A g1.length g1C]), (2, .slice imagesA images.length imagesC)]) ⟨rfl, rfl, rfl, trivial⟩
  refine c_seq ?_
  refine c_reg ?_
  refine l_step hE rfl (l_box (v := .agg #[.int .i64 f0, .slice f1A f1.length f1C]) (cs := #[.int .i64 f0, .slice f1A f1.length f1C]) hS3 hE rfl rfl rfl ?_)
  intro b4 w5 hS8 he9 a6 hE7; clear hS3 hE
  refine l_step hE7 rfl (l_box (v := .agg #[.int .i64 g0, .slice g1A g1.length g1C]) (cs := #[.int .i64 g0, .slice g1A g1.length g1C]) hS8 hE7 rfl rfl rfl ?_)
  intro b10 w11 hS14 he15 a12 hE13; clear hS8 hE7
  refine q_step (v := .slice none 0 0) hE13 (y_assign rfl) rfl rfl rfl ?_; intro a16 hE17; clear hE13
  refine q_step (v := .int .i64 0) hE17 (y_assign rfl) rfl rfl rfl ?_; intro a18 hE19; clear hE17
  refine c_nil ?_
  have hE20 := hE19.sub (L' := [(2, .slice imagesA images.length imagesC), (3, .pointer (some ⟨b4, 0, none⟩)), (4, .pointer (some ⟨b10, 0, none⟩))]) ⟨rfl, rfl, rfl, trivial⟩; clear hE19
  refine p_tn ?_
  refine c_seq ?_
  refine c_seq ?_
  refine c_reg ?_
  refine q_step (v := .agg #[.int .i64 f0, .slice f1A f1.length f1C]) hE20 (y_loadS Try.underlying26 rfl (by kernel_rfl) rfl (St.row (i := 1) hS14 rfl)) rfl rfl rfl ?_; intro a21 hE22; clear hE20
  refine q_step (v := .agg #[.int .i64 g0, .slice g1A g1.length g1C]) hE22 (y_loadS Try.underlying26 rfl (by kernel_rfl) rfl (St.row (i := 0) hS14 rfl)) rfl rfl rfl ?_; intro a23 hE24; clear hE22
  refine q_step (v := .slice imagesA images.length imagesC) hE24 (y_move rfl) rfl rfl rfl ?_; intro a25 hE26; clear hE24
  refine l_step hE26 rfl (l_call (f := 66) (argv := [.agg #[.int .i64 f0, .slice f1A f1.length f1C], .agg #[.int .i64 g0, .slice g1A g1.length g1C], .slice imagesA images.length imagesC]) hE26 (fun _ => cf_mapCode _ _) rfl rfl (c_mapCode f0 f1A f1.length f1C f1 g0 g1A g1.length g1C g1 imagesA images.length imagesC images w11 (St.rdR (i := 4) hS14 rfl) (St.rdR (i := 3) hS14 rfl) (St.rdR (i := 2) hS14 rfl)) ?_)
  rintro _ w28 ⟨rfl, he32⟩ a29 hE30; clear hE26
  have hS31 := St.go hS14 he32; clear hS14
  refine q_step (v := .int .i64 (F_mapCode f0 f1 g0 g1 images)) hE30 (y_assign rfl) rfl rfl rfl ?_; intro a33 hE34; clear hE30
  refine c_nil ?_
  have hE35 := hE34.sub (L' := [(2, .slice imagesA images.length imagesC), (4, .pointer (some ⟨b10, 0, none⟩)), (8, .int .i64 (F_mapCode f0 f1 g0 g1 images))]) ⟨rfl, rfl, rfl, trivial⟩; clear hE34
  refine p_tn ?_
  refine c_seq ?_
  refine c_reg ?_
  refine q_step (v := .int .i64 (F_mapCode f0 f1 g0 g1 images)) hE35 (y_move rfl) rfl rfl rfl ?_; intro a36 hE37; clear hE35
  refine q_step (v := .bool (!decide ((F_mapCode f0 f1 g0 g1 images) = 0))) hE37 (y_neq rfl rfl) rfl rfl rfl ?_; intro a38 hE39; clear hE37
  refine c_nil ?_
  have hE40 := hE39.sub (L' := [(2, .slice imagesA images.length imagesC), (4, .pointer (some ⟨b10, 0, none⟩)), (8, .int .i64 (F_mapCode f0 f1 g0 g1 images)), (14, .bool (!decide ((F_mapCode f0 f1 g0 g1 images) = 0)))]) ⟨rfl, rfl, rfl, rfl, trivial⟩; clear hE39
  refine p_tn ?_
  refine c_cond hE40 rfl (fun ht41 => ?_) (fun ht41 => ?_)
  ·
    have ht42 := bn_t ht41
    have hp43 := of_decide_eq_false ht42
    have hE44 := hE40; rw [ht41] at hE44; clear hE40
    refine c_seq ?_
    refine c_reg ?_
    refine q_step (v := .int .i64 (F_mapCode f0 f1 g0 g1 images)) hE44 (y_move rfl) rfl rfl rfl ?_; intro a45 hE46; clear hE44
    refine q_step (v := .slice none 0 0) hE46 (y_assign rfl) rfl rfl rfl ?_; intro a47 hE48; clear hE46
    refine q_step (v := .int .i64 (F_mapCode f0 f1 g0 g1 images)) hE48 (y_assign rfl) rfl rfl rfl ?_; intro a49 hE50; clear hE48
    refine c_nil ?_
    have hE51 := hE50.sub (L' := [(6, .slice none 0 0), (7, .int .i64 (F_mapCode f0 f1 g0 g1 images))]) ⟨rfl, rfl, trivial⟩; clear hE50
    refine p_tn ?_
    refine wp_ret ?_
    refine p_tr ?_
    have hF : F_DualHomomorphism f0 f1 g0 g1 images = ([], F_mapCode f0 f1 g0 g1 images) := by unfold F_DualHomomorphism; rw [ht41]; first | done | rfl
    refine c_ret2 hE51 rfl rfl rfl ?_
    exact ⟨none, 0, (by rw [hF]; first | done | rfl), (by rw [hF]; exact OwnS.nilS _ _ _ _), hS31.ext⟩
  ·
    have ht52 := bn_f ht41
    have hp53 := of_decide_eq_true ht52
    have hq54 := mapCode_t hp53
    have hE55 := hE40; rw [ht41] at hE55; clear hE40
    refine wp_skip ?_
    refine p_tn ?_
    refine c_seq ?_
    refine c_seq ?_
    refine c_reg ?_
    refine q_step (v := .pointer (some ⟨b10, 0, none⟩)) hE55 (y_field rfl (fun _ => by kernel_rfl)) rfl rfl rfl ?_; intro a56 hE57; clear hE55
    refine q_step (v := .int .i64 g0) hE57 (y_load (fun _ => by kernel_rfl) rfl (St.cell (i := 0) hS31 rfl rfl)) rfl rfl rfl ?_; intro a58 hE59; clear hE57
    refine q_step (v := .bool (decide (5 < g0))) hE59 (y_gtr rfl rfl) rfl rfl rfl ?_; intro a60 hE61; clear hE59
    refine c_nil ?_
    have hE62 := hE61.sub (L' := [(2, .slice imagesA images.length imagesC), (4, .pointer (some ⟨b10, 0, none⟩)), (18, .bool (decide (5 < g0)))]) ⟨rfl, rfl, rfl, trivial⟩; clear hE61
    refine p_tn ?_
    refine c_cond hE62 rfl (fun ht63 => ?_) (fun ht63 => ?_)
    ·
      have hp64 := of_decide_eq_true ht63
      have hE65 := hE62; rw [ht63] at hE65; clear hE62
      refine c_seq ?_
      refine c_reg ?_
      refine q_step (v := .slice none 0 0) hE65 (y_assign rfl) rfl rfl rfl ?_; intro a66 hE67; clear hE65
      refine q_step (v := .int .i64 3) hE67 (y_assign rfl) rfl rfl rfl ?_; intro a68 hE69; clear hE67
      refine c_nil ?_
      have hE70 := hE69.sub (L' := [(6, .slice none 0 0), (7, .int .i64 3)]) ⟨rfl, rfl, trivial⟩; clear hE69
      refine p_tn ?_
      refine wp_ret ?_
      refine p_tr ?_
      have hF : F_DualHomomorphism f0 f1 g0 g1 images = ([], 3) := by unfold F_DualHomomorphism; rw [ht63, ht41]; first | done | rfl
      refine c_ret2 hE70 rfl rfl rfl ?_
      exact ⟨none, 0, (by rw [hF]; first | done | rfl), (by rw [hF]; exact OwnS.nilS _ _ _ _), hS31.ext⟩
    ·
      have hp71 := of_decide_eq_false ht63
      have hE72 := hE62; rw [ht63] at hE72; clear hE62
      refine wp_skip ?_
      refine p_tn ?_
      refine c_seq ?_
      refine c_reg ?_
      refine q_step (v := .slice imagesA images.length imagesC) hE72 (y_move rfl) rfl rfl rfl ?_; intro a73 hE74; clear hE72
      refine q_step (v := .pointer (some ⟨b10, 0, none⟩)) hE74 (y_field rfl (fun _ => by kernel_rfl)) rfl rfl rfl ?_; intro a75 hE76; clear hE74
      refine q_step (v := .int .i64 g0) hE76 (y_load (fun _ => by kernel_rfl) rfl (St.cell (i := 0) hS31 rfl rfl)) rfl rfl rfl ?_; intro a77 hE78; clear hE76
      refine l_step hE78 rfl (l_call (f := 73) (argv := [.slice imagesA images.length imagesC, .int .i64 g0]) hE78 (fun _ => cf_dualOf _ _) rfl rfl (c_dualOf imagesA images.length imagesC images g0 w28 (St.rdR (i := 2) hS31 rfl) (by omega) (by omega) (by omega) (fun m h0 h1 => by have := (mapCode_t (by assumption)).2.2.2.2.2 m h0 h1; omega)) ?_)
      rintro _ w80 ⟨b85, c86, rfl, ho87, he84⟩ a81 hE82; clear hE78
      have hS83 := St.own hS31 he84 ho87; clear hS31
      refine q_step (v := .slice b85 ((F_dualOf images g0).length) c86) hE82 (y_assign rfl) rfl rfl rfl ?_; intro a88 hE89; clear hE82
      refine q_step (v := .int .i64 0) hE89 (y_assign rfl) rfl rfl rfl ?_; intro a90 hE91; clear hE89
      refine c_nil ?_
      have hE92 := hE91.sub (L' := [(6, .slice b85 ((F_dualOf images g0).length) c86), (7, .int .i64 0)]) ⟨rfl, rfl, trivial⟩; clear hE91
      refine p_tn ?_
      refine wp_ret ?_
      have hF : F_DualHomomorphism f0 f1 g0 g1 images = (F_dualOf images g0, 0) := by unfold F_DualHomomorphism; rw [ht63, ht41]; first | done | rfl
      refine c_ret2 hE92 rfl rfl rfl ?_
      exact ⟨b85, c86, (by rw [hF]; first | done | rfl), (by rw [hF]; exact hS83.ok 0 _ rfl), hS83.ext⟩

theorem Pull_map {images : List Int} (hl : images.length ≤ 8) (values : List Int) : F_l08Pull images values = values.map (F_pull images) := by
  unfold F_l08Pull
  rw [listLoop values (fun o v => o ++ [F_pull images v]) (F_l08Pull_L1 images values) (fun r o t => by
    show F_l08Pull_L1b images values _ o t = _
    unfold F_l08Pull_L1b
    rw [← pull_eq hl]), foldl_app, List.nil_append]
theorem Dual_eq {g0 : Int} {g1 images : List Int} (hl : images.length ≤ 8) (h0 : 0 ≤ g0) (h1 : g0 ≤ 5) : F_dualOf images g0 = F_l15Dual g0 g1 images := by
  have h5 := shl5 h0 h1
  unfold F_l15Dual F_dualOf
  rw [Pull_map hl, rangeLoopLe (fullI g0) (by omega) (fun o v => o ++ [v]) (F_l15Dual_L1 g0) (fun _ _ _ => rfl), foldl_app, List.nil_append, List.map_map,
    rangeLoop0 (shlI 1 g0) (by omega) (fun o v => o ++ [F_pull images v]) (F_dualOf_L1 images g0) (fun _ _ _ => rfl), foldl_app, List.nil_append, h5.1]
  rfl
theorem DualHomomorphism_eq (f0 : Int) (f1 : List Int) (g0 : Int) (g1 images : List Int) : F_DualHomomorphism f0 f1 g0 g1 images = F_s_DualHomomorphism f0 f1 g0 g1 images := by
  unfold F_DualHomomorphism F_s_DualHomomorphism
  rw [mapCode_eq]
  by_cases h : F_l08Code f0 f1 g0 g1 images = 0
  · obtain ⟨hf, hg, hf2, hg2, hl, hx⟩ := l08Code_t h
    rw [decide_eq_true h, Bool.not_true, cond_false, cond_false]
    by_cases h5 : 5 < g0
    · rw [decide_eq_true h5, cond_true, cond_true]
    · rw [decide_eq_false h5, cond_false, cond_false, Dual_eq (g1 := g1) (by omega) (by omega) (by omega)]
  · rw [decide_eq_false h, Bool.not_false, cond_true, cond_true]
theorem DualHomomorphism_len (f0 : Int) (f1 : List Int) (g0 : Int) (g1 images : List Int) : (F_DualHomomorphism f0 f1 g0 g1 images).1.length ≤ 40 := by
  rw [DualHomomorphism_eq]
  unfold F_s_DualHomomorphism
  by_cases h : F_l08Code f0 f1 g0 g1 images = 0
  · obtain ⟨hf, hg, hf2, hg2, hl, hx⟩ := l08Code_t h
    rw [decide_eq_true h, Bool.not_true, cond_false]
    by_cases h5 : 5 < g0
    · rw [decide_eq_true h5, cond_true]; simp
    · have h6 := shl5 (n := g0) (by omega) (by omega)
      rw [decide_eq_false h5, cond_false, ← Dual_eq (by omega) (by omega) (by omega)]
      unfold F_dualOf
      rw [rangeLoop0 (shlI 1 g0) (by omega) (fun o v => o ++ [F_pull images v]) (F_dualOf_L1 images g0) (fun _ _ _ => rfl), foldl_app, List.nil_append, List.length_map, List.length_range]
      omega
  · rw [decide_eq_false h, Bool.not_false, cond_true]; simp

end Go.Proofs.Ytgcmfjliklcbdaa
