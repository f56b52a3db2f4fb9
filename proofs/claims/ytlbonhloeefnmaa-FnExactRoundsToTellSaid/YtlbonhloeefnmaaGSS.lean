/- GSS: models and contracts, printed by wip/gen/gen.py -/
import Derived.Test.YtlbonhloeefnmaaGS
set_option linter.unusedVariables false
set_option linter.unusedSimpArgs false
namespace Go.Proofs.Ytlbonhloeefnmaa
open Go.RowKit

def F_l07Back_L1b (linkp : List Int) (seen : Int) (rec : Int → Int → Int × Int) (image7 : Int) (x8 : Int) : Int × Int :=
  bif (decide (x8 < (linkp.length : Int))) then (rec (bif (F_l01Bit seen x8) then orI image7 (gI linkp x8) else image7) (x8 + 1)) else (image7, x8)
def F_l07Back_L1 (linkp : List Int) (seen : Int) : Nat → Int → Int → Int × Int
  | 0, image7, x8 => (image7, x8)
  | r + 1, image7, x8 => F_l07Back_L1b linkp seen (F_l07Back_L1 linkp seen r) image7 x8
def F_l07Back (linkp : List Int) (seen : Int) (others : Int) : Bool :=
  decide ((anI others ((F_l07Back_L1 linkp seen (Int.toNat ((linkp.length : Int) - 0) + 1) 0 0).1)) = 0)
theorem cf_l07Back (args : Array Value) (w : World) : (callFunc 215 args).run Try.prog w = .ok (.enter 215 args) w := by kernel_rfl
set_option maxRecDepth 100000 in
theorem c_l07Back (linkpA : Option Addr) (linkpN linkpC : Nat) (linkp : List Int) (seen : Int) (others : Int) (w : World) (linkpR : RdS w 1 linkpA linkpN linkpC linkp) (hl : linkp.length ≤ 62) :
    Calls Try.prog 215 #[.slice linkpA linkpN linkpC, .int .i64 seen, .int .i64 others] w (Ret fun v w' => v = .bool (F_l07Back linkp seen others) ∧ Ext w w') := by
  obtain rfl : linkpN = linkp.length := linkpR.len1.symm
  have linkpLe := linkpR.le
  have hS := St.nil w
  have hS1 := St.rd0 hS rfl linkpR; clear hS
  refine enter (args := [.slice linkpA linkp.length linkpC, .int .i64 seen, .int .i64 others]) Try.func215 rfl rfl ?_
  rw [Try.ntmps215]; intro a hE
  have hE := hE.sub (L' := [(0, .slice linkpA linkp.length linkpC), (1, .int .i64 seen), (2, .int .i64 others)]) ⟨rfl, rfl, rfl, trivial⟩
  refine c_seq ?_
  refine c_reg ?_
  refine q_step (v := .bool false) hE (y_assign rfl) rfl rfl rfl ?_; intro a2 hE3; clear hE
  refine c_nil ?_
  have hE4 := hE3.sub (L' := [(0, .slice linkpA linkp.length linkpC), (1, .int .i64 seen), (2, .int .i64 others)]) ⟨rfl, rfl, rfl, trivial⟩; clear hE3
  refine p_tn ?_
  refine c_seq ?_
  refine c_reg ?_
  refine q_step (v := .int .i64 0) hE4 (y_assign rfl) rfl rfl rfl ?_; intro a5 hE6; clear hE4
  refine c_nil ?_
  have hE7 := hE6.sub (L' := [(0, .slice linkpA linkp.length linkpC), (1, .int .i64 seen), (2, .int .i64 others), (7, .int .i64 0)]) ⟨rfl, rfl, rfl, rfl, trivial⟩; clear hE6
  refine p_tn ?_
  refine c_seq ?_
  refine c_seq ?_
  refine c_reg ?_
  refine q_step (v := .int .i64 0) hE7 (y_assign rfl) rfl rfl rfl ?_; intro a8 hE9; clear hE7
  refine c_nil ?_
  have hE10 := hE9.sub (L' := [(0, .slice linkpA linkp.length linkpC), (1, .int .i64 seen), (2, .int .i64 others), (7, .int .i64 0), (8, .int .i64 0)]) ⟨rfl, rfl, rfl, rfl, rfl, trivial⟩; clear hE9
  refine p_tn ?_
  refine c_cut1 (fun a' w' => (0 ≤ ((F_l07Back_L1 linkp seen (Int.toNat ((linkp.length : Int) - 0) + 1) 0 0).2)) ∧ (((F_l07Back_L1 linkp seen (Int.toNat ((linkp.length : Int) - 0) + 1) 0 0).2) ≤ (linkp.length : Int)) ∧ E a' 28 [(0, .slice linkpA linkp.length linkpC), (1, .int .i64 seen), (2, .int .i64 others), (7, .int .i64 ((F_l07Back_L1 linkp seen (Int.toNat ((linkp.length : Int) - 0) + 1) 0 0).1)), (8, .int .i64 ((F_l07Back_L1 linkp seen (Int.toNat ((linkp.length : Int) - 0) + 1) 0 0).2))] ∧ St w w' [.rd 1 linkpA linkp.length linkpC linkp]) ?_ ?_
  ·
    refine wp_block ?_
    refine c_loop (fun r a' w' => ∃ image7 : Int, ∃ x8 : Int, F_l07Back_L1 linkp seen r image7 x8 = F_l07Back_L1 linkp seen (Int.toNat ((linkp.length : Int) - 0) + 1) 0 0 ∧ Int.toNat ((linkp.length : Int) - x8) < r ∧ (0 ≤ x8) ∧ (x8 ≤ (linkp.length : Int)) ∧ E a' 28 [(0, .slice linkpA linkp.length linkpC), (1, .int .i64 seen), (2, .int .i64 others), (7, .int .i64 image7), (8, .int .i64 x8)] ∧ St w w' [.rd 1 linkpA linkp.length linkpC linkp]) (r := (Int.toNat ((linkp.length : Int) - 0) + 1)) ?_ ?_
    · exact ⟨0, 0, rfl, Nat.lt_succ_self _, (by first | omega | (simp only [sS_len, sL_len]; omega) | (simp only [List.length_replicate, sI_len]; omega) | (simp only [List.length_append, List.length_cons, List.length_nil, sI_len, cond_true, cond_false]; omega) | (simp only [List.length_append, List.length_cons, List.length_nil, sI_len, cond_eq_ite, apply_ite List.length]; split <;> simp only [List.length_append, List.length_cons, List.length_nil, sI_len] <;> omega) | grind), (by first | omega | (simp only [sS_len, sL_len]; omega) | (simp only [List.length_replicate, sI_len]; omega) | (simp only [List.length_append, List.length_cons, List.length_nil, sI_len, cond_true, cond_false]; omega) | (simp only [List.length_append, List.length_cons, List.length_nil, sI_len, cond_eq_ite, apply_ite List.length]; split <;> simp only [List.length_append, List.length_cons, List.length_nil, sI_len] <;> omega) | grind), (hE10.sub (L' := [(0, .slice linkpA linkp.length linkpC), (1, .int .i64 seen), (2, .int .i64 others), (7, .int .i64 0), (8, .int .i64 0)]) ⟨rfl, rfl, rfl, rfl, rfl, trivial⟩), (St.pick (Γ' := [.rd 1 linkpA linkp.length linkpC linkp]) hS1 [0] (by decide) rfl)⟩
    ·
      clear hE10 hS1
      rintro r20 a12 w13 ⟨image7, x8, hT16, hr17, hi18, hi19, hE14, hS15⟩
      obtain ⟨r20, rfl⟩ : ∃ r', r20 = r' + 1 := ⟨r20 - 1, by omega⟩
      refine c_seq ?_
      refine c_seq ?_
      refine c_reg ?_
      refine q_step (v := .int .i64 x8) hE14 (y_move rfl) rfl rfl rfl ?_; intro a21 hE22; clear hE14
      refine q_step (v := .slice linkpA linkp.length linkpC) hE22 (y_move rfl) rfl rfl rfl ?_; intro a23 hE24; clear hE22
      refine q_step (v := .int .i64 (linkp.length : Int)) hE24 (y_len (e := 2) (by kernel_rfl) rfl) rfl rfl rfl ?_; intro a25 hE26; clear hE24
      refine q_step (v := .bool (decide (x8 < (linkp.length : Int)))) hE26 (y_lss rfl rfl) rfl rfl rfl ?_; intro a27 hE28; clear hE26
      refine c_nil ?_
      have hE29 := hE28.sub (L' := [(0, .slice linkpA linkp.length linkpC), (1, .int .i64 seen), (2, .int .i64 others), (7, .int .i64 image7), (8, .int .i64 x8), (12, .bool (decide (x8 < (linkp.length : Int))))]) ⟨rfl, rfl, rfl, rfl, rfl, rfl, trivial⟩; clear hE28
      refine p_tn ?_
      refine c_cond hE29 rfl (fun ht30 => ?_) (fun ht30 => ?_)
      ·
        have hp31 := of_decide_eq_true ht30
        have hE32 := hE29; rw [ht30] at hE32; clear hE29
        refine wp_skip ?_
        refine p_tn ?_
        refine c_cut (fun a' w' => E a' 28 [(0, .slice linkpA linkp.length linkpC), (1, .int .i64 seen), (2, .int .i64 others), (7, .int .i64 (bif (F_l01Bit seen x8) then orI image7 (gI linkp x8) else image7)), (8, .int .i64 x8)] ∧ St w w' [.rd 1 linkpA linkp.length linkpC linkp]) ?_ ?_
        ·
          refine wp_block ?_
          refine c_seq ?_
          refine c_reg ?_
          refine q_step (v := .int .i64 seen) hE32 (y_move rfl) rfl rfl rfl ?_; intro a33 hE34; clear hE32
          refine q_step (v := .int .i64 x8) hE34 (y_move rfl) rfl rfl rfl ?_; intro a35 hE36; clear hE34
          refine l_step hE36 rfl (l_call (f := 144) (argv := [.int .i64 seen, .int .i64 x8]) hE36 (fun _ => cf_l01Bit _ _) rfl rfl (c_l01Bit seen x8 w13 (by omega) (by omega)) ?_)
          rintro _ _ ⟨rfl, rfl⟩ a39 hE40; clear hE36
          refine c_nil ?_
          have hE43 := hE40.sub (L' := [(0, .slice linkpA linkp.length linkpC), (1, .int .i64 seen), (2, .int .i64 others), (7, .int .i64 image7), (8, .int .i64 x8), (17, .bool (F_l01Bit seen x8))]) ⟨rfl, rfl, rfl, rfl, rfl, rfl, trivial⟩; clear hE40
          refine p_tn ?_
          refine c_cond hE43 rfl (fun ht44 => ?_) (fun ht44 => ?_)
          ·
            have hE45 := hE43; rw [ht44] at hE45; clear hE43
            refine c_reg ?_
            refine q_step (v := .int .i64 image7) hE45 (y_move rfl) rfl rfl rfl ?_; intro a46 hE47; clear hE45
            refine q_step (v := .slice linkpA linkp.length linkpC) hE47 (y_move rfl) rfl rfl rfl ?_; intro a48 hE49; clear hE47
            refine q_step (v := .int .i64 x8) hE49 (y_move rfl) rfl rfl rfl ?_; intro a50 hE51; clear hE49
            refine q_step (v := .pointer (some (adr linkpA (Int.toNat x8)))) hE51 (y_idx (by kernel_rfl) (fun _ => by kernel_rfl) rfl rfl (RdS.isS (m := x8) (St.rdR (i := 0) hS15 rfl) (by omega) (by omega)) (by omega) (by omega) (Nat.mul_one _).symm) rfl rfl rfl ?_; intro a52 hE53; clear hE51
            refine q_step (v := .int .i64 (gI linkp x8)) hE53 (y_load (fun _ => by kernel_rfl) rfl (RdS.elt (St.rdR (i := 0) hS15 rfl) (by omega) (by omega))) rfl rfl rfl ?_; intro a54 hE55; clear hE53
            refine q_step (v := .int .i64 (orI image7 (gI linkp x8))) hE55 (y_or rfl rfl) rfl rfl rfl ?_; intro a56 hE57; clear hE55
            refine q_step (v := .int .i64 (orI image7 (gI linkp x8))) hE57 (y_assign rfl) rfl rfl rfl ?_; intro a58 hE59; clear hE57
            refine c_nil ?_
            have hE60 := hE59.sub (L' := [(0, .slice linkpA linkp.length linkpC), (1, .int .i64 seen), (2, .int .i64 others), (7, .int .i64 (orI image7 (gI linkp x8))), (8, .int .i64 x8)]) ⟨rfl, rfl, rfl, rfl, rfl, trivial⟩; clear hE59
            refine p_bn ?_
            refine p_tn ?_
            have hE61 := hE60.sub (L' := [(0, .slice linkpA linkp.length linkpC), (1, .int .i64 seen), (2, .int .i64 others), (7, .int .i64 (orI image7 (gI linkp x8))), (8, .int .i64 x8)]) ⟨rfl, rfl, rfl, rfl, rfl, trivial⟩
            have hS62 := (St.pick (Γ' := [.rd 1 linkpA linkp.length linkpC linkp]) hS15 [0] (by decide) rfl)
            exact ⟨(by rw [ht44]; exact hE61), hS62⟩
          ·
            have hE63 := hE43; rw [ht44] at hE63; clear hE43
            refine wp_skip ?_
            refine p_bn ?_
            refine p_tn ?_
            have hE64 := hE63.sub (L' := [(0, .slice linkpA linkp.length linkpC), (1, .int .i64 seen), (2, .int .i64 others), (7, .int .i64 image7), (8, .int .i64 x8)]) ⟨rfl, rfl, rfl, rfl, rfl, trivial⟩
            have hS65 := (St.pick (Γ' := [.rd 1 linkpA linkp.length linkpC linkp]) hS15 [0] (by decide) rfl)
            exact ⟨(by rw [ht44]; exact hE64), hS65⟩
        ·
          rintro a66 w67 ⟨hE68, hS69⟩; clear hE32 hS15
          refine c_reg ?_
          refine q_step (v := .int .i64 x8) hE68 (y_move rfl) rfl rfl rfl ?_; intro a71 hE72; clear hE68
          refine q_step (v := .int .i64 (x8 + 1)) hE72 (y_add rfl rfl ⟨(by omega), (by omega)⟩) rfl rfl rfl ?_; intro a73 hE74; clear hE72
          refine q_step (v := .int .i64 (x8 + 1)) hE74 (y_assign rfl) rfl rfl rfl ?_; intro a75 hE76; clear hE74
          refine c_nil ?_
          have hE77 := hE76.sub (L' := [(0, .slice linkpA linkp.length linkpC), (1, .int .i64 seen), (2, .int .i64 others), (7, .int .i64 (bif (F_l01Bit seen x8) then orI image7 (gI linkp x8) else image7)), (8, .int .i64 (x8 + 1))]) ⟨rfl, rfl, rfl, rfl, rfl, trivial⟩; clear hE76
          refine p_tn ⟨r20, Nat.lt_succ_self _, bif (F_l01Bit seen x8) then orI image7 (gI linkp x8) else image7, x8 + 1, (hT16.symm.trans (show F_l07Back_L1b linkp seen (F_l07Back_L1 linkp seen r20) image7 x8 = F_l07Back_L1 linkp seen r20 (bif (F_l01Bit seen x8) then orI image7 (gI linkp x8) else image7) (x8 + 1) by unfold F_l07Back_L1b; rw [ht30]; first | done | rfl)).symm, (by omega), (by first | omega | (simp only [sS_len, sL_len]; omega) | (simp only [List.length_replicate, sI_len]; omega) | (simp only [List.length_append, List.length_cons, List.length_nil, sI_len, cond_true, cond_false]; omega) | (simp only [List.length_append, List.length_cons, List.length_nil, sI_len, cond_eq_ite, apply_ite List.length]; split <;> simp only [List.length_append, List.length_cons, List.length_nil, sI_len] <;> omega) | grind), (by first | omega | (simp only [sS_len, sL_len]; omega) | (simp only [List.length_replicate, sI_len]; omega) | (simp only [List.length_append, List.length_cons, List.length_nil, sI_len, cond_true, cond_false]; omega) | (simp only [List.length_append, List.length_cons, List.length_nil, sI_len, cond_eq_ite, apply_ite List.length]; split <;> simp only [List.length_append, List.length_cons, List.length_nil, sI_len] <;> omega) | grind), (hE77.sub (L' := [(0, .slice linkpA linkp.length linkpC), (1, .int .i64 seen), (2, .int .i64 others), (7, .int .i64 (bif (F_l01Bit seen x8) then orI image7 (gI linkp x8) else image7)), (8, .int .i64 (x8 + 1))]) ⟨rfl, rfl, rfl, rfl, rfl, trivial⟩), (St.pick (Γ' := [.rd 1 linkpA linkp.length linkpC linkp]) hS69 [0] (by decide) rfl)⟩
      ·
        have hp78 := of_decide_eq_false ht30
        have hE79 := hE29; rw [ht30] at hE79; clear hE29
        refine wp_exit ?_
        refine p_te ?_
        have hX80 : F_l07Back_L1 linkp seen (Int.toNat ((linkp.length : Int) - 0) + 1) 0 0 = (image7, x8) := hT16.symm.trans (show F_l07Back_L1b linkp seen (F_l07Back_L1 linkp seen r20) image7 x8 = (image7, x8) by unfold F_l07Back_L1b; rw [ht30]; first | done | rfl)
        refine p_te (p_be (p_tn ?_))
        exact ⟨(by rw [hX80]; exact (show 0 ≤ x8 from (by first | omega | (simp only [sS_len, sL_len]; omega) | (simp only [List.length_replicate, sI_len]; omega) | (simp only [List.length_append, List.length_cons, List.length_nil, sI_len, cond_true, cond_false]; omega) | (simp only [List.length_append, List.length_cons, List.length_nil, sI_len, cond_eq_ite, apply_ite List.length]; split <;> simp only [List.length_append, List.length_cons, List.length_nil, sI_len] <;> omega) | grind))), (by rw [hX80]; exact (show x8 ≤ (linkp.length : Int) from (by first | omega | (simp only [sS_len, sL_len]; omega) | (simp only [List.length_replicate, sI_len]; omega) | (simp only [List.length_append, List.length_cons, List.length_nil, sI_len, cond_true, cond_false]; omega) | (simp only [List.length_append, List.length_cons, List.length_nil, sI_len, cond_eq_ite, apply_ite List.length]; split <;> simp only [List.length_append, List.length_cons, List.length_nil, sI_len] <;> omega) | grind))), (by rw [hX80]; exact (hE79.sub (L' := [(0, .slice linkpA linkp.length linkpC), (1, .int .i64 seen), (2, .int .i64 others), (7, .int .i64 image7), (8, .int .i64 x8)]) ⟨rfl, rfl, rfl, rfl, rfl, trivial⟩)), (St.pick (Γ' := [.rd 1 linkpA linkp.length linkpC linkp]) hS15 [0] (by decide) rfl)⟩
  ·
    rintro a81 w82 ⟨hi86, hi87, hE83, hS84⟩; clear hE10 hS1
    refine p_tn ?_
    refine c_seq ?_
    refine c_reg ?_
    refine q_step (v := .int .i64 others) hE83 (y_move rfl) rfl rfl rfl ?_; intro a88 hE89; clear hE83
    refine q_step (v := .int .i64 ((F_l07Back_L1 linkp seen (Int.toNat ((linkp.length : Int) - 0) + 1) 0 0).1)) hE89 (y_move rfl) rfl rfl rfl ?_; intro a90 hE91; clear hE89
    refine q_step (v := .int .i64 (anI others ((F_l07Back_L1 linkp seen (Int.toNat ((linkp.length : Int) - 0) + 1) 0 0).1))) hE91 (y_andNot rfl rfl) rfl rfl rfl ?_; intro a92 hE93; clear hE91
    refine q_step (v := .bool (decide ((anI others ((F_l07Back_L1 linkp seen (Int.toNat ((linkp.length : Int) - 0) + 1) 0 0).1)) = 0))) hE93 (y_eql rfl rfl) rfl rfl rfl ?_; intro a94 hE95; clear hE93
    refine q_step (v := .bool (decide ((anI others ((F_l07Back_L1 linkp seen (Int.toNat ((linkp.length : Int) - 0) + 1) 0 0).1)) = 0))) hE95 (y_assign rfl) rfl rfl rfl ?_; intro a96 hE97; clear hE95
    refine c_nil ?_
    have hE98 := hE97.sub (L' := [(6, .bool (decide ((anI others ((F_l07Back_L1 linkp seen (Int.toNat ((linkp.length : Int) - 0) + 1) 0 0).1)) = 0)))]) ⟨rfl, trivial⟩; clear hE97
    refine p_tn ?_
    refine wp_ret ?_
    have hF : F_l07Back linkp seen others = decide ((anI others ((F_l07Back_L1 linkp seen (Int.toNat ((linkp.length : Int) - 0) + 1) 0 0).1)) = 0) := by unfold F_l07Back; rfl
    refine c_ret1 hE98 rfl rfl ?_
    exact ⟨(by rw [hF]; first | done | (dsimp only; done) | rfl), hS84.ext⟩

def F_l07Step_L2b (mp0 : Int) (mp1 : List Int) (mp2 : List Int) (np0 : Int) (np1 : List Int) (np2 : List Int) (linkp : List Int) (x8 : Int) (rec : Int → Int → Int × Int) (mask9L2 : Int) (y10L2 : Int) : Int × Int :=
  bif (decide (y10L2 < np0)) then (rec (bif ((F_l07Atoms mp0 mp1 mp2 np0 np1 np2 x8 y10L2) && ((F_l07Forth linkp (gI mp1 x8) (gI np1 y10L2)) && (F_l07Back linkp (gI mp1 x8) (gI np1 y10L2)))) then orI mask9L2 (powI y10L2) else mask9L2) (y10L2 + 1)) else (mask9L2, y10L2)
def F_l07Step_L2 (mp0 : Int) (mp1 : List Int) (mp2 : List Int) (np0 : Int) (np1 : List Int) (np2 : List Int) (linkp : List Int) (x8 : Int) : Nat → Int → Int → Int × Int
  | 0, mask9L2, y10L2 => (mask9L2, y10L2)
  | r + 1, mask9L2, y10L2 => F_l07Step_L2b mp0 mp1 mp2 np0 np1 np2 linkp x8 (F_l07Step_L2 mp0 mp1 mp2 np0 np1 np2 linkp x8 r) mask9L2 y10L2
def F_l07Step_L1b (mp0 : Int) (mp1 : List Int) (mp2 : List Int) (np0 : Int) (np1 : List Int) (np2 : List Int) (linkp : List Int) (rec : (List Int) → Int → (List Int) × Int) (out7 : List Int) (x8 : Int) : (List Int) × Int :=
  bif (decide (x8 < mp0)) then (rec (out7 ++ ([(F_l07Step_L2 mp0 mp1 mp2 np0 np1 np2 linkp x8 (Int.toNat (np0 - 0) + 1) 0 0).1])) (x8 + 1)) else (out7, x8)
def F_l07Step_L1 (mp0 : Int) (mp1 : List Int) (mp2 : List Int) (np0 : Int) (np1 : List Int) (np2 : List Int) (linkp : List Int) : Nat → (List Int) → Int → (List Int) × Int
  | 0, out7, x8 => (out7, x8)
  | r + 1, out7, x8 => F_l07Step_L1b mp0 mp1 mp2 np0 np1 np2 linkp (F_l07Step_L1 mp0 mp1 mp2 np0 np1 np2 linkp r) out7 x8
def F_l07Step (mp0 : Int) (mp1 : List Int) (mp2 : List Int) (np0 : Int) (np1 : List Int) (np2 : List Int) (linkp : List Int) : List Int :=
  (F_l07Step_L1 mp0 mp1 mp2 np0 np1 np2 linkp (Int.toNat (mp0 - 0) + 1) ([]) 0).1
theorem cf_l07Step (args : Array Value) (w : World) : (callFunc 150 args).run Try.prog w = .ok (.enter 150 args) w := by kernel_rfl
set_option maxRecDepth 100000 in
theorem c_l07Step (mp0 : Int) (mp1A : Option Addr) (mp1N mp1C : Nat) (mp1 : List Int) (mp2A : Option Addr) (mp2N mp2C : Nat) (mp2 : List Int) (np0 : Int) (np1A : Option Addr) (np1N np1C : Nat) (np1 : List Int) (np2A : Option Addr) (np2N np2C : Nat) (np2 : List Int) (linkpA : Option Addr) (linkpN linkpC : Nat) (linkp : List Int) (w : World) (mp1R : RdS w 1 mp1A mp1N mp1C mp1) (mp2R : RdS w 1 mp2A mp2N mp2C mp2) (np1R : RdS w 1 np1A np1N np1C np1) (np2R : RdS w 1 np2A np2N np2C np2) (linkpR : RdS w 1 linkpA linkpN linkpC linkp) (h6mp : (mp2.length : Int) = 6) (hwmp : 0 ≤ mp0 ∧ mp0 ≤ 8) (hlmp : (mp1.length : Int) = mp0) (h6np : (np2.length : Int) = 6) (hwnp : 0 ≤ np0 ∧ np0 ≤ 8) (hlnp : (np1.length : Int) = np0) (hl : linkp.length ≤ 62) :
    Calls Try.prog 150 #[.agg #[.int .i64 mp0, .slice mp1A mp1N mp1C, .slice mp2A mp2N mp2C], .agg #[.int .i64 np0, .slice np1A np1N np1C, .slice np2A np2N np2C], .slice linkpA linkpN linkpC] w (Ret fun v w' => ∃ b1 : Option Addr, ∃ c1 : Nat, v = .slice b1 (F_l07Step mp0 mp1 mp2 np0 np1 np2 linkp).length c1 ∧ OwnS w' w.heap.size 2 1 b1 (F_l07Step mp0 mp1 mp2 np0 np1 np2 linkp).length c1 (F_l07Step mp0 mp1 mp2 np0 np1 np2 linkp) ∧ Ext w w') := by
  obtain rfl : mp1N = mp1.length := mp1R.len1.symm
  have mp1Le := mp1R.le
  obtain rfl : mp2N = mp2.length := mp2R.len1.symm
  have mp2Le := mp2R.le
  obtain rfl : np1N = np1.length := np1R.len1.symm
  have np1Le := np1R.le
  obtain rfl : np2N = np2.length := np2R.len1.symm
  have np2Le := np2R.le
  obtain rfl : linkpN = linkp.length := linkpR.len1.symm
  have linkpLe := linkpR.le
  have hS := St.nil w
  have hS1 := St.rd0 hS rfl mp1R; clear hS
  have hS2 := St.rd0 hS1 rfl mp2R; clear hS1
  have hS3 := St.rd0 hS2 rfl np1R; clear hS2
  have hS4 := St.rd0 hS3 rfl np2R; clear hS3
  have hS5 := St.rd0 hS4 rfl linkpR; clear hS4
  refine enter (args := [.agg #[.int .i64 mp0, .slice mp1A mp1.length mp1C, .slice mp2A mp2.length mp2C], .agg #[.int .i64 np0, .slice np1A np1.length np1C, .slice np2A np2.length np2C], .slice linkpA linkp.length linkpC]) Try.func150 rfl rfl ?_
  rw [Try.ntmps150]; intro a hE
  have hE := hE.sub (L' := [(0, .agg #[.int .i64 mp0, .slice mp1A mp1.length mp1C, .slice mp2A mp2.length mp2C]), (1, .agg #[.int .i64 np0, .slice np1A np1.length np1C, .slice np2A np2.length np2C]), (2, .slice linkpA linkp.length linkpC)]) ⟨rfl, rfl, rfl, trivial⟩
  refine c_seq ?_
  refine c_reg ?_
  refine l_step hE rfl (l_box (v := .agg #[.int .i64 mp0, .slice mp1A mp1.length mp1C, .slice mp2A mp2.length mp2C]) (cs := #[.int .i64 mp0, .slice mp1A mp1.length mp1C, .slice mp2A mp2.length mp2C]) hS5 hE rfl rfl rfl ?_)
  intro b6 w7 hS10 he11 a8 hE9; clear hS5 hE
  refine l_step hE9 rfl (l_box (v := .agg #[.int .i64 np0, .slice np1A np1.length np1C, .slice np2A np2.length np2C]) (cs := #[.int .i64 np0, .slice np1A np1.length np1C, .slice np2A np2.length np2C]) hS10 hE9 rfl rfl rfl ?_)
  intro b12 w13 hS16 he17 a14 hE15; clear hS10 hE9
  refine q_step (v := .slice none 0 0) hE15 (y_assign rfl) rfl rfl rfl ?_; intro a18 hE19; clear hE15
  refine c_nil ?_
  have hE20 := hE19.sub (L' := [(2, .slice linkpA linkp.length linkpC), (3, .pointer (some ⟨b6, 0, none⟩)), (4, .pointer (some ⟨b12, 0, none⟩))]) ⟨rfl, rfl, rfl, trivial⟩; clear hE19
  refine p_tn ?_
  refine c_seq ?_
  refine c_reg ?_
  refine l_step hE20 rfl (l_lit (e := 2) (s := 1) (xs := []) (vs := []) hS16 hE20 rfl (fun _ => by kernel_rfl) rfl rfl rfl ?_)
  intro b21 w22 hS25 he26 a23 hE24; clear hS16 hE20
  refine q_step (v := .slice (some ⟨b21, 0, none⟩) 0 0) hE24 (y_assign rfl) rfl rfl rfl ?_; intro a27 hE28; clear hE24
  refine c_nil ?_
  have hE29 := hE28.sub (L' := [(2, .slice linkpA linkp.length linkpC), (3, .pointer (some ⟨b6, 0, none⟩)), (4, .pointer (some ⟨b12, 0, none⟩)), (7, .slice (some ⟨b21, 0, none⟩) 0 0)]) ⟨rfl, rfl, rfl, rfl, trivial⟩; clear hE28
  refine p_tn ?_
  refine c_seq ?_
  refine c_seq ?_
  refine c_reg ?_
  refine q_step (v := .int .i64 0) hE29 (y_assign rfl) rfl rfl rfl ?_; intro a30 hE31; clear hE29
  refine c_nil ?_
  have hE32 := hE31.sub (L' := [(2, .slice linkpA linkp.length linkpC), (3, .pointer (some ⟨b6, 0, none⟩)), (4, .pointer (some ⟨b12, 0, none⟩)), (7, .slice (some ⟨b21, 0, none⟩) 0 0), (8, .int .i64 0)]) ⟨rfl, rfl, rfl, rfl, rfl, trivial⟩; clear hE31
  refine p_tn ?_
  refine c_cut1 (fun a' w' => ∃ out7A_33 : Option Addr, ∃ out7C_33 : Nat, (0 ≤ ((F_l07Step_L1 mp0 mp1 mp2 np0 np1 np2 linkp (Int.toNat (mp0 - 0) + 1) ([]) 0).2)) ∧ ((((F_l07Step_L1 mp0 mp1 mp2 np0 np1 np2 linkp (Int.toNat (mp0 - 0) + 1) ([]) 0).1).length : Int) ≤ ((F_l07Step_L1 mp0 mp1 mp2 np0 np1 np2 linkp (Int.toNat (mp0 - 0) + 1) ([]) 0).2)) ∧ E a' 66 [(2, .slice linkpA linkp.length linkpC), (3, .pointer (some ⟨b6, 0, none⟩)), (4, .pointer (some ⟨b12, 0, none⟩)), (7, .slice out7A_33 (((F_l07Step_L1 mp0 mp1 mp2 np0 np1 np2 linkp (Int.toNat (mp0 - 0) + 1) ([]) 0).1).length) out7C_33), (8, .int .i64 ((F_l07Step_L1 mp0 mp1 mp2 np0 np1 np2 linkp (Int.toNat (mp0 - 0) + 1) ([]) 0).2))] ∧ St w w' [.own 2 1 out7A_33 (((F_l07Step_L1 mp0 mp1 mp2 np0 np1 np2 linkp (Int.toNat (mp0 - 0) + 1) ([]) 0).1).length) out7C_33 ((F_l07Step_L1 mp0 mp1 mp2 np0 np1 np2 linkp (Int.toNat (mp0 - 0) + 1) ([]) 0).1), .blk b12 #[.int .i64 np0, .slice np1A np1.length np1C, .slice np2A np2.length np2C] 32, .blk b6 #[.int .i64 mp0, .slice mp1A mp1.length mp1C, .slice mp2A mp2.length mp2C] 32, .rd 1 linkpA linkp.length linkpC linkp, .rd 1 np2A np2.length np2C np2, .rd 1 np1A np1.length np1C np1, .rd 1 mp2A mp2.length mp2C mp2, .rd 1 mp1A mp1.length mp1C mp1]) ?_ ?_
  ·
    refine wp_block ?_
    refine c_loop (fun r a' w' => ∃ out7 : List Int, ∃ x8 : Int, ∃ out7A : Option Addr, ∃ out7C : Nat, F_l07Step_L1 mp0 mp1 mp2 np0 np1 np2 linkp r out7 x8 = F_l07Step_L1 mp0 mp1 mp2 np0 np1 np2 linkp (Int.toNat (mp0 - 0) + 1) ([]) 0 ∧ Int.toNat (mp0 - x8) < r ∧ (0 ≤ x8) ∧ ((out7.length : Int) ≤ x8) ∧ E a' 66 [(2, .slice linkpA linkp.length linkpC), (3, .pointer (some ⟨b6, 0, none⟩)), (4, .pointer (some ⟨b12, 0, none⟩)), (7, .slice out7A ((out7).length) out7C), (8, .int .i64 x8)] ∧ St w w' [.own 2 1 out7A ((out7).length) out7C out7, .blk b12 #[.int .i64 np0, .slice np1A np1.length np1C, .slice np2A np2.length np2C] 32, .blk b6 #[.int .i64 mp0, .slice mp1A mp1.length mp1C, .slice mp2A mp2.length mp2C] 32, .rd 1 linkpA linkp.length linkpC linkp, .rd 1 np2A np2.length np2C np2, .rd 1 np1A np1.length np1C np1, .rd 1 mp2A mp2.length mp2C mp2, .rd 1 mp1A mp1.length mp1C mp1]) (r := (Int.toNat (mp0 - 0) + 1)) ?_ ?_
    · exact ⟨[], 0, some ⟨b21, 0, none⟩, 0, rfl, Nat.lt_succ_self _, (by first | omega | (simp only [sS_len, sL_len]; omega) | (simp only [List.length_replicate, sI_len]; omega) | (simp only [List.length_append, List.length_cons, List.length_nil, sI_len, cond_true, cond_false]; omega) | (simp only [List.length_append, List.length_cons, List.length_nil, sI_len, cond_eq_ite, apply_ite List.length]; split <;> simp only [List.length_append, List.length_cons, List.length_nil, sI_len] <;> omega) | grind), (by first | omega | (simp only [sS_len, sL_len]; omega) | (simp only [List.length_replicate, sI_len]; omega) | (simp only [List.length_append, List.length_cons, List.length_nil, sI_len, cond_true, cond_false]; omega) | (simp only [List.length_append, List.length_cons, List.length_nil, sI_len, cond_eq_ite, apply_ite List.length]; split <;> simp only [List.length_append, List.length_cons, List.length_nil, sI_len] <;> omega) | grind), (hE32.sub (L' := [(2, .slice linkpA linkp.length linkpC), (3, .pointer (some ⟨b6, 0, none⟩)), (4, .pointer (some ⟨b12, 0, none⟩)), (7, .slice (some ⟨b21, 0, none⟩) 0 0), (8, .int .i64 0)]) ⟨rfl, rfl, rfl, rfl, rfl, trivial⟩), (St.pick (Γ' := [.own 2 1 (some ⟨b21, 0, none⟩) 0 0 ([]), .blk b12 #[.int .i64 np0, .slice np1A np1.length np1C, .slice np2A np2.length np2C] 32, .blk b6 #[.int .i64 mp0, .slice mp1A mp1.length mp1C, .slice mp2A mp2.length mp2C] 32, .rd 1 linkpA linkp.length linkpC linkp, .rd 1 np2A np2.length np2C np2, .rd 1 np1A np1.length np1C np1, .rd 1 mp2A mp2.length mp2C mp2, .rd 1 mp1A mp1.length mp1C mp1]) hS25 [0, 1, 2, 3, 4, 5, 6, 7] (by decide) rfl)⟩
    ·
      clear hE32 hS25
      rintro r42 a34 w35 ⟨out7, x8, out7A, out7C, hT38, hr39, hi40, hi41, hE36, hS37⟩
      obtain ⟨r42, rfl⟩ : ∃ r', r42 = r' + 1 := ⟨r42 - 1, by omega⟩
      refine c_seq ?_
      refine c_seq ?_
      refine c_reg ?_
      refine q_step (v := .int .i64 x8) hE36 (y_move rfl) rfl rfl rfl ?_; intro a43 hE44; clear hE36
      refine q_step (v := .pointer (some ⟨b6, 0, none⟩)) hE44 (y_field rfl (fun _ => by kernel_rfl)) rfl rfl rfl ?_; intro a45 hE46; clear hE44
      refine q_step (v := .pointer (some ⟨b6, 0, none⟩)) hE46 (y_field rfl (fun _ => by kernel_rfl)) rfl rfl rfl ?_; intro a47 hE48; clear hE46
      refine q_step (v := .int .i64 mp0) hE48 (y_load (fun _ => by kernel_rfl) rfl (St.cell (i := 2) hS37 rfl rfl)) rfl rfl rfl ?_; intro a49 hE50; clear hE48
      refine q_step (v := .bool (decide (x8 < mp0))) hE50 (y_lss rfl rfl) rfl rfl rfl ?_; intro a51 hE52; clear hE50
      refine c_nil ?_
      have hE53 := hE52.sub (L' := [(2, .slice linkpA linkp.length linkpC), (3, .pointer (some ⟨b6, 0, none⟩)), (4, .pointer (some ⟨b12, 0, none⟩)), (7, .slice out7A ((out7).length) out7C), (8, .int .i64 x8), (18, .bool (decide (x8 < mp0)))]) ⟨rfl, rfl, rfl, rfl, rfl, rfl, trivial⟩; clear hE52
      refine p_tn ?_
      refine c_cond hE53 rfl (fun ht54 => ?_) (fun ht54 => ?_)
      ·
        have hp55 := of_decide_eq_true ht54
        have hE56 := hE53; rw [ht54] at hE56; clear hE53
        refine wp_skip ?_
        refine p_tn ?_
        refine c_seq ?_
        refine wp_block ?_
        refine c_seq ?_
        refine c_reg ?_
        refine q_step (v := .int .i64 0) hE56 (y_assign rfl) rfl rfl rfl ?_; intro a57 hE58; clear hE56
        refine c_nil ?_
        have hE59 := hE58.sub (L' := [(2, .slice linkpA linkp.length linkpC), (3, .pointer (some ⟨b6, 0, none⟩)), (4, .pointer (some ⟨b12, 0, none⟩)), (7, .slice out7A ((out7).length) out7C), (8, .int .i64 x8), (9, .int .i64 0)]) ⟨rfl, rfl, rfl, rfl, rfl, rfl, trivial⟩; clear hE58
        refine p_tn ?_
        refine c_seq ?_
        refine c_seq ?_
        refine c_reg ?_
        refine q_step (v := .int .i64 0) hE59 (y_assign rfl) rfl rfl rfl ?_; intro a60 hE61; clear hE59
        refine c_nil ?_
        have hE62 := hE61.sub (L' := [(2, .slice linkpA linkp.length linkpC), (3, .pointer (some ⟨b6, 0, none⟩)), (4, .pointer (some ⟨b12, 0, none⟩)), (7, .slice out7A ((out7).length) out7C), (8, .int .i64 x8), (9, .int .i64 0), (10, .int .i64 0)]) ⟨rfl, rfl, rfl, rfl, rfl, rfl, rfl, trivial⟩; clear hE61
        refine p_tn ?_
        refine c_cut1 (fun a' w' => (0 ≤ ((F_l07Step_L2 mp0 mp1 mp2 np0 np1 np2 linkp x8 (Int.toNat (np0 - 0) + 1) 0 0).2)) ∧ E a' 66 [(2, .slice linkpA linkp.length linkpC), (3, .pointer (some ⟨b6, 0, none⟩)), (4, .pointer (some ⟨b12, 0, none⟩)), (7, .slice out7A ((out7).length) out7C), (8, .int .i64 x8), (9, .int .i64 ((F_l07Step_L2 mp0 mp1 mp2 np0 np1 np2 linkp x8 (Int.toNat (np0 - 0) + 1) 0 0).1)), (10, .int .i64 ((F_l07Step_L2 mp0 mp1 mp2 np0 np1 np2 linkp x8 (Int.toNat (np0 - 0) + 1) 0 0).2))] ∧ St w w' [.own 2 1 out7A ((out7).length) out7C out7, .blk b12 #[.int .i64 np0, .slice np1A np1.length np1C, .slice np2A np2.length np2C] 32, .blk b6 #[.int .i64 mp0, .slice mp1A mp1.length mp1C, .slice mp2A mp2.length mp2C] 32, .rd 1 linkpA linkp.length linkpC linkp, .rd 1 np2A np2.length np2C np2, .rd 1 np1A np1.length np1C np1, .rd 1 mp2A mp2.length mp2C mp2, .rd 1 mp1A mp1.length mp1C mp1]) ?_ ?_
        ·
          refine wp_block ?_
          refine c_loop (fun r a' w' => ∃ mask9L2 : Int, ∃ y10L2 : Int, F_l07Step_L2 mp0 mp1 mp2 np0 np1 np2 linkp x8 r mask9L2 y10L2 = F_l07Step_L2 mp0 mp1 mp2 np0 np1 np2 linkp x8 (Int.toNat (np0 - 0) + 1) 0 0 ∧ Int.toNat (np0 - y10L2) < r ∧ (0 ≤ y10L2) ∧ E a' 66 [(2, .slice linkpA linkp.length linkpC), (3, .pointer (some ⟨b6, 0, none⟩)), (4, .pointer (some ⟨b12, 0, none⟩)), (7, .slice out7A ((out7).length) out7C), (8, .int .i64 x8), (9, .int .i64 mask9L2), (10, .int .i64 y10L2)] ∧ St w w' [.own 2 1 out7A ((out7).length) out7C out7, .blk b12 #[.int .i64 np0, .slice np1A np1.length np1C, .slice np2A np2.length np2C] 32, .blk b6 #[.int .i64 mp0, .slice mp1A mp1.length mp1C, .slice mp2A mp2.length mp2C] 32, .rd 1 linkpA linkp.length linkpC linkp, .rd 1 np2A np2.length np2C np2, .rd 1 np1A np1.length np1C np1, .rd 1 mp2A mp2.length mp2C mp2, .rd 1 mp1A mp1.length mp1C mp1]) (r := (Int.toNat (np0 - 0) + 1)) ?_ ?_
          · exact ⟨0, 0, rfl, Nat.lt_succ_self _, (by first | omega | (simp only [sS_len, sL_len]; omega) | (simp only [List.length_replicate, sI_len]; omega) | (simp only [List.length_append, List.length_cons, List.length_nil, sI_len, cond_true, cond_false]; omega) | (simp only [List.length_append, List.length_cons, List.length_nil, sI_len, cond_eq_ite, apply_ite List.length]; split <;> simp only [List.length_append, List.length_cons, List.length_nil, sI_len] <;> omega) | grind), (hE62.sub (L' := [(2, .slice linkpA linkp.length linkpC), (3, .pointer (some ⟨b6, 0, none⟩)), (4, .pointer (some ⟨b12, 0, none⟩)), (7, .slice out7A ((out7).length) out7C), (8, .int .i64 x8), (9, .int .i64 0), (10, .int .i64 0)]) ⟨rfl, rfl, rfl, rfl, rfl, rfl, rfl, trivial⟩), (St.pick (Γ' := [.own 2 1 out7A ((out7).length) out7C out7, .blk b12 #[.int .i64 np0, .slice np1A np1.length np1C, .slice np2A np2.length np2C] 32, .blk b6 #[.int .i64 mp0, .slice mp1A mp1.length mp1C, .slice mp2A mp2.length mp2C] 32, .rd 1 linkpA linkp.length linkpC linkp, .rd 1 np2A np2.length np2C np2, .rd 1 np1A np1.length np1C np1, .rd 1 mp2A mp2.length mp2C mp2, .rd 1 mp1A mp1.length mp1C mp1]) hS37 [0, 1, 2, 3, 4, 5, 6, 7] (by decide) rfl)⟩
          ·
            clear hE62 hS37
            rintro r71 a64 w65 ⟨mask9L2, y10L2, hT68, hr69, hi70, hE66, hS67⟩
            obtain ⟨r71, rfl⟩ : ∃ r', r71 = r' + 1 := ⟨r71 - 1, by omega⟩
            refine c_seq ?_
            refine c_seq ?_
            refine c_reg ?_
            refine q_step (v := .int .i64 y10L2) hE66 (y_move rfl) rfl rfl rfl ?_; intro a72 hE73; clear hE66
            refine q_step (v := .pointer (some ⟨b12, 0, none⟩)) hE73 (y_field rfl (fun _ => by kernel_rfl)) rfl rfl rfl ?_; intro a74 hE75; clear hE73
            refine q_step (v := .pointer (some ⟨b12, 0, none⟩)) hE75 (y_field rfl (fun _ => by kernel_rfl)) rfl rfl rfl ?_; intro a76 hE77; clear hE75
            refine q_step (v := .int .i64 np0) hE77 (y_load (fun _ => by kernel_rfl) rfl (St.cell (i := 1) hS67 rfl rfl)) rfl rfl rfl ?_; intro a78 hE79; clear hE77
            refine q_step (v := .bool (decide (y10L2 < np0))) hE79 (y_lss rfl rfl) rfl rfl rfl ?_; intro a80 hE81; clear hE79
            refine c_nil ?_
            have hE82 := hE81.sub (L' := [(2, .slice linkpA linkp.length linkpC), (3, .pointer (some ⟨b6, 0, none⟩)), (4, .pointer (some ⟨b12, 0, none⟩)), (7, .slice out7A ((out7).length) out7C), (8, .int .i64 x8), (9, .int .i64 mask9L2), (10, .int .i64 y10L2), (25, .bool (decide (y10L2 < np0)))]) ⟨rfl, rfl, rfl, rfl, rfl, rfl, rfl, rfl, trivial⟩; clear hE81
            refine p_tn ?_
            refine c_cond hE82 rfl (fun ht83 => ?_) (fun ht83 => ?_)
            ·
              have hp84 := of_decide_eq_true ht83
              have hE85 := hE82; rw [ht83] at hE85; clear hE82
              refine wp_skip ?_
              refine p_tn ?_
              refine c_cut (fun a' w' => E a' 66 [(2, .slice linkpA linkp.length linkpC), (3, .pointer (some ⟨b6, 0, none⟩)), (4, .pointer (some ⟨b12, 0, none⟩)), (7, .slice out7A ((out7).length) out7C), (8, .int .i64 x8), (9, .int .i64 (bif ((F_l07Atoms mp0 mp1 mp2 np0 np1 np2 x8 y10L2) && ((F_l07Forth linkp (gI mp1 x8) (gI np1 y10L2)) && (F_l07Back linkp (gI mp1 x8) (gI np1 y10L2)))) then orI mask9L2 (powI y10L2) else mask9L2)), (10, .int .i64 y10L2)] ∧ St w w' [.own 2 1 out7A ((out7).length) out7C out7, .rd 1 np1A np1.length np1C np1, .rd 1 np2A np2.length np2C np2, .blk b12 #[.int .i64 np0, .slice np1A np1.length np1C, .slice np2A np2.length np2C] 32, .rd 1 mp1A mp1.length mp1C mp1, .rd 1 mp2A mp2.length mp2C mp2, .blk b6 #[.int .i64 mp0, .slice mp1A mp1.length mp1C, .slice mp2A mp2.length mp2C] 32, .rd 1 linkpA linkp.length linkpC linkp]) ?_ ?_
              ·
                refine wp_block ?_
                refine c_seq ?_
                refine d_start (fun w w' => (fun w' => w'.cell? ⟨b6, 1, none⟩ = some (.slice mp1A mp1.length mp1C) ∧ w'.cell? (adr mp1A (Int.toNat x8)) = some (.int .i64 (gI mp1 x8)) ∧ w'.cell? ⟨b12, 1, none⟩ = some (.slice np1A np1.length np1C) ∧ w'.cell? (adr np1A (Int.toNat y10L2)) = some (.int .i64 (gI np1 y10L2)) ∧ True) w → (fun w' => w'.cell? ⟨b6, 1, none⟩ = some (.slice mp1A mp1.length mp1C) ∧ w'.cell? (adr mp1A (Int.toNat x8)) = some (.int .i64 (gI mp1 x8)) ∧ w'.cell? ⟨b12, 1, none⟩ = some (.slice np1A np1.length np1C) ∧ w'.cell? (adr np1A (Int.toNat y10L2)) = some (.int .i64 (gI np1 y10L2)) ∧ True) w') [2, 5, 8, 11] 14 (by kernel_rfl) rfl ?_
                intro w86 he87; have hS88 := St.go hS67 he87; clear hS67
                refine d_pure (fun _ h => h) (v := .pointer (some ⟨b6, 0, none⟩)) 0 rfl hE85 (y_field rfl (fun _ => by kernel_rfl)) rfl (by kernel_rfl) (by kernel_rfl) (by kernel_rfl) rfl rfl (fun _ _ _ h => h) ?_; intro a89 hE90; clear hE85
                refine d_pure (fun _ h => h) (v := .pointer (some ⟨b6, 1, none⟩)) 1 rfl hE90 (y_field rfl (fun _ => by kernel_rfl)) rfl (by kernel_rfl) (by kernel_rfl) (by kernel_rfl) rfl rfl (fun _ _ _ h => h) ?_; intro a91 hE92; clear hE90
                refine d_take (fun _ h => h) (fun _ _ h k => h k) (v := .slice mp1A mp1.length mp1C) 2 rfl hE92 (S := fun w' => w'.cell? ⟨b6, 1, none⟩ = some (.slice mp1A mp1.length mp1C) ∧ w'.cell? (adr mp1A (Int.toNat x8)) = some (.int .i64 (gI mp1 x8)) ∧ w'.cell? ⟨b12, 1, none⟩ = some (.slice np1A np1.length np1C) ∧ w'.cell? (adr np1A (Int.toNat y10L2)) = some (.int .i64 (gI np1 y10L2)) ∧ True) ⟨(St.cell (i := 2) hS88 rfl rfl _ (Ext.refl _)), (RdS.elt (St.rdR (i := 7) hS88 rfl) (by omega) (by omega) _ (Ext.refl _)), (St.cell (i := 1) hS88 rfl rfl _ (Ext.refl _)), (RdS.elt (St.rdR (i := 5) hS88 rfl) (by omega) (by omega) _ (Ext.refl _)), trivial⟩ (y_load (fun _ => by kernel_rfl) rfl (fun _ h => h.1)) rfl rfl (by kernel_rfl) (by kernel_rfl) (by kernel_rfl) (by kernel_rfl) rfl rfl (fun _ _ _ h => h) ?_; intro a93 hE94; clear hE92
                refine d_pure (fun _ h => h) (v := .int .i64 x8) 3 rfl hE94 (y_move rfl) rfl (by kernel_rfl) (by kernel_rfl) (by kernel_rfl) rfl rfl (fun _ _ _ h => h) ?_; intro a95 hE96; clear hE94
                refine d_pure (fun _ h => h) (v := .pointer (some (adr mp1A (Int.toNat x8)))) 4 rfl hE96 (y_idx (by kernel_rfl) (fun _ => by kernel_rfl) rfl rfl (RdS.isS (m := x8) (St.rdR (i := 7) hS88 rfl) (by omega) (by omega)) (by omega) (by omega) (Nat.mul_one _).symm) rfl (by kernel_rfl) (by kernel_rfl) (by kernel_rfl) rfl rfl (fun _ _ _ h => h) ?_; intro a97 hE98; clear hE96
                refine d_take (fun _ h => h) (fun _ _ h k => h k) (v := .int .i64 (gI mp1 x8)) 5 rfl hE98 (S := fun w' => w'.cell? ⟨b6, 1, none⟩ = some (.slice mp1A mp1.length mp1C) ∧ w'.cell? (adr mp1A (Int.toNat x8)) = some (.int .i64 (gI mp1 x8)) ∧ w'.cell? ⟨b12, 1, none⟩ = some (.slice np1A np1.length np1C) ∧ w'.cell? (adr np1A (Int.toNat y10L2)) = some (.int .i64 (gI np1 y10L2)) ∧ True) ⟨(St.cell (i := 2) hS88 rfl rfl _ (Ext.refl _)), (RdS.elt (St.rdR (i := 7) hS88 rfl) (by omega) (by omega) _ (Ext.refl _)), (St.cell (i := 1) hS88 rfl rfl _ (Ext.refl _)), (RdS.elt (St.rdR (i := 5) hS88 rfl) (by omega) (by omega) _ (Ext.refl _)), trivial⟩ (y_load (fun _ => by kernel_rfl) rfl (fun _ h => h.2.1)) rfl rfl (by kernel_rfl) (by kernel_rfl) (by kernel_rfl) (by kernel_rfl) rfl rfl (fun _ _ _ h => h) ?_; intro a99 hE100; clear hE98
                refine d_pure (fun _ h => h) (v := .pointer (some ⟨b12, 0, none⟩)) 6 rfl hE100 (y_field rfl (fun _ => by kernel_rfl)) rfl (by kernel_rfl) (by kernel_rfl) (by kernel_rfl) rfl rfl (fun _ _ _ h => h) ?_; intro a101 hE102; clear hE100
                refine d_pure (fun _ h => h) (v := .pointer (some ⟨b12, 1, none⟩)) 7 rfl hE102 (y_field rfl (fun _ => by kernel_rfl)) rfl (by kernel_rfl) (by kernel_rfl) (by kernel_rfl) rfl rfl (fun _ _ _ h => h) ?_; intro a103 hE104; clear hE102
                refine d_take (fun _ h => h) (fun _ _ h k => h k) (v := .slice np1A np1.length np1C) 8 rfl hE104 (S := fun w' => w'.cell? ⟨b6, 1, none⟩ = some (.slice mp1A mp1.length mp1C) ∧ w'.cell? (adr mp1A (Int.toNat x8)) = some (.int .i64 (gI mp1 x8)) ∧ w'.cell? ⟨b12, 1, none⟩ = some (.slice np1A np1.length np1C) ∧ w'.cell? (adr np1A (Int.toNat y10L2)) = some (.int .i64 (gI np1 y10L2)) ∧ True) ⟨(St.cell (i := 2) hS88 rfl rfl _ (Ext.refl _)), (RdS.elt (St.rdR (i := 7) hS88 rfl) (by omega) (by omega) _ (Ext.refl _)), (St.cell (i := 1) hS88 rfl rfl _ (Ext.refl _)), (RdS.elt (St.rdR (i := 5) hS88 rfl) (by omega) (by omega) _ (Ext.refl _)), trivial⟩ (y_load (fun _ => by kernel_rfl) rfl (fun _ h => h.2.2.1)) rfl rfl (by kernel_rfl) (by kernel_rfl) (by kernel_rfl) (by kernel_rfl) rfl rfl (fun _ _ _ h => h) ?_; intro a105 hE106; clear hE104
                refine d_pure (fun _ h => h) (v := .int .i64 y10L2) 9 rfl hE106 (y_move rfl) rfl (by kernel_rfl) (by kernel_rfl) (by kernel_rfl) rfl rfl (fun _ _ _ h => h) ?_; intro a107 hE108; clear hE106
                refine d_pure (fun _ h => h) (v := .pointer (some (adr np1A (Int.toNat y10L2)))) 10 rfl hE108 (y_idx (by kernel_rfl) (fun _ => by kernel_rfl) rfl rfl (RdS.isS (m := y10L2) (St.rdR (i := 5) hS88 rfl) (by omega) (by omega)) (by omega) (by omega) (Nat.mul_one _).symm) rfl (by kernel_rfl) (by kernel_rfl) (by kernel_rfl) rfl rfl (fun _ _ _ h => h) ?_; intro a109 hE110; clear hE108
                refine d_take (fun _ h => h) (fun _ _ h k => h k) (v := .int .i64 (gI np1 y10L2)) 11 rfl hE110 (S := fun w' => w'.cell? ⟨b6, 1, none⟩ = some (.slice mp1A mp1.length mp1C) ∧ w'.cell? (adr mp1A (Int.toNat x8)) = some (.int .i64 (gI mp1 x8)) ∧ w'.cell? ⟨b12, 1, none⟩ = some (.slice np1A np1.length np1C) ∧ w'.cell? (adr np1A (Int.toNat y10L2)) = some (.int .i64 (gI np1 y10L2)) ∧ True) ⟨(St.cell (i := 2) hS88 rfl rfl _ (Ext.refl _)), (RdS.elt (St.rdR (i := 7) hS88 rfl) (by omega) (by omega) _ (Ext.refl _)), (St.cell (i := 1) hS88 rfl rfl _ (Ext.refl _)), (RdS.elt (St.rdR (i := 5) hS88 rfl) (by omega) (by omega) _ (Ext.refl _)), trivial⟩ (y_load (fun _ => by kernel_rfl) rfl (fun _ h => h.2.2.2.1)) rfl rfl (by kernel_rfl) (by kernel_rfl) (by kernel_rfl) (by kernel_rfl) rfl rfl (fun _ _ _ h => h) ?_; intro a111 hE112; clear hE110
                refine d_pure (fun _ h => h) (v := .int .i64 (gI mp1 x8)) 12 rfl hE112 (y_assign rfl) rfl (by kernel_rfl) (by kernel_rfl) (by kernel_rfl) rfl rfl (fun _ _ _ h => h) ?_; intro a113 hE114; clear hE112
                refine d_pure (fun _ h => h) (v := .int .i64 (gI np1 y10L2)) 13 rfl hE114 (y_assign rfl) rfl (by kernel_rfl) (by kernel_rfl) (by kernel_rfl) rfl rfl (fun _ _ _ h => h) ?_; intro a115 hE116; clear hE114
                refine d_done (by kernel_rfl) ?_
                have hE117 := hE116.sub (L' := [(2, .slice linkpA linkp.length linkpC), (3, .pointer (some ⟨b6, 0, none⟩)), (4, .pointer (some ⟨b12, 0, none⟩)), (7, .slice out7A ((out7).length) out7C), (8, .int .i64 x8), (9, .int .i64 mask9L2), (10, .int .i64 y10L2), (11, .int .i64 (gI mp1 x8)), (12, .int .i64 (gI np1 y10L2))]) ⟨rfl, rfl, rfl, rfl, rfl, rfl, rfl, rfl, rfl, trivial⟩; clear hE116
                refine p_tn ?_
                refine c_cut (fun a' w' => E a' 66 [(2, .slice linkpA linkp.length linkpC), (3, .pointer (some ⟨b6, 0, none⟩)), (4, .pointer (some ⟨b12, 0, none⟩)), (7, .slice out7A ((out7).length) out7C), (8, .int .i64 x8), (9, .int .i64 mask9L2), (10, .int .i64 y10L2), (56, .bool ((F_l07Atoms mp0 mp1 mp2 np0 np1 np2 x8 y10L2) && ((F_l07Forth linkp (gI mp1 x8) (gI np1 y10L2)) && (F_l07Back linkp (gI mp1 x8) (gI np1 y10L2)))))] ∧ St w w' [.own 2 1 out7A ((out7).length) out7C out7, .rd 1 np1A np1.length np1C np1, .rd 1 np2A np2.length np2C np2, .blk b12 #[.int .i64 np0, .slice np1A np1.length np1C, .slice np2A np2.length np2C] 32, .rd 1 mp1A mp1.length mp1C mp1, .rd 1 mp2A mp2.length mp2C mp2, .blk b6 #[.int .i64 mp0, .slice mp1A mp1.length mp1C, .slice mp2A mp2.length mp2C] 32, .rd 1 linkpA linkp.length linkpC linkp]) ?_ ?_
                ·
                  refine c_reg ?_
                  refine q_step (v := .agg #[.int .i64 mp0, .slice mp1A mp1.length mp1C, .slice mp2A mp2.length mp2C]) hE117 (y_loadS Try.underlying32 rfl (by kernel_rfl) rfl (St.row (i := 2) hS88 rfl)) rfl rfl rfl ?_; intro a118 hE119; clear hE117
                  refine q_step (v := .agg #[.int .i64 np0, .slice np1A np1.length np1C, .slice np2A np2.length np2C]) hE119 (y_loadS Try.underlying32 rfl (by kernel_rfl) rfl (St.row (i := 1) hS88 rfl)) rfl rfl rfl ?_; intro a120 hE121; clear hE119
                  refine q_step (v := .int .i64 x8) hE121 (y_move rfl) rfl rfl rfl ?_; intro a122 hE123; clear hE121
                  refine q_step (v := .int .i64 y10L2) hE123 (y_move rfl) rfl rfl rfl ?_; intro a124 hE125; clear hE123
                  refine l_step hE125 rfl (l_call (f := 213) (argv := [.agg #[.int .i64 mp0, .slice mp1A mp1.length mp1C, .slice mp2A mp2.length mp2C], .agg #[.int .i64 np0, .slice np1A np1.length np1C, .slice np2A np2.length np2C], .int .i64 x8, .int .i64 y10L2]) hE125 (fun _ => cf_l07Atoms _ _) rfl rfl (c_l07Atoms mp0 mp1A mp1.length mp1C mp1 mp2A mp2.length mp2C mp2 np0 np1A np1.length np1C np1 np2A np2.length np2C np2 x8 y10L2 w86 (St.rdR (i := 7) hS88 rfl) (St.rdR (i := 6) hS88 rfl) (St.rdR (i := 5) hS88 rfl) (St.rdR (i := 4) hS88 rfl) (by omega) (by omega) (by omega) (by omega)) ?_)
                  rintro _ w127 ⟨rfl, he131⟩ a128 hE129; clear hE125
                  have hS130 := St.go hS88 he131; clear hS88
                  refine q_step (v := .bool (F_l07Atoms mp0 mp1 mp2 np0 np1 np2 x8 y10L2)) hE129 (y_move rfl) rfl rfl rfl ?_; intro a132 hE133; clear hE129
                  rcases Bool.eq_false_or_eq_true (F_l07Atoms mp0 mp1 mp2 np0 np1 np2 x8 y10L2) with hb134 | hb134
                  ·
                    have hE135 := hE133; (try rw [hb134] at hE135); clear hE133
                    refine q_step (v := .slice linkpA linkp.length linkpC) hE135 (y_move rfl) rfl rfl rfl ?_; intro a136 hE137; clear hE135
                    refine q_step (v := .int .i64 (gI mp1 x8)) hE137 (y_move rfl) rfl rfl rfl ?_; intro a138 hE139; clear hE137
                    refine q_step (v := .int .i64 (gI np1 y10L2)) hE139 (y_move rfl) rfl rfl rfl ?_; intro a140 hE141; clear hE139
                    refine l_step hE141 rfl (l_call (f := 214) (argv := [.slice linkpA linkp.length linkpC, .int .i64 (gI mp1 x8), .int .i64 (gI np1 y10L2)]) hE141 (fun _ => cf_l07Forth _ _) rfl rfl (c_l07Forth linkpA linkp.length linkpC linkp (gI mp1 x8) (gI np1 y10L2) w127 (St.rdR (i := 3) hS130 rfl) (by omega)) ?_)
                    rintro _ w143 ⟨rfl, he147⟩ a144 hE145; clear hE141
                    have hS146 := St.go hS130 he147; clear hS130
                    refine q_step (v := .bool (F_l07Forth linkp (gI mp1 x8) (gI np1 y10L2))) hE145 (y_pick (b := true) rfl rfl) rfl rfl rfl ?_; intro a148 hE149; clear hE145
                    refine q_step (v := .bool (F_l07Forth linkp (gI mp1 x8) (gI np1 y10L2))) hE149 (y_move rfl) rfl rfl rfl ?_; intro a150 hE151; clear hE149
                    rcases Bool.eq_false_or_eq_true (F_l07Forth linkp (gI mp1 x8) (gI np1 y10L2)) with hb152 | hb152
                    ·
                      have hE153 := hE151; (try rw [hb152] at hE153); clear hE151
                      refine q_step (v := .slice linkpA linkp.length linkpC) hE153 (y_move rfl) rfl rfl rfl ?_; intro a154 hE155; clear hE153
                      refine q_step (v := .int .i64 (gI mp1 x8)) hE155 (y_move rfl) rfl rfl rfl ?_; intro a156 hE157; clear hE155
                      refine q_step (v := .int .i64 (gI np1 y10L2)) hE157 (y_move rfl) rfl rfl rfl ?_; intro a158 hE159; clear hE157
                      refine l_step hE159 rfl (l_call (f := 215) (argv := [.slice linkpA linkp.length linkpC, .int .i64 (gI mp1 x8), .int .i64 (gI np1 y10L2)]) hE159 (fun _ => cf_l07Back _ _) rfl rfl (c_l07Back linkpA linkp.length linkpC linkp (gI mp1 x8) (gI np1 y10L2) w143 (St.rdR (i := 3) hS146 rfl) (by omega)) ?_)
                      rintro _ w161 ⟨rfl, he165⟩ a162 hE163; clear hE159
                      have hS164 := St.go hS146 he165; clear hS146
                      refine q_step (v := .bool (F_l07Back linkp (gI mp1 x8) (gI np1 y10L2))) hE163 (y_pick (b := true) rfl rfl) rfl rfl rfl ?_; intro a166 hE167; clear hE163
                      refine c_nil ?_
                      have hE168 := hE167.sub (L' := [(2, .slice linkpA linkp.length linkpC), (3, .pointer (some ⟨b6, 0, none⟩)), (4, .pointer (some ⟨b12, 0, none⟩)), (7, .slice out7A ((out7).length) out7C), (8, .int .i64 x8), (9, .int .i64 mask9L2), (10, .int .i64 y10L2), (56, .bool (F_l07Back linkp (gI mp1 x8) (gI np1 y10L2)))]) ⟨rfl, rfl, rfl, rfl, rfl, rfl, rfl, rfl, trivial⟩; clear hE167
                      refine p_tn ?_
                      have hE169 := hE168.sub (L' := [(2, .slice linkpA linkp.length linkpC), (3, .pointer (some ⟨b6, 0, none⟩)), (4, .pointer (some ⟨b12, 0, none⟩)), (7, .slice out7A ((out7).length) out7C), (8, .int .i64 x8), (9, .int .i64 mask9L2), (10, .int .i64 y10L2), (56, .bool (F_l07Back linkp (gI mp1 x8) (gI np1 y10L2)))]) ⟨rfl, rfl, rfl, rfl, rfl, rfl, rfl, rfl, trivial⟩
                      have hS170 := (St.pick (Γ' := [.own 2 1 out7A ((out7).length) out7C out7, .rd 1 np1A np1.length np1C np1, .rd 1 np2A np2.length np2C np2, .blk b12 #[.int .i64 np0, .slice np1A np1.length np1C, .slice np2A np2.length np2C] 32, .rd 1 mp1A mp1.length mp1C mp1, .rd 1 mp2A mp2.length mp2C mp2, .blk b6 #[.int .i64 mp0, .slice mp1A mp1.length mp1C, .slice mp2A mp2.length mp2C] 32, .rd 1 linkpA linkp.length linkpC linkp]) hS164 [0, 5, 4, 1, 7, 6, 2, 3] (by decide) rfl)
                      exact ⟨(by rw [hb152, hb134]; exact hE169), hS170⟩
                    ·
                      have hE171 := hE151; (try rw [hb152] at hE171); clear hE151
                      refine q_skip hE171 rfl rfl rfl ?_; intro a172 hE173; clear hE171
                      refine q_skip hE173 rfl rfl rfl ?_; intro a174 hE175; clear hE173
                      refine q_skip hE175 rfl rfl rfl ?_; intro a176 hE177; clear hE175
                      refine q_skip hE177 rfl rfl rfl ?_; intro a178 hE179; clear hE177
                      refine q_step (v := .bool false) hE179 (y_pick (b := false) rfl rfl) rfl rfl rfl ?_; intro a180 hE181; clear hE179
                      refine c_nil ?_
                      have hE182 := hE181.sub (L' := [(2, .slice linkpA linkp.length linkpC), (3, .pointer (some ⟨b6, 0, none⟩)), (4, .pointer (some ⟨b12, 0, none⟩)), (7, .slice out7A ((out7).length) out7C), (8, .int .i64 x8), (9, .int .i64 mask9L2), (10, .int .i64 y10L2), (56, .bool false)]) ⟨rfl, rfl, rfl, rfl, rfl, rfl, rfl, rfl, trivial⟩; clear hE181
                      refine p_tn ?_
                      have hE183 := hE182.sub (L' := [(2, .slice linkpA linkp.length linkpC), (3, .pointer (some ⟨b6, 0, none⟩)), (4, .pointer (some ⟨b12, 0, none⟩)), (7, .slice out7A ((out7).length) out7C), (8, .int .i64 x8), (9, .int .i64 mask9L2), (10, .int .i64 y10L2), (56, .bool false)]) ⟨rfl, rfl, rfl, rfl, rfl, rfl, rfl, rfl, trivial⟩
                      have hS184 := (St.pick (Γ' := [.own 2 1 out7A ((out7).length) out7C out7, .rd 1 np1A np1.length np1C np1, .rd 1 np2A np2.length np2C np2, .blk b12 #[.int .i64 np0, .slice np1A np1.length np1C, .slice np2A np2.length np2C] 32, .rd 1 mp1A mp1.length mp1C mp1, .rd 1 mp2A mp2.length mp2C mp2, .blk b6 #[.int .i64 mp0, .slice mp1A mp1.length mp1C, .slice mp2A mp2.length mp2C] 32, .rd 1 linkpA linkp.length linkpC linkp]) hS146 [0, 5, 4, 1, 7, 6, 2, 3] (by decide) rfl)
                      exact ⟨(by rw [hb152, hb134]; exact hE183), hS184⟩
                  ·
                    have hE185 := hE133; (try rw [hb134] at hE185); clear hE133
                    refine q_skip hE185 rfl rfl rfl ?_; intro a186 hE187; clear hE185
                    refine q_skip hE187 rfl rfl rfl ?_; intro a188 hE189; clear hE187
                    refine q_skip hE189 rfl rfl rfl ?_; intro a190 hE191; clear hE189
                    refine q_skip hE191 rfl rfl rfl ?_; intro a192 hE193; clear hE191
                    refine q_step (v := .bool false) hE193 (y_pick (b := false) rfl rfl) rfl rfl rfl ?_; intro a194 hE195; clear hE193
                    refine q_step (v := .bool false) hE195 (y_move rfl) rfl rfl rfl ?_; intro a196 hE197; clear hE195
                    refine q_skip hE197 rfl rfl rfl ?_; intro a198 hE199; clear hE197
                    refine q_skip hE199 rfl rfl rfl ?_; intro a200 hE201; clear hE199
                    refine q_skip hE201 rfl rfl rfl ?_; intro a202 hE203; clear hE201
                    refine q_skip hE203 rfl rfl rfl ?_; intro a204 hE205; clear hE203
                    refine q_step (v := .bool false) hE205 (y_pick (b := false) rfl rfl) rfl rfl rfl ?_; intro a206 hE207; clear hE205
                    refine c_nil ?_
                    have hE208 := hE207.sub (L' := [(2, .slice linkpA linkp.length linkpC), (3, .pointer (some ⟨b6, 0, none⟩)), (4, .pointer (some ⟨b12, 0, none⟩)), (7, .slice out7A ((out7).length) out7C), (8, .int .i64 x8), (9, .int .i64 mask9L2), (10, .int .i64 y10L2), (56, .bool false)]) ⟨rfl, rfl, rfl, rfl, rfl, rfl, rfl, rfl, trivial⟩; clear hE207
                    refine p_tn ?_
                    have hE209 := hE208.sub (L' := [(2, .slice linkpA linkp.length linkpC), (3, .pointer (some ⟨b6, 0, none⟩)), (4, .pointer (some ⟨b12, 0, none⟩)), (7, .slice out7A ((out7).length) out7C), (8, .int .i64 x8), (9, .int .i64 mask9L2), (10, .int .i64 y10L2), (56, .bool false)]) ⟨rfl, rfl, rfl, rfl, rfl, rfl, rfl, rfl, trivial⟩
                    have hS210 := (St.pick (Γ' := [.own 2 1 out7A ((out7).length) out7C out7, .rd 1 np1A np1.length np1C np1, .rd 1 np2A np2.length np2C np2, .blk b12 #[.int .i64 np0, .slice np1A np1.length np1C, .slice np2A np2.length np2C] 32, .rd 1 mp1A mp1.length mp1C mp1, .rd 1 mp2A mp2.length mp2C mp2, .blk b6 #[.int .i64 mp0, .slice mp1A mp1.length mp1C, .slice mp2A mp2.length mp2C] 32, .rd 1 linkpA linkp.length linkpC linkp]) hS130 [0, 5, 4, 1, 7, 6, 2, 3] (by decide) rfl)
                    exact ⟨(by rw [hb134]; exact hE209), hS210⟩
                ·
                  rintro a211 w212 ⟨hE213, hS214⟩; clear hE117 hS88
                  refine c_cond hE213 rfl (fun ht216 => ?_) (fun ht216 => ?_)
                  ·
                    obtain ⟨ht217, ht218⟩ := band_t ht216
                    obtain ⟨ht219, ht220⟩ := band_t ht218
                    have hE221 := hE213; rw [ht216] at hE221; clear hE213
                    refine c_reg ?_
                    refine q_step (v := .int .i64 mask9L2) hE221 (y_move rfl) rfl rfl rfl ?_; intro a222 hE223; clear hE221
                    refine q_step (v := .int .i64 y10L2) hE223 (y_move rfl) rfl rfl rfl ?_; intro a224 hE225; clear hE223
                    refine l_step hE225 rfl (l_call (f := 209) (argv := [.int .i64 y10L2]) hE225 (fun _ => cf_l01One _ _) rfl rfl (d_l01One y10L2 w212 (by omega) (by omega)) ?_)
                    rintro _ _ ⟨rfl, rfl⟩ a228 hE229; clear hE225
                    refine q_step (v := .int .i64 (orI mask9L2 (powI y10L2))) hE229 (y_or rfl rfl) rfl rfl rfl ?_; intro a232 hE233; clear hE229
                    refine q_step (v := .int .i64 (orI mask9L2 (powI y10L2))) hE233 (y_assign rfl) rfl rfl rfl ?_; intro a234 hE235; clear hE233
                    refine c_nil ?_
                    have hE236 := hE235.sub (L' := [(2, .slice linkpA linkp.length linkpC), (3, .pointer (some ⟨b6, 0, none⟩)), (4, .pointer (some ⟨b12, 0, none⟩)), (7, .slice out7A ((out7).length) out7C), (8, .int .i64 x8), (9, .int .i64 (orI mask9L2 (powI y10L2))), (10, .int .i64 y10L2)]) ⟨rfl, rfl, rfl, rfl, rfl, rfl, rfl, trivial⟩; clear hE235
                    refine p_bn ?_
                    refine p_tn ?_
                    have hE237 := hE236.sub (L' := [(2, .slice linkpA linkp.length linkpC), (3, .pointer (some ⟨b6, 0, none⟩)), (4, .pointer (some ⟨b12, 0, none⟩)), (7, .slice out7A ((out7).length) out7C), (8, .int .i64 x8), (9, .int .i64 (orI mask9L2 (powI y10L2))), (10, .int .i64 y10L2)]) ⟨rfl, rfl, rfl, rfl, rfl, rfl, rfl, trivial⟩
                    have hS238 := (St.pick (Γ' := [.own 2 1 out7A ((out7).length) out7C out7, .rd 1 np1A np1.length np1C np1, .rd 1 np2A np2.length np2C np2, .blk b12 #[.int .i64 np0, .slice np1A np1.length np1C, .slice np2A np2.length np2C] 32, .rd 1 mp1A mp1.length mp1C mp1, .rd 1 mp2A mp2.length mp2C mp2, .blk b6 #[.int .i64 mp0, .slice mp1A mp1.length mp1C, .slice mp2A mp2.length mp2C] 32, .rd 1 linkpA linkp.length linkpC linkp]) hS214 [0, 1, 2, 3, 4, 5, 6, 7] (by decide) rfl)
                    exact ⟨(by rw [ht216]; exact hE237), hS238⟩
                  ·
                    have hE239 := hE213; rw [ht216] at hE239; clear hE213
                    refine wp_skip ?_
                    refine p_bn ?_
                    refine p_tn ?_
                    have hE240 := hE239.sub (L' := [(2, .slice linkpA linkp.length linkpC), (3, .pointer (some ⟨b6, 0, none⟩)), (4, .pointer (some ⟨b12, 0, none⟩)), (7, .slice out7A ((out7).length) out7C), (8, .int .i64 x8), (9, .int .i64 mask9L2), (10, .int .i64 y10L2)]) ⟨rfl, rfl, rfl, rfl, rfl, rfl, rfl, trivial⟩
                    have hS241 := (St.pick (Γ' := [.own 2 1 out7A ((out7).length) out7C out7, .rd 1 np1A np1.length np1C np1, .rd 1 np2A np2.length np2C np2, .blk b12 #[.int .i64 np0, .slice np1A np1.length np1C, .slice np2A np2.length np2C] 32, .rd 1 mp1A mp1.length mp1C mp1, .rd 1 mp2A mp2.length mp2C mp2, .blk b6 #[.int .i64 mp0, .slice mp1A mp1.length mp1C, .slice mp2A mp2.length mp2C] 32, .rd 1 linkpA linkp.length linkpC linkp]) hS214 [0, 1, 2, 3, 4, 5, 6, 7] (by decide) rfl)
                    exact ⟨(by rw [ht216]; exact hE240), hS241⟩
              ·
                rintro a242 w243 ⟨hE244, hS245⟩; clear hE85 hS67
                refine c_reg ?_
                refine q_step (v := .int .i64 y10L2) hE244 (y_move rfl) rfl rfl rfl ?_; intro a247 hE248; clear hE244
                refine q_step (v := .int .i64 (y10L2 + 1)) hE248 (y_add rfl rfl ⟨(by omega), (by omega)⟩) rfl rfl rfl ?_; intro a249 hE250; clear hE248
                refine q_step (v := .int .i64 (y10L2 + 1)) hE250 (y_assign rfl) rfl rfl rfl ?_; intro a251 hE252; clear hE250
                refine c_nil ?_
                have hE253 := hE252.sub (L' := [(2, .slice linkpA linkp.length linkpC), (3, .pointer (some ⟨b6, 0, none⟩)), (4, .pointer (some ⟨b12, 0, none⟩)), (7, .slice out7A ((out7).length) out7C), (8, .int .i64 x8), (9, .int .i64 (bif ((F_l07Atoms mp0 mp1 mp2 np0 np1 np2 x8 y10L2) && ((F_l07Forth linkp (gI mp1 x8) (gI np1 y10L2)) && (F_l07Back linkp (gI mp1 x8) (gI np1 y10L2)))) then orI mask9L2 (powI y10L2) else mask9L2)), (10, .int .i64 (y10L2 + 1))]) ⟨rfl, rfl, rfl, rfl, rfl, rfl, rfl, trivial⟩; clear hE252
                refine p_tn ⟨r71, Nat.lt_succ_self _, bif ((F_l07Atoms mp0 mp1 mp2 np0 np1 np2 x8 y10L2) && ((F_l07Forth linkp (gI mp1 x8) (gI np1 y10L2)) && (F_l07Back linkp (gI mp1 x8) (gI np1 y10L2)))) then orI mask9L2 (powI y10L2) else mask9L2, y10L2 + 1, (hT68.symm.trans (show F_l07Step_L2b mp0 mp1 mp2 np0 np1 np2 linkp x8 (F_l07Step_L2 mp0 mp1 mp2 np0 np1 np2 linkp x8 r71) mask9L2 y10L2 = F_l07Step_L2 mp0 mp1 mp2 np0 np1 np2 linkp x8 r71 (bif ((F_l07Atoms mp0 mp1 mp2 np0 np1 np2 x8 y10L2) && ((F_l07Forth linkp (gI mp1 x8) (gI np1 y10L2)) && (F_l07Back linkp (gI mp1 x8) (gI np1 y10L2)))) then orI mask9L2 (powI y10L2) else mask9L2) (y10L2 + 1) by unfold F_l07Step_L2b; rw [ht83]; first | done | rfl)).symm, (by omega), (by first | omega | (simp only [sS_len, sL_len]; omega) | (simp only [List.length_replicate, sI_len]; omega) | (simp only [List.length_append, List.length_cons, List.length_nil, sI_len, cond_true, cond_false]; omega) | (simp only [List.length_append, List.length_cons, List.length_nil, sI_len, cond_eq_ite, apply_ite List.length]; split <;> simp only [List.length_append, List.length_cons, List.length_nil, sI_len] <;> omega) | grind), (hE253.sub (L' := [(2, .slice linkpA linkp.length linkpC), (3, .pointer (some ⟨b6, 0, none⟩)), (4, .pointer (some ⟨b12, 0, none⟩)), (7, .slice out7A ((out7).length) out7C), (8, .int .i64 x8), (9, .int .i64 (bif ((F_l07Atoms mp0 mp1 mp2 np0 np1 np2 x8 y10L2) && ((F_l07Forth linkp (gI mp1 x8) (gI np1 y10L2)) && (F_l07Back linkp (gI mp1 x8) (gI np1 y10L2)))) then orI mask9L2 (powI y10L2) else mask9L2)), (10, .int .i64 (y10L2 + 1))]) ⟨rfl, rfl, rfl, rfl, rfl, rfl, rfl, trivial⟩), (St.pick (Γ' := [.own 2 1 out7A ((out7).length) out7C out7, .blk b12 #[.int .i64 np0, .slice np1A np1.length np1C, .slice np2A np2.length np2C] 32, .blk b6 #[.int .i64 mp0, .slice mp1A mp1.length mp1C, .slice mp2A mp2.length mp2C] 32, .rd 1 linkpA linkp.length linkpC linkp, .rd 1 np2A np2.length np2C np2, .rd 1 np1A np1.length np1C np1, .rd 1 mp2A mp2.length mp2C mp2, .rd 1 mp1A mp1.length mp1C mp1]) hS245 [0, 3, 6, 7, 2, 1, 5, 4] (by decide) rfl)⟩
            ·
              have hp254 := of_decide_eq_false ht83
              have hE255 := hE82; rw [ht83] at hE255; clear hE82
              refine wp_exit ?_
              refine p_te ?_
              have hX256 : F_l07Step_L2 mp0 mp1 mp2 np0 np1 np2 linkp x8 (Int.toNat (np0 - 0) + 1) 0 0 = (mask9L2, y10L2) := hT68.symm.trans (show F_l07Step_L2b mp0 mp1 mp2 np0 np1 np2 linkp x8 (F_l07Step_L2 mp0 mp1 mp2 np0 np1 np2 linkp x8 r71) mask9L2 y10L2 = (mask9L2, y10L2) by unfold F_l07Step_L2b; rw [ht83]; first | done | rfl)
              refine p_te (p_be (p_tn ?_))
              exact ⟨(by rw [hX256]; exact (show 0 ≤ y10L2 from (by first | omega | (simp only [sS_len, sL_len]; omega) | (simp only [List.length_replicate, sI_len]; omega) | (simp only [List.length_append, List.length_cons, List.length_nil, sI_len, cond_true, cond_false]; omega) | (simp only [List.length_append, List.length_cons, List.length_nil, sI_len, cond_eq_ite, apply_ite List.length]; split <;> simp only [List.length_append, List.length_cons, List.length_nil, sI_len] <;> omega) | grind))), (by rw [hX256]; exact (hE255.sub (L' := [(2, .slice linkpA linkp.length linkpC), (3, .pointer (some ⟨b6, 0, none⟩)), (4, .pointer (some ⟨b12, 0, none⟩)), (7, .slice out7A ((out7).length) out7C), (8, .int .i64 x8), (9, .int .i64 mask9L2), (10, .int .i64 y10L2)]) ⟨rfl, rfl, rfl, rfl, rfl, rfl, rfl, trivial⟩)), (St.pick (Γ' := [.own 2 1 out7A ((out7).length) out7C out7, .blk b12 #[.int .i64 np0, .slice np1A np1.length np1C, .slice np2A np2.length np2C] 32, .blk b6 #[.int .i64 mp0, .slice mp1A mp1.length mp1C, .slice mp2A mp2.length mp2C] 32, .rd 1 linkpA linkp.length linkpC linkp, .rd 1 np2A np2.length np2C np2, .rd 1 np1A np1.length np1C np1, .rd 1 mp2A mp2.length mp2C mp2, .rd 1 mp1A mp1.length mp1C mp1]) hS67 [0, 1, 2, 3, 4, 5, 6, 7] (by decide) rfl)⟩
        ·
          rintro a257 w258 ⟨hi262, hE259, hS260⟩; clear hE62 hS37
          refine p_tn ?_
          refine c_reg ?_
          refine q_step (v := .slice out7A ((out7).length) out7C) hE259 (y_move rfl) rfl rfl rfl ?_; intro a263 hE264; clear hE259
          refine q_step (v := .int .i64 ((F_l07Step_L2 mp0 mp1 mp2 np0 np1 np2 linkp x8 (Int.toNat (np0 - 0) + 1) 0 0).1)) hE264 (y_move rfl) rfl rfl rfl ?_; intro a265 hE266; clear hE264
          refine l_step hE266 rfl (l_lit (e := 2) (s := 1) (xs := [(F_l07Step_L2 mp0 mp1 mp2 np0 np1 np2 linkp x8 (Int.toNat (np0 - 0) + 1) 0 0).1]) (vs := [.int .i64 ((F_l07Step_L2 mp0 mp1 mp2 np0 np1 np2 linkp x8 (Int.toNat (np0 - 0) + 1) 0 0).1)]) hS260 hE266 rfl (fun _ => by kernel_rfl) rfl rfl rfl ?_)
          intro b267 w268 hS271 he272 a269 hE270; clear hS260 hE266
          obtain ⟨_, hi1, hi2, hi3, hi4⟩ := info_parts (show (Try.prog.info? 2).map (fun i => (i.zero, i.size, i.bytes)) = some (some (.int .i64 0), 1, 8) by kernel_rfl)
          refine l_step hE270 rfl (l_append (k := 1) (n' := (out7 ++ ([(F_l07Step_L2 mp0 mp1 mp2 np0 np1 np2 linkp x8 (Int.toNat (np0 - 0) + 1) 0 0).1])).length) hS271 hE270 (by kernel_rfl) hi1 hi2 hi3 rfl (by decide) (by rw [hi4]; decide) rfl rfl rfl (St.rdO (i := 0) hS271 rfl) (by first | omega | (simp only [List.length_append, List.length_cons, List.length_nil]; omega)) (by have h1 := (St.rdO (i := 1) hS271 rfl).len1; have h2 := (St.rdO (i := 0) hS271 rfl).len1; rw [List.length_append, h1, h2]) rfl ?_)
          intro b273 c279 w274 hS277 a275 hE276; clear hS271 hE270 hi1 hi2 hi3 hi4
          refine q_step (v := .slice b273 ((out7 ++ ([(F_l07Step_L2 mp0 mp1 mp2 np0 np1 np2 linkp x8 (Int.toNat (np0 - 0) + 1) 0 0).1])).length) c279) hE276 (y_assign rfl) rfl rfl rfl ?_; intro a280 hE281; clear hE276
          refine c_nil ?_
          have hE282 := hE281.sub (L' := [(2, .slice linkpA linkp.length linkpC), (3, .pointer (some ⟨b6, 0, none⟩)), (4, .pointer (some ⟨b12, 0, none⟩)), (7, .slice b273 ((out7 ++ ([(F_l07Step_L2 mp0 mp1 mp2 np0 np1 np2 linkp x8 (Int.toNat (np0 - 0) + 1) 0 0).1])).length) c279), (8, .int .i64 x8)]) ⟨rfl, rfl, rfl, rfl, rfl, trivial⟩; clear hE281
          refine p_bn ?_
          refine p_tn ?_
          refine c_reg ?_
          refine q_step (v := .int .i64 x8) hE282 (y_move rfl) rfl rfl rfl ?_; intro a283 hE284; clear hE282
          refine q_step (v := .int .i64 (x8 + 1)) hE284 (y_add rfl rfl ⟨(by omega), (by omega)⟩) rfl rfl rfl ?_; intro a285 hE286; clear hE284
          refine q_step (v := .int .i64 (x8 + 1)) hE286 (y_assign rfl) rfl rfl rfl ?_; intro a287 hE288; clear hE286
          refine c_nil ?_
          have hE289 := hE288.sub (L' := [(2, .slice linkpA linkp.length linkpC), (3, .pointer (some ⟨b6, 0, none⟩)), (4, .pointer (some ⟨b12, 0, none⟩)), (7, .slice b273 ((out7 ++ ([(F_l07Step_L2 mp0 mp1 mp2 np0 np1 np2 linkp x8 (Int.toNat (np0 - 0) + 1) 0 0).1])).length) c279), (8, .int .i64 (x8 + 1))]) ⟨rfl, rfl, rfl, rfl, rfl, trivial⟩; clear hE288
          refine p_tn ⟨r42, Nat.lt_succ_self _, out7 ++ ([(F_l07Step_L2 mp0 mp1 mp2 np0 np1 np2 linkp x8 (Int.toNat (np0 - 0) + 1) 0 0).1]), x8 + 1, b273, c279, (hT38.symm.trans (show F_l07Step_L1b mp0 mp1 mp2 np0 np1 np2 linkp (F_l07Step_L1 mp0 mp1 mp2 np0 np1 np2 linkp r42) out7 x8 = F_l07Step_L1 mp0 mp1 mp2 np0 np1 np2 linkp r42 (out7 ++ ([(F_l07Step_L2 mp0 mp1 mp2 np0 np1 np2 linkp x8 (Int.toNat (np0 - 0) + 1) 0 0).1])) (x8 + 1) by unfold F_l07Step_L1b; rw [ht54]; first | done | rfl)).symm, (by omega), (by first | omega | (simp only [sS_len, sL_len]; omega) | (simp only [List.length_replicate, sI_len]; omega) | (simp only [List.length_append, List.length_cons, List.length_nil, sI_len, cond_true, cond_false]; omega) | (simp only [List.length_append, List.length_cons, List.length_nil, sI_len, cond_eq_ite, apply_ite List.length]; split <;> simp only [List.length_append, List.length_cons, List.length_nil, sI_len] <;> omega) | grind), (by first | omega | (simp only [sS_len, sL_len]; omega) | (simp only [List.length_replicate, sI_len]; omega) | (simp only [List.length_append, List.length_cons, List.length_nil, sI_len, cond_true, cond_false]; omega) | (simp only [List.length_append, List.length_cons, List.length_nil, sI_len, cond_eq_ite, apply_ite List.length]; split <;> simp only [List.length_append, List.length_cons, List.length_nil, sI_len] <;> omega) | grind), (hE289.sub (L' := [(2, .slice linkpA linkp.length linkpC), (3, .pointer (some ⟨b6, 0, none⟩)), (4, .pointer (some ⟨b12, 0, none⟩)), (7, .slice b273 ((out7 ++ ([(F_l07Step_L2 mp0 mp1 mp2 np0 np1 np2 linkp x8 (Int.toNat (np0 - 0) + 1) 0 0).1])).length) c279), (8, .int .i64 (x8 + 1))]) ⟨rfl, rfl, rfl, rfl, rfl, trivial⟩), (St.pick (Γ' := [.own 2 1 b273 ((out7 ++ ([(F_l07Step_L2 mp0 mp1 mp2 np0 np1 np2 linkp x8 (Int.toNat (np0 - 0) + 1) 0 0).1])).length) c279 (out7 ++ ([(F_l07Step_L2 mp0 mp1 mp2 np0 np1 np2 linkp x8 (Int.toNat (np0 - 0) + 1) 0 0).1])), .blk b12 #[.int .i64 np0, .slice np1A np1.length np1C, .slice np2A np2.length np2C] 32, .blk b6 #[.int .i64 mp0, .slice mp1A mp1.length mp1C, .slice mp2A mp2.length mp2C] 32, .rd 1 linkpA linkp.length linkpC linkp, .rd 1 np2A np2.length np2C np2, .rd 1 np1A np1.length np1C np1, .rd 1 mp2A mp2.length mp2C mp2, .rd 1 mp1A mp1.length mp1C mp1]) hS277 [1, 2, 3, 4, 5, 6, 7, 8] (by decide) rfl)⟩
      ·
        have hp290 := of_decide_eq_false ht54
        have hE291 := hE53; rw [ht54] at hE291; clear hE53
        refine wp_exit ?_
        refine p_te ?_
        have hX292 : F_l07Step_L1 mp0 mp1 mp2 np0 np1 np2 linkp (Int.toNat (mp0 - 0) + 1) ([]) 0 = (out7, x8) := hT38.symm.trans (show F_l07Step_L1b mp0 mp1 mp2 np0 np1 np2 linkp (F_l07Step_L1 mp0 mp1 mp2 np0 np1 np2 linkp r42) out7 x8 = (out7, x8) by unfold F_l07Step_L1b; rw [ht54]; first | done | rfl)
        refine p_te (p_be (p_tn ?_))
        exact ⟨out7A, out7C, (by rw [hX292]; exact (show 0 ≤ x8 from (by first | omega | (simp only [sS_len, sL_len]; omega) | (simp only [List.length_replicate, sI_len]; omega) | (simp only [List.length_append, List.length_cons, List.length_nil, sI_len, cond_true, cond_false]; omega) | (simp only [List.length_append, List.length_cons, List.length_nil, sI_len, cond_eq_ite, apply_ite List.length]; split <;> simp only [List.length_append, List.length_cons, List.length_nil, sI_len] <;> omega) | grind))), (by rw [hX292]; exact (show (out7.length : Int) ≤ x8 from (by first | omega | (simp only [sS_len, sL_len]; omega) | (simp only [List.length_replicate, sI_len]; omega) | (simp only [List.length_append, List.length_cons, List.length_nil, sI_len, cond_true, cond_false]; omega) | (simp only [List.length_append, List.length_cons, List.length_nil, sI_len, cond_eq_ite, apply_ite List.length]; split <;> simp only [List.length_append, List.length_cons, List.length_nil, sI_len] <;> omega) | grind))), (by rw [hX292]; exact (hE291.sub (L' := [(2, .slice linkpA linkp.length linkpC), (3, .pointer (some ⟨b6, 0, none⟩)), (4, .pointer (some ⟨b12, 0, none⟩)), (7, .slice out7A ((out7).length) out7C), (8, .int .i64 x8)]) ⟨rfl, rfl, rfl, rfl, rfl, trivial⟩)), (by rw [hX292]; exact (St.pick (Γ' := [.own 2 1 out7A ((out7).length) out7C out7, .blk b12 #[.int .i64 np0, .slice np1A np1.length np1C, .slice np2A np2.length np2C] 32, .blk b6 #[.int .i64 mp0, .slice mp1A mp1.length mp1C, .slice mp2A mp2.length mp2C] 32, .rd 1 linkpA linkp.length linkpC linkp, .rd 1 np2A np2.length np2C np2, .rd 1 np1A np1.length np1C np1, .rd 1 mp2A mp2.length mp2C mp2, .rd 1 mp1A mp1.length mp1C mp1]) hS37 [0, 1, 2, 3, 4, 5, 6, 7] (by decide) rfl))⟩
  ·
    rintro a293 w294 ⟨out7A_33, out7C_33, hi298, hi299, hE295, hS296⟩; clear hE32 hS25
    refine p_tn ?_
    refine c_seq ?_
    refine c_reg ?_
    refine q_step (v := .slice out7A_33 (((F_l07Step_L1 mp0 mp1 mp2 np0 np1 np2 linkp (Int.toNat (mp0 - 0) + 1) ([]) 0).1).length) out7C_33) hE295 (y_move rfl) rfl rfl rfl ?_; intro a300 hE301; clear hE295
    refine q_step (v := .slice out7A_33 (((F_l07Step_L1 mp0 mp1 mp2 np0 np1 np2 linkp (Int.toNat (mp0 - 0) + 1) ([]) 0).1).length) out7C_33) hE301 (y_assign rfl) rfl rfl rfl ?_; intro a302 hE303; clear hE301
    refine c_nil ?_
    have hE304 := hE303.sub (L' := [(6, .slice out7A_33 (((F_l07Step_L1 mp0 mp1 mp2 np0 np1 np2 linkp (Int.toNat (mp0 - 0) + 1) ([]) 0).1).length) out7C_33)]) ⟨rfl, trivial⟩; clear hE303
    refine p_tn ?_
    refine wp_ret ?_
    have hF : F_l07Step mp0 mp1 mp2 np0 np1 np2 linkp = (F_l07Step_L1 mp0 mp1 mp2 np0 np1 np2 linkp (Int.toNat (mp0 - 0) + 1) ([]) 0).1 := by unfold F_l07Step; rfl
    refine c_ret1 hE304 rfl rfl ?_
    exact ⟨out7A_33, out7C_33, (by rw [hF]; first | done | (dsimp only; done) | rfl), (by rw [hF]; (try dsimp only); exact hS296.ok 0 _ rfl), hS296.ext⟩

/-- One pair of worlds that a step keeps. -/
def goodS (mp0 : Int) (mp1 mp2 : List Int) (np0 : Int) (np1 np2 : List Int) (linkp : List Int) (x y : Nat) : Bool := F_l07Atoms mp0 mp1 mp2 np0 np1 np2 (x : Int) (y : Int) && (F_l07Forth linkp (gI mp1 (x : Int)) (gI np1 (y : Int)) && F_l07Back linkp (gI mp1 (x : Int)) (gI np1 (y : Int)))
theorem l07Step_map (mp0 : Int) (mp1 mp2 : List Int) (np0 : Int) (np1 np2 : List Int) (linkp : List Int) (h : 0 ≤ mp0) (h0 : 0 ≤ np0) : F_l07Step mp0 mp1 mp2 np0 np1 np2 linkp = (List.range mp0.toNat).map (fun (x : Nat) => (List.range np0.toNat).foldl (fun o y => bif goodS mp0 mp1 mp2 np0 np1 np2 linkp x y then orI o (powI (y : Int)) else o) 0) := by
  unfold F_l07Step
  rw [mapLoop0 mp0 h (fun x => (F_l07Step_L2 mp0 mp1 mp2 np0 np1 np2 linkp x (Int.toNat (np0 - 0) + 1) 0 0).1) (F_l07Step_L1 mp0 mp1 mp2 np0 np1 np2 linkp) (fun _ _ _ => rfl)]
  apply List.map_congr_left
  intro x _
  rw [rangeLoop0 np0 h0 (fun o y => bif ((F_l07Atoms mp0 mp1 mp2 np0 np1 np2 (x : Int) y) && ((F_l07Forth linkp (gI mp1 (x : Int)) (gI np1 y)) && (F_l07Back linkp (gI mp1 (x : Int)) (gI np1 y)))) then orI o (powI y) else o) (F_l07Step_L2 mp0 mp1 mp2 np0 np1 np2 linkp (x : Int)) (fun _ _ _ => rfl)]
  rfl
theorem l07Step_len (mp0 : Int) (mp1 mp2 : List Int) (np0 : Int) (np1 np2 : List Int) (linkp : List Int) : (F_l07Step mp0 mp1 mp2 np0 np1 np2 linkp).length = mp0.toNat := by
  rcases Int.lt_or_le mp0 0 with h | h
  · unfold F_l07Step
    show (F_l07Step_L1b mp0 mp1 mp2 np0 np1 np2 linkp _ [] 0).1.length = _
    unfold F_l07Step_L1b
    rw [decide_eq_false (by omega)]; simp; omega
  · unfold F_l07Step
    rw [mapLoop0 mp0 h (fun x => (F_l07Step_L2 mp0 mp1 mp2 np0 np1 np2 linkp x (Int.toNat (np0 - 0) + 1) 0 0).1) (F_l07Step_L1 mp0 mp1 mp2 np0 np1 np2 linkp) (fun _ _ _ => rfl)]; simp

end Go.Proofs.Ytlbonhloeefnmaa
