/- GSB: models and contracts, printed by wip/gen/gen.py -/
import Derived.Test.YtejfjcjdilbkdaaGS
set_option linter.unusedVariables false
set_option linter.unusedSimpArgs false
namespace Go.Proofs.Ytejfjcjdilbkdaa
open Go.RowKit

def F_l07Below_L3b (mp2 : List Int) (np2 : List Int) (x8 : Int) (y10L2 : Int) (rec : Bool → Int → Bool × Int) (good11L3 : Bool) (v12L3 : Int) : Bool × Int :=
  bif (decide (v12L3 < (mp2.length : Int))) then (rec (good11L3 && ((!(F_l01Bit (gI mp2 v12L3) x8)) || (F_l01Bit (gI np2 v12L3) y10L2))) (v12L3 + 1)) else (good11L3, v12L3)
def F_l07Below_L3 (mp2 : List Int) (np2 : List Int) (x8 : Int) (y10L2 : Int) : Nat → Bool → Int → Bool × Int
  | 0, good11L3, v12L3 => (good11L3, v12L3)
  | r + 1, good11L3, v12L3 => F_l07Below_L3b mp2 np2 x8 y10L2 (F_l07Below_L3 mp2 np2 x8 y10L2 r) good11L3 v12L3
def F_l07Below_L2b (mp1 : List Int) (mp2 : List Int) (np0 : Int) (np1 : List Int) (np2 : List Int) (linkp : List Int) (x8 : Int) (rec : Int → Int → Int × Int) (mask9L2 : Int) (y10L2 : Int) : Int × Int :=
  bif (decide (y10L2 < np0)) then (rec (bif ((F_l07Below_L3 mp2 np2 x8 y10L2 (Int.toNat ((mp2.length : Int) - 0) + 1) (F_l07Forth linkp (gI mp1 x8) (gI np1 y10L2)) 0).1) then orI mask9L2 (powI y10L2) else mask9L2) (y10L2 + 1)) else (mask9L2, y10L2)
def F_l07Below_L2 (mp1 : List Int) (mp2 : List Int) (np0 : Int) (np1 : List Int) (np2 : List Int) (linkp : List Int) (x8 : Int) : Nat → Int → Int → Int × Int
  | 0, mask9L2, y10L2 => (mask9L2, y10L2)
  | r + 1, mask9L2, y10L2 => F_l07Below_L2b mp1 mp2 np0 np1 np2 linkp x8 (F_l07Below_L2 mp1 mp2 np0 np1 np2 linkp x8 r) mask9L2 y10L2
def F_l07Below_L1b (mp0 : Int) (mp1 : List Int) (mp2 : List Int) (np0 : Int) (np1 : List Int) (np2 : List Int) (linkp : List Int) (rec : (List Int) → Int → (List Int) × Int) (out7 : List Int) (x8 : Int) : (List Int) × Int :=
  bif (decide (x8 < mp0)) then (rec (out7 ++ ([(F_l07Below_L2 mp1 mp2 np0 np1 np2 linkp x8 (Int.toNat (np0 - 0) + 1) 0 0).1])) (x8 + 1)) else (out7, x8)
def F_l07Below_L1 (mp0 : Int) (mp1 : List Int) (mp2 : List Int) (np0 : Int) (np1 : List Int) (np2 : List Int) (linkp : List Int) : Nat → (List Int) → Int → (List Int) × Int
  | 0, out7, x8 => (out7, x8)
  | r + 1, out7, x8 => F_l07Below_L1b mp0 mp1 mp2 np0 np1 np2 linkp (F_l07Below_L1 mp0 mp1 mp2 np0 np1 np2 linkp r) out7 x8
def F_l07Below (mp0 : Int) (mp1 : List Int) (mp2 : List Int) (np0 : Int) (np1 : List Int) (np2 : List Int) (linkp : List Int) : List Int :=
  (F_l07Below_L1 mp0 mp1 mp2 np0 np1 np2 linkp (Int.toNat (mp0 - 0) + 1) ([]) 0).1
theorem cf_l07Below (args : Array Value) (w : World) : (callFunc 104 args).run Try.prog w = .ok (.enter 104 args) w := by kernel_rfl
set_option maxRecDepth 100000 in
theorem c_l07Below (mp0 : Int) (mp1A : Option Addr) (mp1N mp1C : Nat) (mp1 : List Int) (mp2A : Option Addr) (mp2N mp2C : Nat) (mp2 : List Int) (np0 : Int) (np1A : Option Addr) (np1N np1C : Nat) (np1 : List Int) (np2A : Option Addr) (np2N np2C : Nat) (np2 : List Int) (linkpA : Option Addr) (linkpN linkpC : Nat) (linkp : List Int) (w : World) (mp1R : RdS w 1 mp1A mp1N mp1C mp1) (mp2R : RdS w 1 mp2A mp2N mp2C mp2) (np1R : RdS w 1 np1A np1N np1C np1) (np2R : RdS w 1 np2A np2N np2C np2) (linkpR : RdS w 1 linkpA linkpN linkpC linkp) (h6mp : (mp2.length : Int) = 6) (hwmp : 0 ≤ mp0 ∧ mp0 ≤ 8) (hlmp : (mp1.length : Int) = mp0) (h6np : (np2.length : Int) = 6) (hwnp : 0 ≤ np0 ∧ np0 ≤ 8) (hlnp : (np1.length : Int) = np0) (hl : linkp.length ≤ 62) :
    Calls Try.prog 104 #[.agg #[.int .i64 mp0, .slice mp1A mp1N mp1C, .slice mp2A mp2N mp2C], .agg #[.int .i64 np0, .slice np1A np1N np1C, .slice np2A np2N np2C], .slice linkpA linkpN linkpC] w (Ret fun v w' => ∃ b1 : Option Addr, ∃ c1 : Nat, v = .slice b1 (F_l07Below mp0 mp1 mp2 np0 np1 np2 linkp).length c1 ∧ OwnS w' w.heap.size 2 1 b1 (F_l07Below mp0 mp1 mp2 np0 np1 np2 linkp).length c1 (F_l07Below mp0 mp1 mp2 np0 np1 np2 linkp) ∧ Ext w w') := by
  obtain rfl : mp1N = mp1.length := mp1R.len1.symm
  have mp1Le := mp1R.le
  obtain rfl : mp2N = mp2.length := mp2R.len1.symm
  have mp2Le := mp2R.le
  obtain rfl : np1N = np1.length := np1R.len1.symm
  have np1Le := np1R.le
  obtain rfl : np2N = np2.length := np2R.len1.symm
  have np2Le := np2R.le
  obtain rfl : linkpN = linkp.length := linkpR.len1.symm
  have linkpLe := linkpR.le
  have hS := St.nil w
  have hS1 := St.rd0 hS rfl mp1R; clear hS
  have hS2 := St.rd0 hS1 rfl mp2R; clear hS1
  have hS3 := St.rd0 hS2 rfl np1R; clear hS2
  have hS4 := St.rd0 hS3 rfl np2R; clear hS3
  have hS5 := St.rd0 hS4 rfl linkpR; clear hS4
  refine enter (args := [.agg #[.int .i64 mp0, .slice mp1A mp1.length mp1C, .slice mp2A mp2.length mp2C], .agg #[.int .i64 np0, .slice np1A np1.length np1C, .slice np2A np2.length np2C], .slice linkpA linkp.length linkpC]) Try.func104 rfl rfl ?_
  rw [Try.ntmps104]; intro a hE
  have hE := hE.sub (L' := [(0, .agg #[.int .i64 mp0, .slice mp1A mp1.length mp1C, .slice mp2A mp2.length mp2C]), (1, .agg #[.int .i64 np0, .slice np1A np1.length np1C, .slice np2A np2.length np2C]), (2, .slice linkpA linkp.length linkpC)]) ⟨rfl, rfl, rfl, trivial⟩
  refine c_seq ?_
  refine c_reg ?_
  refine l_step hE rfl (l_box (v := .agg #[.int .i64 mp0, .slice mp1A mp1.length mp1C, .slice mp2A mp2.length mp2C]) (cs := #[.int .i64 mp0, .slice mp1A mp1.length mp1C, .slice mp2A mp2.length mp2C]) hS5 hE rfl rfl rfl ?_)
  intro b6 w7 hS10 he11 a8 hE9; clear hS5 hE
  refine l_step hE9 rfl (l_box (v := .agg #[.int .i64 np0, .slice np1A np1.length np1C, .slice np2A np2.length np2C]) (cs := #[.int .i64 np0, .slice np1A np1.length np1C, .slice np2A np2.length np2C]) hS10 hE9 rfl rfl rfl ?_)
  intro b12 w13 hS16 he17 a14 hE15; clear hS10 hE9
  refine q_step (v := .slice none 0 0) hE15 (y_assign rfl) rfl rfl rfl ?_; intro a18 hE19; clear hE15
  refine c_nil ?_
  have hE20 := hE19.sub (L' := [(2, .slice linkpA linkp.length linkpC), (3, .pointer (some ⟨b6, 0, none⟩)), (4, .pointer (some ⟨b12, 0, none⟩))]) ⟨rfl, rfl, rfl, trivial⟩; clear hE19
  refine p_tn ?_
  refine c_seq ?_
  refine c_reg ?_
  refine l_step hE20 rfl (l_lit (e := 2) (s := 1) (xs := []) (vs := []) hS16 hE20 rfl (fun _ => by kernel_rfl) rfl rfl rfl ?_)
  intro b21 w22 hS25 he26 a23 hE24; clear hS16 hE20
  refine q_step (v := .slice (some ⟨b21, 0, none⟩) 0 0) hE24 (y_assign rfl) rfl rfl rfl ?_; intro a27 hE28; clear hE24
  refine c_nil ?_
  have hE29 := hE28.sub (L' := [(2, .slice linkpA linkp.length linkpC), (3, .pointer (some ⟨b6, 0, none⟩)), (4, .pointer (some ⟨b12, 0, none⟩)), (7, .slice (some ⟨b21, 0, none⟩) 0 0)]) ⟨rfl, rfl, rfl, rfl, trivial⟩; clear hE28
  refine p_tn ?_
  refine c_seq ?_
  refine c_seq ?_
  refine c_reg ?_
  refine q_step (v := .int .i64 0) hE29 (y_assign rfl) rfl rfl rfl ?_; intro a30 hE31; clear hE29
  refine c_nil ?_
  have hE32 := hE31.sub (L' := [(2, .slice linkpA linkp.length linkpC), (3, .pointer (some ⟨b6, 0, none⟩)), (4, .pointer (some ⟨b12, 0, none⟩)), (7, .slice (some ⟨b21, 0, none⟩) 0 0), (8, .int .i64 0)]) ⟨rfl, rfl, rfl, rfl, rfl, trivial⟩; clear hE31
  refine p_tn ?_
  refine c_cut1 (fun a' w' => ∃ out7A_33 : Option Addr, ∃ out7C_33 : Nat, (0 ≤ ((F_l07Below_L1 mp0 mp1 mp2 np0 np1 np2 linkp (Int.toNat (mp0 - 0) + 1) ([]) 0).2)) ∧ ((((F_l07Below_L1 mp0 mp1 mp2 np0 np1 np2 linkp (Int.toNat (mp0 - 0) + 1) ([]) 0).1).length : Int) ≤ ((F_l07Below_L1 mp0 mp1 mp2 np0 np1 np2 linkp (Int.toNat (mp0 - 0) + 1) ([]) 0).2)) ∧ E a' 79 [(2, .slice linkpA linkp.length linkpC), (3, .pointer (some ⟨b6, 0, none⟩)), (4, .pointer (some ⟨b12, 0, none⟩)), (7, .slice out7A_33 (((F_l07Below_L1 mp0 mp1 mp2 np0 np1 np2 linkp (Int.toNat (mp0 - 0) + 1) ([]) 0).1).length) out7C_33), (8, .int .i64 ((F_l07Below_L1 mp0 mp1 mp2 np0 np1 np2 linkp (Int.toNat (mp0 - 0) + 1) ([]) 0).2))] ∧ St w w' [.own 2 1 out7A_33 (((F_l07Below_L1 mp0 mp1 mp2 np0 np1 np2 linkp (Int.toNat (mp0 - 0) + 1) ([]) 0).1).length) out7C_33 ((F_l07Below_L1 mp0 mp1 mp2 np0 np1 np2 linkp (Int.toNat (mp0 - 0) + 1) ([]) 0).1), .blk b12 #[.int .i64 np0, .slice np1A np1.length np1C, .slice np2A np2.length np2C] 38, .blk b6 #[.int .i64 mp0, .slice mp1A mp1.length mp1C, .slice mp2A mp2.length mp2C] 38, .rd 1 linkpA linkp.length linkpC linkp, .rd 1 np2A np2.length np2C np2, .rd 1 np1A np1.length np1C np1, .rd 1 mp2A mp2.length mp2C mp2, .rd 1 mp1A mp1.length mp1C mp1]) ?_ ?_
  ·
    refine wp_block ?_
    refine c_loop (fun r a' w' => ∃ out7 : List Int, ∃ x8 : Int, ∃ out7A : Option Addr, ∃ out7C : Nat, F_l07Below_L1 mp0 mp1 mp2 np0 np1 np2 linkp r out7 x8 = F_l07Below_L1 mp0 mp1 mp2 np0 np1 np2 linkp (Int.toNat (mp0 - 0) + 1) ([]) 0 ∧ Int.toNat (mp0 - x8) < r ∧ (0 ≤ x8) ∧ ((out7.length : Int) ≤ x8) ∧ E a' 79 [(2, .slice linkpA linkp.length linkpC), (3, .pointer (some ⟨b6, 0, none⟩)), (4, .pointer (some ⟨b12, 0, none⟩)), (7, .slice out7A ((out7).length) out7C), (8, .int .i64 x8)] ∧ St w w' [.own 2 1 out7A ((out7).length) out7C out7, .blk b12 #[.int .i64 np0, .slice np1A np1.length np1C, .slice np2A np2.length np2C] 38, .blk b6 #[.int .i64 mp0, .slice mp1A mp1.length mp1C, .slice mp2A mp2.length mp2C] 38, .rd 1 linkpA linkp.length linkpC linkp, .rd 1 np2A np2.length np2C np2, .rd 1 np1A np1.length np1C np1, .rd 1 mp2A mp2.length mp2C mp2, .rd 1 mp1A mp1.length mp1C mp1]) (r := (Int.toNat (mp0 - 0) + 1)) ?_ ?_
    · exact ⟨[], 0, some ⟨b21, 0, none⟩, 0, rfl, Nat.lt_succ_self _, (by first | omega | (simp only [List.length_replicate, sI_len]; omega) | (simp only [List.length_append, List.length_cons, List.length_nil, sI_len, cond_true, cond_false]; omega) | (simp only [List.length_append, List.length_cons, List.length_nil, sI_len, cond_eq_ite, apply_ite List.length]; split <;> simp only [List.length_append, List.length_cons, List.length_nil, sI_len] <;> omega) | grind), (by first | omega | (simp only [List.length_replicate, sI_len]; omega) | (simp only [List.length_append, List.length_cons, List.length_nil, sI_len, cond_true, cond_false]; omega) | (simp only [List.length_append, List.length_cons, List.length_nil, sI_len, cond_eq_ite, apply_ite List.length]; split <;> simp only [List.length_append, List.length_cons, List.length_nil, sI_len] <;> omega) | grind), (by rw [(St.rdO (i := 0) hS25 rfl).len1]; exact (hE32.sub (L' := [(2, .slice linkpA linkp.length linkpC), (3, .pointer (some ⟨b6, 0, none⟩)), (4, .pointer (some ⟨b12, 0, none⟩)), (7, .slice (some ⟨b21, 0, none⟩) 0 0), (8, .int .i64 0)]) ⟨rfl, rfl, rfl, rfl, rfl, trivial⟩)), (by rw [(St.rdO (i := 0) hS25 rfl).len1]; exact (St.pick (Γ' := [.own 2 1 (some ⟨b21, 0, none⟩) 0 0 ([]), .blk b12 #[.int .i64 np0, .slice np1A np1.length np1C, .slice np2A np2.length np2C] 38, .blk b6 #[.int .i64 mp0, .slice mp1A mp1.length mp1C, .slice mp2A mp2.length mp2C] 38, .rd 1 linkpA linkp.length linkpC linkp, .rd 1 np2A np2.length np2C np2, .rd 1 np1A np1.length np1C np1, .rd 1 mp2A mp2.length mp2C mp2, .rd 1 mp1A mp1.length mp1C mp1]) hS25 [0, 1, 2, 3, 4, 5, 6, 7] (by decide) rfl))⟩
    ·
      clear hE32 hS25
      rintro r42 a34 w35 ⟨out7, x8, out7A, out7C, hT38, hr39, hi40, hi41, hE36, hS37⟩
      obtain ⟨r42, rfl⟩ : ∃ r', r42 = r' + 1 := ⟨r42 - 1, by omega⟩
      refine c_seq ?_
      refine c_seq ?_
      refine c_reg ?_
      refine q_step (v := .int .i64 x8) hE36 (y_move rfl) rfl rfl rfl ?_; intro a43 hE44; clear hE36
      refine q_step (v := .pointer (some ⟨b6, 0, none⟩)) hE44 (y_field rfl (fun _ => by kernel_rfl)) rfl rfl rfl ?_; intro a45 hE46; clear hE44
      refine q_step (v := .pointer (some ⟨b6, 0, none⟩)) hE46 (y_field rfl (fun _ => by kernel_rfl)) rfl rfl rfl ?_; intro a47 hE48; clear hE46
      refine q_step (v := .int .i64 mp0) hE48 (y_load (fun _ => by kernel_rfl) rfl (St.cell (i := 2) hS37 rfl rfl)) rfl rfl rfl ?_; intro a49 hE50; clear hE48
      refine q_step (v := .bool (decide (x8 < mp0))) hE50 (y_lss rfl rfl) rfl rfl rfl ?_; intro a51 hE52; clear hE50
      refine c_nil ?_
      have hE53 := hE52.sub (L' := [(2, .slice linkpA linkp.length linkpC), (3, .pointer (some ⟨b6, 0, none⟩)), (4, .pointer (some ⟨b12, 0, none⟩)), (7, .slice out7A ((out7).length) out7C), (8, .int .i64 x8), (18, .bool (decide (x8 < mp0)))]) ⟨rfl, rfl, rfl, rfl, rfl, rfl, trivial⟩; clear hE52
      refine p_tn ?_
      refine c_cond hE53 rfl (fun ht54 => ?_) (fun ht54 => ?_)
      ·
        have hp55 := of_decide_eq_true ht54
        have hE56 := hE53; rw [ht54] at hE56; clear hE53
        refine wp_skip ?_
        refine p_tn ?_
        refine c_seq ?_
        refine wp_block ?_
        refine c_seq ?_
        refine c_reg ?_
        refine q_step (v := .int .i64 0) hE56 (y_assign rfl) rfl rfl rfl ?_; intro a57 hE58; clear hE56
        refine c_nil ?_
        have hE59 := hE58.sub (L' := [(2, .slice linkpA linkp.length linkpC), (3, .pointer (some ⟨b6, 0, none⟩)), (4, .pointer (some ⟨b12, 0, none⟩)), (7, .slice out7A ((out7).length) out7C), (8, .int .i64 x8), (9, .int .i64 0)]) ⟨rfl, rfl, rfl, rfl, rfl, rfl, trivial⟩; clear hE58
        refine p_tn ?_
        refine c_seq ?_
        refine c_seq ?_
        refine c_reg ?_
        refine q_step (v := .int .i64 0) hE59 (y_assign rfl) rfl rfl rfl ?_; intro a60 hE61; clear hE59
        refine c_nil ?_
        have hE62 := hE61.sub (L' := [(2, .slice linkpA linkp.length linkpC), (3, .pointer (some ⟨b6, 0, none⟩)), (4, .pointer (some ⟨b12, 0, none⟩)), (7, .slice out7A ((out7).length) out7C), (8, .int .i64 x8), (9, .int .i64 0), (10, .int .i64 0)]) ⟨rfl, rfl, rfl, rfl, rfl, rfl, rfl, trivial⟩; clear hE61
        refine p_tn ?_
        refine c_cut1 (fun a' w' => (0 ≤ ((F_l07Below_L2 mp1 mp2 np0 np1 np2 linkp x8 (Int.toNat (np0 - 0) + 1) 0 0).2)) ∧ E a' 79 [(2, .slice linkpA linkp.length linkpC), (3, .pointer (some ⟨b6, 0, none⟩)), (4, .pointer (some ⟨b12, 0, none⟩)), (7, .slice out7A ((out7).length) out7C), (8, .int .i64 x8), (9, .int .i64 ((F_l07Below_L2 mp1 mp2 np0 np1 np2 linkp x8 (Int.toNat (np0 - 0) + 1) 0 0).1)), (10, .int .i64 ((F_l07Below_L2 mp1 mp2 np0 np1 np2 linkp x8 (Int.toNat (np0 - 0) + 1) 0 0).2))] ∧ St w w' [.own 2 1 out7A ((out7).length) out7C out7, .blk b12 #[.int .i64 np0, .slice np1A np1.length np1C, .slice np2A np2.length np2C] 38, .blk b6 #[.int .i64 mp0, .slice mp1A mp1.length mp1C, .slice mp2A mp2.length mp2C] 38, .rd 1 linkpA linkp.length linkpC linkp, .rd 1 np2A np2.length np2C np2, .rd 1 np1A np1.length np1C np1, .rd 1 mp2A mp2.length mp2C mp2, .rd 1 mp1A mp1.length mp1C mp1]) ?_ ?_
        ·
          refine wp_block ?_
          refine c_loop (fun r a' w' => ∃ mask9L2 : Int, ∃ y10L2 : Int, F_l07Below_L2 mp1 mp2 np0 np1 np2 linkp x8 r mask9L2 y10L2 = F_l07Below_L2 mp1 mp2 np0 np1 np2 linkp x8 (Int.toNat (np0 - 0) + 1) 0 0 ∧ Int.toNat (np0 - y10L2) < r ∧ (0 ≤ y10L2) ∧ E a' 79 [(2, .slice linkpA linkp.length linkpC), (3, .pointer (some ⟨b6, 0, none⟩)), (4, .pointer (some ⟨b12, 0, none⟩)), (7, .slice out7A ((out7).length) out7C), (8, .int .i64 x8), (9, .int .i64 mask9L2), (10, .int .i64 y10L2)] ∧ St w w' [.own 2 1 out7A ((out7).length) out7C out7, .blk b12 #[.int .i64 np0, .slice np1A np1.length np1C, .slice np2A np2.length np2C] 38, .blk b6 #[.int .i64 mp0, .slice mp1A mp1.length mp1C, .slice mp2A mp2.length mp2C] 38, .rd 1 linkpA linkp.length linkpC linkp, .rd 1 np2A np2.length np2C np2, .rd 1 np1A np1.length np1C np1, .rd 1 mp2A mp2.length mp2C mp2, .rd 1 mp1A mp1.length mp1C mp1]) (r := (Int.toNat (np0 - 0) + 1)) ?_ ?_
          · exact ⟨0, 0, rfl, Nat.lt_succ_self _, (by first | omega | (simp only [List.length_replicate, sI_len]; omega) | (simp only [List.length_append, List.length_cons, List.length_nil, sI_len, cond_true, cond_false]; omega) | (simp only [List.length_append, List.length_cons, List.length_nil, sI_len, cond_eq_ite, apply_ite List.length]; split <;> simp only [List.length_append, List.length_cons, List.length_nil, sI_len] <;> omega) | grind), (hE62.sub (L' := [(2, .slice linkpA linkp.length linkpC), (3, .pointer (some ⟨b6, 0, none⟩)), (4, .pointer (some ⟨b12, 0, none⟩)), (7, .slice out7A ((out7).length) out7C), (8, .int .i64 x8), (9, .int .i64 0), (10, .int .i64 0)]) ⟨rfl, rfl, rfl, rfl, rfl, rfl, rfl, trivial⟩), (St.pick (Γ' := [.own 2 1 out7A ((out7).length) out7C out7, .blk b12 #[.int .i64 np0, .slice np1A np1.length np1C, .slice np2A np2.length np2C] 38, .blk b6 #[.int .i64 mp0, .slice mp1A mp1.length mp1C, .slice mp2A mp2.length mp2C] 38, .rd 1 linkpA linkp.length linkpC linkp, .rd 1 np2A np2.length np2C np2, .rd 1 np1A np1.length np1C np1, .rd 1 mp2A mp2.length mp2C mp2, .rd 1 mp1A mp1.length mp1C mp1]) hS37 [0, 1, 2, 3, 4, 5, 6, 7] (by decide) rfl)⟩
          ·
            clear hE62 hS37
            rintro r71 a64 w65 ⟨mask9L2, y10L2, hT68, hr69, hi70, hE66, hS67⟩
            obtain ⟨r71, rfl⟩ : ∃ r', r71 = r' + 1 := ⟨r71 - 1, by omega⟩
            refine c_seq ?_
            refine c_seq ?_
            refine c_reg ?_
            refine q_step (v := .int .i64 y10L2) hE66 (y_move rfl) rfl rfl rfl ?_; intro a72 hE73; clear hE66
            refine q_step (v := .pointer (some ⟨b12, 0, none⟩)) hE73 (y_field rfl (fun _ => by kernel_rfl)) rfl rfl rfl ?_; intro a74 hE75; clear hE73
            refine q_step (v := .pointer (some ⟨b12, 0, none⟩)) hE75 (y_field rfl (fun _ => by kernel_rfl)) rfl rfl rfl ?_; intro a76 hE77; clear hE75
            refine q_step (v := .int .i64 np0) hE77 (y_load (fun _ => by kernel_rfl) rfl (St.cell (i := 1) hS67 rfl rfl)) rfl rfl rfl ?_; intro a78 hE79; clear hE77
            refine q_step (v := .bool (decide (y10L2 < np0))) hE79 (y_lss rfl rfl) rfl rfl rfl ?_; intro a80 hE81; clear hE79
            refine c_nil ?_
            have hE82 := hE81.sub (L' := [(2, .slice linkpA linkp.length linkpC), (3, .pointer (some ⟨b6, 0, none⟩)), (4, .pointer (some ⟨b12, 0, none⟩)), (7, .slice out7A ((out7).length) out7C), (8, .int .i64 x8), (9, .int .i64 mask9L2), (10, .int .i64 y10L2), (25, .bool (decide (y10L2 < np0)))]) ⟨rfl, rfl, rfl, rfl, rfl, rfl, rfl, rfl, trivial⟩; clear hE81
            refine p_tn ?_
            refine c_cond hE82 rfl (fun ht83 => ?_) (fun ht83 => ?_)
            ·
              have hp84 := of_decide_eq_true ht83
              have hE85 := hE82; rw [ht83] at hE85; clear hE82
              refine wp_skip ?_
              refine p_tn ?_
              refine c_cut (fun a' w' => E a' 79 [(2, .slice linkpA linkp.length linkpC), (3, .pointer (some ⟨b6, 0, none⟩)), (4, .pointer (some ⟨b12, 0, none⟩)), (7, .slice out7A ((out7).length) out7C), (8, .int .i64 x8), (9, .int .i64 (bif ((F_l07Below_L3 mp2 np2 x8 y10L2 (Int.toNat ((mp2.length : Int) - 0) + 1) (F_l07Forth linkp (gI mp1 x8) (gI np1 y10L2)) 0).1) then orI mask9L2 (powI y10L2) else mask9L2)), (10, .int .i64 y10L2)] ∧ St w w' [.own 2 1 out7A ((out7).length) out7C out7, .rd 1 np1A np1.length np1C np1, .rd 1 np2A np2.length np2C np2, .blk b12 #[.int .i64 np0, .slice np1A np1.length np1C, .slice np2A np2.length np2C] 38, .rd 1 mp1A mp1.length mp1C mp1, .rd 1 mp2A mp2.length mp2C mp2, .blk b6 #[.int .i64 mp0, .slice mp1A mp1.length mp1C, .slice mp2A mp2.length mp2C] 38, .rd 1 linkpA linkp.length linkpC linkp]) ?_ ?_
              ·
                refine wp_block ?_
                refine c_seq ?_
                refine d_start (fun w' => w'.cell? ⟨b6, 1, none⟩ = some (.slice mp1A mp1.length mp1C) ∧ w'.cell? (adr mp1A (Int.toNat x8)) = some (.int .i64 (gI mp1 x8)) ∧ w'.cell? ⟨b12, 1, none⟩ = some (.slice np1A np1.length np1C) ∧ w'.cell? (adr np1A (Int.toNat y10L2)) = some (.int .i64 (gI np1 y10L2)) ∧ True) [3, 6, 9, 12] 15 (by kernel_rfl) rfl ?_
                intro w86 he87; have hS88 := St.go hS67 he87; clear hS67
                refine d_pure (v := .slice linkpA linkp.length linkpC) 0 rfl hE85 (y_move rfl) rfl (by kernel_rfl) (by kernel_rfl) (by kernel_rfl) rfl rfl (fun _ _ _ h => h) ?_; intro a89 hE90; clear hE85
                refine d_pure (v := .pointer (some ⟨b6, 0, none⟩)) 1 rfl hE90 (y_field rfl (fun _ => by kernel_rfl)) rfl (by kernel_rfl) (by kernel_rfl) (by kernel_rfl) rfl rfl (fun _ _ _ h => h) ?_; intro a91 hE92; clear hE90
                refine d_pure (v := .pointer (some ⟨b6, 1, none⟩)) 2 rfl hE92 (y_field rfl (fun _ => by kernel_rfl)) rfl (by kernel_rfl) (by kernel_rfl) (by kernel_rfl) rfl rfl (fun _ _ _ h => h) ?_; intro a93 hE94; clear hE92
                refine d_take (v := .slice mp1A mp1.length mp1C) 3 rfl hE94 ⟨(St.cell (i := 2) hS88 rfl rfl _ (Ext.refl _)), (RdS.elt (St.rdR (i := 7) hS88 rfl) (by omega) (by omega) _ (Ext.refl _)), (St.cell (i := 1) hS88 rfl rfl _ (Ext.refl _)), (RdS.elt (St.rdR (i := 5) hS88 rfl) (by omega) (by omega) _ (Ext.refl _)), trivial⟩ (y_load (fun _ => by kernel_rfl) rfl (fun _ h => h.1)) rfl rfl (by kernel_rfl) (by kernel_rfl) (by kernel_rfl) rfl rfl (fun _ _ _ h => h) ?_; intro a95 hE96; clear hE94
                refine d_pure (v := .int .i64 x8) 4 rfl hE96 (y_move rfl) rfl (by kernel_rfl) (by kernel_rfl) (by kernel_rfl) rfl rfl (fun _ _ _ h => h) ?_; intro a97 hE98; clear hE96
                refine d_pure (v := .pointer (some (adr mp1A (Int.toNat x8)))) 5 rfl hE98 (y_idx (by kernel_rfl) (fun _ => by kernel_rfl) rfl rfl (RdS.isS (m := x8) (St.rdR (i := 7) hS88 rfl) (by omega) (by omega)) (by omega) (by omega) (Nat.mul_one _).symm) rfl (by kernel_rfl) (by kernel_rfl) (by kernel_rfl) rfl rfl (fun _ _ _ h => h) ?_; intro a99 hE100; clear hE98
                refine d_take (v := .int .i64 (gI mp1 x8)) 6 rfl hE100 ⟨(St.cell (i := 2) hS88 rfl rfl _ (Ext.refl _)), (RdS.elt (St.rdR (i := 7) hS88 rfl) (by omega) (by omega) _ (Ext.refl _)), (St.cell (i := 1) hS88 rfl rfl _ (Ext.refl _)), (RdS.elt (St.rdR (i := 5) hS88 rfl) (by omega) (by omega) _ (Ext.refl _)), trivial⟩ (y_load (fun _ => by kernel_rfl) rfl (fun _ h => h.2.1)) rfl rfl (by kernel_rfl) (by kernel_rfl) (by kernel_rfl) rfl rfl (fun _ _ _ h => h) ?_; intro a101 hE102; clear hE100
                refine d_pure (v := .pointer (some ⟨b12, 0, none⟩)) 7 rfl hE102 (y_field rfl (fun _ => by kernel_rfl)) rfl (by kernel_rfl) (by kernel_rfl) (by kernel_rfl) rfl rfl (fun _ _ _ h => h) ?_; intro a103 hE104; clear hE102
                refine d_pure (v := .pointer (some ⟨b12, 1, none⟩)) 8 rfl hE104 (y_field rfl (fun _ => by kernel_rfl)) rfl (by kernel_rfl) (by kernel_rfl) (by kernel_rfl) rfl rfl (fun _ _ _ h => h) ?_; intro a105 hE106; clear hE104
                refine d_take (v := .slice np1A np1.length np1C) 9 rfl hE106 ⟨(St.cell (i := 2) hS88 rfl rfl _ (Ext.refl _)), (RdS.elt (St.rdR (i := 7) hS88 rfl) (by omega) (by omega) _ (Ext.refl _)), (St.cell (i := 1) hS88 rfl rfl _ (Ext.refl _)), (RdS.elt (St.rdR (i := 5) hS88 rfl) (by omega) (by omega) _ (Ext.refl _)), trivial⟩ (y_load (fun _ => by kernel_rfl) rfl (fun _ h => h.2.2.1)) rfl rfl (by kernel_rfl) (by kernel_rfl) (by kernel_rfl) rfl rfl (fun _ _ _ h => h) ?_; intro a107 hE108; clear hE106
                refine d_pure (v := .int .i64 y10L2) 10 rfl hE108 (y_move rfl) rfl (by kernel_rfl) (by kernel_rfl) (by kernel_rfl) rfl rfl (fun _ _ _ h => h) ?_; intro a109 hE110; clear hE108
                refine d_pure (v := .pointer (some (adr np1A (Int.toNat y10L2)))) 11 rfl hE110 (y_idx (by kernel_rfl) (fun _ => by kernel_rfl) rfl rfl (RdS.isS (m := y10L2) (St.rdR (i := 5) hS88 rfl) (by omega) (by omega)) (by omega) (by omega) (Nat.mul_one _).symm) rfl (by kernel_rfl) (by kernel_rfl) (by kernel_rfl) rfl rfl (fun _ _ _ h => h) ?_; intro a111 hE112; clear hE110
                refine d_take (v := .int .i64 (gI np1 y10L2)) 12 rfl hE112 ⟨(St.cell (i := 2) hS88 rfl rfl _ (Ext.refl _)), (RdS.elt (St.rdR (i := 7) hS88 rfl) (by omega) (by omega) _ (Ext.refl _)), (St.cell (i := 1) hS88 rfl rfl _ (Ext.refl _)), (RdS.elt (St.rdR (i := 5) hS88 rfl) (by omega) (by omega) _ (Ext.refl _)), trivial⟩ (y_load (fun _ => by kernel_rfl) rfl (fun _ h => h.2.2.2.1)) rfl rfl (by kernel_rfl) (by kernel_rfl) (by kernel_rfl) rfl rfl (fun _ _ _ h => h) ?_; intro a113 hE114; clear hE112
                refine d_only 13 (by kernel_rfl) rfl hE114 rfl (l_call (f := 137) (argv := [.slice linkpA linkp.length linkpC, .int .i64 (gI mp1 x8), .int .i64 (gI np1 y10L2)]) hE114 (fun _ => cf_l07Forth _ _) rfl rfl (c_l07Forth linkpA linkp.length linkpC linkp (gI mp1 x8) (gI np1 y10L2) w86 (St.rdR (i := 3) hS88 rfl) (by omega)) ?_)
                rintro _ w116 ⟨rfl, he120⟩ a117 hE118; clear hE114
                have hS119 := St.go hS88 he120; clear hS88
                refine ⟨fun _ _ => ⟨(St.cell (i := 2) hS119 rfl rfl _ (Ext.refl _)), (RdS.elt (St.rdR (i := 7) hS119 rfl) (by omega) (by omega) _ (Ext.refl _)), (St.cell (i := 1) hS119 rfl rfl _ (Ext.refl _)), (RdS.elt (St.rdR (i := 5) hS119 rfl) (by omega) (by omega) _ (Ext.refl _)), trivial⟩, ?_⟩
                refine d_pure (v := .bool (F_l07Forth linkp (gI mp1 x8) (gI np1 y10L2))) 14 rfl hE118 (y_assign rfl) rfl (by kernel_rfl) (by kernel_rfl) (by kernel_rfl) rfl rfl (fun _ _ _ h => h) ?_; intro a121 hE122; clear hE118
                refine d_done (by kernel_rfl) ?_
                have hE123 := hE122.sub (L' := [(2, .slice linkpA linkp.length linkpC), (3, .pointer (some ⟨b6, 0, none⟩)), (4, .pointer (some ⟨b12, 0, none⟩)), (7, .slice out7A ((out7).length) out7C), (8, .int .i64 x8), (9, .int .i64 mask9L2), (10, .int .i64 y10L2), (11, .bool (F_l07Forth linkp (gI mp1 x8) (gI np1 y10L2)))]) ⟨rfl, rfl, rfl, rfl, rfl, rfl, rfl, rfl, trivial⟩; clear hE122
                refine p_tn ?_
                refine c_seq ?_
                refine c_seq ?_
                refine c_reg ?_
                refine q_step (v := .int .i64 0) hE123 (y_assign rfl) rfl rfl rfl ?_; intro a124 hE125; clear hE123
                refine c_nil ?_
                have hE126 := hE125.sub (L' := [(2, .slice linkpA linkp.length linkpC), (3, .pointer (some ⟨b6, 0, none⟩)), (4, .pointer (some ⟨b12, 0, none⟩)), (7, .slice out7A ((out7).length) out7C), (8, .int .i64 x8), (9, .int .i64 mask9L2), (10, .int .i64 y10L2), (11, .bool (F_l07Forth linkp (gI mp1 x8) (gI np1 y10L2))), (12, .int .i64 0)]) ⟨rfl, rfl, rfl, rfl, rfl, rfl, rfl, rfl, rfl, trivial⟩; clear hE125
                refine p_tn ?_
                refine c_cut1 (fun a' w' => (0 ≤ ((F_l07Below_L3 mp2 np2 x8 y10L2 (Int.toNat ((mp2.length : Int) - 0) + 1) (F_l07Forth linkp (gI mp1 x8) (gI np1 y10L2)) 0).2)) ∧ (((F_l07Below_L3 mp2 np2 x8 y10L2 (Int.toNat ((mp2.length : Int) - 0) + 1) (F_l07Forth linkp (gI mp1 x8) (gI np1 y10L2)) 0).2) ≤ (mp2.length : Int)) ∧ E a' 79 [(2, .slice linkpA linkp.length linkpC), (3, .pointer (some ⟨b6, 0, none⟩)), (4, .pointer (some ⟨b12, 0, none⟩)), (7, .slice out7A ((out7).length) out7C), (8, .int .i64 x8), (9, .int .i64 mask9L2), (10, .int .i64 y10L2), (11, .bool ((F_l07Below_L3 mp2 np2 x8 y10L2 (Int.toNat ((mp2.length : Int) - 0) + 1) (F_l07Forth linkp (gI mp1 x8) (gI np1 y10L2)) 0).1)), (12, .int .i64 ((F_l07Below_L3 mp2 np2 x8 y10L2 (Int.toNat ((mp2.length : Int) - 0) + 1) (F_l07Forth linkp (gI mp1 x8) (gI np1 y10L2)) 0).2))] ∧ St w w' [.own 2 1 out7A ((out7).length) out7C out7, .blk b12 #[.int .i64 np0, .slice np1A np1.length np1C, .slice np2A np2.length np2C] 38, .blk b6 #[.int .i64 mp0, .slice mp1A mp1.length mp1C, .slice mp2A mp2.length mp2C] 38, .rd 1 linkpA linkp.length linkpC linkp, .rd 1 np2A np2.length np2C np2, .rd 1 np1A np1.length np1C np1, .rd 1 mp2A mp2.length mp2C mp2, .rd 1 mp1A mp1.length mp1C mp1]) ?_ ?_
                ·
                  refine wp_block ?_
                  refine c_loop (fun r a' w' => ∃ good11L3 : Bool, ∃ v12L3 : Int, F_l07Below_L3 mp2 np2 x8 y10L2 r good11L3 v12L3 = F_l07Below_L3 mp2 np2 x8 y10L2 (Int.toNat ((mp2.length : Int) - 0) + 1) (F_l07Forth linkp (gI mp1 x8) (gI np1 y10L2)) 0 ∧ Int.toNat ((mp2.length : Int) - v12L3) < r ∧ (0 ≤ v12L3) ∧ (v12L3 ≤ (mp2.length : Int)) ∧ E a' 79 [(2, .slice linkpA linkp.length linkpC), (3, .pointer (some ⟨b6, 0, none⟩)), (4, .pointer (some ⟨b12, 0, none⟩)), (7, .slice out7A ((out7).length) out7C), (8, .int .i64 x8), (9, .int .i64 mask9L2), (10, .int .i64 y10L2), (11, .bool good11L3), (12, .int .i64 v12L3)] ∧ St w w' [.own 2 1 out7A ((out7).length) out7C out7, .blk b12 #[.int .i64 np0, .slice np1A np1.length np1C, .slice np2A np2.length np2C] 38, .blk b6 #[.int .i64 mp0, .slice mp1A mp1.length mp1C, .slice mp2A mp2.length mp2C] 38, .rd 1 linkpA linkp.length linkpC linkp, .rd 1 np2A np2.length np2C np2, .rd 1 np1A np1.length np1C np1, .rd 1 mp2A mp2.length mp2C mp2, .rd 1 mp1A mp1.length mp1C mp1]) (r := (Int.toNat ((mp2.length : Int) - 0) + 1)) ?_ ?_
                  · exact ⟨F_l07Forth linkp (gI mp1 x8) (gI np1 y10L2), 0, rfl, Nat.lt_succ_self _, (by first | omega | (simp only [List.length_replicate, sI_len]; omega) | (simp only [List.length_append, List.length_cons, List.length_nil, sI_len, cond_true, cond_false]; omega) | (simp only [List.length_append, List.length_cons, List.length_nil, sI_len, cond_eq_ite, apply_ite List.length]; split <;> simp only [List.length_append, List.length_cons, List.length_nil, sI_len] <;> omega) | grind), (by first | omega | (simp only [List.length_replicate, sI_len]; omega) | (simp only [List.length_append, List.length_cons, List.length_nil, sI_len, cond_true, cond_false]; omega) | (simp only [List.length_append, List.length_cons, List.length_nil, sI_len, cond_eq_ite, apply_ite List.length]; split <;> simp only [List.length_append, List.length_cons, List.length_nil, sI_len] <;> omega) | grind), (hE126.sub (L' := [(2, .slice linkpA linkp.length linkpC), (3, .pointer (some ⟨b6, 0, none⟩)), (4, .pointer (some ⟨b12, 0, none⟩)), (7, .slice out7A ((out7).length) out7C), (8, .int .i64 x8), (9, .int .i64 mask9L2), (10, .int .i64 y10L2), (11, .bool (F_l07Forth linkp (gI mp1 x8) (gI np1 y10L2))), (12, .int .i64 0)]) ⟨rfl, rfl, rfl, rfl, rfl, rfl, rfl, rfl, rfl, trivial⟩), (St.pick (Γ' := [.own 2 1 out7A ((out7).length) out7C out7, .blk b12 #[.int .i64 np0, .slice np1A np1.length np1C, .slice np2A np2.length np2C] 38, .blk b6 #[.int .i64 mp0, .slice mp1A mp1.length mp1C, .slice mp2A mp2.length mp2C] 38, .rd 1 linkpA linkp.length linkpC linkp, .rd 1 np2A np2.length np2C np2, .rd 1 np1A np1.length np1C np1, .rd 1 mp2A mp2.length mp2C mp2, .rd 1 mp1A mp1.length mp1C mp1]) hS119 [0, 1, 2, 3, 4, 5, 6, 7] (by decide) rfl)⟩
                  ·
                    clear hE126 hS119
                    rintro r136 a128 w129 ⟨good11L3, v12L3, hT132, hr133, hi134, hi135, hE130, hS131⟩
                    obtain ⟨r136, rfl⟩ : ∃ r', r136 = r' + 1 := ⟨r136 - 1, by omega⟩
                    refine c_seq ?_
                    refine c_seq ?_
                    refine c_reg ?_
                    refine q_step (v := .int .i64 v12L3) hE130 (y_move rfl) rfl rfl rfl ?_; intro a137 hE138; clear hE130
                    refine q_step (v := .pointer (some ⟨b6, 2, none⟩)) hE138 (y_field rfl (fun _ => by kernel_rfl)) rfl rfl rfl ?_; intro a139 hE140; clear hE138
                    refine q_step (v := .slice mp2A mp2.length mp2C) hE140 (y_load (fun _ => by kernel_rfl) rfl (St.cell (i := 2) hS131 rfl rfl)) rfl rfl rfl ?_; intro a141 hE142; clear hE140
                    refine q_step (v := .int .i64 (mp2.length : Int)) hE142 (y_len (e := 2) (by kernel_rfl) rfl) rfl rfl rfl ?_; intro a143 hE144; clear hE142
                    refine q_step (v := .bool (decide (v12L3 < (mp2.length : Int)))) hE144 (y_lss rfl rfl) rfl rfl rfl ?_; intro a145 hE146; clear hE144
                    refine c_nil ?_
                    have hE147 := hE146.sub (L' := [(2, .slice linkpA linkp.length linkpC), (3, .pointer (some ⟨b6, 0, none⟩)), (4, .pointer (some ⟨b12, 0, none⟩)), (7, .slice out7A ((out7).length) out7C), (8, .int .i64 x8), (9, .int .i64 mask9L2), (10, .int .i64 y10L2), (11, .bool good11L3), (12, .int .i64 v12L3), (46, .bool (decide (v12L3 < (mp2.length : Int))))]) ⟨rfl, rfl, rfl, rfl, rfl, rfl, rfl, rfl, rfl, rfl, trivial⟩; clear hE146
                    refine p_tn ?_
                    refine c_cond hE147 rfl (fun ht148 => ?_) (fun ht148 => ?_)
                    ·
                      have hp149 := of_decide_eq_true ht148
                      have hE150 := hE147; rw [ht148] at hE150; clear hE147
                      refine wp_skip ?_
                      refine p_tn ?_
                      refine c_cut (fun a' w' => E a' 79 [(2, .slice linkpA linkp.length linkpC), (3, .pointer (some ⟨b6, 0, none⟩)), (4, .pointer (some ⟨b12, 0, none⟩)), (7, .slice out7A ((out7).length) out7C), (8, .int .i64 x8), (9, .int .i64 mask9L2), (10, .int .i64 y10L2), (11, .bool (good11L3 && ((!(F_l01Bit (gI mp2 v12L3) x8)) || (F_l01Bit (gI np2 v12L3) y10L2)))), (12, .int .i64 v12L3)] ∧ St w w' [.own 2 1 out7A ((out7).length) out7C out7, .rd 1 np1A np1.length np1C np1, .rd 1 np2A np2.length np2C np2, .blk b12 #[.int .i64 np0, .slice np1A np1.length np1C, .slice np2A np2.length np2C] 38, .rd 1 mp1A mp1.length mp1C mp1, .rd 1 mp2A mp2.length mp2C mp2, .blk b6 #[.int .i64 mp0, .slice mp1A mp1.length mp1C, .slice mp2A mp2.length mp2C] 38, .rd 1 linkpA linkp.length linkpC linkp]) ?_ ?_
                      ·
                        refine wp_block ?_
                        refine c_reg ?_
                        refine q_step (v := .bool good11L3) hE150 (y_move rfl) rfl rfl rfl ?_; intro a151 hE152; clear hE150
                        refine q_step (v := .bool good11L3) hE152 (y_move rfl) rfl rfl rfl ?_; intro a153 hE154; clear hE152
                        rcases Bool.eq_false_or_eq_true good11L3 with hb155 | hb155
                        ·
                          have hE156 := hE154; rw [hb155] at hE156; clear hE154
                          refine q_step (v := .pointer (some ⟨b6, 2, none⟩)) hE156 (y_field rfl (fun _ => by kernel_rfl)) rfl rfl rfl ?_; intro a157 hE158; clear hE156
                          refine q_step (v := .slice mp2A mp2.length mp2C) hE158 (y_load (fun _ => by kernel_rfl) rfl (St.cell (i := 2) hS131 rfl rfl)) rfl rfl rfl ?_; intro a159 hE160; clear hE158
                          refine q_step (v := .int .i64 v12L3) hE160 (y_move rfl) rfl rfl rfl ?_; intro a161 hE162; clear hE160
                          refine q_step (v := .pointer (some (adr mp2A (Int.toNat v12L3)))) hE162 (y_idx (by kernel_rfl) (fun _ => by kernel_rfl) rfl rfl (RdS.isS (m := v12L3) (St.rdR (i := 6) hS131 rfl) (by omega) (by omega)) (by omega) (by omega) (Nat.mul_one _).symm) rfl rfl rfl ?_; intro a163 hE164; clear hE162
                          refine q_step (v := .int .i64 (gI mp2 v12L3)) hE164 (y_load (fun _ => by kernel_rfl) rfl (RdS.elt (St.rdR (i := 6) hS131 rfl) (by omega) (by omega))) rfl rfl rfl ?_; intro a165 hE166; clear hE164
                          refine q_step (v := .int .i64 x8) hE166 (y_move rfl) rfl rfl rfl ?_; intro a167 hE168; clear hE166
                          refine l_step hE168 rfl (l_call (f := 79) (argv := [.int .i64 (gI mp2 v12L3), .int .i64 x8]) hE168 (fun _ => cf_l01Bit _ _) rfl rfl (c_l01Bit (gI mp2 v12L3) x8 w129 (by omega) (by omega)) ?_)
                          rintro _ _ ⟨rfl, rfl⟩ a171 hE172; clear hE168
                          refine q_step (v := .bool (!(F_l01Bit (gI mp2 v12L3) x8))) hE172 (y_not rfl) rfl rfl rfl ?_; intro a175 hE176; clear hE172
                          refine q_step (v := .bool (!(F_l01Bit (gI mp2 v12L3) x8))) hE176 (y_move rfl) rfl rfl rfl ?_; intro a177 hE178; clear hE176
                          rcases Bool.eq_false_or_eq_true (!(F_l01Bit (gI mp2 v12L3) x8)) with hb179 | hb179
                          ·
                            have hE180 := hE178; rw [hb179] at hE180; clear hE178
                            have ht181 := bn_t hb179
                            refine q_skip hE180 rfl rfl rfl ?_; intro a182 hE183; clear hE180
                            refine q_skip hE183 rfl rfl rfl ?_; intro a184 hE185; clear hE183
                            refine q_skip hE185 rfl rfl rfl ?_; intro a186 hE187; clear hE185
                            refine q_skip hE187 rfl rfl rfl ?_; intro a188 hE189; clear hE187
                            refine q_skip hE189 rfl rfl rfl ?_; intro a190 hE191; clear hE189
                            refine q_skip hE191 rfl rfl rfl ?_; intro a192 hE193; clear hE191
                            refine q_skip hE193 rfl rfl rfl ?_; intro a194 hE195; clear hE193
                            refine q_step (v := .bool true) hE195 (y_pick (b := true) rfl rfl) rfl rfl rfl ?_; intro a196 hE197; clear hE195
                            refine q_step (v := .bool true) hE197 (y_pick (b := true) rfl rfl) rfl rfl rfl ?_; intro a198 hE199; clear hE197
                            refine q_step (v := .bool true) hE199 (y_assign rfl) rfl rfl rfl ?_; intro a200 hE201; clear hE199
                            refine c_nil ?_
                            have hE202 := hE201.sub (L' := [(2, .slice linkpA linkp.length linkpC), (3, .pointer (some ⟨b6, 0, none⟩)), (4, .pointer (some ⟨b12, 0, none⟩)), (7, .slice out7A ((out7).length) out7C), (8, .int .i64 x8), (9, .int .i64 mask9L2), (10, .int .i64 y10L2), (11, .bool true), (12, .int .i64 v12L3)]) ⟨rfl, rfl, rfl, rfl, rfl, rfl, rfl, rfl, rfl, trivial⟩; clear hE201
                            refine p_bn ?_
                            refine p_tn ?_
                            have hE203 := hE202.sub (L' := [(2, .slice linkpA linkp.length linkpC), (3, .pointer (some ⟨b6, 0, none⟩)), (4, .pointer (some ⟨b12, 0, none⟩)), (7, .slice out7A ((out7).length) out7C), (8, .int .i64 x8), (9, .int .i64 mask9L2), (10, .int .i64 y10L2), (11, .bool true), (12, .int .i64 v12L3)]) ⟨rfl, rfl, rfl, rfl, rfl, rfl, rfl, rfl, rfl, trivial⟩
                            have hS204 := (St.pick (Γ' := [.own 2 1 out7A ((out7).length) out7C out7, .rd 1 np1A np1.length np1C np1, .rd 1 np2A np2.length np2C np2, .blk b12 #[.int .i64 np0, .slice np1A np1.length np1C, .slice np2A np2.length np2C] 38, .rd 1 mp1A mp1.length mp1C mp1, .rd 1 mp2A mp2.length mp2C mp2, .blk b6 #[.int .i64 mp0, .slice mp1A mp1.length mp1C, .slice mp2A mp2.length mp2C] 38, .rd 1 linkpA linkp.length linkpC linkp]) hS131 [0, 5, 4, 1, 7, 6, 2, 3] (by decide) rfl)
                            exact ⟨(by rw [hb179, hb155]; exact hE203), hS204⟩
                          ·
                            have hE205 := hE178; rw [hb179] at hE205; clear hE178
                            have ht206 := bn_f hb179
                            refine q_step (v := .pointer (some ⟨b12, 2, none⟩)) hE205 (y_field rfl (fun _ => by kernel_rfl)) rfl rfl rfl ?_; intro a207 hE208; clear hE205
                            refine q_step (v := .slice np2A np2.length np2C) hE208 (y_load (fun _ => by kernel_rfl) rfl (St.cell (i := 1) hS131 rfl rfl)) rfl rfl rfl ?_; intro a209 hE210; clear hE208
                            refine q_step (v := .int .i64 v12L3) hE210 (y_move rfl) rfl rfl rfl ?_; intro a211 hE212; clear hE210
                            refine q_step (v := .pointer (some (adr np2A (Int.toNat v12L3)))) hE212 (y_idx (by kernel_rfl) (fun _ => by kernel_rfl) rfl rfl (RdS.isS (m := v12L3) (St.rdR (i := 4) hS131 rfl) (by omega) (by omega)) (by omega) (by omega) (Nat.mul_one _).symm) rfl rfl rfl ?_; intro a213 hE214; clear hE212
                            refine q_step (v := .int .i64 (gI np2 v12L3)) hE214 (y_load (fun _ => by kernel_rfl) rfl (RdS.elt (St.rdR (i := 4) hS131 rfl) (by omega) (by omega))) rfl rfl rfl ?_; intro a215 hE216; clear hE214
                            refine q_step (v := .int .i64 y10L2) hE216 (y_move rfl) rfl rfl rfl ?_; intro a217 hE218; clear hE216
                            refine l_step hE218 rfl (l_call (f := 79) (argv := [.int .i64 (gI np2 v12L3), .int .i64 y10L2]) hE218 (fun _ => cf_l01Bit _ _) rfl rfl (c_l01Bit (gI np2 v12L3) y10L2 w129 (by omega) (by omega)) ?_)
                            rintro _ _ ⟨rfl, rfl⟩ a221 hE222; clear hE218
                            refine q_step (v := .bool (F_l01Bit (gI np2 v12L3) y10L2)) hE222 (y_pick (b := false) rfl rfl) rfl rfl rfl ?_; intro a225 hE226; clear hE222
                            refine q_step (v := .bool (F_l01Bit (gI np2 v12L3) y10L2)) hE226 (y_pick (b := true) rfl rfl) rfl rfl rfl ?_; intro a227 hE228; clear hE226
                            refine q_step (v := .bool (F_l01Bit (gI np2 v12L3) y10L2)) hE228 (y_assign rfl) rfl rfl rfl ?_; intro a229 hE230; clear hE228
                            refine c_nil ?_
                            have hE231 := hE230.sub (L' := [(2, .slice linkpA linkp.length linkpC), (3, .pointer (some ⟨b6, 0, none⟩)), (4, .pointer (some ⟨b12, 0, none⟩)), (7, .slice out7A ((out7).length) out7C), (8, .int .i64 x8), (9, .int .i64 mask9L2), (10, .int .i64 y10L2), (11, .bool (F_l01Bit (gI np2 v12L3) y10L2)), (12, .int .i64 v12L3)]) ⟨rfl, rfl, rfl, rfl, rfl, rfl, rfl, rfl, rfl, trivial⟩; clear hE230
                            refine p_bn ?_
                            refine p_tn ?_
                            have hE232 := hE231.sub (L' := [(2, .slice linkpA linkp.length linkpC), (3, .pointer (some ⟨b6, 0, none⟩)), (4, .pointer (some ⟨b12, 0, none⟩)), (7, .slice out7A ((out7).length) out7C), (8, .int .i64 x8), (9, .int .i64 mask9L2), (10, .int .i64 y10L2), (11, .bool (F_l01Bit (gI np2 v12L3) y10L2)), (12, .int .i64 v12L3)]) ⟨rfl, rfl, rfl, rfl, rfl, rfl, rfl, rfl, rfl, trivial⟩
                            have hS233 := (St.pick (Γ' := [.own 2 1 out7A ((out7).length) out7C out7, .rd 1 np1A np1.length np1C np1, .rd 1 np2A np2.length np2C np2, .blk b12 #[.int .i64 np0, .slice np1A np1.length np1C, .slice np2A np2.length np2C] 38, .rd 1 mp1A mp1.length mp1C mp1, .rd 1 mp2A mp2.length mp2C mp2, .blk b6 #[.int .i64 mp0, .slice mp1A mp1.length mp1C, .slice mp2A mp2.length mp2C] 38, .rd 1 linkpA linkp.length linkpC linkp]) hS131 [0, 5, 4, 1, 7, 6, 2, 3] (by decide) rfl)
                            exact ⟨(by rw [hb179, hb155]; exact hE232), hS233⟩
                        ·
                          have hE234 := hE154; rw [hb155] at hE234; clear hE154
                          refine q_skip hE234 rfl rfl rfl ?_; intro a235 hE236; clear hE234
                          refine q_skip hE236 rfl rfl rfl ?_; intro a237 hE238; clear hE236
                          refine q_skip hE238 rfl rfl rfl ?_; intro a239 hE240; clear hE238
                          refine q_skip hE240 rfl rfl rfl ?_; intro a241 hE242; clear hE240
                          refine q_skip hE242 rfl rfl rfl ?_; intro a243 hE244; clear hE242
                          refine q_skip hE244 rfl rfl rfl ?_; intro a245 hE246; clear hE244
                          refine q_skip hE246 rfl rfl rfl ?_; intro a247 hE248; clear hE246
                          refine q_skip hE248 rfl rfl rfl ?_; intro a249 hE250; clear hE248
                          refine q_skip hE250 rfl rfl rfl ?_; intro a251 hE252; clear hE250
                          refine q_skip hE252 rfl rfl rfl ?_; intro a253 hE254; clear hE252
                          refine q_skip hE254 rfl rfl rfl ?_; intro a255 hE256; clear hE254
                          refine q_skip hE256 rfl rfl rfl ?_; intro a257 hE258; clear hE256
                          refine q_skip hE258 rfl rfl rfl ?_; intro a259 hE260; clear hE258
                          refine q_skip hE260 rfl rfl rfl ?_; intro a261 hE262; clear hE260
                          refine q_skip hE262 rfl rfl rfl ?_; intro a263 hE264; clear hE262
                          refine q_skip hE264 rfl rfl rfl ?_; intro a265 hE266; clear hE264
                          refine q_skip hE266 rfl rfl rfl ?_; intro a267 hE268; clear hE266
                          refine q_step (v := .bool false) hE268 (y_pick (b := false) rfl rfl) rfl rfl rfl ?_; intro a269 hE270; clear hE268
                          refine q_step (v := .bool false) hE270 (y_assign rfl) rfl rfl rfl ?_; intro a271 hE272; clear hE270
                          refine c_nil ?_
                          have hE273 := hE272.sub (L' := [(2, .slice linkpA linkp.length linkpC), (3, .pointer (some ⟨b6, 0, none⟩)), (4, .pointer (some ⟨b12, 0, none⟩)), (7, .slice out7A ((out7).length) out7C), (8, .int .i64 x8), (9, .int .i64 mask9L2), (10, .int .i64 y10L2), (11, .bool false), (12, .int .i64 v12L3)]) ⟨rfl, rfl, rfl, rfl, rfl, rfl, rfl, rfl, rfl, trivial⟩; clear hE272
                          refine p_bn ?_
                          refine p_tn ?_
                          have hE274 := hE273.sub (L' := [(2, .slice linkpA linkp.length linkpC), (3, .pointer (some ⟨b6, 0, none⟩)), (4, .pointer (some ⟨b12, 0, none⟩)), (7, .slice out7A ((out7).length) out7C), (8, .int .i64 x8), (9, .int .i64 mask9L2), (10, .int .i64 y10L2), (11, .bool false), (12, .int .i64 v12L3)]) ⟨rfl, rfl, rfl, rfl, rfl, rfl, rfl, rfl, rfl, trivial⟩
                          have hS275 := (St.pick (Γ' := [.own 2 1 out7A ((out7).length) out7C out7, .rd 1 np1A np1.length np1C np1, .rd 1 np2A np2.length np2C np2, .blk b12 #[.int .i64 np0, .slice np1A np1.length np1C, .slice np2A np2.length np2C] 38, .rd 1 mp1A mp1.length mp1C mp1, .rd 1 mp2A mp2.length mp2C mp2, .blk b6 #[.int .i64 mp0, .slice mp1A mp1.length mp1C, .slice mp2A mp2.length mp2C] 38, .rd 1 linkpA linkp.length linkpC linkp]) hS131 [0, 5, 4, 1, 7, 6, 2, 3] (by decide) rfl)
                          exact ⟨(by rw [hb155]; exact hE274), hS275⟩
                      ·
                        rintro a276 w277 ⟨hE278, hS279⟩; clear hE150 hS131
                        refine c_reg ?_
                        refine q_step (v := .int .i64 v12L3) hE278 (y_move rfl) rfl rfl rfl ?_; intro a280 hE281; clear hE278
                        refine q_step (v := .int .i64 (v12L3 + 1)) hE281 (y_add rfl rfl ⟨(by omega), (by omega)⟩) rfl rfl rfl ?_; intro a282 hE283; clear hE281
                        refine q_step (v := .int .i64 (v12L3 + 1)) hE283 (y_assign rfl) rfl rfl rfl ?_; intro a284 hE285; clear hE283
                        refine c_nil ?_
                        have hE286 := hE285.sub (L' := [(2, .slice linkpA linkp.length linkpC), (3, .pointer (some ⟨b6, 0, none⟩)), (4, .pointer (some ⟨b12, 0, none⟩)), (7, .slice out7A ((out7).length) out7C), (8, .int .i64 x8), (9, .int .i64 mask9L2), (10, .int .i64 y10L2), (11, .bool (good11L3 && ((!(F_l01Bit (gI mp2 v12L3) x8)) || (F_l01Bit (gI np2 v12L3) y10L2)))), (12, .int .i64 (v12L3 + 1))]) ⟨rfl, rfl, rfl, rfl, rfl, rfl, rfl, rfl, rfl, trivial⟩; clear hE285
                        refine p_tn ⟨r136, Nat.lt_succ_self _, (good11L3 && ((!(F_l01Bit (gI mp2 v12L3) x8)) || (F_l01Bit (gI np2 v12L3) y10L2))), v12L3 + 1, (hT132.symm.trans (show F_l07Below_L3b mp2 np2 x8 y10L2 (F_l07Below_L3 mp2 np2 x8 y10L2 r136) good11L3 v12L3 = F_l07Below_L3 mp2 np2 x8 y10L2 r136 (good11L3 && ((!(F_l01Bit (gI mp2 v12L3) x8)) || (F_l01Bit (gI np2 v12L3) y10L2))) (v12L3 + 1) by unfold F_l07Below_L3b; rw [ht148]; first | done | rfl)).symm, (by omega), (by first | omega | (simp only [List.length_replicate, sI_len]; omega) | (simp only [List.length_append, List.length_cons, List.length_nil, sI_len, cond_true, cond_false]; omega) | (simp only [List.length_append, List.length_cons, List.length_nil, sI_len, cond_eq_ite, apply_ite List.length]; split <;> simp only [List.length_append, List.length_cons, List.length_nil, sI_len] <;> omega) | grind), (by first | omega | (simp only [List.length_replicate, sI_len]; omega) | (simp only [List.length_append, List.length_cons, List.length_nil, sI_len, cond_true, cond_false]; omega) | (simp only [List.length_append, List.length_cons, List.length_nil, sI_len, cond_eq_ite, apply_ite List.length]; split <;> simp only [List.length_append, List.length_cons, List.length_nil, sI_len] <;> omega) | grind), (hE286.sub (L' := [(2, .slice linkpA linkp.length linkpC), (3, .pointer (some ⟨b6, 0, none⟩)), (4, .pointer (some ⟨b12, 0, none⟩)), (7, .slice out7A ((out7).length) out7C), (8, .int .i64 x8), (9, .int .i64 mask9L2), (10, .int .i64 y10L2), (11, .bool (good11L3 && ((!(F_l01Bit (gI mp2 v12L3) x8)) || (F_l01Bit (gI np2 v12L3) y10L2)))), (12, .int .i64 (v12L3 + 1))]) ⟨rfl, rfl, rfl, rfl, rfl, rfl, rfl, rfl, rfl, trivial⟩), (St.pick (Γ' := [.own 2 1 out7A ((out7).length) out7C out7, .blk b12 #[.int .i64 np0, .slice np1A np1.length np1C, .slice np2A np2.length np2C] 38, .blk b6 #[.int .i64 mp0, .slice mp1A mp1.length mp1C, .slice mp2A mp2.length mp2C] 38, .rd 1 linkpA linkp.length linkpC linkp, .rd 1 np2A np2.length np2C np2, .rd 1 np1A np1.length np1C np1, .rd 1 mp2A mp2.length mp2C mp2, .rd 1 mp1A mp1.length mp1C mp1]) hS279 [0, 3, 6, 7, 2, 1, 5, 4] (by decide) rfl)⟩
                    ·
                      have hp287 := of_decide_eq_false ht148
                      have hE288 := hE147; rw [ht148] at hE288; clear hE147
                      refine wp_exit ?_
                      refine p_te ?_
                      have hX289 : F_l07Below_L3 mp2 np2 x8 y10L2 (Int.toNat ((mp2.length : Int) - 0) + 1) (F_l07Forth linkp (gI mp1 x8) (gI np1 y10L2)) 0 = (good11L3, v12L3) := hT132.symm.trans (show F_l07Below_L3b mp2 np2 x8 y10L2 (F_l07Below_L3 mp2 np2 x8 y10L2 r136) good11L3 v12L3 = (good11L3, v12L3) by unfold F_l07Below_L3b; rw [ht148]; first | done | rfl)
                      refine p_te (p_be (p_tn ?_))
                      exact ⟨(by rw [hX289]; exact (show 0 ≤ v12L3 from (by first | omega | (simp only [List.length_replicate, sI_len]; omega) | (simp only [List.length_append, List.length_cons, List.length_nil, sI_len, cond_true, cond_false]; omega) | (simp only [List.length_append, List.length_cons, List.length_nil, sI_len, cond_eq_ite, apply_ite List.length]; split <;> simp only [List.length_append, List.length_cons, List.length_nil, sI_len] <;> omega) | grind))), (by rw [hX289]; exact (show v12L3 ≤ (mp2.length : Int) from (by first | omega | (simp only [List.length_replicate, sI_len]; omega) | (simp only [List.length_append, List.length_cons, List.length_nil, sI_len, cond_true, cond_false]; omega) | (simp only [List.length_append, List.length_cons, List.length_nil, sI_len, cond_eq_ite, apply_ite List.length]; split <;> simp only [List.length_append, List.length_cons, List.length_nil, sI_len] <;> omega) | grind))), (by rw [hX289]; exact (hE288.sub (L' := [(2, .slice linkpA linkp.length linkpC), (3, .pointer (some ⟨b6, 0, none⟩)), (4, .pointer (some ⟨b12, 0, none⟩)), (7, .slice out7A ((out7).length) out7C), (8, .int .i64 x8), (9, .int .i64 mask9L2), (10, .int .i64 y10L2), (11, .bool good11L3), (12, .int .i64 v12L3)]) ⟨rfl, rfl, rfl, rfl, rfl, rfl, rfl, rfl, rfl, trivial⟩)), (St.pick (Γ' := [.own 2 1 out7A ((out7).length) out7C out7, .blk b12 #[.int .i64 np0, .slice np1A np1.length np1C, .slice np2A np2.length np2C] 38, .blk b6 #[.int .i64 mp0, .slice mp1A mp1.length mp1C, .slice mp2A mp2.length mp2C] 38, .rd 1 linkpA linkp.length linkpC linkp, .rd 1 np2A np2.length np2C np2, .rd 1 np1A np1.length np1C np1, .rd 1 mp2A mp2.length mp2C mp2, .rd 1 mp1A mp1.length mp1C mp1]) hS131 [0, 1, 2, 3, 4, 5, 6, 7] (by decide) rfl)⟩
                ·
                  rintro a290 w291 ⟨hi295, hi296, hE292, hS293⟩; clear hE126 hS119
                  refine p_tn ?_
                  refine c_seq ?_
                  refine c_reg ?_
                  refine q_step (v := .bool ((F_l07Below_L3 mp2 np2 x8 y10L2 (Int.toNat ((mp2.length : Int) - 0) + 1) (F_l07Forth linkp (gI mp1 x8) (gI np1 y10L2)) 0).1)) hE292 (y_move rfl) rfl rfl rfl ?_; intro a297 hE298; clear hE292
                  refine c_nil ?_
                  have hE299 := hE298.sub (L' := [(2, .slice linkpA linkp.length linkpC), (3, .pointer (some ⟨b6, 0, none⟩)), (4, .pointer (some ⟨b12, 0, none⟩)), (7, .slice out7A ((out7).length) out7C), (8, .int .i64 x8), (9, .int .i64 mask9L2), (10, .int .i64 y10L2), (69, .bool ((F_l07Below_L3 mp2 np2 x8 y10L2 (Int.toNat ((mp2.length : Int) - 0) + 1) (F_l07Forth linkp (gI mp1 x8) (gI np1 y10L2)) 0).1))]) ⟨rfl, rfl, rfl, rfl, rfl, rfl, rfl, rfl, trivial⟩; clear hE298
                  refine p_tn ?_
                  refine c_cond hE299 rfl (fun ht300 => ?_) (fun ht300 => ?_)
                  ·
                    have hE301 := hE299; rw [ht300] at hE301; clear hE299
                    refine c_reg ?_
                    refine q_step (v := .int .i64 mask9L2) hE301 (y_move rfl) rfl rfl rfl ?_; intro a302 hE303; clear hE301
                    refine q_step (v := .int .i64 y10L2) hE303 (y_move rfl) rfl rfl rfl ?_; intro a304 hE305; clear hE303
                    refine l_step hE305 rfl (l_call (f := 80) (argv := [.int .i64 y10L2]) hE305 (fun _ => cf_l01One _ _) rfl rfl (d_l01One y10L2 w291 (by omega) (by omega)) ?_)
                    rintro _ _ ⟨rfl, rfl⟩ a308 hE309; clear hE305
                    refine q_step (v := .int .i64 (orI mask9L2 (powI y10L2))) hE309 (y_or rfl rfl) rfl rfl rfl ?_; intro a312 hE313; clear hE309
                    refine q_step (v := .int .i64 (orI mask9L2 (powI y10L2))) hE313 (y_assign rfl) rfl rfl rfl ?_; intro a314 hE315; clear hE313
                    refine c_nil ?_
                    have hE316 := hE315.sub (L' := [(2, .slice linkpA linkp.length linkpC), (3, .pointer (some ⟨b6, 0, none⟩)), (4, .pointer (some ⟨b12, 0, none⟩)), (7, .slice out7A ((out7).length) out7C), (8, .int .i64 x8), (9, .int .i64 (orI mask9L2 (powI y10L2))), (10, .int .i64 y10L2)]) ⟨rfl, rfl, rfl, rfl, rfl, rfl, rfl, trivial⟩; clear hE315
                    refine p_bn ?_
                    refine p_tn ?_
                    have hE317 := hE316.sub (L' := [(2, .slice linkpA linkp.length linkpC), (3, .pointer (some ⟨b6, 0, none⟩)), (4, .pointer (some ⟨b12, 0, none⟩)), (7, .slice out7A ((out7).length) out7C), (8, .int .i64 x8), (9, .int .i64 (orI mask9L2 (powI y10L2))), (10, .int .i64 y10L2)]) ⟨rfl, rfl, rfl, rfl, rfl, rfl, rfl, trivial⟩
                    have hS318 := (St.pick (Γ' := [.own 2 1 out7A ((out7).length) out7C out7, .rd 1 np1A np1.length np1C np1, .rd 1 np2A np2.length np2C np2, .blk b12 #[.int .i64 np0, .slice np1A np1.length np1C, .slice np2A np2.length np2C] 38, .rd 1 mp1A mp1.length mp1C mp1, .rd 1 mp2A mp2.length mp2C mp2, .blk b6 #[.int .i64 mp0, .slice mp1A mp1.length mp1C, .slice mp2A mp2.length mp2C] 38, .rd 1 linkpA linkp.length linkpC linkp]) hS293 [0, 5, 4, 1, 7, 6, 2, 3] (by decide) rfl)
                    exact ⟨(by rw [ht300]; exact hE317), hS318⟩
                  ·
                    have hE319 := hE299; rw [ht300] at hE319; clear hE299
                    refine wp_skip ?_
                    refine p_bn ?_
                    refine p_tn ?_
                    have hE320 := hE319.sub (L' := [(2, .slice linkpA linkp.length linkpC), (3, .pointer (some ⟨b6, 0, none⟩)), (4, .pointer (some ⟨b12, 0, none⟩)), (7, .slice out7A ((out7).length) out7C), (8, .int .i64 x8), (9, .int .i64 mask9L2), (10, .int .i64 y10L2)]) ⟨rfl, rfl, rfl, rfl, rfl, rfl, rfl, trivial⟩
                    have hS321 := (St.pick (Γ' := [.own 2 1 out7A ((out7).length) out7C out7, .rd 1 np1A np1.length np1C np1, .rd 1 np2A np2.length np2C np2, .blk b12 #[.int .i64 np0, .slice np1A np1.length np1C, .slice np2A np2.length np2C] 38, .rd 1 mp1A mp1.length mp1C mp1, .rd 1 mp2A mp2.length mp2C mp2, .blk b6 #[.int .i64 mp0, .slice mp1A mp1.length mp1C, .slice mp2A mp2.length mp2C] 38, .rd 1 linkpA linkp.length linkpC linkp]) hS293 [0, 5, 4, 1, 7, 6, 2, 3] (by decide) rfl)
                    exact ⟨(by rw [ht300]; exact hE320), hS321⟩
              ·
                rintro a322 w323 ⟨hE324, hS325⟩; clear hE85 hS67
                refine c_reg ?_
                refine q_step (v := .int .i64 y10L2) hE324 (y_move rfl) rfl rfl rfl ?_; intro a326 hE327; clear hE324
                refine q_step (v := .int .i64 (y10L2 + 1)) hE327 (y_add rfl rfl ⟨(by omega), (by omega)⟩) rfl rfl rfl ?_; intro a328 hE329; clear hE327
                refine q_step (v := .int .i64 (y10L2 + 1)) hE329 (y_assign rfl) rfl rfl rfl ?_; intro a330 hE331; clear hE329
                refine c_nil ?_
                have hE332 := hE331.sub (L' := [(2, .slice linkpA linkp.length linkpC), (3, .pointer (some ⟨b6, 0, none⟩)), (4, .pointer (some ⟨b12, 0, none⟩)), (7, .slice out7A ((out7).length) out7C), (8, .int .i64 x8), (9, .int .i64 (bif ((F_l07Below_L3 mp2 np2 x8 y10L2 (Int.toNat ((mp2.length : Int) - 0) + 1) (F_l07Forth linkp (gI mp1 x8) (gI np1 y10L2)) 0).1) then orI mask9L2 (powI y10L2) else mask9L2)), (10, .int .i64 (y10L2 + 1))]) ⟨rfl, rfl, rfl, rfl, rfl, rfl, rfl, trivial⟩; clear hE331
                refine p_tn ⟨r71, Nat.lt_succ_self _, bif ((F_l07Below_L3 mp2 np2 x8 y10L2 (Int.toNat ((mp2.length : Int) - 0) + 1) (F_l07Forth linkp (gI mp1 x8) (gI np1 y10L2)) 0).1) then orI mask9L2 (powI y10L2) else mask9L2, y10L2 + 1, (hT68.symm.trans (show F_l07Below_L2b mp1 mp2 np0 np1 np2 linkp x8 (F_l07Below_L2 mp1 mp2 np0 np1 np2 linkp x8 r71) mask9L2 y10L2 = F_l07Below_L2 mp1 mp2 np0 np1 np2 linkp x8 r71 (bif ((F_l07Below_L3 mp2 np2 x8 y10L2 (Int.toNat ((mp2.length : Int) - 0) + 1) (F_l07Forth linkp (gI mp1 x8) (gI np1 y10L2)) 0).1) then orI mask9L2 (powI y10L2) else mask9L2) (y10L2 + 1) by unfold F_l07Below_L2b; rw [ht83]; first | done | rfl)).symm, (by omega), (by first | omega | (simp only [List.length_replicate, sI_len]; omega) | (simp only [List.length_append, List.length_cons, List.length_nil, sI_len, cond_true, cond_false]; omega) | (simp only [List.length_append, List.length_cons, List.length_nil, sI_len, cond_eq_ite, apply_ite List.length]; split <;> simp only [List.length_append, List.length_cons, List.length_nil, sI_len] <;> omega) | grind), (hE332.sub (L' := [(2, .slice linkpA linkp.length linkpC), (3, .pointer (some ⟨b6, 0, none⟩)), (4, .pointer (some ⟨b12, 0, none⟩)), (7, .slice out7A ((out7).length) out7C), (8, .int .i64 x8), (9, .int .i64 (bif ((F_l07Below_L3 mp2 np2 x8 y10L2 (Int.toNat ((mp2.length : Int) - 0) + 1) (F_l07Forth linkp (gI mp1 x8) (gI np1 y10L2)) 0).1) then orI mask9L2 (powI y10L2) else mask9L2)), (10, .int .i64 (y10L2 + 1))]) ⟨rfl, rfl, rfl, rfl, rfl, rfl, rfl, trivial⟩), (St.pick (Γ' := [.own 2 1 out7A ((out7).length) out7C out7, .blk b12 #[.int .i64 np0, .slice np1A np1.length np1C, .slice np2A np2.length np2C] 38, .blk b6 #[.int .i64 mp0, .slice mp1A mp1.length mp1C, .slice mp2A mp2.length mp2C] 38, .rd 1 linkpA linkp.length linkpC linkp, .rd 1 np2A np2.length np2C np2, .rd 1 np1A np1.length np1C np1, .rd 1 mp2A mp2.length mp2C mp2, .rd 1 mp1A mp1.length mp1C mp1]) hS325 [0, 3, 6, 7, 2, 1, 5, 4] (by decide) rfl)⟩
            ·
              have hp333 := of_decide_eq_false ht83
              have hE334 := hE82; rw [ht83] at hE334; clear hE82
              refine wp_exit ?_
              refine p_te ?_
              have hX335 : F_l07Below_L2 mp1 mp2 np0 np1 np2 linkp x8 (Int.toNat (np0 - 0) + 1) 0 0 = (mask9L2, y10L2) := hT68.symm.trans (show F_l07Below_L2b mp1 mp2 np0 np1 np2 linkp x8 (F_l07Below_L2 mp1 mp2 np0 np1 np2 linkp x8 r71) mask9L2 y10L2 = (mask9L2, y10L2) by unfold F_l07Below_L2b; rw [ht83]; first | done | rfl)
              refine p_te (p_be (p_tn ?_))
              exact ⟨(by rw [hX335]; exact (show 0 ≤ y10L2 from (by first | omega | (simp only [List.length_replicate, sI_len]; omega) | (simp only [List.length_append, List.length_cons, List.length_nil, sI_len, cond_true, cond_false]; omega) | (simp only [List.length_append, List.length_cons, List.length_nil, sI_len, cond_eq_ite, apply_ite List.length]; split <;> simp only [List.length_append, List.length_cons, List.length_nil, sI_len] <;> omega) | grind))), (by rw [hX335]; exact (hE334.sub (L' := [(2, .slice linkpA linkp.length linkpC), (3, .pointer (some ⟨b6, 0, none⟩)), (4, .pointer (some ⟨b12, 0, none⟩)), (7, .slice out7A ((out7).length) out7C), (8, .int .i64 x8), (9, .int .i64 mask9L2), (10, .int .i64 y10L2)]) ⟨rfl, rfl, rfl, rfl, rfl, rfl, rfl, trivial⟩)), (St.pick (Γ' := [.own 2 1 out7A ((out7).length) out7C out7, .blk b12 #[.int .i64 np0, .slice np1A np1.length np1C, .slice np2A np2.length np2C] 38, .blk b6 #[.int .i64 mp0, .slice mp1A mp1.length mp1C, .slice mp2A mp2.length mp2C] 38, .rd 1 linkpA linkp.length linkpC linkp, .rd 1 np2A np2.length np2C np2, .rd 1 np1A np1.length np1C np1, .rd 1 mp2A mp2.length mp2C mp2, .rd 1 mp1A mp1.length mp1C mp1]) hS67 [0, 1, 2, 3, 4, 5, 6, 7] (by decide) rfl)⟩
        ·
          rintro a336 w337 ⟨hi341, hE338, hS339⟩; clear hE62 hS37
          refine p_tn ?_
          refine c_reg ?_
          refine q_step (v := .slice out7A ((out7).length) out7C) hE338 (y_move rfl) rfl rfl rfl ?_; intro a342 hE343; clear hE338
          refine q_step (v := .int .i64 ((F_l07Below_L2 mp1 mp2 np0 np1 np2 linkp x8 (Int.toNat (np0 - 0) + 1) 0 0).1)) hE343 (y_move rfl) rfl rfl rfl ?_; intro a344 hE345; clear hE343
          refine l_step hE345 rfl (l_lit (e := 2) (s := 1) (xs := [(F_l07Below_L2 mp1 mp2 np0 np1 np2 linkp x8 (Int.toNat (np0 - 0) + 1) 0 0).1]) (vs := [.int .i64 ((F_l07Below_L2 mp1 mp2 np0 np1 np2 linkp x8 (Int.toNat (np0 - 0) + 1) 0 0).1)]) hS339 hE345 rfl (fun _ => by kernel_rfl) rfl rfl rfl ?_)
          intro b346 w347 hS350 he351 a348 hE349; clear hS339 hE345
          obtain ⟨_, hi1, hi2, hi3, hi4⟩ := info_parts (show (Try.prog.info? 2).map (fun i => (i.zero, i.size, i.bytes)) = some (some (.int .i64 0), 1, 8) by kernel_rfl)
          refine l_step hE349 rfl (l_append (k := 1) (n' := (out7 ++ ([(F_l07Below_L2 mp1 mp2 np0 np1 np2 linkp x8 (Int.toNat (np0 - 0) + 1) 0 0).1])).length) hS350 hE349 (by kernel_rfl) hi1 hi2 hi3 rfl (by decide) (by rw [hi4]; decide) rfl rfl rfl (St.rdO (i := 0) hS350 rfl) (by first | omega | (simp only [List.length_append, List.length_cons, List.length_nil]; omega)) (by have h1 := (St.rdO (i := 1) hS350 rfl).len1; have h2 := (St.rdO (i := 0) hS350 rfl).len1; rw [List.length_append, h1, h2]) rfl ?_)
          intro b352 c358 w353 hS356 a354 hE355; clear hS350 hE349 hi1 hi2 hi3 hi4
          refine q_step (v := .slice b352 ((out7 ++ ([(F_l07Below_L2 mp1 mp2 np0 np1 np2 linkp x8 (Int.toNat (np0 - 0) + 1) 0 0).1])).length) c358) hE355 (y_assign rfl) rfl rfl rfl ?_; intro a359 hE360; clear hE355
          refine c_nil ?_
          have hE361 := hE360.sub (L' := [(2, .slice linkpA linkp.length linkpC), (3, .pointer (some ⟨b6, 0, none⟩)), (4, .pointer (some ⟨b12, 0, none⟩)), (7, .slice b352 ((out7 ++ ([(F_l07Below_L2 mp1 mp2 np0 np1 np2 linkp x8 (Int.toNat (np0 - 0) + 1) 0 0).1])).length) c358), (8, .int .i64 x8)]) ⟨rfl, rfl, rfl, rfl, rfl, trivial⟩; clear hE360
          refine p_bn ?_
          refine p_tn ?_
          refine c_reg ?_
          refine q_step (v := .int .i64 x8) hE361 (y_move rfl) rfl rfl rfl ?_; intro a362 hE363; clear hE361
          refine q_step (v := .int .i64 (x8 + 1)) hE363 (y_add rfl rfl ⟨(by omega), (by omega)⟩) rfl rfl rfl ?_; intro a364 hE365; clear hE363
          refine q_step (v := .int .i64 (x8 + 1)) hE365 (y_assign rfl) rfl rfl rfl ?_; intro a366 hE367; clear hE365
          refine c_nil ?_
          have hE368 := hE367.sub (L' := [(2, .slice linkpA linkp.length linkpC), (3, .pointer (some ⟨b6, 0, none⟩)), (4, .pointer (some ⟨b12, 0, none⟩)), (7, .slice b352 ((out7 ++ ([(F_l07Below_L2 mp1 mp2 np0 np1 np2 linkp x8 (Int.toNat (np0 - 0) + 1) 0 0).1])).length) c358), (8, .int .i64 (x8 + 1))]) ⟨rfl, rfl, rfl, rfl, rfl, trivial⟩; clear hE367
          refine p_tn ⟨r42, Nat.lt_succ_self _, out7 ++ ([(F_l07Below_L2 mp1 mp2 np0 np1 np2 linkp x8 (Int.toNat (np0 - 0) + 1) 0 0).1]), x8 + 1, b352, c358, (hT38.symm.trans (show F_l07Below_L1b mp0 mp1 mp2 np0 np1 np2 linkp (F_l07Below_L1 mp0 mp1 mp2 np0 np1 np2 linkp r42) out7 x8 = F_l07Below_L1 mp0 mp1 mp2 np0 np1 np2 linkp r42 (out7 ++ ([(F_l07Below_L2 mp1 mp2 np0 np1 np2 linkp x8 (Int.toNat (np0 - 0) + 1) 0 0).1])) (x8 + 1) by unfold F_l07Below_L1b; rw [ht54]; first | done | rfl)).symm, (by omega), (by first | omega | (simp only [List.length_replicate, sI_len]; omega) | (simp only [List.length_append, List.length_cons, List.length_nil, sI_len, cond_true, cond_false]; omega) | (simp only [List.length_append, List.length_cons, List.length_nil, sI_len, cond_eq_ite, apply_ite List.length]; split <;> simp only [List.length_append, List.length_cons, List.length_nil, sI_len] <;> omega) | grind), (by first | omega | (simp only [List.length_replicate, sI_len]; omega) | (simp only [List.length_append, List.length_cons, List.length_nil, sI_len, cond_true, cond_false]; omega) | (simp only [List.length_append, List.length_cons, List.length_nil, sI_len, cond_eq_ite, apply_ite List.length]; split <;> simp only [List.length_append, List.length_cons, List.length_nil, sI_len] <;> omega) | grind), (hE368.sub (L' := [(2, .slice linkpA linkp.length linkpC), (3, .pointer (some ⟨b6, 0, none⟩)), (4, .pointer (some ⟨b12, 0, none⟩)), (7, .slice b352 ((out7 ++ ([(F_l07Below_L2 mp1 mp2 np0 np1 np2 linkp x8 (Int.toNat (np0 - 0) + 1) 0 0).1])).length) c358), (8, .int .i64 (x8 + 1))]) ⟨rfl, rfl, rfl, rfl, rfl, trivial⟩), (St.pick (Γ' := [.own 2 1 b352 ((out7 ++ ([(F_l07Below_L2 mp1 mp2 np0 np1 np2 linkp x8 (Int.toNat (np0 - 0) + 1) 0 0).1])).length) c358 (out7 ++ ([(F_l07Below_L2 mp1 mp2 np0 np1 np2 linkp x8 (Int.toNat (np0 - 0) + 1) 0 0).1])), .blk b12 #[.int .i64 np0, .slice np1A np1.length np1C, .slice np2A np2.length np2C] 38, .blk b6 #[.int .i64 mp0, .slice mp1A mp1.length mp1C, .slice mp2A mp2.length mp2C] 38, .rd 1 linkpA linkp.length linkpC linkp, .rd 1 np2A np2.length np2C np2, .rd 1 np1A np1.length np1C np1, .rd 1 mp2A mp2.length mp2C mp2, .rd 1 mp1A mp1.length mp1C mp1]) hS356 [1, 2, 3, 4, 5, 6, 7, 8] (by decide) rfl)⟩
      ·
        have hp369 := of_decide_eq_false ht54
        have hE370 := hE53; rw [ht54] at hE370; clear hE53
        refine wp_exit ?_
        refine p_te ?_
        have hX371 : F_l07Below_L1 mp0 mp1 mp2 np0 np1 np2 linkp (Int.toNat (mp0 - 0) + 1) ([]) 0 = (out7, x8) := hT38.symm.trans (show F_l07Below_L1b mp0 mp1 mp2 np0 np1 np2 linkp (F_l07Below_L1 mp0 mp1 mp2 np0 np1 np2 linkp r42) out7 x8 = (out7, x8) by unfold F_l07Below_L1b; rw [ht54]; first | done | rfl)
        refine p_te (p_be (p_tn ?_))
        exact ⟨out7A, out7C, (by rw [hX371]; exact (show 0 ≤ x8 from (by first | omega | (simp only [List.length_replicate, sI_len]; omega) | (simp only [List.length_append, List.length_cons, List.length_nil, sI_len, cond_true, cond_false]; omega) | (simp only [List.length_append, List.length_cons, List.length_nil, sI_len, cond_eq_ite, apply_ite List.length]; split <;> simp only [List.length_append, List.length_cons, List.length_nil, sI_len] <;> omega) | grind))), (by rw [hX371]; exact (show (out7.length : Int) ≤ x8 from (by first | omega | (simp only [List.length_replicate, sI_len]; omega) | (simp only [List.length_append, List.length_cons, List.length_nil, sI_len, cond_true, cond_false]; omega) | (simp only [List.length_append, List.length_cons, List.length_nil, sI_len, cond_eq_ite, apply_ite List.length]; split <;> simp only [List.length_append, List.length_cons, List.length_nil, sI_len] <;> omega) | grind))), (by rw [hX371]; exact (hE370.sub (L' := [(2, .slice linkpA linkp.length linkpC), (3, .pointer (some ⟨b6, 0, none⟩)), (4, .pointer (some ⟨b12, 0, none⟩)), (7, .slice out7A ((out7).length) out7C), (8, .int .i64 x8)]) ⟨rfl, rfl, rfl, rfl, rfl, trivial⟩)), (by rw [hX371]; exact (St.pick (Γ' := [.own 2 1 out7A ((out7).length) out7C out7, .blk b12 #[.int .i64 np0, .slice np1A np1.length np1C, .slice np2A np2.length np2C] 38, .blk b6 #[.int .i64 mp0, .slice mp1A mp1.length mp1C, .slice mp2A mp2.length mp2C] 38, .rd 1 linkpA linkp.length linkpC linkp, .rd 1 np2A np2.length np2C np2, .rd 1 np1A np1.length np1C np1, .rd 1 mp2A mp2.length mp2C mp2, .rd 1 mp1A mp1.length mp1C mp1]) hS37 [0, 1, 2, 3, 4, 5, 6, 7] (by decide) rfl))⟩
  ·
    rintro a372 w373 ⟨out7A_33, out7C_33, hi377, hi378, hE374, hS375⟩; clear hE32 hS25
    refine p_tn ?_
    refine c_seq ?_
    refine c_reg ?_
    refine q_step (v := .slice out7A_33 (((F_l07Below_L1 mp0 mp1 mp2 np0 np1 np2 linkp (Int.toNat (mp0 - 0) + 1) ([]) 0).1).length) out7C_33) hE374 (y_move rfl) rfl rfl rfl ?_; intro a379 hE380; clear hE374
    refine q_step (v := .slice out7A_33 (((F_l07Below_L1 mp0 mp1 mp2 np0 np1 np2 linkp (Int.toNat (mp0 - 0) + 1) ([]) 0).1).length) out7C_33) hE380 (y_assign rfl) rfl rfl rfl ?_; intro a381 hE382; clear hE380
    refine c_nil ?_
    have hE383 := hE382.sub (L' := [(6, .slice out7A_33 (((F_l07Below_L1 mp0 mp1 mp2 np0 np1 np2 linkp (Int.toNat (mp0 - 0) + 1) ([]) 0).1).length) out7C_33)]) ⟨rfl, trivial⟩; clear hE382
    refine p_tn ?_
    refine wp_ret ?_
    have hF : F_l07Below mp0 mp1 mp2 np0 np1 np2 linkp = (F_l07Below_L1 mp0 mp1 mp2 np0 np1 np2 linkp (Int.toNat (mp0 - 0) + 1) ([]) 0).1 := by unfold F_l07Below; rfl
    refine c_ret1 hE383 rfl rfl ?_
    exact ⟨out7A_33, out7C_33, (by rw [hF]; first | done | rfl), (by rw [hF]; exact hS375.ok 0 _ rfl), hS375.ext⟩

theorem l07Below_map (mp0 : Int) (mp1 mp2 : List Int) (np0 : Int) (np1 np2 : List Int) (linkp : List Int) (h : 0 ≤ mp0) : F_l07Below mp0 mp1 mp2 np0 np1 np2 linkp = (List.range mp0.toNat).map (fun (x : Nat) => (F_l07Below_L2 mp1 mp2 np0 np1 np2 linkp (x : Int) (Int.toNat (np0 - 0) + 1) 0 0).1) := by
  unfold F_l07Below
  exact mapLoop0 mp0 h (fun x => (F_l07Below_L2 mp1 mp2 np0 np1 np2 linkp x (Int.toNat (np0 - 0) + 1) 0 0).1) (F_l07Below_L1 mp0 mp1 mp2 np0 np1 np2 linkp) (fun _ _ _ => rfl)
theorem l07Below_len (mp0 : Int) (mp1 mp2 : List Int) (np0 : Int) (np1 np2 : List Int) (linkp : List Int) : (F_l07Below mp0 mp1 mp2 np0 np1 np2 linkp).length = mp0.toNat := by
  rcases Int.lt_or_le mp0 0 with h | h
  · unfold F_l07Below
    show (F_l07Below_L1b mp0 mp1 mp2 np0 np1 np2 linkp _ [] 0).1.length = _
    unfold F_l07Below_L1b
    rw [decide_eq_false (by omega)]; simp; omega
  · rw [l07Below_map _ _ _ _ _ _ _ h]; simp
/-- One pair of worlds that the greatest step below a link keeps. -/
def goodB (mp1 mp2 np1 np2 linkp : List Int) (x y : Nat) : Bool := F_l07Forth linkp (gI mp1 (x : Int)) (gI np1 (y : Int)) && (List.range mp2.length).all (fun (v : Nat) => !F_has (gI mp2 (v : Int)) (x : Int) || F_has (gI np2 (v : Int)) (y : Int))
theorem l07Below_row {mp1 mp2 np1 np2 linkp : List Int} {np0 : Int} (h0 : 0 ≤ np0) (x : Nat) : (F_l07Below_L2 mp1 mp2 np0 np1 np2 linkp (x : Int) (Int.toNat (np0 - 0) + 1) 0 0).1 = (List.range np0.toNat).foldl (fun o y => bif goodB mp1 mp2 np1 np2 linkp x y then orI o (powI (y : Int)) else o) 0 := by
  rw [rangeLoop0 np0 h0 (fun o y => bif ((F_l07Below_L3 mp2 np2 (x : Int) y (Int.toNat ((mp2.length : Int) - 0) + 1) (F_l07Forth linkp (gI mp1 (x : Int)) (gI np1 y)) 0).1) then orI o (powI y) else o) (F_l07Below_L2 mp1 mp2 np0 np1 np2 linkp (x : Int)) (fun _ _ _ => rfl)]
  apply foldl_ext'
  intro y hy o
  rw [rangeLoop0 (mp2.length : Int) (by omega) (fun o v => o && ((!(F_has (gI mp2 v) (x : Int))) || (F_has (gI np2 v) (y : Int)))) (F_l07Below_L3 mp2 np2 (x : Int) (y : Int)) (fun _ _ _ => rfl), foldl_and, Int.toNat_natCast]
  rfl

end Go.Proofs.Ytejfjcjdilbkdaa
