/- GS: models and contracts, printed by wip/gen/gen.py -/
import Derived.Test.YtlbonhloeefnmaaGN
set_option linter.unusedVariables false
set_option linter.unusedSimpArgs false
namespace Go.Proofs.Ytlbonhloeefnmaa
open Go.RowKit

def F_l07Two (mp0 : Int) (mp1 : List Int) (mp2 : List Int) (np0 : Int) (np1 : List Int) (np2 : List Int) : Int :=
  bif ((!(F_l06Is mp0 mp1 mp2)) || (!(F_l06Is np0 np1 np2))) then 1 else 0
theorem cf_l07Two (args : Array Value) (w : World) : (callFunc 80 args).run Try.prog w = .ok (.enter 80 args) w := by kernel_rfl
set_option maxRecDepth 100000 in
theorem c_l07Two (mp0 : Int) (mp1A : Option Addr) (mp1N mp1C : Nat) (mp1 : List Int) (mp2A : Option Addr) (mp2N mp2C : Nat) (mp2 : List Int) (np0 : Int) (np1A : Option Addr) (np1N np1C : Nat) (np1 : List Int) (np2A : Option Addr) (np2N np2C : Nat) (np2 : List Int) (w : World) (mp1R : RdS w 1 mp1A mp1N mp1C mp1) (mp2R : RdS w 1 mp2A mp2N mp2C mp2) (np1R : RdS w 1 np1A np1N np1C np1) (np2R : RdS w 1 np2A np2N np2C np2) :
    Calls Try.prog 80 #[.agg #[.int .i64 mp0, .slice mp1A mp1N mp1C, .slice mp2A mp2N mp2C], .agg #[.int .i64 np0, .slice np1A np1N np1C, .slice np2A np2N np2C]] w (Ret fun v w' => v = .int .i64 (F_l07Two mp0 mp1 mp2 np0 np1 np2) ∧ Ext w w') := by
  obtain rfl : mp1N = mp1.length := mp1R.len1.symm
  have mp1Le := mp1R.le
  obtain rfl : mp2N = mp2.length := mp2R.len1.symm
  have mp2Le := mp2R.le
  obtain rfl : np1N = np1.length := np1R.len1.symm
  have np1Le := np1R.le
  obtain rfl : np2N = np2.length := np2R.len1.symm
  have np2Le := np2R.le
  have hS := St.nil w
  have hS1 := St.rd0 hS rfl mp1R; clear hS
  have hS2 := St.rd0 hS1 rfl mp2R; clear hS1
  have hS3 := St.rd0 hS2 rfl np1R; clear hS2
  have hS4 := St.rd0 hS3 rfl np2R; clear hS3
  refine enter (args := [.agg #[.int .i64 mp0, .slice mp1A mp1.length mp1C, .slice mp2A mp2.length mp2C], .agg #[.int .i64 np0, .slice np1A np1.length np1C, .slice np2A np2.length np2C]]) Try.func80 rfl rfl ?_
  rw [Try.ntmps80]; intro a hE
  have hE := hE.sub (L' := [(0, .agg #[.int .i64 mp0, .slice mp1A mp1.length mp1C, .slice mp2A mp2.length mp2C]), (1, .agg #[.int .i64 np0, .slice np1A np1.length np1C, .slice np2A np2.length np2C])]) ⟨rfl, rfl, trivial⟩
  refine c_seq ?_
  refine c_reg ?_
  refine l_step hE rfl (l_box (v := .agg #[.int .i64 mp0, .slice mp1A mp1.length mp1C, .slice mp2A mp2.length mp2C]) (cs := #[.int .i64 mp0, .slice mp1A mp1.length mp1C, .slice mp2A mp2.length mp2C]) hS4 hE rfl rfl rfl ?_)
  intro b5 w6 hS9 he10 a7 hE8; clear hS4 hE
  refine l_step hE8 rfl (l_box (v := .agg #[.int .i64 np0, .slice np1A np1.length np1C, .slice np2A np2.length np2C]) (cs := #[.int .i64 np0, .slice np1A np1.length np1C, .slice np2A np2.length np2C]) hS9 hE8 rfl rfl rfl ?_)
  intro b11 w12 hS15 he16 a13 hE14; clear hS9 hE8
  refine q_step (v := .int .i64 0) hE14 (y_assign rfl) rfl rfl rfl ?_; intro a17 hE18; clear hE14
  refine c_nil ?_
  have hE19 := hE18.sub (L' := [(2, .pointer (some ⟨b5, 0, none⟩)), (3, .pointer (some ⟨b11, 0, none⟩))]) ⟨rfl, rfl, trivial⟩; clear hE18
  refine p_tn ?_
  refine c_seq ?_
  refine c_cut (fun a' w' => E a' 13 [(12, .bool ((!(F_l06Is mp0 mp1 mp2)) || (!(F_l06Is np0 np1 np2))))] ∧ St w w' [.rd 1 np1A np1.length np1C np1, .rd 1 np2A np2.length np2C np2, .blk b11 #[.int .i64 np0, .slice np1A np1.length np1C, .slice np2A np2.length np2C] 32, .rd 1 mp1A mp1.length mp1C mp1, .rd 1 mp2A mp2.length mp2C mp2, .blk b5 #[.int .i64 mp0, .slice mp1A mp1.length mp1C, .slice mp2A mp2.length mp2C] 32]) ?_ ?_
  ·
    refine c_reg ?_
    refine q_step (v := .agg #[.int .i64 mp0, .slice mp1A mp1.length mp1C, .slice mp2A mp2.length mp2C]) hE19 (y_loadS Try.underlying32 rfl (by kernel_rfl) rfl (St.row (i := 1) hS15 rfl)) rfl rfl rfl ?_; intro a20 hE21; clear hE19
    refine l_step hE21 rfl (l_call (f := 145) (argv := [.agg #[.int .i64 mp0, .slice mp1A mp1.length mp1C, .slice mp2A mp2.length mp2C]]) hE21 (fun _ => cf_l06Is _ _) rfl rfl (c_l06Is mp0 mp1A mp1.length mp1C mp1 mp2A mp2.length mp2C mp2 w12 (St.rdR (i := 5) hS15 rfl) (St.rdR (i := 4) hS15 rfl)) ?_)
    rintro _ w23 ⟨rfl, he27⟩ a24 hE25; clear hE21
    have hS26 := St.go hS15 he27; clear hS15
    refine q_step (v := .bool (!(F_l06Is mp0 mp1 mp2))) hE25 (y_not rfl) rfl rfl rfl ?_; intro a28 hE29; clear hE25
    refine q_step (v := .bool (!(F_l06Is mp0 mp1 mp2))) hE29 (y_move rfl) rfl rfl rfl ?_; intro a30 hE31; clear hE29
    rcases Bool.eq_false_or_eq_true (!(F_l06Is mp0 mp1 mp2)) with hb32 | hb32
    ·
      have hE33 := hE31; (try rw [hb32] at hE33); clear hE31
      have ht34 := bn_t hb32
      refine q_skip hE33 rfl rfl rfl ?_; intro a35 hE36; clear hE33
      refine q_skip hE36 rfl rfl rfl ?_; intro a37 hE38; clear hE36
      refine q_skip hE38 rfl rfl rfl ?_; intro a39 hE40; clear hE38
      refine q_step (v := .bool true) hE40 (y_pick (b := true) rfl rfl) rfl rfl rfl ?_; intro a41 hE42; clear hE40
      refine c_nil ?_
      have hE43 := hE42.sub (L' := [(12, .bool true)]) ⟨rfl, trivial⟩; clear hE42
      refine p_tn ?_
      have hE44 := hE43.sub (L' := [(12, .bool true)]) ⟨rfl, trivial⟩
      have hS45 := (St.pick (Γ' := [.rd 1 np1A np1.length np1C np1, .rd 1 np2A np2.length np2C np2, .blk b11 #[.int .i64 np0, .slice np1A np1.length np1C, .slice np2A np2.length np2C] 32, .rd 1 mp1A mp1.length mp1C mp1, .rd 1 mp2A mp2.length mp2C mp2, .blk b5 #[.int .i64 mp0, .slice mp1A mp1.length mp1C, .slice mp2A mp2.length mp2C] 32]) hS26 [3, 2, 0, 5, 4, 1] (by decide) rfl)
      exact ⟨(by rw [hb32]; exact hE44), hS45⟩
    ·
      have hE46 := hE31; (try rw [hb32] at hE46); clear hE31
      have ht47 := bn_f hb32
      refine q_step (v := .agg #[.int .i64 np0, .slice np1A np1.length np1C, .slice np2A np2.length np2C]) hE46 (y_loadS Try.underlying32 rfl (by kernel_rfl) rfl (St.row (i := 0) hS26 rfl)) rfl rfl rfl ?_; intro a48 hE49; clear hE46
      refine l_step hE49 rfl (l_call (f := 145) (argv := [.agg #[.int .i64 np0, .slice np1A np1.length np1C, .slice np2A np2.length np2C]]) hE49 (fun _ => cf_l06Is _ _) rfl rfl (c_l06Is np0 np1A np1.length np1C np1 np2A np2.length np2C np2 w23 (St.rdR (i := 3) hS26 rfl) (St.rdR (i := 2) hS26 rfl)) ?_)
      rintro _ w51 ⟨rfl, he55⟩ a52 hE53; clear hE49
      have hS54 := St.go hS26 he55; clear hS26
      refine q_step (v := .bool (!(F_l06Is np0 np1 np2))) hE53 (y_not rfl) rfl rfl rfl ?_; intro a56 hE57; clear hE53
      refine q_step (v := .bool (!(F_l06Is np0 np1 np2))) hE57 (y_pick (b := false) rfl rfl) rfl rfl rfl ?_; intro a58 hE59; clear hE57
      refine c_nil ?_
      have hE60 := hE59.sub (L' := [(12, .bool (!(F_l06Is np0 np1 np2)))]) ⟨rfl, trivial⟩; clear hE59
      refine p_tn ?_
      have hE61 := hE60.sub (L' := [(12, .bool (!(F_l06Is np0 np1 np2)))]) ⟨rfl, trivial⟩
      have hS62 := (St.pick (Γ' := [.rd 1 np1A np1.length np1C np1, .rd 1 np2A np2.length np2C np2, .blk b11 #[.int .i64 np0, .slice np1A np1.length np1C, .slice np2A np2.length np2C] 32, .rd 1 mp1A mp1.length mp1C mp1, .rd 1 mp2A mp2.length mp2C mp2, .blk b5 #[.int .i64 mp0, .slice mp1A mp1.length mp1C, .slice mp2A mp2.length mp2C] 32]) hS54 [3, 2, 0, 5, 4, 1] (by decide) rfl)
      exact ⟨(by rw [hb32]; exact hE61), hS62⟩
  ·
    rintro a63 w64 ⟨hE65, hS66⟩; clear hE19 hS15
    refine c_cond hE65 rfl (fun ht68 => ?_) (fun ht68 => ?_)
    ·
      have hE69 := hE65; rw [ht68] at hE69; clear hE65
      refine c_seq ?_
      refine c_reg ?_
      refine q_step (v := .int .i64 1) hE69 (y_assign rfl) rfl rfl rfl ?_; intro a70 hE71; clear hE69
      refine c_nil ?_
      have hE72 := hE71.sub (L' := [(4, .int .i64 1)]) ⟨rfl, trivial⟩; clear hE71
      refine p_tn ?_
      refine wp_ret ?_
      refine p_tr ?_
      have hF : F_l07Two mp0 mp1 mp2 np0 np1 np2 = 1 := by unfold F_l07Two; rw [ht68]; first | done | rfl
      refine c_ret1 hE72 rfl rfl ?_
      exact ⟨(by rw [hF]; first | done | (dsimp only; done) | rfl), hS66.ext⟩
    ·
      obtain ⟨ht73, ht74⟩ := bor_f ht68
      have ht75 := bn_f ht73
      have ht76 := bn_f ht74
      have hE77 := hE65; rw [ht68] at hE77; clear hE65
      refine wp_skip ?_
      refine p_tn ?_
      refine c_seq ?_
      refine c_reg ?_
      refine q_step (v := .int .i64 0) hE77 (y_assign rfl) rfl rfl rfl ?_; intro a78 hE79; clear hE77
      refine c_nil ?_
      have hE80 := hE79.sub (L' := [(4, .int .i64 0)]) ⟨rfl, trivial⟩; clear hE79
      refine p_tn ?_
      refine wp_ret ?_
      have hF : F_l07Two mp0 mp1 mp2 np0 np1 np2 = 0 := by unfold F_l07Two; rw [ht68]; first | done | rfl
      refine c_ret1 hE80 rfl rfl ?_
      exact ⟨(by rw [hF]; first | done | (dsimp only; done) | rfl), hS66.ext⟩

theorem l07Two_t {mp0 : Int} {mp1 mp2 : List Int} {np0 : Int} {np1 np2 : List Int} (h : F_l07Two mp0 mp1 mp2 np0 np1 np2 = 0) : (F_l05Is mp0 mp1 = true ∧ ((0 ≤ mp0 ∧ mp0 ≤ 8) ∧ (mp1.length : Int) = mp0) ∧ (mp2.length : Int) = 6 ∧ ∀ m : Int, 0 ≤ m → m < (mp2.length : Int) → 0 ≤ gI mp2 m ∧ gI mp2 m ≤ fullI mp0) ∧ F_l05Is np0 np1 = true ∧ ((0 ≤ np0 ∧ np0 ≤ 8) ∧ (np1.length : Int) = np0) ∧ (np2.length : Int) = 6 ∧ ∀ m : Int, 0 ≤ m → m < (np2.length : Int) → 0 ≤ gI np2 m ∧ gI np2 m ≤ fullI np0 := by
  unfold F_l07Two at h
  cases h1 : ((!(F_l06Is mp0 mp1 mp2)) || (!(F_l06Is np0 np1 np2)))
  · obtain ⟨h2, h3⟩ := bor_f h1
    exact ⟨l06Is_t (bn_f h2), l06Is_t (bn_f h3)⟩
  · rw [h1, cond_true] at h; cases h

def F_l07Forth_L1b (linkp : List Int) (seen : Int) (others : Int) (rec : Int → Except (Bool) (Int)) (x7 : Int) : Except (Bool) (Int) :=
  bif (decide (x7 < (linkp.length : Int))) then (bif ((F_l01Bit seen x7) && (decide ((andI (gI linkp x7) others) = 0))) then (.error false) else (rec (x7 + 1))) else (.ok x7)
def F_l07Forth_L1 (linkp : List Int) (seen : Int) (others : Int) : Nat → Int → Except (Bool) (Int)
  | 0, x7 => .ok x7
  | r + 1, x7 => F_l07Forth_L1b linkp seen others (F_l07Forth_L1 linkp seen others r) x7
def F_l07Forth (linkp : List Int) (seen : Int) (others : Int) : Bool :=
  bif (isOk (F_l07Forth_L1 linkp seen others (Int.toNat ((linkp.length : Int) - 0) + 1) 0)) then true else (errD (F_l07Forth_L1 linkp seen others (Int.toNat ((linkp.length : Int) - 0) + 1) 0))
theorem cf_l07Forth (args : Array Value) (w : World) : (callFunc 214 args).run Try.prog w = .ok (.enter 214 args) w := by kernel_rfl
set_option maxRecDepth 100000 in
theorem c_l07Forth (linkpA : Option Addr) (linkpN linkpC : Nat) (linkp : List Int) (seen : Int) (others : Int) (w : World) (linkpR : RdS w 1 linkpA linkpN linkpC linkp) (hl : linkp.length ≤ 62) :
    Calls Try.prog 214 #[.slice linkpA linkpN linkpC, .int .i64 seen, .int .i64 others] w (Ret fun v w' => v = .bool (F_l07Forth linkp seen others) ∧ Ext w w') := by
  obtain rfl : linkpN = linkp.length := linkpR.len1.symm
  have linkpLe := linkpR.le
  have hS := St.nil w
  have hS1 := St.rd0 hS rfl linkpR; clear hS
  refine enter (args := [.slice linkpA linkp.length linkpC, .int .i64 seen, .int .i64 others]) Try.func214 rfl rfl ?_
  rw [Try.ntmps214]; intro a hE
  have hE := hE.sub (L' := [(0, .slice linkpA linkp.length linkpC), (1, .int .i64 seen), (2, .int .i64 others)]) ⟨rfl, rfl, rfl, trivial⟩
  refine c_seq ?_
  refine c_reg ?_
  refine q_step (v := .bool false) hE (y_assign rfl) rfl rfl rfl ?_; intro a2 hE3; clear hE
  refine c_nil ?_
  have hE4 := hE3.sub (L' := [(0, .slice linkpA linkp.length linkpC), (1, .int .i64 seen), (2, .int .i64 others)]) ⟨rfl, rfl, rfl, trivial⟩; clear hE3
  refine p_tn ?_
  refine c_seq ?_
  refine c_seq ?_
  refine c_reg ?_
  refine q_step (v := .int .i64 0) hE4 (y_assign rfl) rfl rfl rfl ?_; intro a5 hE6; clear hE4
  refine c_nil ?_
  have hE7 := hE6.sub (L' := [(0, .slice linkpA linkp.length linkpC), (1, .int .i64 seen), (2, .int .i64 others), (7, .int .i64 0)]) ⟨rfl, rfl, rfl, rfl, trivial⟩; clear hE6
  refine p_tn ?_
  refine c_cut1 (fun a' w' => isOk (F_l07Forth_L1 linkp seen others (Int.toNat ((linkp.length : Int) - 0) + 1) 0) = true ∧ (0 ≤ (okD (F_l07Forth_L1 linkp seen others (Int.toNat ((linkp.length : Int) - 0) + 1) 0))) ∧ ((okD (F_l07Forth_L1 linkp seen others (Int.toNat ((linkp.length : Int) - 0) + 1) 0)) ≤ (linkp.length : Int)) ∧ E a' 26 [(0, .slice linkpA linkp.length linkpC), (1, .int .i64 seen), (2, .int .i64 others), (7, .int .i64 (okD (F_l07Forth_L1 linkp seen others (Int.toNat ((linkp.length : Int) - 0) + 1) 0)))] ∧ St w w' [.rd 1 linkpA linkp.length linkpC linkp]) ?_ ?_
  ·
    refine wp_block ?_
    refine c_loop (fun r a' w' => ∃ x7 : Int, F_l07Forth_L1 linkp seen others r x7 = F_l07Forth_L1 linkp seen others (Int.toNat ((linkp.length : Int) - 0) + 1) 0 ∧ Int.toNat ((linkp.length : Int) - x7) < r ∧ (0 ≤ x7) ∧ (x7 ≤ (linkp.length : Int)) ∧ E a' 26 [(0, .slice linkpA linkp.length linkpC), (1, .int .i64 seen), (2, .int .i64 others), (7, .int .i64 x7)] ∧ St w w' [.rd 1 linkpA linkp.length linkpC linkp]) (r := (Int.toNat ((linkp.length : Int) - 0) + 1)) ?_ ?_
    · exact ⟨0, rfl, Nat.lt_succ_self _, (by first | omega | (simp only [sS_len, sL_len]; omega) | (simp only [List.length_replicate, sI_len]; omega) | (simp only [List.length_append, List.length_cons, List.length_nil, sI_len, cond_true, cond_false]; omega) | (simp only [List.length_append, List.length_cons, List.length_nil, sI_len, cond_eq_ite, apply_ite List.length]; split <;> simp only [List.length_append, List.length_cons, List.length_nil, sI_len] <;> omega) | grind), (by first | omega | (simp only [sS_len, sL_len]; omega) | (simp only [List.length_replicate, sI_len]; omega) | (simp only [List.length_append, List.length_cons, List.length_nil, sI_len, cond_true, cond_false]; omega) | (simp only [List.length_append, List.length_cons, List.length_nil, sI_len, cond_eq_ite, apply_ite List.length]; split <;> simp only [List.length_append, List.length_cons, List.length_nil, sI_len] <;> omega) | grind), (hE7.sub (L' := [(0, .slice linkpA linkp.length linkpC), (1, .int .i64 seen), (2, .int .i64 others), (7, .int .i64 0)]) ⟨rfl, rfl, rfl, rfl, trivial⟩), (St.pick (Γ' := [.rd 1 linkpA linkp.length linkpC linkp]) hS1 [0] (by decide) rfl)⟩
    ·
      clear hE7 hS1
      rintro r17 a9 w10 ⟨x7, hT13, hr14, hi15, hi16, hE11, hS12⟩
      obtain ⟨r17, rfl⟩ : ∃ r', r17 = r' + 1 := ⟨r17 - 1, by omega⟩
      refine c_seq ?_
      refine c_seq ?_
      refine c_reg ?_
      refine q_step (v := .int .i64 x7) hE11 (y_move rfl) rfl rfl rfl ?_; intro a18 hE19; clear hE11
      refine q_step (v := .slice linkpA linkp.length linkpC) hE19 (y_move rfl) rfl rfl rfl ?_; intro a20 hE21; clear hE19
      refine q_step (v := .int .i64 (linkp.length : Int)) hE21 (y_len (e := 2) (by kernel_rfl) rfl) rfl rfl rfl ?_; intro a22 hE23; clear hE21
      refine q_step (v := .bool (decide (x7 < (linkp.length : Int)))) hE23 (y_lss rfl rfl) rfl rfl rfl ?_; intro a24 hE25; clear hE23
      refine c_nil ?_
      have hE26 := hE25.sub (L' := [(0, .slice linkpA linkp.length linkpC), (1, .int .i64 seen), (2, .int .i64 others), (7, .int .i64 x7), (11, .bool (decide (x7 < (linkp.length : Int))))]) ⟨rfl, rfl, rfl, rfl, rfl, trivial⟩; clear hE25
      refine p_tn ?_
      refine c_cond hE26 rfl (fun ht27 => ?_) (fun ht27 => ?_)
      ·
        have hp28 := of_decide_eq_true ht27
        have hE29 := hE26; rw [ht27] at hE29; clear hE26
        refine wp_skip ?_
        refine p_tn ?_
        refine c_seq ?_
        refine wp_block ?_
        refine c_cut (fun a' w' => E a' 26 [(0, .slice linkpA linkp.length linkpC), (1, .int .i64 seen), (2, .int .i64 others), (7, .int .i64 x7), (25, .bool ((F_l01Bit seen x7) && (decide ((andI (gI linkp x7) others) = 0))))] ∧ St w w' [.rd 1 linkpA linkp.length linkpC linkp]) ?_ ?_
        ·
          refine c_reg ?_
          refine q_step (v := .int .i64 seen) hE29 (y_move rfl) rfl rfl rfl ?_; intro a30 hE31; clear hE29
          refine q_step (v := .int .i64 x7) hE31 (y_move rfl) rfl rfl rfl ?_; intro a32 hE33; clear hE31
          refine l_step hE33 rfl (l_call (f := 144) (argv := [.int .i64 seen, .int .i64 x7]) hE33 (fun _ => cf_l01Bit _ _) rfl rfl (c_l01Bit seen x7 w10 (by omega) (by omega)) ?_)
          rintro _ _ ⟨rfl, rfl⟩ a36 hE37; clear hE33
          refine q_step (v := .bool (F_l01Bit seen x7)) hE37 (y_move rfl) rfl rfl rfl ?_; intro a40 hE41; clear hE37
          rcases Bool.eq_false_or_eq_true (F_l01Bit seen x7) with hb42 | hb42
          ·
            have hE43 := hE41; (try rw [hb42] at hE43); clear hE41
            refine q_step (v := .slice linkpA linkp.length linkpC) hE43 (y_move rfl) rfl rfl rfl ?_; intro a44 hE45; clear hE43
            refine q_step (v := .int .i64 x7) hE45 (y_move rfl) rfl rfl rfl ?_; intro a46 hE47; clear hE45
            refine q_step (v := .pointer (some (adr linkpA (Int.toNat x7)))) hE47 (y_idx (by kernel_rfl) (fun _ => by kernel_rfl) rfl rfl (RdS.isS (m := x7) (St.rdR (i := 0) hS12 rfl) (by omega) (by omega)) (by omega) (by omega) (Nat.mul_one _).symm) rfl rfl rfl ?_; intro a48 hE49; clear hE47
            refine q_step (v := .int .i64 (gI linkp x7)) hE49 (y_load (fun _ => by kernel_rfl) rfl (RdS.elt (St.rdR (i := 0) hS12 rfl) (by omega) (by omega))) rfl rfl rfl ?_; intro a50 hE51; clear hE49
            refine q_step (v := .int .i64 others) hE51 (y_move rfl) rfl rfl rfl ?_; intro a52 hE53; clear hE51
            refine q_step (v := .int .i64 (andI (gI linkp x7) others)) hE53 (y_and rfl rfl) rfl rfl rfl ?_; intro a54 hE55; clear hE53
            refine q_step (v := .bool (decide ((andI (gI linkp x7) others) = 0))) hE55 (y_eql rfl rfl) rfl rfl rfl ?_; intro a56 hE57; clear hE55
            refine q_step (v := .bool (decide ((andI (gI linkp x7) others) = 0))) hE57 (y_pick (b := true) rfl rfl) rfl rfl rfl ?_; intro a58 hE59; clear hE57
            refine c_nil ?_
            have hE60 := hE59.sub (L' := [(0, .slice linkpA linkp.length linkpC), (1, .int .i64 seen), (2, .int .i64 others), (7, .int .i64 x7), (25, .bool (decide ((andI (gI linkp x7) others) = 0)))]) ⟨rfl, rfl, rfl, rfl, rfl, trivial⟩; clear hE59
            refine p_tn ?_
            have hE61 := hE60.sub (L' := [(0, .slice linkpA linkp.length linkpC), (1, .int .i64 seen), (2, .int .i64 others), (7, .int .i64 x7), (25, .bool (decide ((andI (gI linkp x7) others) = 0)))]) ⟨rfl, rfl, rfl, rfl, rfl, trivial⟩
            have hS62 := (St.pick (Γ' := [.rd 1 linkpA linkp.length linkpC linkp]) hS12 [0] (by decide) rfl)
            exact ⟨(by rw [hb42]; exact hE61), hS62⟩
          ·
            have hE63 := hE41; (try rw [hb42] at hE63); clear hE41
            refine q_skip hE63 rfl rfl rfl ?_; intro a64 hE65; clear hE63
            refine q_skip hE65 rfl rfl rfl ?_; intro a66 hE67; clear hE65
            refine q_skip hE67 rfl rfl rfl ?_; intro a68 hE69; clear hE67
            refine q_skip hE69 rfl rfl rfl ?_; intro a70 hE71; clear hE69
            refine q_skip hE71 rfl rfl rfl ?_; intro a72 hE73; clear hE71
            refine q_skip hE73 rfl rfl rfl ?_; intro a74 hE75; clear hE73
            refine q_skip hE75 rfl rfl rfl ?_; intro a76 hE77; clear hE75
            refine q_step (v := .bool false) hE77 (y_pick (b := false) rfl rfl) rfl rfl rfl ?_; intro a78 hE79; clear hE77
            refine c_nil ?_
            have hE80 := hE79.sub (L' := [(0, .slice linkpA linkp.length linkpC), (1, .int .i64 seen), (2, .int .i64 others), (7, .int .i64 x7), (25, .bool false)]) ⟨rfl, rfl, rfl, rfl, rfl, trivial⟩; clear hE79
            refine p_tn ?_
            have hE81 := hE80.sub (L' := [(0, .slice linkpA linkp.length linkpC), (1, .int .i64 seen), (2, .int .i64 others), (7, .int .i64 x7), (25, .bool false)]) ⟨rfl, rfl, rfl, rfl, rfl, trivial⟩
            have hS82 := (St.pick (Γ' := [.rd 1 linkpA linkp.length linkpC linkp]) hS12 [0] (by decide) rfl)
            exact ⟨(by rw [hb42]; exact hE81), hS82⟩
        ·
          rintro a83 w84 ⟨hE85, hS86⟩; clear hE29 hS12
          refine c_cond hE85 rfl (fun ht88 => ?_) (fun ht88 => ?_)
          ·
            obtain ⟨ht89, ht90⟩ := band_t ht88
            have hp91 := of_decide_eq_true ht90
            have hE92 := hE85; rw [ht88] at hE92; clear hE85
            refine c_seq ?_
            refine c_reg ?_
            refine q_step (v := .bool false) hE92 (y_assign rfl) rfl rfl rfl ?_; intro a93 hE94; clear hE92
            refine c_nil ?_
            have hE95 := hE94.sub (L' := [(6, .bool false)]) ⟨rfl, trivial⟩; clear hE94
            refine p_tn ?_
            refine wp_ret ?_
            refine p_br ?_
            refine p_tr ?_
            have hX96 : F_l07Forth_L1 linkp seen others (Int.toNat ((linkp.length : Int) - 0) + 1) 0 = .error false := hT13.symm.trans (show F_l07Forth_L1b linkp seen others (F_l07Forth_L1 linkp seen others r17) x7 = .error false by unfold F_l07Forth_L1b; rw [ht88, ht27]; first | done | rfl)
            refine p_tr (p_br (p_tr ?_))
            refine p_tr ?_
            have hF : F_l07Forth linkp seen others = false := by unfold F_l07Forth; rw [hX96]; first | done | rfl
            refine c_ret1 hE95 rfl rfl ?_
            exact ⟨(by rw [hF]; first | done | (dsimp only; done) | rfl), hS86.ext⟩
          ·
            have hE97 := hE85; rw [ht88] at hE97; clear hE85
            refine wp_skip ?_
            refine p_bn ?_
            refine p_tn ?_
            refine c_reg ?_
            refine q_step (v := .int .i64 x7) hE97 (y_move rfl) rfl rfl rfl ?_; intro a98 hE99; clear hE97
            refine q_step (v := .int .i64 (x7 + 1)) hE99 (y_add rfl rfl ⟨(by omega), (by omega)⟩) rfl rfl rfl ?_; intro a100 hE101; clear hE99
            refine q_step (v := .int .i64 (x7 + 1)) hE101 (y_assign rfl) rfl rfl rfl ?_; intro a102 hE103; clear hE101
            refine c_nil ?_
            have hE104 := hE103.sub (L' := [(0, .slice linkpA linkp.length linkpC), (1, .int .i64 seen), (2, .int .i64 others), (7, .int .i64 (x7 + 1))]) ⟨rfl, rfl, rfl, rfl, trivial⟩; clear hE103
            refine p_tn ⟨r17, Nat.lt_succ_self _, x7 + 1, (hT13.symm.trans (show F_l07Forth_L1b linkp seen others (F_l07Forth_L1 linkp seen others r17) x7 = F_l07Forth_L1 linkp seen others r17 (x7 + 1) by unfold F_l07Forth_L1b; rw [ht88, ht27]; first | done | rfl)).symm, (by omega), (by first | omega | (simp only [sS_len, sL_len]; omega) | (simp only [List.length_replicate, sI_len]; omega) | (simp only [List.length_append, List.length_cons, List.length_nil, sI_len, cond_true, cond_false]; omega) | (simp only [List.length_append, List.length_cons, List.length_nil, sI_len, cond_eq_ite, apply_ite List.length]; split <;> simp only [List.length_append, List.length_cons, List.length_nil, sI_len] <;> omega) | grind), (by first | omega | (simp only [sS_len, sL_len]; omega) | (simp only [List.length_replicate, sI_len]; omega) | (simp only [List.length_append, List.length_cons, List.length_nil, sI_len, cond_true, cond_false]; omega) | (simp only [List.length_append, List.length_cons, List.length_nil, sI_len, cond_eq_ite, apply_ite List.length]; split <;> simp only [List.length_append, List.length_cons, List.length_nil, sI_len] <;> omega) | grind), (hE104.sub (L' := [(0, .slice linkpA linkp.length linkpC), (1, .int .i64 seen), (2, .int .i64 others), (7, .int .i64 (x7 + 1))]) ⟨rfl, rfl, rfl, rfl, trivial⟩), (St.pick (Γ' := [.rd 1 linkpA linkp.length linkpC linkp]) hS86 [0] (by decide) rfl)⟩
      ·
        have hp105 := of_decide_eq_false ht27
        have hE106 := hE26; rw [ht27] at hE106; clear hE26
        refine wp_exit ?_
        refine p_te ?_
        have hX107 : F_l07Forth_L1 linkp seen others (Int.toNat ((linkp.length : Int) - 0) + 1) 0 = .ok x7 := hT13.symm.trans (show F_l07Forth_L1b linkp seen others (F_l07Forth_L1 linkp seen others r17) x7 = .ok x7 by unfold F_l07Forth_L1b; rw [ht27]; first | done | rfl)
        refine p_te (p_be (p_tn ?_))
        exact ⟨(by rw [hX107]; rfl), (by rw [hX107]; exact (show 0 ≤ x7 from (by first | omega | (simp only [sS_len, sL_len]; omega) | (simp only [List.length_replicate, sI_len]; omega) | (simp only [List.length_append, List.length_cons, List.length_nil, sI_len, cond_true, cond_false]; omega) | (simp only [List.length_append, List.length_cons, List.length_nil, sI_len, cond_eq_ite, apply_ite List.length]; split <;> simp only [List.length_append, List.length_cons, List.length_nil, sI_len] <;> omega) | grind))), (by rw [hX107]; exact (show x7 ≤ (linkp.length : Int) from (by first | omega | (simp only [sS_len, sL_len]; omega) | (simp only [List.length_replicate, sI_len]; omega) | (simp only [List.length_append, List.length_cons, List.length_nil, sI_len, cond_true, cond_false]; omega) | (simp only [List.length_append, List.length_cons, List.length_nil, sI_len, cond_eq_ite, apply_ite List.length]; split <;> simp only [List.length_append, List.length_cons, List.length_nil, sI_len] <;> omega) | grind))), (by rw [hX107]; exact (hE106.sub (L' := [(0, .slice linkpA linkp.length linkpC), (1, .int .i64 seen), (2, .int .i64 others), (7, .int .i64 x7)]) ⟨rfl, rfl, rfl, rfl, trivial⟩)), (St.pick (Γ' := [.rd 1 linkpA linkp.length linkpC linkp]) hS12 [0] (by decide) rfl)⟩
  ·
    rintro a108 w109 ⟨hO112, hi113, hi114, hE110, hS111⟩; clear hE7 hS1
    refine p_tn ?_
    refine c_seq ?_
    refine c_reg ?_
    refine q_step (v := .bool true) hE110 (y_assign rfl) rfl rfl rfl ?_; intro a115 hE116; clear hE110
    refine c_nil ?_
    have hE117 := hE116.sub (L' := [(6, .bool true)]) ⟨rfl, trivial⟩; clear hE116
    refine p_tn ?_
    refine wp_ret ?_
    have hF : F_l07Forth linkp seen others = true := by unfold F_l07Forth; rw [hO112]; first | done | rfl
    refine c_ret1 hE117 rfl rfl ?_
    exact ⟨(by rw [hF]; first | done | (dsimp only; done) | rfl), hS111.ext⟩

theorem l07Forth_eq (linkp : List Int) (seen others : Int) : F_l07Forth linkp seen others = (List.range linkp.length).all (fun (j : Nat) => !(F_has seen (j : Int) && decide (andI (gI linkp (j : Int)) others = 0))) := by
  unfold F_l07Forth
  rw [allE (F_l07Forth_L1 linkp seen others) false (linkp.length : Int) (fun i => F_has seen i && decide (andI (gI linkp i) others = 0)) (by omega) (fun _ _ _ _ => rfl), isOk_bif, errD_bif, bif_tf, Int.toNat_natCast]

end Go.Proofs.Ytlbonhloeefnmaa
