/- GP: models and contracts, printed by wip/gen/gen.py -/
import Derived.Test.YtlbonhloeefnmaaKLFGQ
set_option linter.unusedVariables false
set_option linter.unusedSimpArgs false
namespace Go.Proofs.Ytlbonhloeefnmaa
open Go.RowKit
def F_l05Squeeze_L1b (worlds : List Int) (mask : Int) (rec : Int → Int → Int × Int) (out5 : Int) (k6 : Int) : Int × Int :=
  bif (decide (k6 < (worlds.length : Int))) then (rec (bif (F_l01Bit mask (gI worlds k6)) then orI out5 (powI k6) else out5) (k6 + 1)) else (out5, k6)
def F_l05Squeeze_L1 (worlds : List Int) (mask : Int) : Nat → Int → Int → Int × Int
  | 0, out5, k6 => (out5, k6)
  | r + 1, out5, k6 => F_l05Squeeze_L1b worlds mask (F_l05Squeeze_L1 worlds mask r) out5 k6
def F_l05Squeeze (worlds : List Int) (mask : Int) : Int :=
  (F_l05Squeeze_L1 worlds mask (Int.toNat ((worlds.length : Int) - 0) + 1) 0 0).1
theorem cf_l05Squeeze (args : Array Value) (w : World) : (callFunc 233 args).run Try.prog w = .ok (.enter 233 args) w := by kernel_rfl
set_option maxRecDepth 100000 in
theorem c_l05Squeeze (worldsA : Option Addr) (worldsN worldsC : Nat) (worlds : List Int) (mask : Int) (w : World) (worldsR : RdS w 1 worldsA worldsN worldsC worlds) (hw : worlds.length ≤ 30) (hx : ∀ m : Int, 0 ≤ m → m < (worlds.length : Int) → 0 ≤ gI worlds m ∧ gI worlds m ≤ 62) :
    Calls Try.prog 233 #[.slice worldsA worldsN worldsC, .int .i64 mask] w (Ret fun v w' => v = .int .i64 (F_l05Squeeze worlds mask) ∧ Ext w w') := by
  obtain rfl : worldsN = worlds.length := worldsR.len1.symm
  have worldsLe := worldsR.le
  have hS := St.nil w
  have hS1 := St.rd0 hS rfl worldsR; clear hS
  refine enter (args := [.slice worldsA worlds.length worldsC, .int .i64 mask]) Try.func233 rfl rfl ?_
  rw [Try.ntmps233]; intro a hE
  have hE := hE.sub (L' := [(0, .slice worldsA worlds.length worldsC), (1, .int .i64 mask)]) ⟨rfl, rfl, trivial⟩
  refine c_seq ?_
  refine c_reg ?_
  refine q_step (v := .int .i64 0) hE (y_assign rfl) rfl rfl rfl ?_; intro a2 hE3; clear hE
  refine c_nil ?_
  have hE4 := hE3.sub (L' := [(0, .slice worldsA worlds.length worldsC), (1, .int .i64 mask)]) ⟨rfl, rfl, trivial⟩; clear hE3
  refine p_tn ?_
  refine c_seq ?_
  refine c_reg ?_
  refine q_step (v := .int .i64 0) hE4 (y_assign rfl) rfl rfl rfl ?_; intro a5 hE6; clear hE4
  refine c_nil ?_
  have hE7 := hE6.sub (L' := [(0, .slice worldsA worlds.length worldsC), (1, .int .i64 mask), (5, .int .i64 0)]) ⟨rfl, rfl, rfl, trivial⟩; clear hE6
  refine p_tn ?_
  refine c_seq ?_
  refine c_seq ?_
  refine c_reg ?_
  refine q_step (v := .int .i64 0) hE7 (y_assign rfl) rfl rfl rfl ?_; intro a8 hE9; clear hE7
  refine c_nil ?_
  have hE10 := hE9.sub (L' := [(0, .slice worldsA worlds.length worldsC), (1, .int .i64 mask), (5, .int .i64 0), (6, .int .i64 0)]) ⟨rfl, rfl, rfl, rfl, trivial⟩; clear hE9
  refine p_tn ?_
  refine c_cut1 (fun a' w' => (0 ≤ ((F_l05Squeeze_L1 worlds mask (Int.toNat ((worlds.length : Int) - 0) + 1) 0 0).2)) ∧ (((F_l05Squeeze_L1 worlds mask (Int.toNat ((worlds.length : Int) - 0) + 1) 0 0).2) ≤ (worlds.length : Int)) ∧ E a' 24 [(0, .slice worldsA worlds.length worldsC), (1, .int .i64 mask), (5, .int .i64 ((F_l05Squeeze_L1 worlds mask (Int.toNat ((worlds.length : Int) - 0) + 1) 0 0).1)), (6, .int .i64 ((F_l05Squeeze_L1 worlds mask (Int.toNat ((worlds.length : Int) - 0) + 1) 0 0).2))] ∧ St w w' [.rd 1 worldsA worlds.length worldsC worlds]) ?_ ?_
  ·
   refine wp_block ?_
   refine c_loop (fun r a' w' => ∃ out5 : Int, ∃ k6 : Int, F_l05Squeeze_L1 worlds mask r out5 k6 = F_l05Squeeze_L1 worlds mask (Int.toNat ((worlds.length : Int) - 0) + 1) 0 0 ∧ Int.toNat ((worlds.length : Int) - k6) < r ∧ (0 ≤ k6) ∧ (k6 ≤ (worlds.length : Int)) ∧ E a' 24 [(0, .slice worldsA worlds.length worldsC), (1, .int .i64 mask), (5, .int .i64 out5), (6, .int .i64 k6)] ∧ St w w' [.rd 1 worldsA worlds.length worldsC worlds]) (r := (Int.toNat ((worlds.length : Int) - 0) + 1)) ?_ ?_
   · exact ⟨0, 0, rfl, Nat.lt_succ_self _, (by first | omega | (simp only [sS_len, sL_len]; omega) | (simp only [List.length_replicate, sI_len]; omega) | (simp only [List.length_append, List.length_cons, List.length_nil, sI_len, cond_true, cond_false]; omega) | (simp only [List.length_append, List.length_cons, List.length_nil, sI_len, cond_eq_ite, apply_ite List.length]; split <;> simp only [List.length_append, List.length_cons, List.length_nil, sI_len] <;> omega) | grind), (by first | omega | (simp only [sS_len, sL_len]; omega) | (simp only [List.length_replicate, sI_len]; omega) | (simp only [List.length_append, List.length_cons, List.length_nil, sI_len, cond_true, cond_false]; omega) | (simp only [List.length_append, List.length_cons, List.length_nil, sI_len, cond_eq_ite, apply_ite List.length]; split <;> simp only [List.length_append, List.length_cons, List.length_nil, sI_len] <;> omega) | grind), (hE10.sub (L' := [(0, .slice worldsA worlds.length worldsC), (1, .int .i64 mask), (5, .int .i64 0), (6, .int .i64 0)]) ⟨rfl, rfl, rfl, rfl, trivial⟩), (St.pick (Γ' := [.rd 1 worldsA worlds.length worldsC worlds]) hS1 [0] (by decide) rfl)⟩
   ·
    clear hE10 hS1
    rintro r20 a12 w13 ⟨out5, k6, hT16, hr17, hi18, hi19, hE14, hS15⟩
    obtain ⟨r20, rfl⟩ : ∃ r', r20 = r' + 1 := ⟨r20 - 1, by omega⟩
    refine c_seq ?_
    refine c_seq ?_
    refine c_reg ?_
    refine q_step (v := .int .i64 k6) hE14 (y_move rfl) rfl rfl rfl ?_; intro a21 hE22; clear hE14
    refine q_step (v := .slice worldsA worlds.length worldsC) hE22 (y_move rfl) rfl rfl rfl ?_; intro a23 hE24; clear hE22
    refine q_step (v := .int .i64 (worlds.length : Int)) hE24 (y_len (e := 2) (by kernel_rfl) rfl) rfl rfl rfl ?_; intro a25 hE26; clear hE24
    refine q_step (v := .bool (decide (k6 < (worlds.length : Int)))) hE26 (y_lss rfl rfl) rfl rfl rfl ?_; intro a27 hE28; clear hE26
    refine c_nil ?_
    have hE29 := hE28.sub (L' := [(0, .slice worldsA worlds.length worldsC), (1, .int .i64 mask), (5, .int .i64 out5), (6, .int .i64 k6), (10, .bool (decide (k6 < (worlds.length : Int))))]) ⟨rfl, rfl, rfl, rfl, rfl, trivial⟩; clear hE28
    refine p_tn ?_
    refine c_cond hE29 rfl (fun ht30 => ?_) (fun ht30 => ?_)
    ·
     have hp31 := of_decide_eq_true ht30
     have hE32 := hE29; rw [ht30] at hE32; clear hE29
     have hx1 := hx k6 (by omega) (by omega)
     refine wp_skip ?_
     refine p_tn ?_
     refine c_cut (fun a' w' => E a' 24 [(0, .slice worldsA worlds.length worldsC), (1, .int .i64 mask), (5, .int .i64 (bif (F_l01Bit mask (gI worlds k6)) then orI out5 (powI k6) else out5)), (6, .int .i64 k6)] ∧ St w w' [.rd 1 worldsA worlds.length worldsC worlds]) ?_ ?_
     ·
      refine wp_block ?_
      refine c_seq ?_
      refine c_reg ?_
      refine q_step (v := .int .i64 mask) hE32 (y_move rfl) rfl rfl rfl ?_; intro a33 hE34; clear hE32
      refine q_step (v := .slice worldsA worlds.length worldsC) hE34 (y_move rfl) rfl rfl rfl ?_; intro a35 hE36; clear hE34
      refine q_step (v := .int .i64 k6) hE36 (y_move rfl) rfl rfl rfl ?_; intro a37 hE38; clear hE36
      refine q_step (v := .pointer (some (adr worldsA (Int.toNat k6)))) hE38 (y_idx (by kernel_rfl) (fun _ => by kernel_rfl) rfl rfl (RdS.isS (m := k6) (St.rdR (i := 0) hS15 rfl) (by omega) (by omega)) (by omega) (by omega) (Nat.mul_one _).symm) rfl rfl rfl ?_; intro a39 hE40; clear hE38
      refine q_step (v := .int .i64 (gI worlds k6)) hE40 (y_load (fun _ => by kernel_rfl) rfl (RdS.elt (St.rdR (i := 0) hS15 rfl) (by omega) (by omega))) rfl rfl rfl ?_; intro a41 hE42; clear hE40
      refine l_step hE42 rfl (l_call (f := 144) (argv := [.int .i64 mask, .int .i64 (gI worlds k6)]) hE42 (fun _ => cf_l01Bit _ _) rfl rfl (c_l01Bit mask (gI worlds k6) w13 (by omega) (by omega)) ?_)
      rintro _ _ ⟨rfl, rfl⟩ a45 hE46; clear hE42
      refine c_nil ?_
      have hE49 := hE46.sub (L' := [(0, .slice worldsA worlds.length worldsC), (1, .int .i64 mask), (5, .int .i64 out5), (6, .int .i64 k6), (18, .bool (F_l01Bit mask (gI worlds k6)))]) ⟨rfl, rfl, rfl, rfl, rfl, trivial⟩; clear hE46
      refine p_tn ?_
      refine c_cond hE49 rfl (fun ht50 => ?_) (fun ht50 => ?_)
      ·
       have hE51 := hE49; rw [ht50] at hE51; clear hE49
       refine c_reg ?_
       refine q_step (v := .int .i64 out5) hE51 (y_move rfl) rfl rfl rfl ?_; intro a52 hE53; clear hE51
       refine q_step (v := .int .i64 k6) hE53 (y_move rfl) rfl rfl rfl ?_; intro a54 hE55; clear hE53
       refine l_step hE55 rfl (l_call (f := 209) (argv := [.int .i64 k6]) hE55 (fun _ => cf_l01One _ _) rfl rfl (d_l01One k6 w13 (by omega) (by omega)) ?_)
       rintro _ _ ⟨rfl, rfl⟩ a58 hE59; clear hE55
       refine q_step (v := .int .i64 (orI out5 (powI k6))) hE59 (y_or rfl rfl) rfl rfl rfl ?_; intro a62 hE63; clear hE59
       refine q_step (v := .int .i64 (orI out5 (powI k6))) hE63 (y_assign rfl) rfl rfl rfl ?_; intro a64 hE65; clear hE63
       refine c_nil ?_
       have hE66 := hE65.sub (L' := [(0, .slice worldsA worlds.length worldsC), (1, .int .i64 mask), (5, .int .i64 (orI out5 (powI k6))), (6, .int .i64 k6)]) ⟨rfl, rfl, rfl, rfl, trivial⟩; clear hE65
       refine p_bn ?_
       refine p_tn ?_
       have hE67 := hE66.sub (L' := [(0, .slice worldsA worlds.length worldsC), (1, .int .i64 mask), (5, .int .i64 (orI out5 (powI k6))), (6, .int .i64 k6)]) ⟨rfl, rfl, rfl, rfl, trivial⟩
       have hS68 := (St.pick (Γ' := [.rd 1 worldsA worlds.length worldsC worlds]) hS15 [0] (by decide) rfl)
       exact ⟨(by rw [ht50]; exact hE67), hS68⟩
      ·
       have hE69 := hE49; rw [ht50] at hE69; clear hE49
       refine wp_skip ?_
       refine p_bn ?_
       refine p_tn ?_
       have hE70 := hE69.sub (L' := [(0, .slice worldsA worlds.length worldsC), (1, .int .i64 mask), (5, .int .i64 out5), (6, .int .i64 k6)]) ⟨rfl, rfl, rfl, rfl, trivial⟩
       have hS71 := (St.pick (Γ' := [.rd 1 worldsA worlds.length worldsC worlds]) hS15 [0] (by decide) rfl)
       exact ⟨(by rw [ht50]; exact hE70), hS71⟩
     ·
      rintro a72 w73 ⟨hE74, hS75⟩; clear hE32 hS15
      refine c_reg ?_
      refine q_step (v := .int .i64 k6) hE74 (y_move rfl) rfl rfl rfl ?_; intro a77 hE78; clear hE74
      refine q_step (v := .int .i64 (k6 + 1)) hE78 (y_add rfl rfl ⟨(by omega), (by omega)⟩) rfl rfl rfl ?_; intro a79 hE80; clear hE78
      refine q_step (v := .int .i64 (k6 + 1)) hE80 (y_assign rfl) rfl rfl rfl ?_; intro a81 hE82; clear hE80
      refine c_nil ?_
      have hE83 := hE82.sub (L' := [(0, .slice worldsA worlds.length worldsC), (1, .int .i64 mask), (5, .int .i64 (bif (F_l01Bit mask (gI worlds k6)) then orI out5 (powI k6) else out5)), (6, .int .i64 (k6 + 1))]) ⟨rfl, rfl, rfl, rfl, trivial⟩; clear hE82
      refine p_tn ⟨r20, Nat.lt_succ_self _, bif (F_l01Bit mask (gI worlds k6)) then orI out5 (powI k6) else out5, k6 + 1, (hT16.symm.trans (show F_l05Squeeze_L1b worlds mask (F_l05Squeeze_L1 worlds mask r20) out5 k6 = F_l05Squeeze_L1 worlds mask r20 (bif (F_l01Bit mask (gI worlds k6)) then orI out5 (powI k6) else out5) (k6 + 1) by unfold F_l05Squeeze_L1b; rw [ht30]; first | done | rfl)).symm, (by omega), (by first | omega | (simp only [sS_len, sL_len]; omega) | (simp only [List.length_replicate, sI_len]; omega) | (simp only [List.length_append, List.length_cons, List.length_nil, sI_len, cond_true, cond_false]; omega) | (simp only [List.length_append, List.length_cons, List.length_nil, sI_len, cond_eq_ite, apply_ite List.length]; split <;> simp only [List.length_append, List.length_cons, List.length_nil, sI_len] <;> omega) | grind), (by first | omega | (simp only [sS_len, sL_len]; omega) | (simp only [List.length_replicate, sI_len]; omega) | (simp only [List.length_append, List.length_cons, List.length_nil, sI_len, cond_true, cond_false]; omega) | (simp only [List.length_append, List.length_cons, List.length_nil, sI_len, cond_eq_ite, apply_ite List.length]; split <;> simp only [List.length_append, List.length_cons, List.length_nil, sI_len] <;> omega) | grind), (hE83.sub (L' := [(0, .slice worldsA worlds.length worldsC), (1, .int .i64 mask), (5, .int .i64 (bif (F_l01Bit mask (gI worlds k6)) then orI out5 (powI k6) else out5)), (6, .int .i64 (k6 + 1))]) ⟨rfl, rfl, rfl, rfl, trivial⟩), (St.pick (Γ' := [.rd 1 worldsA worlds.length worldsC worlds]) hS75 [0] (by decide) rfl)⟩
    ·
     have hp84 := of_decide_eq_false ht30
     have hE85 := hE29; rw [ht30] at hE85; clear hE29
     refine wp_exit ?_
     refine p_te ?_
     have hX86 : F_l05Squeeze_L1 worlds mask (Int.toNat ((worlds.length : Int) - 0) + 1) 0 0 = (out5, k6) := hT16.symm.trans (show F_l05Squeeze_L1b worlds mask (F_l05Squeeze_L1 worlds mask r20) out5 k6 = (out5, k6) by unfold F_l05Squeeze_L1b; rw [ht30]; first | done | rfl)
     refine p_te (p_be (p_tn ?_))
     exact ⟨(by rw [hX86]; exact (show 0 ≤ k6 from (by first | omega | (simp only [sS_len, sL_len]; omega) | (simp only [List.length_replicate, sI_len]; omega) | (simp only [List.length_append, List.length_cons, List.length_nil, sI_len, cond_true, cond_false]; omega) | (simp only [List.length_append, List.length_cons, List.length_nil, sI_len, cond_eq_ite, apply_ite List.length]; split <;> simp only [List.length_append, List.length_cons, List.length_nil, sI_len] <;> omega) | grind))), (by rw [hX86]; exact (show k6 ≤ (worlds.length : Int) from (by first | omega | (simp only [sS_len, sL_len]; omega) | (simp only [List.length_replicate, sI_len]; omega) | (simp only [List.length_append, List.length_cons, List.length_nil, sI_len, cond_true, cond_false]; omega) | (simp only [List.length_append, List.length_cons, List.length_nil, sI_len, cond_eq_ite, apply_ite List.length]; split <;> simp only [List.length_append, List.length_cons, List.length_nil, sI_len] <;> omega) | grind))), (by rw [hX86]; exact (hE85.sub (L' := [(0, .slice worldsA worlds.length worldsC), (1, .int .i64 mask), (5, .int .i64 out5), (6, .int .i64 k6)]) ⟨rfl, rfl, rfl, rfl, trivial⟩)), (St.pick (Γ' := [.rd 1 worldsA worlds.length worldsC worlds]) hS15 [0] (by decide) rfl)⟩
  ·
   rintro a87 w88 ⟨hi92, hi93, hE89, hS90⟩; clear hE10 hS1
   refine p_tn ?_
   refine c_seq ?_
   refine c_reg ?_
   refine q_step (v := .int .i64 ((F_l05Squeeze_L1 worlds mask (Int.toNat ((worlds.length : Int) - 0) + 1) 0 0).1)) hE89 (y_move rfl) rfl rfl rfl ?_; intro a94 hE95; clear hE89
   refine q_step (v := .int .i64 ((F_l05Squeeze_L1 worlds mask (Int.toNat ((worlds.length : Int) - 0) + 1) 0 0).1)) hE95 (y_assign rfl) rfl rfl rfl ?_; intro a96 hE97; clear hE95
   refine c_nil ?_
   have hE98 := hE97.sub (L' := [(4, .int .i64 ((F_l05Squeeze_L1 worlds mask (Int.toNat ((worlds.length : Int) - 0) + 1) 0 0).1))]) ⟨rfl, trivial⟩; clear hE97
   refine p_tn ?_
   refine wp_ret ?_
   have hF : F_l05Squeeze worlds mask = (F_l05Squeeze_L1 worlds mask (Int.toNat ((worlds.length : Int) - 0) + 1) 0 0).1 := by unfold F_l05Squeeze; rfl
   refine c_ret1 hE98 rfl rfl ?_
   exact ⟨(by rw [hF]; first | done | (dsimp only; done) | rfl), hS90.ext⟩
end Go.Proofs.Ytlbonhloeefnmaa
