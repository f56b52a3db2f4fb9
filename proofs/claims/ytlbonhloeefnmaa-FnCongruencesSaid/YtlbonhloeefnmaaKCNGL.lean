/- GL: models and contracts, printed by wip/gen/gen.py -/
import Derived.Test.YtlbonhloeefnmaaKCNGQ
set_option linter.unusedVariables false
set_option linter.unusedSimpArgs false
namespace Go.Proofs.Ytlbonhloeefnmaa
open Go.RowKit
def F_l08Image_L1b (images : List Int) (mask : Int) (rec : Int → Int → Int × Int) (out5 : Int) (x6 : Int) : Int × Int :=
  bif (decide (x6 < (images.length : Int))) then (rec (bif (F_l01Bit mask x6) then orI out5 (powI (gI images x6)) else out5) (x6 + 1)) else (out5, x6)
def F_l08Image_L1 (images : List Int) (mask : Int) : Nat → Int → Int → Int × Int
  | 0, out5, x6 => (out5, x6)
  | r + 1, out5, x6 => F_l08Image_L1b images mask (F_l08Image_L1 images mask r) out5 x6
def F_l08Image (images : List Int) (mask : Int) : Int :=
  (F_l08Image_L1 images mask (Int.toNat ((images.length : Int) - 0) + 1) 0 0).1
theorem cf_l08Image (args : Array Value) (w : World) : (callFunc 196 args).run Try.prog w = .ok (.enter 196 args) w := by kernel_rfl
set_option maxRecDepth 100000 in
theorem c_l08Image (imagesA : Option Addr) (imagesN imagesC : Nat) (images : List Int) (mask : Int) (w : World) (imagesR : RdS w 1 imagesA imagesN imagesC images) (hl : images.length ≤ 8) (hx : ∀ m : Int, 0 ≤ m → m < (images.length : Int) → 0 ≤ gI images m ∧ gI images m ≤ 7) :
    Calls Try.prog 196 #[.slice imagesA imagesN imagesC, .int .i64 mask] w (Ret fun v w' => v = .int .i64 (F_l08Image images mask) ∧ Ext w w') := by
  obtain rfl : imagesN = images.length := imagesR.len1.symm
  have imagesLe := imagesR.le
  have hS := St.nil w
  have hS1 := St.rd0 hS rfl imagesR; clear hS
  refine enter (args := [.slice imagesA images.length imagesC, .int .i64 mask]) Try.func196 rfl rfl ?_
  rw [Try.ntmps196]; intro a hE
  have hE := hE.sub (L' := [(0, .slice imagesA images.length imagesC), (1, .int .i64 mask)]) ⟨rfl, rfl, trivial⟩
  refine c_seq ?_
  refine c_reg ?_
  refine q_step (v := .int .i64 0) hE (y_assign rfl) rfl rfl rfl ?_; intro a2 hE3; clear hE
  refine c_nil ?_
  have hE4 := hE3.sub (L' := [(0, .slice imagesA images.length imagesC), (1, .int .i64 mask)]) ⟨rfl, rfl, trivial⟩; clear hE3
  refine p_tn ?_
  refine c_seq ?_
  refine c_reg ?_
  refine q_step (v := .int .i64 0) hE4 (y_assign rfl) rfl rfl rfl ?_; intro a5 hE6; clear hE4
  refine c_nil ?_
  have hE7 := hE6.sub (L' := [(0, .slice imagesA images.length imagesC), (1, .int .i64 mask), (5, .int .i64 0)]) ⟨rfl, rfl, rfl, trivial⟩; clear hE6
  refine p_tn ?_
  refine c_seq ?_
  refine c_seq ?_
  refine c_reg ?_
  refine q_step (v := .int .i64 0) hE7 (y_assign rfl) rfl rfl rfl ?_; intro a8 hE9; clear hE7
  refine c_nil ?_
  have hE10 := hE9.sub (L' := [(0, .slice imagesA images.length imagesC), (1, .int .i64 mask), (5, .int .i64 0), (6, .int .i64 0)]) ⟨rfl, rfl, rfl, rfl, trivial⟩; clear hE9
  refine p_tn ?_
  refine c_cut1 (fun a' w' => (0 ≤ ((F_l08Image_L1 images mask (Int.toNat ((images.length : Int) - 0) + 1) 0 0).2)) ∧ (((F_l08Image_L1 images mask (Int.toNat ((images.length : Int) - 0) + 1) 0 0).2) ≤ (images.length : Int)) ∧ E a' 24 [(0, .slice imagesA images.length imagesC), (1, .int .i64 mask), (5, .int .i64 ((F_l08Image_L1 images mask (Int.toNat ((images.length : Int) - 0) + 1) 0 0).1)), (6, .int .i64 ((F_l08Image_L1 images mask (Int.toNat ((images.length : Int) - 0) + 1) 0 0).2))] ∧ St w w' [.rd 1 imagesA images.length imagesC images]) ?_ ?_
  ·
   refine wp_block ?_
   refine c_loop (fun r a' w' => ∃ out5 : Int, ∃ x6 : Int, F_l08Image_L1 images mask r out5 x6 = F_l08Image_L1 images mask (Int.toNat ((images.length : Int) - 0) + 1) 0 0 ∧ Int.toNat ((images.length : Int) - x6) < r ∧ (0 ≤ x6) ∧ (x6 ≤ (images.length : Int)) ∧ E a' 24 [(0, .slice imagesA images.length imagesC), (1, .int .i64 mask), (5, .int .i64 out5), (6, .int .i64 x6)] ∧ St w w' [.rd 1 imagesA images.length imagesC images]) (r := (Int.toNat ((images.length : Int) - 0) + 1)) ?_ ?_
   · exact ⟨0, 0, rfl, Nat.lt_succ_self _, (by first | omega | (simp only [sS_len, sL_len]; omega) | (simp only [List.length_replicate, sI_len]; omega) | (simp only [List.length_append, List.length_cons, List.length_nil, sI_len, cond_true, cond_false]; omega) | (simp only [List.length_append, List.length_cons, List.length_nil, sI_len, cond_eq_ite, apply_ite List.length]; split <;> simp only [List.length_append, List.length_cons, List.length_nil, sI_len] <;> omega) | grind), (by first | omega | (simp only [sS_len, sL_len]; omega) | (simp only [List.length_replicate, sI_len]; omega) | (simp only [List.length_append, List.length_cons, List.length_nil, sI_len, cond_true, cond_false]; omega) | (simp only [List.length_append, List.length_cons, List.length_nil, sI_len, cond_eq_ite, apply_ite List.length]; split <;> simp only [List.length_append, List.length_cons, List.length_nil, sI_len] <;> omega) | grind), (hE10.sub (L' := [(0, .slice imagesA images.length imagesC), (1, .int .i64 mask), (5, .int .i64 0), (6, .int .i64 0)]) ⟨rfl, rfl, rfl, rfl, trivial⟩), (St.pick (Γ' := [.rd 1 imagesA images.length imagesC images]) hS1 [0] (by decide) rfl)⟩
   ·
    clear hE10 hS1
    rintro r20 a12 w13 ⟨out5, x6, hT16, hr17, hi18, hi19, hE14, hS15⟩
    obtain ⟨r20, rfl⟩ : ∃ r', r20 = r' + 1 := ⟨r20 - 1, by omega⟩
    refine c_seq ?_
    refine c_seq ?_
    refine c_reg ?_
    refine q_step (v := .int .i64 x6) hE14 (y_move rfl) rfl rfl rfl ?_; intro a21 hE22; clear hE14
    refine q_step (v := .slice imagesA images.length imagesC) hE22 (y_move rfl) rfl rfl rfl ?_; intro a23 hE24; clear hE22
    refine q_step (v := .int .i64 (images.length : Int)) hE24 (y_len (e := 2) (by kernel_rfl) rfl) rfl rfl rfl ?_; intro a25 hE26; clear hE24
    refine q_step (v := .bool (decide (x6 < (images.length : Int)))) hE26 (y_lss rfl rfl) rfl rfl rfl ?_; intro a27 hE28; clear hE26
    refine c_nil ?_
    have hE29 := hE28.sub (L' := [(0, .slice imagesA images.length imagesC), (1, .int .i64 mask), (5, .int .i64 out5), (6, .int .i64 x6), (10, .bool (decide (x6 < (images.length : Int))))]) ⟨rfl, rfl, rfl, rfl, rfl, trivial⟩; clear hE28
    refine p_tn ?_
    refine c_cond hE29 rfl (fun ht30 => ?_) (fun ht30 => ?_)
    ·
     have hp31 := of_decide_eq_true ht30
     have hE32 := hE29; rw [ht30] at hE32; clear hE29
     have hx1 := hx x6 (by omega) (by omega)
     refine wp_skip ?_
     refine p_tn ?_
     refine c_cut (fun a' w' => E a' 24 [(0, .slice imagesA images.length imagesC), (1, .int .i64 mask), (5, .int .i64 (bif (F_l01Bit mask x6) then orI out5 (powI (gI images x6)) else out5)), (6, .int .i64 x6)] ∧ St w w' [.rd 1 imagesA images.length imagesC images]) ?_ ?_
     ·
      refine wp_block ?_
      refine c_seq ?_
      refine c_reg ?_
      refine q_step (v := .int .i64 mask) hE32 (y_move rfl) rfl rfl rfl ?_; intro a33 hE34; clear hE32
      refine q_step (v := .int .i64 x6) hE34 (y_move rfl) rfl rfl rfl ?_; intro a35 hE36; clear hE34
      refine l_step hE36 rfl (l_call (f := 144) (argv := [.int .i64 mask, .int .i64 x6]) hE36 (fun _ => cf_l01Bit _ _) rfl rfl (c_l01Bit mask x6 w13 (by omega) (by omega)) ?_)
      rintro _ _ ⟨rfl, rfl⟩ a39 hE40; clear hE36
      refine c_nil ?_
      have hE43 := hE40.sub (L' := [(0, .slice imagesA images.length imagesC), (1, .int .i64 mask), (5, .int .i64 out5), (6, .int .i64 x6), (15, .bool (F_l01Bit mask x6))]) ⟨rfl, rfl, rfl, rfl, rfl, trivial⟩; clear hE40
      refine p_tn ?_
      refine c_cond hE43 rfl (fun ht44 => ?_) (fun ht44 => ?_)
      ·
       have hE45 := hE43; rw [ht44] at hE45; clear hE43
       refine c_reg ?_
       refine q_step (v := .int .i64 out5) hE45 (y_move rfl) rfl rfl rfl ?_; intro a46 hE47; clear hE45
       refine q_step (v := .slice imagesA images.length imagesC) hE47 (y_move rfl) rfl rfl rfl ?_; intro a48 hE49; clear hE47
       refine q_step (v := .int .i64 x6) hE49 (y_move rfl) rfl rfl rfl ?_; intro a50 hE51; clear hE49
       refine q_step (v := .pointer (some (adr imagesA (Int.toNat x6)))) hE51 (y_idx (by kernel_rfl) (fun _ => by kernel_rfl) rfl rfl (RdS.isS (m := x6) (St.rdR (i := 0) hS15 rfl) (by omega) (by omega)) (by omega) (by omega) (Nat.mul_one _).symm) rfl rfl rfl ?_; intro a52 hE53; clear hE51
       refine q_step (v := .int .i64 (gI images x6)) hE53 (y_load (fun _ => by kernel_rfl) rfl (RdS.elt (St.rdR (i := 0) hS15 rfl) (by omega) (by omega))) rfl rfl rfl ?_; intro a54 hE55; clear hE53
       refine l_step hE55 rfl (l_call (f := 209) (argv := [.int .i64 (gI images x6)]) hE55 (fun _ => cf_l01One _ _) rfl rfl (d_l01One (gI images x6) w13 (by omega) (by omega)) ?_)
       rintro _ _ ⟨rfl, rfl⟩ a58 hE59; clear hE55
       refine q_step (v := .int .i64 (orI out5 (powI (gI images x6)))) hE59 (y_or rfl rfl) rfl rfl rfl ?_; intro a62 hE63; clear hE59
       refine q_step (v := .int .i64 (orI out5 (powI (gI images x6)))) hE63 (y_assign rfl) rfl rfl rfl ?_; intro a64 hE65; clear hE63
       refine c_nil ?_
       have hE66 := hE65.sub (L' := [(0, .slice imagesA images.length imagesC), (1, .int .i64 mask), (5, .int .i64 (orI out5 (powI (gI images x6)))), (6, .int .i64 x6)]) ⟨rfl, rfl, rfl, rfl, trivial⟩; clear hE65
       refine p_bn ?_
       refine p_tn ?_
       have hE67 := hE66.sub (L' := [(0, .slice imagesA images.length imagesC), (1, .int .i64 mask), (5, .int .i64 (orI out5 (powI (gI images x6)))), (6, .int .i64 x6)]) ⟨rfl, rfl, rfl, rfl, trivial⟩
       have hS68 := (St.pick (Γ' := [.rd 1 imagesA images.length imagesC images]) hS15 [0] (by decide) rfl)
       exact ⟨(by rw [ht44]; exact hE67), hS68⟩
      ·
       have hE69 := hE43; rw [ht44] at hE69; clear hE43
       refine wp_skip ?_
       refine p_bn ?_
       refine p_tn ?_
       have hE70 := hE69.sub (L' := [(0, .slice imagesA images.length imagesC), (1, .int .i64 mask), (5, .int .i64 out5), (6, .int .i64 x6)]) ⟨rfl, rfl, rfl, rfl, trivial⟩
       have hS71 := (St.pick (Γ' := [.rd 1 imagesA images.length imagesC images]) hS15 [0] (by decide) rfl)
       exact ⟨(by rw [ht44]; exact hE70), hS71⟩
     ·
      rintro a72 w73 ⟨hE74, hS75⟩; clear hE32 hS15
      refine c_reg ?_
      refine q_step (v := .int .i64 x6) hE74 (y_move rfl) rfl rfl rfl ?_; intro a77 hE78; clear hE74
      refine q_step (v := .int .i64 (x6 + 1)) hE78 (y_add rfl rfl ⟨(by omega), (by omega)⟩) rfl rfl rfl ?_; intro a79 hE80; clear hE78
      refine q_step (v := .int .i64 (x6 + 1)) hE80 (y_assign rfl) rfl rfl rfl ?_; intro a81 hE82; clear hE80
      refine c_nil ?_
      have hE83 := hE82.sub (L' := [(0, .slice imagesA images.length imagesC), (1, .int .i64 mask), (5, .int .i64 (bif (F_l01Bit mask x6) then orI out5 (powI (gI images x6)) else out5)), (6, .int .i64 (x6 + 1))]) ⟨rfl, rfl, rfl, rfl, trivial⟩; clear hE82
      refine p_tn ⟨r20, Nat.lt_succ_self _, bif (F_l01Bit mask x6) then orI out5 (powI (gI images x6)) else out5, x6 + 1, (hT16.symm.trans (show F_l08Image_L1b images mask (F_l08Image_L1 images mask r20) out5 x6 = F_l08Image_L1 images mask r20 (bif (F_l01Bit mask x6) then orI out5 (powI (gI images x6)) else out5) (x6 + 1) by unfold F_l08Image_L1b; rw [ht30]; first | done | rfl)).symm, (by omega), (by first | omega | (simp only [sS_len, sL_len]; omega) | (simp only [List.length_replicate, sI_len]; omega) | (simp only [List.length_append, List.length_cons, List.length_nil, sI_len, cond_true, cond_false]; omega) | (simp only [List.length_append, List.length_cons, List.length_nil, sI_len, cond_eq_ite, apply_ite List.length]; split <;> simp only [List.length_append, List.length_cons, List.length_nil, sI_len] <;> omega) | grind), (by first | omega | (simp only [sS_len, sL_len]; omega) | (simp only [List.length_replicate, sI_len]; omega) | (simp only [List.length_append, List.length_cons, List.length_nil, sI_len, cond_true, cond_false]; omega) | (simp only [List.length_append, List.length_cons, List.length_nil, sI_len, cond_eq_ite, apply_ite List.length]; split <;> simp only [List.length_append, List.length_cons, List.length_nil, sI_len] <;> omega) | grind), (hE83.sub (L' := [(0, .slice imagesA images.length imagesC), (1, .int .i64 mask), (5, .int .i64 (bif (F_l01Bit mask x6) then orI out5 (powI (gI images x6)) else out5)), (6, .int .i64 (x6 + 1))]) ⟨rfl, rfl, rfl, rfl, trivial⟩), (St.pick (Γ' := [.rd 1 imagesA images.length imagesC images]) hS75 [0] (by decide) rfl)⟩
    ·
     have hp84 := of_decide_eq_false ht30
     have hE85 := hE29; rw [ht30] at hE85; clear hE29
     refine wp_exit ?_
     refine p_te ?_
     have hX86 : F_l08Image_L1 images mask (Int.toNat ((images.length : Int) - 0) + 1) 0 0 = (out5, x6) := hT16.symm.trans (show F_l08Image_L1b images mask (F_l08Image_L1 images mask r20) out5 x6 = (out5, x6) by unfold F_l08Image_L1b; rw [ht30]; first | done | rfl)
     refine p_te (p_be (p_tn ?_))
     exact ⟨(by rw [hX86]; exact (show 0 ≤ x6 from (by first | omega | (simp only [sS_len, sL_len]; omega) | (simp only [List.length_replicate, sI_len]; omega) | (simp only [List.length_append, List.length_cons, List.length_nil, sI_len, cond_true, cond_false]; omega) | (simp only [List.length_append, List.length_cons, List.length_nil, sI_len, cond_eq_ite, apply_ite List.length]; split <;> simp only [List.length_append, List.length_cons, List.length_nil, sI_len] <;> omega) | grind))), (by rw [hX86]; exact (show x6 ≤ (images.length : Int) from (by first | omega | (simp only [sS_len, sL_len]; omega) | (simp only [List.length_replicate, sI_len]; omega) | (simp only [List.length_append, List.length_cons, List.length_nil, sI_len, cond_true, cond_false]; omega) | (simp only [List.length_append, List.length_cons, List.length_nil, sI_len, cond_eq_ite, apply_ite List.length]; split <;> simp only [List.length_append, List.length_cons, List.length_nil, sI_len] <;> omega) | grind))), (by rw [hX86]; exact (hE85.sub (L' := [(0, .slice imagesA images.length imagesC), (1, .int .i64 mask), (5, .int .i64 out5), (6, .int .i64 x6)]) ⟨rfl, rfl, rfl, rfl, trivial⟩)), (St.pick (Γ' := [.rd 1 imagesA images.length imagesC images]) hS15 [0] (by decide) rfl)⟩
  ·
   rintro a87 w88 ⟨hi92, hi93, hE89, hS90⟩; clear hE10 hS1
   refine p_tn ?_
   refine c_seq ?_
   refine c_reg ?_
   refine q_step (v := .int .i64 ((F_l08Image_L1 images mask (Int.toNat ((images.length : Int) - 0) + 1) 0 0).1)) hE89 (y_move rfl) rfl rfl rfl ?_; intro a94 hE95; clear hE89
   refine q_step (v := .int .i64 ((F_l08Image_L1 images mask (Int.toNat ((images.length : Int) - 0) + 1) 0 0).1)) hE95 (y_assign rfl) rfl rfl rfl ?_; intro a96 hE97; clear hE95
   refine c_nil ?_
   have hE98 := hE97.sub (L' := [(4, .int .i64 ((F_l08Image_L1 images mask (Int.toNat ((images.length : Int) - 0) + 1) 0 0).1))]) ⟨rfl, trivial⟩; clear hE97
   refine p_tn ?_
   refine wp_ret ?_
   have hF : F_l08Image images mask = (F_l08Image_L1 images mask (Int.toNat ((images.length : Int) - 0) + 1) 0 0).1 := by unfold F_l08Image; rfl
   refine c_ret1 hE98 rfl rfl ?_
   exact ⟨(by rw [hF]; first | done | (dsimp only; done) | rfl), hS90.ext⟩
def F_Frame_hasWorld (f0 : Int) (f1 : List Int) (wp : Int) : Bool :=
  F_inRange wp 0 (f0 - 1)
theorem cf_Frame_hasWorld (args : Array Value) (w : World) : (callFunc 159 args).run Try.prog w = .ok (.enter 159 args) w := by kernel_rfl
set_option maxRecDepth 100000 in
theorem c_Frame_hasWorld (f0 : Int) (f1A : Option Addr) (f1N f1C : Nat) (f1 : List Int) (wp : Int) (w : World) (f1R : RdS w 1 f1A f1N f1C f1) (h0 : 0 ≤ f0) (h1 : f0 ≤ 8) :
    Calls Try.prog 159 #[.agg #[.int .i64 f0, .slice f1A f1N f1C], .int .i64 wp] w (Ret fun v w' => v = .bool (F_Frame_hasWorld f0 f1 wp) ∧ Ext w w') := by
  obtain rfl : f1N = f1.length := f1R.len1.symm
  have f1Le := f1R.le
  have hS := St.nil w
  have hS1 := St.rd0 hS rfl f1R; clear hS
  refine enter (args := [.agg #[.int .i64 f0, .slice f1A f1.length f1C], .int .i64 wp]) Try.func159 rfl rfl ?_
  rw [Try.ntmps159]; intro a hE
  have hE := hE.sub (L' := [(0, .agg #[.int .i64 f0, .slice f1A f1.length f1C]), (1, .int .i64 wp)]) ⟨rfl, rfl, trivial⟩
  refine c_seq ?_
  refine c_reg ?_
  refine l_step hE rfl (l_box (v := .agg #[.int .i64 f0, .slice f1A f1.length f1C]) (cs := #[.int .i64 f0, .slice f1A f1.length f1C]) hS1 hE rfl rfl rfl ?_)
  intro b2 w3 hS6 he7 a4 hE5; clear hS1 hE
  refine q_step (v := .bool false) hE5 (y_assign rfl) rfl rfl rfl ?_; intro a8 hE9; clear hE5
  refine c_nil ?_
  have hE10 := hE9.sub (L' := [(1, .int .i64 wp), (2, .pointer (some ⟨b2, 0, none⟩))]) ⟨rfl, rfl, trivial⟩; clear hE9
  refine p_tn ?_
  refine c_seq ?_
  refine c_reg ?_
  refine q_step (v := .int .i64 wp) hE10 (y_move rfl) rfl rfl rfl ?_; intro a11 hE12; clear hE10
  refine q_step (v := .pointer (some ⟨b2, 0, none⟩)) hE12 (y_field rfl (fun _ => by kernel_rfl)) rfl rfl rfl ?_; intro a13 hE14; clear hE12
  refine q_step (v := .int .i64 f0) hE14 (y_load (fun _ => by kernel_rfl) rfl (St.cell (i := 0) hS6 rfl rfl)) rfl rfl rfl ?_; intro a15 hE16; clear hE14
  refine q_step (v := .int .i64 (f0 - 1)) hE16 (y_sub rfl rfl ⟨(by omega), (by omega)⟩) rfl rfl rfl ?_; intro a17 hE18; clear hE16
  refine l_step hE18 rfl (l_call (f := 87) (argv := [.int .i64 wp, .int .i64 0, .int .i64 (f0 - 1)]) hE18 (fun _ => cf_inRange _ _) rfl rfl (c_inRange wp 0 (f0 - 1) w3) ?_)
  rintro _ _ ⟨rfl, rfl⟩ a21 hE22; clear hE18
  refine q_step (v := .bool (F_inRange wp 0 (f0 - 1))) hE22 (y_assign rfl) rfl rfl rfl ?_; intro a25 hE26; clear hE22
  refine c_nil ?_
  have hE27 := hE26.sub (L' := [(4, .bool (F_inRange wp 0 (f0 - 1)))]) ⟨rfl, trivial⟩; clear hE26
  refine p_tn ?_
  refine wp_ret ?_
  have hF : F_Frame_hasWorld f0 f1 wp = F_inRange wp 0 (f0 - 1) := by unfold F_Frame_hasWorld; rfl
  refine c_ret1 hE27 rfl rfl ?_
  exact ⟨(by rw [hF]; first | done | (dsimp only; done) | rfl), hS6.ext⟩
def F_isMap_k1 (yp : Int) (cap00 : Int) (cap01 : List Int) : Bool :=
  (!(F_Frame_hasWorld cap00 cap01 yp))
theorem cf_isMap_k1 (args : Array Value) (w : World) : (callFunc 238 args).run Try.prog w = .ok (.enter 238 args) w := by kernel_rfl
set_option maxRecDepth 100000 in
theorem c_isMap_k1 (yp : Int) (cap0B : Nat) (cap00 : Int) (cap01A : Option Addr) (cap01N cap01C : Nat) (cap01 : List Int) (w : World) (cap01R : RdS w 1 cap01A cap01N cap01C cap01) (cap0H : w.heap[cap0B]? = some (.cells #[.int .i64 cap00, .slice cap01A cap01N cap01C] 30 (0, 0))) (h0 : 0 ≤ cap00) (h1 : cap00 ≤ 8) :
    Calls Try.prog 238 #[.int .i64 yp, .pointer (some ⟨cap0B, 0, none⟩)] w (Ret fun v w' => v = .bool (F_isMap_k1 yp cap00 cap01) ∧ Ext w w') := by
  obtain rfl : cap01N = cap01.length := cap01R.len1.symm
  have cap01Le := cap01R.le
  have hS := St.nil w
  have hS1 := St.rd0 hS rfl cap01R; clear hS
  have hS2 := St.rb0 hS1 rfl cap0H; clear hS1
  refine enter (args := [.int .i64 yp, .pointer (some ⟨cap0B, 0, none⟩)]) Try.func238 rfl rfl ?_
  rw [Try.ntmps238]; intro a hE
  have hE := hE.sub (L' := [(0, .int .i64 yp), (1, .pointer (some ⟨cap0B, 0, none⟩))]) ⟨rfl, rfl, trivial⟩
  refine c_seq ?_
  refine c_reg ?_
  refine q_step (v := .bool false) hE (y_assign rfl) rfl rfl rfl ?_; intro a3 hE4; clear hE
  refine c_nil ?_
  have hE5 := hE4.sub (L' := [(0, .int .i64 yp), (1, .pointer (some ⟨cap0B, 0, none⟩))]) ⟨rfl, rfl, trivial⟩; clear hE4
  refine p_tn ?_
  refine c_seq ?_
  refine c_reg ?_
  refine q_step (v := .agg #[.int .i64 cap00, .slice cap01A cap01.length cap01C]) hE5 (y_loadS Try.underlying30 rfl (by kernel_rfl) rfl (St.rowR (i := 0) hS2 rfl)) rfl rfl rfl ?_; intro a6 hE7; clear hE5
  refine q_step (v := .int .i64 yp) hE7 (y_move rfl) rfl rfl rfl ?_; intro a8 hE9; clear hE7
  refine l_step hE9 rfl (l_call (f := 159) (argv := [.agg #[.int .i64 cap00, .slice cap01A cap01.length cap01C], .int .i64 yp]) hE9 (fun _ => cf_Frame_hasWorld _ _) rfl rfl (c_Frame_hasWorld cap00 cap01A cap01.length cap01C cap01 yp w (St.rdR (i := 1) hS2 rfl) (by omega) (by omega)) ?_)
  rintro _ w11 ⟨rfl, he15⟩ a12 hE13; clear hE9
  have hS14 := St.go hS2 he15; clear hS2
  refine q_step (v := .bool (!(F_Frame_hasWorld cap00 cap01 yp))) hE13 (y_not rfl) rfl rfl rfl ?_; intro a16 hE17; clear hE13
  refine q_step (v := .bool (!(F_Frame_hasWorld cap00 cap01 yp))) hE17 (y_assign rfl) rfl rfl rfl ?_; intro a18 hE19; clear hE17
  refine c_nil ?_
  have hE20 := hE19.sub (L' := [(3, .bool (!(F_Frame_hasWorld cap00 cap01 yp)))]) ⟨rfl, trivial⟩; clear hE19
  refine p_tn ?_
  refine wp_ret ?_
  have hF : F_isMap_k1 yp cap00 cap01 = (!(F_Frame_hasWorld cap00 cap01 yp)) := by unfold F_isMap_k1; rfl
  refine c_ret1 hE20 rfl rfl ?_
  exact ⟨(by rw [hF]; first | done | (dsimp only; done) | rfl), hS14.ext⟩
def F_isMap (f0 : Int) (f1 : List Int) (g0 : Int) (g1 : List Int) (images : List Int) : Bool :=
  ((decide ((images.length : Int) = f0)) && (!(F_z_ContainsFunc images (fun x0 => F_isMap_k1 x0 g0 g1))))
theorem cf_isMap (args : Array Value) (w : World) : (callFunc 197 args).run Try.prog w = .ok (.enter 197 args) w := by kernel_rfl
set_option maxRecDepth 100000 in
theorem c_isMap (f0 : Int) (f1A : Option Addr) (f1N f1C : Nat) (f1 : List Int) (g0 : Int) (g1A : Option Addr) (g1N g1C : Nat) (g1 : List Int) (imagesA : Option Addr) (imagesN imagesC : Nat) (images : List Int) (w : World) (f1R : RdS w 1 f1A f1N f1C f1) (g1R : RdS w 1 g1A g1N g1C g1) (imagesR : RdS w 1 imagesA imagesN imagesC images) (h0 : 0 ≤ g0) (h1 : g0 ≤ 8) :
    Calls Try.prog 197 #[.agg #[.int .i64 f0, .slice f1A f1N f1C], .agg #[.int .i64 g0, .slice g1A g1N g1C], .slice imagesA imagesN imagesC] w (Ret fun v w' => v = .bool (F_isMap f0 f1 g0 g1 images) ∧ Ext w w') := by
  obtain rfl : f1N = f1.length := f1R.len1.symm
  have f1Le := f1R.le
  obtain rfl : g1N = g1.length := g1R.len1.symm
  have g1Le := g1R.le
  obtain rfl : imagesN = images.length := imagesR.len1.symm
  have imagesLe := imagesR.le
  have hS := St.nil w
  have hS1 := St.rd0 hS rfl f1R; clear hS
  have hS2 := St.rd0 hS1 rfl g1R; clear hS1
  have hS3 := St.rd0 hS2 rfl imagesR; clear hS2
  refine enter (args := [.agg #[.int .i64 f0, .slice f1A f1.length f1C], .agg #[.int .i64 g0, .slice g1A g1.length g1C], .slice imagesA images.length imagesC]) Try.func197 rfl rfl ?_
  rw [Try.ntmps197]; intro a hE
  have hE := hE.sub (L' := [(0, .agg #[.int .i64 f0, .slice f1A f1.length f1C]), (1, .agg #[.int .i64 g0, .slice g1A g1.length g1C]), (2, .slice imagesA images.length imagesC)]) ⟨rfl, rfl, rfl, trivial⟩
  refine c_seq ?_
  refine c_reg ?_
  refine l_step hE rfl (l_box (v := .agg #[.int .i64 f0, .slice f1A f1.length f1C]) (cs := #[.int .i64 f0, .slice f1A f1.length f1C]) hS3 hE rfl rfl rfl ?_)
  intro b4 w5 hS8 he9 a6 hE7; clear hS3 hE
  refine l_step hE7 rfl (l_box (v := .agg #[.int .i64 g0, .slice g1A g1.length g1C]) (cs := #[.int .i64 g0, .slice g1A g1.length g1C]) hS8 hE7 rfl rfl rfl ?_)
  intro b10 w11 hS14 he15 a12 hE13; clear hS8 hE7
  refine q_step (v := .bool false) hE13 (y_assign rfl) rfl rfl rfl ?_; intro a16 hE17; clear hE13
  refine c_nil ?_
  have hE18 := hE17.sub (L' := [(2, .slice imagesA images.length imagesC), (3, .pointer (some ⟨b4, 0, none⟩)), (4, .pointer (some ⟨b10, 0, none⟩))]) ⟨rfl, rfl, rfl, trivial⟩; clear hE17
  refine p_tn ?_
  refine c_cut (fun a' w' => E a' 18 [(6, .bool ((decide ((images.length : Int) = f0)) && (!(F_z_ContainsFunc images (fun x0 => F_isMap_k1 x0 g0 g1)))))] ∧ St w w' [.rd 1 g1A g1.length g1C g1, .blk b10 #[.int .i64 g0, .slice g1A g1.length g1C] 30, .rd 1 f1A f1.length f1C f1, .blk b4 #[.int .i64 f0, .slice f1A f1.length f1C] 30, .rd 1 imagesA images.length imagesC images]) ?_ ?_
  ·
   refine d_start (fun w w' => (fun w' => w'.cell? ⟨b4, 0, none⟩ = some (.int .i64 f0) ∧ True) w → (fun w' => w'.cell? ⟨b4, 0, none⟩ = some (.int .i64 f0) ∧ True) w') [3] 12 (by kernel_rfl) rfl ?_
   intro w19 he20; have hS21 := St.go hS14 he20; clear hS14
   refine d_pure (fun _ h => h) (v := .slice imagesA images.length imagesC) 0 rfl hE18 (y_move rfl) rfl (by kernel_rfl) (by kernel_rfl) (by kernel_rfl) rfl rfl (fun _ _ _ h => h) ?_; intro a22 hE23; clear hE18
   refine d_pure (fun _ h => h) (v := .pointer (some ⟨b4, 0, none⟩)) 2 rfl hE23 (y_field rfl (fun _ => by kernel_rfl)) rfl (by kernel_rfl) (by kernel_rfl) (by kernel_rfl) rfl rfl (fun _ _ _ h => h) ?_; intro a24 hE25; clear hE23
   refine d_take (fun _ h => h) (fun _ _ h k => h k) (v := .int .i64 f0) 3 rfl hE25 (S := fun w' => w'.cell? ⟨b4, 0, none⟩ = some (.int .i64 f0) ∧ True) ⟨(St.cell (i := 1) hS21 rfl rfl _ (Ext.refl _)), trivial⟩ (y_load (fun _ => by kernel_rfl) rfl (fun _ h => h.1)) rfl rfl (by kernel_rfl) (by kernel_rfl) (by kernel_rfl) (by kernel_rfl) rfl rfl (fun _ _ _ h => h) ?_; intro a26 hE27; clear hE25
   refine d_only 1 (by kernel_rfl) rfl hE27 rfl (l_call (f := 165) (argv := [.slice imagesA images.length imagesC]) hE27 (fun _ => cf_size _ _) rfl rfl (d_size imagesA images.length imagesC images w19 (St.rdR (i := 2) hS21 rfl)) ?_)
   rintro _ _ ⟨rfl, rfl⟩ a30 hE31; clear hE27
   refine ⟨fun _ _ => ⟨(St.cell (i := 1) hS21 rfl rfl _ (Ext.refl _)), trivial⟩, ?_⟩
   refine d_pure (fun _ h => h) (v := .bool (decide ((images.length : Int) = f0))) 4 rfl hE31 (y_eql rfl rfl) rfl (by kernel_rfl) (by kernel_rfl) (by kernel_rfl) rfl rfl (fun _ _ _ h => h) ?_; intro a34 hE35; clear hE31
   refine d_pure (fun _ h => h) (v := .bool (decide ((images.length : Int) = f0))) 5 rfl hE35 (y_move rfl) rfl (by kernel_rfl) (by kernel_rfl) (by kernel_rfl) rfl rfl (fun _ _ _ h => h) ?_; intro a36 hE37; clear hE35
   rcases Bool.eq_false_or_eq_true (decide ((images.length : Int) = f0)) with hb38 | hb38
   ·
    have hE39 := hE37; (try rw [hb38] at hE39); clear hE37
    have hp40 := of_decide_eq_true hb38
    refine d_pure (fun _ h => h) (v := .slice imagesA images.length imagesC) 6 rfl hE39 (y_move rfl) rfl (by kernel_rfl) (by kernel_rfl) (by kernel_rfl) rfl rfl (fun _ _ _ h => h) ?_; intro a41 hE42; clear hE39
    refine d_pure (fun _ h => h) (v := .func (.func 238) #[] #[.pointer (some ⟨b10, 0, none⟩)]) 7 rfl hE42 (y_makeFunc (vs := [.pointer (some ⟨b10, 0, none⟩)]) rfl) rfl (by kernel_rfl) (by kernel_rfl) (by kernel_rfl) rfl rfl (fun _ _ _ h => h) ?_; intro a43 hE44; clear hE42
    refine d_only 8 (by kernel_rfl) rfl hE44 rfl (l_call (f := 146) (argv := [.slice imagesA images.length imagesC, .func (.func 238) #[] #[.pointer (some ⟨b10, 0, none⟩)]]) hE44 (fun _ => cf_z_ContainsFunc _ _) rfl rfl (c_z_ContainsFunc imagesA images.length imagesC images 238 [.pointer (some ⟨b10, 0, none⟩)] (fun x0 => F_isMap_k1 x0 g0 g1) (fun _ => True) w19 (St.rdR (i := 2) hS21 rfl) (fun _ _ => cf_isMap_k1 _ _) (fun x0 w' hx he => c_isMap_k1 x0 b10 g0 g1A g1.length g1C g1 w' (RdS.ext (St.rdR (i := 3) hS21 rfl) he) (St.row (i := 0) hS21 rfl w' he) (by omega) (by omega)) (fun _ _ _ => trivial)) ?_)
    rintro _ w46 ⟨rfl, he50⟩ a47 hE48; clear hE44
    have hS49 := St.go hS21 he50; clear hS21
    refine ⟨fun h => Bool.noConfusion (h.symm.trans (show exm _ _ _ = true by kernel_rfl)), ?_⟩
    refine d_pure (fun _ h => h) (v := .bool (!(F_z_ContainsFunc images (fun x0 => F_isMap_k1 x0 g0 g1)))) 9 rfl hE48 (y_not rfl) rfl (by kernel_rfl) (by kernel_rfl) (by kernel_rfl) rfl rfl (fun _ _ _ h => h) ?_; intro a51 hE52; clear hE48
    refine d_pure (fun _ h => h) (v := .bool (!(F_z_ContainsFunc images (fun x0 => F_isMap_k1 x0 g0 g1)))) 10 rfl hE52 (y_pick (b := true) rfl rfl) rfl (by kernel_rfl) (by kernel_rfl) (by kernel_rfl) rfl rfl (fun _ _ _ h => h) ?_; intro a53 hE54; clear hE52
    refine d_pure (fun _ h => h) (v := .bool (!(F_z_ContainsFunc images (fun x0 => F_isMap_k1 x0 g0 g1)))) 11 rfl hE54 (y_assign rfl) rfl (by kernel_rfl) (by kernel_rfl) (by kernel_rfl) rfl rfl (fun _ _ _ h => h) ?_; intro a55 hE56; clear hE54
    refine d_done (by kernel_rfl) ?_
    have hE57 := hE56.sub (L' := [(6, .bool (!(F_z_ContainsFunc images (fun x0 => F_isMap_k1 x0 g0 g1))))]) ⟨rfl, trivial⟩; clear hE56
    refine p_tn ?_
    have hE58 := hE57.sub (L' := [(6, .bool (!(F_z_ContainsFunc images (fun x0 => F_isMap_k1 x0 g0 g1))))]) ⟨rfl, trivial⟩
    have hS59 := (St.pick (Γ' := [.rd 1 g1A g1.length g1C g1, .blk b10 #[.int .i64 g0, .slice g1A g1.length g1C] 30, .rd 1 f1A f1.length f1C f1, .blk b4 #[.int .i64 f0, .slice f1A f1.length f1C] 30, .rd 1 imagesA images.length imagesC images]) hS49 [3, 0, 4, 1, 2] (by decide) rfl)
    exact ⟨(by rw [hb38]; exact hE58), hS59⟩
   ·
    have hE60 := hE37; (try rw [hb38] at hE60); clear hE37
    have hp61 := of_decide_eq_false hb38
    refine d_skip (fun _ h => h) 6 rfl hE60 rfl (by kernel_rfl) (by kernel_rfl) (by kernel_rfl) rfl rfl (fun _ _ _ h => h) ?_; intro a62 hE63; clear hE60
    refine d_skip (fun _ h => h) 7 rfl hE63 rfl (by kernel_rfl) (by kernel_rfl) (by kernel_rfl) rfl rfl (fun _ _ _ h => h) ?_; intro a64 hE65; clear hE63
    refine d_skip (fun _ h => h) 8 rfl hE65 rfl (by kernel_rfl) (by kernel_rfl) (by kernel_rfl) rfl rfl (fun _ _ _ h => h) ?_; intro a66 hE67; clear hE65
    refine d_skip (fun _ h => h) 9 rfl hE67 rfl (by kernel_rfl) (by kernel_rfl) (by kernel_rfl) rfl rfl (fun _ _ _ h => h) ?_; intro a68 hE69; clear hE67
    refine d_pure (fun _ h => h) (v := .bool false) 10 rfl hE69 (y_pick (b := false) rfl rfl) rfl (by kernel_rfl) (by kernel_rfl) (by kernel_rfl) rfl rfl (fun _ _ _ h => h) ?_; intro a70 hE71; clear hE69
    refine d_pure (fun _ h => h) (v := .bool false) 11 rfl hE71 (y_assign rfl) rfl (by kernel_rfl) (by kernel_rfl) (by kernel_rfl) rfl rfl (fun _ _ _ h => h) ?_; intro a72 hE73; clear hE71
    refine d_done (by kernel_rfl) ?_
    have hE74 := hE73.sub (L' := [(6, .bool false)]) ⟨rfl, trivial⟩; clear hE73
    refine p_tn ?_
    have hE75 := hE74.sub (L' := [(6, .bool false)]) ⟨rfl, trivial⟩
    have hS76 := (St.pick (Γ' := [.rd 1 g1A g1.length g1C g1, .blk b10 #[.int .i64 g0, .slice g1A g1.length g1C] 30, .rd 1 f1A f1.length f1C f1, .blk b4 #[.int .i64 f0, .slice f1A f1.length f1C] 30, .rd 1 imagesA images.length imagesC images]) hS21 [3, 0, 4, 1, 2] (by decide) rfl)
    exact ⟨(by rw [hb38]; exact hE75), hS76⟩
  ·
   rintro a77 w78 ⟨hE79, hS80⟩; clear hE18 hS14
   refine wp_ret ?_
   have hF : F_isMap f0 f1 g0 g1 images = ((decide ((images.length : Int) = f0)) && (!(F_z_ContainsFunc images (fun x0 => F_isMap_k1 x0 g0 g1)))) := by unfold F_isMap; rfl
   refine c_ret1 hE79 rfl rfl ?_
   exact ⟨(by rw [hF]; first | done | (dsimp only; done) | rfl), hS80.ext⟩
def F_mapCode (f0 : Int) (f1 : List Int) (g0 : Int) (g1 : List Int) (images : List Int) : Int :=
  bif ((!(F_isFrame f0 f1)) || ((!(F_isFrame g0 g1)) || (!(F_isMap f0 f1 g0 g1 images)))) then 1 else 0
theorem cf_mapCode (args : Array Value) (w : World) : (callFunc 115 args).run Try.prog w = .ok (.enter 115 args) w := by kernel_rfl
set_option maxRecDepth 100000 in
theorem c_mapCode (f0 : Int) (f1A : Option Addr) (f1N f1C : Nat) (f1 : List Int) (g0 : Int) (g1A : Option Addr) (g1N g1C : Nat) (g1 : List Int) (imagesA : Option Addr) (imagesN imagesC : Nat) (images : List Int) (w : World) (f1R : RdS w 1 f1A f1N f1C f1) (g1R : RdS w 1 g1A g1N g1C g1) (imagesR : RdS w 1 imagesA imagesN imagesC images) :
    Calls Try.prog 115 #[.agg #[.int .i64 f0, .slice f1A f1N f1C], .agg #[.int .i64 g0, .slice g1A g1N g1C], .slice imagesA imagesN imagesC] w (Ret fun v w' => v = .int .i64 (F_mapCode f0 f1 g0 g1 images) ∧ Ext w w') := by
  obtain rfl : f1N = f1.length := f1R.len1.symm
  have f1Le := f1R.le
  obtain rfl : g1N = g1.length := g1R.len1.symm
  have g1Le := g1R.le
  obtain rfl : imagesN = images.length := imagesR.len1.symm
  have imagesLe := imagesR.le
  have hS := St.nil w
  have hS1 := St.rd0 hS rfl f1R; clear hS
  have hS2 := St.rd0 hS1 rfl g1R; clear hS1
  have hS3 := St.rd0 hS2 rfl imagesR; clear hS2
  refine enter (args := [.agg #[.int .i64 f0, .slice f1A f1.length f1C], .agg #[.int .i64 g0, .slice g1A g1.length g1C], .slice imagesA images.length imagesC]) Try.func115 rfl rfl ?_
  rw [Try.ntmps115]; intro a hE
  have hE := hE.sub (L' := [(0, .agg #[.int .i64 f0, .slice f1A f1.length f1C]), (1, .agg #[.int .i64 g0, .slice g1A g1.length g1C]), (2, .slice imagesA images.length imagesC)]) ⟨rfl, rfl, rfl, trivial⟩
  refine c_seq ?_
  refine c_reg ?_
  refine l_step hE rfl (l_box (v := .agg #[.int .i64 f0, .slice f1A f1.length f1C]) (cs := #[.int .i64 f0, .slice f1A f1.length f1C]) hS3 hE rfl rfl rfl ?_)
  intro b4 w5 hS8 he9 a6 hE7; clear hS3 hE
  refine l_step hE7 rfl (l_box (v := .agg #[.int .i64 g0, .slice g1A g1.length g1C]) (cs := #[.int .i64 g0, .slice g1A g1.length g1C]) hS8 hE7 rfl rfl rfl ?_)
  intro b10 w11 hS14 he15 a12 hE13; clear hS8 hE7
  refine q_step (v := .int .i64 0) hE13 (y_assign rfl) rfl rfl rfl ?_; intro a16 hE17; clear hE13
  refine c_nil ?_
  have hE18 := hE17.sub (L' := [(2, .slice imagesA images.length imagesC), (3, .pointer (some ⟨b4, 0, none⟩)), (4, .pointer (some ⟨b10, 0, none⟩))]) ⟨rfl, rfl, rfl, trivial⟩; clear hE17
  refine p_tn ?_
  refine c_seq ?_
  refine c_cut (fun a' w' => E a' 22 [(21, .bool ((!(F_isFrame f0 f1)) || ((!(F_isFrame g0 g1)) || (!(F_isMap f0 f1 g0 g1 images)))))] ∧ St w w' [.rd 1 g1A g1.length g1C g1, .blk b10 #[.int .i64 g0, .slice g1A g1.length g1C] 30, .rd 1 f1A f1.length f1C f1, .blk b4 #[.int .i64 f0, .slice f1A f1.length f1C] 30, .rd 1 imagesA images.length imagesC images]) ?_ ?_
  ·
   refine c_reg ?_
   refine q_step (v := .agg #[.int .i64 f0, .slice f1A f1.length f1C]) hE18 (y_loadS Try.underlying30 rfl (by kernel_rfl) rfl (St.row (i := 1) hS14 rfl)) rfl rfl rfl ?_; intro a19 hE20; clear hE18
   refine l_step hE20 rfl (l_call (f := 96) (argv := [.agg #[.int .i64 f0, .slice f1A f1.length f1C]]) hE20 (fun _ => cf_isFrame _ _) rfl rfl (c_isFrame f0 f1A f1.length f1C f1 w11 (St.rdR (i := 4) hS14 rfl)) ?_)
   rintro _ w22 ⟨rfl, he26⟩ a23 hE24; clear hE20
   have hS25 := St.go hS14 he26; clear hS14
   refine q_step (v := .bool (!(F_isFrame f0 f1))) hE24 (y_not rfl) rfl rfl rfl ?_; intro a27 hE28; clear hE24
   refine q_step (v := .bool (!(F_isFrame f0 f1))) hE28 (y_move rfl) rfl rfl rfl ?_; intro a29 hE30; clear hE28
   rcases Bool.eq_false_or_eq_true (!(F_isFrame f0 f1)) with hb31 | hb31
   ·
    have hE32 := hE30; (try rw [hb31] at hE32); clear hE30
    have ht33 := bn_t hb31
    refine q_skip hE32 rfl rfl rfl ?_; intro a34 hE35; clear hE32
    refine q_skip hE35 rfl rfl rfl ?_; intro a36 hE37; clear hE35
    refine q_skip hE37 rfl rfl rfl ?_; intro a38 hE39; clear hE37
    refine q_step (v := .bool true) hE39 (y_pick (b := true) rfl rfl) rfl rfl rfl ?_; intro a40 hE41; clear hE39
    refine q_step (v := .bool true) hE41 (y_move rfl) rfl rfl rfl ?_; intro a42 hE43; clear hE41
    refine q_skip hE43 rfl rfl rfl ?_; intro a44 hE45; clear hE43
    refine q_skip hE45 rfl rfl rfl ?_; intro a46 hE47; clear hE45
    refine q_skip hE47 rfl rfl rfl ?_; intro a48 hE49; clear hE47
    refine q_skip hE49 rfl rfl rfl ?_; intro a50 hE51; clear hE49
    refine q_skip hE51 rfl rfl rfl ?_; intro a52 hE53; clear hE51
    refine q_step (v := .bool true) hE53 (y_pick (b := true) rfl rfl) rfl rfl rfl ?_; intro a54 hE55; clear hE53
    refine c_nil ?_
    have hE56 := hE55.sub (L' := [(21, .bool true)]) ⟨rfl, trivial⟩; clear hE55
    refine p_tn ?_
    have hE57 := hE56.sub (L' := [(21, .bool true)]) ⟨rfl, trivial⟩
    have hS58 := (St.pick (Γ' := [.rd 1 g1A g1.length g1C g1, .blk b10 #[.int .i64 g0, .slice g1A g1.length g1C] 30, .rd 1 f1A f1.length f1C f1, .blk b4 #[.int .i64 f0, .slice f1A f1.length f1C] 30, .rd 1 imagesA images.length imagesC images]) hS25 [3, 0, 4, 1, 2] (by decide) rfl)
    exact ⟨(by rw [hb31]; exact hE57), hS58⟩
   ·
    have hE59 := hE30; (try rw [hb31] at hE59); clear hE30
    have ht60 := bn_f hb31
    have hp61 := isFrame_t ht60
    refine q_step (v := .agg #[.int .i64 g0, .slice g1A g1.length g1C]) hE59 (y_loadS Try.underlying30 rfl (by kernel_rfl) rfl (St.row (i := 0) hS25 rfl)) rfl rfl rfl ?_; intro a62 hE63; clear hE59
    refine l_step hE63 rfl (l_call (f := 96) (argv := [.agg #[.int .i64 g0, .slice g1A g1.length g1C]]) hE63 (fun _ => cf_isFrame _ _) rfl rfl (c_isFrame g0 g1A g1.length g1C g1 w22 (St.rdR (i := 3) hS25 rfl)) ?_)
    rintro _ w65 ⟨rfl, he69⟩ a66 hE67; clear hE63
    have hS68 := St.go hS25 he69; clear hS25
    refine q_step (v := .bool (!(F_isFrame g0 g1))) hE67 (y_not rfl) rfl rfl rfl ?_; intro a70 hE71; clear hE67
    refine q_step (v := .bool (!(F_isFrame g0 g1))) hE71 (y_pick (b := false) rfl rfl) rfl rfl rfl ?_; intro a72 hE73; clear hE71
    refine q_step (v := .bool (!(F_isFrame g0 g1))) hE73 (y_move rfl) rfl rfl rfl ?_; intro a74 hE75; clear hE73
    rcases Bool.eq_false_or_eq_true (!(F_isFrame g0 g1)) with hb76 | hb76
    ·
     have hE77 := hE75; (try rw [hb76] at hE77); clear hE75
     have ht78 := bn_t hb76
     refine q_skip hE77 rfl rfl rfl ?_; intro a79 hE80; clear hE77
     refine q_skip hE80 rfl rfl rfl ?_; intro a81 hE82; clear hE80
     refine q_skip hE82 rfl rfl rfl ?_; intro a83 hE84; clear hE82
     refine q_skip hE84 rfl rfl rfl ?_; intro a85 hE86; clear hE84
     refine q_skip hE86 rfl rfl rfl ?_; intro a87 hE88; clear hE86
     refine q_step (v := .bool true) hE88 (y_pick (b := true) rfl rfl) rfl rfl rfl ?_; intro a89 hE90; clear hE88
     refine c_nil ?_
     have hE91 := hE90.sub (L' := [(21, .bool true)]) ⟨rfl, trivial⟩; clear hE90
     refine p_tn ?_
     have hE92 := hE91.sub (L' := [(21, .bool true)]) ⟨rfl, trivial⟩
     have hS93 := (St.pick (Γ' := [.rd 1 g1A g1.length g1C g1, .blk b10 #[.int .i64 g0, .slice g1A g1.length g1C] 30, .rd 1 f1A f1.length f1C f1, .blk b4 #[.int .i64 f0, .slice f1A f1.length f1C] 30, .rd 1 imagesA images.length imagesC images]) hS68 [3, 0, 4, 1, 2] (by decide) rfl)
     exact ⟨(by rw [hb76, hb31]; exact hE92), hS93⟩
    ·
     have hE94 := hE75; (try rw [hb76] at hE94); clear hE75
     have ht95 := bn_f hb76
     have hp96 := isFrame_t ht95
     refine q_step (v := .agg #[.int .i64 f0, .slice f1A f1.length f1C]) hE94 (y_loadS Try.underlying30 rfl (by kernel_rfl) rfl (St.row (i := 1) hS68 rfl)) rfl rfl rfl ?_; intro a97 hE98; clear hE94
     refine q_step (v := .agg #[.int .i64 g0, .slice g1A g1.length g1C]) hE98 (y_loadS Try.underlying30 rfl (by kernel_rfl) rfl (St.row (i := 0) hS68 rfl)) rfl rfl rfl ?_; intro a99 hE100; clear hE98
     refine q_step (v := .slice imagesA images.length imagesC) hE100 (y_move rfl) rfl rfl rfl ?_; intro a101 hE102; clear hE100
     refine l_step hE102 rfl (l_call (f := 197) (argv := [.agg #[.int .i64 f0, .slice f1A f1.length f1C], .agg #[.int .i64 g0, .slice g1A g1.length g1C], .slice imagesA images.length imagesC]) hE102 (fun _ => cf_isMap _ _) rfl rfl (c_isMap f0 f1A f1.length f1C f1 g0 g1A g1.length g1C g1 imagesA images.length imagesC images w65 (St.rdR (i := 4) hS68 rfl) (St.rdR (i := 3) hS68 rfl) (St.rdR (i := 2) hS68 rfl) (by omega) (by omega)) ?_)
     rintro _ w104 ⟨rfl, he108⟩ a105 hE106; clear hE102
     have hS107 := St.go hS68 he108; clear hS68
     refine q_step (v := .bool (!(F_isMap f0 f1 g0 g1 images))) hE106 (y_not rfl) rfl rfl rfl ?_; intro a109 hE110; clear hE106
     refine q_step (v := .bool (!(F_isMap f0 f1 g0 g1 images))) hE110 (y_pick (b := false) rfl rfl) rfl rfl rfl ?_; intro a111 hE112; clear hE110
     refine c_nil ?_
     have hE113 := hE112.sub (L' := [(21, .bool (!(F_isMap f0 f1 g0 g1 images)))]) ⟨rfl, trivial⟩; clear hE112
     refine p_tn ?_
     have hE114 := hE113.sub (L' := [(21, .bool (!(F_isMap f0 f1 g0 g1 images)))]) ⟨rfl, trivial⟩
     have hS115 := (St.pick (Γ' := [.rd 1 g1A g1.length g1C g1, .blk b10 #[.int .i64 g0, .slice g1A g1.length g1C] 30, .rd 1 f1A f1.length f1C f1, .blk b4 #[.int .i64 f0, .slice f1A f1.length f1C] 30, .rd 1 imagesA images.length imagesC images]) hS107 [3, 0, 4, 1, 2] (by decide) rfl)
     exact ⟨(by rw [hb76, hb31]; exact hE114), hS115⟩
  ·
   rintro a116 w117 ⟨hE118, hS119⟩; clear hE18 hS14
   refine c_cond hE118 rfl (fun ht121 => ?_) (fun ht121 => ?_)
   ·
    have hE122 := hE118; rw [ht121] at hE122; clear hE118
    refine c_seq ?_
    refine c_reg ?_
    refine q_step (v := .int .i64 1) hE122 (y_assign rfl) rfl rfl rfl ?_; intro a123 hE124; clear hE122
    refine c_nil ?_
    have hE125 := hE124.sub (L' := [(6, .int .i64 1)]) ⟨rfl, trivial⟩; clear hE124
    refine p_tn ?_
    refine wp_ret ?_
    refine p_tr ?_
    have hF : F_mapCode f0 f1 g0 g1 images = 1 := by unfold F_mapCode; rw [ht121]; first | done | rfl
    refine c_ret1 hE125 rfl rfl ?_
    exact ⟨(by rw [hF]; first | done | (dsimp only; done) | rfl), hS119.ext⟩
   ·
    obtain ⟨ht126, ht127⟩ := bor_f ht121
    have ht128 := bn_f ht126
    have hp129 := isFrame_t ht128
    obtain ⟨ht130, ht131⟩ := bor_f ht127
    have ht132 := bn_f ht130
    have hp133 := isFrame_t ht132
    have ht134 := bn_f ht131
    have hE135 := hE118; rw [ht121] at hE135; clear hE118
    refine wp_skip ?_
    refine p_tn ?_
    refine c_seq ?_
    refine c_reg ?_
    refine q_step (v := .int .i64 0) hE135 (y_assign rfl) rfl rfl rfl ?_; intro a136 hE137; clear hE135
    refine c_nil ?_
    have hE138 := hE137.sub (L' := [(6, .int .i64 0)]) ⟨rfl, trivial⟩; clear hE137
    refine p_tn ?_
    refine wp_ret ?_
    have hF : F_mapCode f0 f1 g0 g1 images = 0 := by unfold F_mapCode; rw [ht121]; first | done | rfl
    refine c_ret1 hE138 rfl rfl ?_
    exact ⟨(by rw [hF]; first | done | (dsimp only; done) | rfl), hS119.ext⟩
def F_mapMask_L1b (images : List Int) (mask : Int) (rec : Int → Int → Int × Int) (out5 : Int) (t11 : Int) : Int × Int :=
  bif (decide (t11 < ((F_membersOf mask).length : Int))) then (rec (orI out5 (shlI 1 (gI images (gI (F_membersOf mask) t11)))) (t11 + 1)) else (out5, t11)
def F_mapMask_L1 (images : List Int) (mask : Int) : Nat → Int → Int → Int × Int
  | 0, out5, t11 => (out5, t11)
  | r + 1, out5, t11 => F_mapMask_L1b images mask (F_mapMask_L1 images mask r) out5 t11
def F_mapMask (images : List Int) (mask : Int) : Int :=
  (F_mapMask_L1 images mask (Int.toNat (((F_membersOf mask).length : Int) - 0) + 1) 0 0).1
theorem cf_mapMask (args : Array Value) (w : World) : (callFunc 194 args).run Try.prog w = .ok (.enter 194 args) w := by kernel_rfl
set_option maxRecDepth 100000 in
theorem c_mapMask (imagesA : Option Addr) (imagesN imagesC : Nat) (images : List Int) (mask : Int) (w : World) (imagesR : RdS w 1 imagesA imagesN imagesC images) (hl : images.length ≤ 8) (h0 : 0 ≤ mask) (h1 : mask ≤ fullI (images.length : Int)) (h2 : mask < 4611686018427387904) (hx : ∀ m : Int, 0 ≤ m → m < (images.length : Int) → 0 ≤ gI images m ∧ gI images m ≤ 7) :
    Calls Try.prog 194 #[.slice imagesA imagesN imagesC, .int .i64 mask] w (Ret fun v w' => v = .int .i64 (F_mapMask images mask) ∧ Ext w w') := by
  obtain rfl : imagesN = images.length := imagesR.len1.symm
  have imagesLe := imagesR.le
  have hml := members_len (mask := mask) (n := images.length) (by omega) h0 h1
  have hS := St.nil w
  have hS1 := St.rd0 hS rfl imagesR; clear hS
  refine enter (args := [.slice imagesA images.length imagesC, .int .i64 mask]) Try.func194 rfl rfl ?_
  rw [Try.ntmps194]; intro a hE
  have hE := hE.sub (L' := [(0, .slice imagesA images.length imagesC), (1, .int .i64 mask)]) ⟨rfl, rfl, trivial⟩
  refine c_seq ?_
  refine c_reg ?_
  refine q_step (v := .int .i64 0) hE (y_assign rfl) rfl rfl rfl ?_; intro a2 hE3; clear hE
  refine c_nil ?_
  have hE4 := hE3.sub (L' := [(0, .slice imagesA images.length imagesC), (1, .int .i64 mask)]) ⟨rfl, rfl, trivial⟩; clear hE3
  refine p_tn ?_
  refine c_seq ?_
  refine c_reg ?_
  refine q_step (v := .int .i64 0) hE4 (y_assign rfl) rfl rfl rfl ?_; intro a5 hE6; clear hE4
  refine c_nil ?_
  have hE7 := hE6.sub (L' := [(0, .slice imagesA images.length imagesC), (1, .int .i64 mask), (5, .int .i64 0)]) ⟨rfl, rfl, rfl, trivial⟩; clear hE6
  refine p_tn ?_
  refine c_seq ?_
  refine c_seq ?_
  refine c_reg ?_
  refine q_step (v := .int .i64 mask) hE7 (y_move rfl) rfl rfl rfl ?_; intro a8 hE9; clear hE7
  refine l_step hE9 rfl (l_call (f := 170) (argv := [.int .i64 mask]) hE9 (fun _ => cf_membersOf _ _) rfl rfl (c_membersOf mask w (by omega) (by omega)) ?_)
  rintro _ w11 ⟨b16, c17, rfl, ho18, he15⟩ a12 hE13; clear hE9
  have hS14 := St.own hS1 he15 ho18; clear hS1
  refine q_step (v := .int .i64 ((F_membersOf mask).length : Int)) hE13 (y_len (e := 2) (by kernel_rfl) rfl) rfl rfl rfl ?_; intro a19 hE20; clear hE13
  refine q_step (v := .int .i64 0) hE20 (y_move rfl) rfl rfl rfl ?_; intro a21 hE22; clear hE20
  refine c_nil ?_
  have hE23 := hE22.sub (L' := [(0, .slice imagesA images.length imagesC), (5, .int .i64 0), (9, .slice b16 ((F_membersOf mask).length) c17), (10, .int .i64 ((F_membersOf mask).length : Int)), (11, .int .i64 0)]) ⟨rfl, rfl, rfl, rfl, rfl, trivial⟩; clear hE22
  refine p_tn ?_
  refine c_cut1 (fun a' w' => (0 ≤ ((F_mapMask_L1 images mask (Int.toNat (((F_membersOf mask).length : Int) - 0) + 1) 0 0).2)) ∧ (((F_mapMask_L1 images mask (Int.toNat (((F_membersOf mask).length : Int) - 0) + 1) 0 0).2) ≤ ((F_membersOf mask).length : Int)) ∧ E a' 24 [(0, .slice imagesA images.length imagesC), (5, .int .i64 ((F_mapMask_L1 images mask (Int.toNat (((F_membersOf mask).length : Int) - 0) + 1) 0 0).1)), (9, .slice b16 ((F_membersOf mask).length) c17), (10, .int .i64 ((F_membersOf mask).length : Int)), (11, .int .i64 ((F_mapMask_L1 images mask (Int.toNat (((F_membersOf mask).length : Int) - 0) + 1) 0 0).2))] ∧ St w w' [.own 2 1 b16 ((F_membersOf mask).length) c17 (F_membersOf mask), .rd 1 imagesA images.length imagesC images]) ?_ ?_
  ·
   refine wp_block ?_
   refine c_loop (fun r a' w' => ∃ out5 : Int, ∃ t11 : Int, F_mapMask_L1 images mask r out5 t11 = F_mapMask_L1 images mask (Int.toNat (((F_membersOf mask).length : Int) - 0) + 1) 0 0 ∧ Int.toNat (((F_membersOf mask).length : Int) - t11) < r ∧ (0 ≤ t11) ∧ (t11 ≤ ((F_membersOf mask).length : Int)) ∧ E a' 24 [(0, .slice imagesA images.length imagesC), (5, .int .i64 out5), (9, .slice b16 ((F_membersOf mask).length) c17), (10, .int .i64 ((F_membersOf mask).length : Int)), (11, .int .i64 t11)] ∧ St w w' [.own 2 1 b16 ((F_membersOf mask).length) c17 (F_membersOf mask), .rd 1 imagesA images.length imagesC images]) (r := (Int.toNat (((F_membersOf mask).length : Int) - 0) + 1)) ?_ ?_
   · exact ⟨0, 0, rfl, Nat.lt_succ_self _, (by first | omega | (simp only [sS_len, sL_len]; omega) | (simp only [List.length_replicate, sI_len]; omega) | (simp only [List.length_append, List.length_cons, List.length_nil, sI_len, cond_true, cond_false]; omega) | (simp only [List.length_append, List.length_cons, List.length_nil, sI_len, cond_eq_ite, apply_ite List.length]; split <;> simp only [List.length_append, List.length_cons, List.length_nil, sI_len] <;> omega) | grind), (by first | omega | (simp only [sS_len, sL_len]; omega) | (simp only [List.length_replicate, sI_len]; omega) | (simp only [List.length_append, List.length_cons, List.length_nil, sI_len, cond_true, cond_false]; omega) | (simp only [List.length_append, List.length_cons, List.length_nil, sI_len, cond_eq_ite, apply_ite List.length]; split <;> simp only [List.length_append, List.length_cons, List.length_nil, sI_len] <;> omega) | grind), (hE23.sub (L' := [(0, .slice imagesA images.length imagesC), (5, .int .i64 0), (9, .slice b16 ((F_membersOf mask).length) c17), (10, .int .i64 ((F_membersOf mask).length : Int)), (11, .int .i64 0)]) ⟨rfl, rfl, rfl, rfl, rfl, trivial⟩), (St.pick (Γ' := [.own 2 1 b16 ((F_membersOf mask).length) c17 (F_membersOf mask), .rd 1 imagesA images.length imagesC images]) hS14 [0, 1] (by decide) rfl)⟩
   ·
    clear hE23 hS14
    rintro r33 a25 w26 ⟨out5, t11, hT29, hr30, hi31, hi32, hE27, hS28⟩
    obtain ⟨r33, rfl⟩ : ∃ r', r33 = r' + 1 := ⟨r33 - 1, by omega⟩
    refine c_seq ?_
    refine c_reg ?_
    refine q_step (v := .bool (decide (t11 < ((F_membersOf mask).length : Int)))) hE27 (y_lss rfl rfl) rfl rfl rfl ?_; intro a34 hE35; clear hE27
    refine c_nil ?_
    have hE36 := hE35.sub (L' := [(0, .slice imagesA images.length imagesC), (5, .int .i64 out5), (9, .slice b16 ((F_membersOf mask).length) c17), (10, .int .i64 ((F_membersOf mask).length : Int)), (11, .int .i64 t11), (12, .bool (decide (t11 < ((F_membersOf mask).length : Int))))]) ⟨rfl, rfl, rfl, rfl, rfl, rfl, trivial⟩; clear hE35
    refine p_tn ?_
    refine c_seq ?_
    refine c_cond hE36 rfl (fun ht37 => ?_) (fun ht37 => ?_)
    ·
     have hp38 := of_decide_eq_true ht37
     have hE39 := hE36; rw [ht37] at hE39; clear hE36
     have hm1 := members_lt (mask := mask) (n := images.length) (by omega) h0 h1 t11 (by omega) (by omega)
     have hx1 := hx (gI (F_membersOf mask) t11) (by omega) (by omega)
     refine wp_skip ?_
     refine p_tn ?_
     refine c_seq ?_
     refine wp_block ?_
     refine c_seq ?_
     refine c_reg ?_
     refine q_step (v := .pointer (some (adr b16 (Int.toNat t11)))) hE39 (y_idx (by kernel_rfl) (fun _ => by kernel_rfl) rfl rfl (RdS.isS (m := t11) (St.rdO (i := 0) hS28 rfl) (by omega) (by omega)) (by omega) (by omega) (Nat.mul_one _).symm) rfl rfl rfl ?_; intro a40 hE41; clear hE39
     refine q_step (v := .int .i64 (gI (F_membersOf mask) t11)) hE41 (y_load (fun _ => by kernel_rfl) rfl (RdS.elt (St.rdO (i := 0) hS28 rfl) (by omega) (by omega))) rfl rfl rfl ?_; intro a42 hE43; clear hE41
     refine q_step (v := .int .i64 (gI (F_membersOf mask) t11)) hE43 (y_assign rfl) rfl rfl rfl ?_; intro a44 hE45; clear hE43
     refine c_nil ?_
     have hE46 := hE45.sub (L' := [(0, .slice imagesA images.length imagesC), (5, .int .i64 out5), (7, .int .i64 (gI (F_membersOf mask) t11)), (9, .slice b16 ((F_membersOf mask).length) c17), (10, .int .i64 ((F_membersOf mask).length : Int)), (11, .int .i64 t11)]) ⟨rfl, rfl, rfl, rfl, rfl, rfl, trivial⟩; clear hE45
     refine p_tn ?_
     refine c_reg ?_
     refine q_step (v := .int .i64 out5) hE46 (y_move rfl) rfl rfl rfl ?_; intro a47 hE48; clear hE46
     refine q_step (v := .slice imagesA images.length imagesC) hE48 (y_move rfl) rfl rfl rfl ?_; intro a49 hE50; clear hE48
     refine q_step (v := .int .i64 (gI (F_membersOf mask) t11)) hE50 (y_move rfl) rfl rfl rfl ?_; intro a51 hE52; clear hE50
     refine q_step (v := .pointer (some (adr imagesA (Int.toNat (gI (F_membersOf mask) t11))))) hE52 (y_idx (by kernel_rfl) (fun _ => by kernel_rfl) rfl rfl (RdS.isS (m := gI (F_membersOf mask) t11) (St.rdR (i := 1) hS28 rfl) (by omega) (by omega)) (by omega) (by omega) (Nat.mul_one _).symm) rfl rfl rfl ?_; intro a53 hE54; clear hE52
     refine q_step (v := .int .i64 (gI images (gI (F_membersOf mask) t11))) hE54 (y_load (fun _ => by kernel_rfl) rfl (RdS.elt (St.rdR (i := 1) hS28 rfl) (by omega) (by omega))) rfl rfl rfl ?_; intro a55 hE56; clear hE54
     refine q_step (v := .int .i64 (shlI 1 (gI images (gI (F_membersOf mask) t11)))) hE56 (y_shl rfl rfl (by omega)) rfl rfl rfl ?_; intro a57 hE58; clear hE56
     refine q_step (v := .int .i64 (orI out5 (shlI 1 (gI images (gI (F_membersOf mask) t11))))) hE58 (y_or rfl rfl) rfl rfl rfl ?_; intro a59 hE60; clear hE58
     refine q_step (v := .int .i64 (orI out5 (shlI 1 (gI images (gI (F_membersOf mask) t11))))) hE60 (y_assign rfl) rfl rfl rfl ?_; intro a61 hE62; clear hE60
     refine c_nil ?_
     have hE63 := hE62.sub (L' := [(0, .slice imagesA images.length imagesC), (5, .int .i64 (orI out5 (shlI 1 (gI images (gI (F_membersOf mask) t11))))), (9, .slice b16 ((F_membersOf mask).length) c17), (10, .int .i64 ((F_membersOf mask).length : Int)), (11, .int .i64 t11)]) ⟨rfl, rfl, rfl, rfl, rfl, trivial⟩; clear hE62
     refine p_bn ?_
     refine p_tn ?_
     refine c_reg ?_
     refine q_step (v := .int .i64 (t11 + 1)) hE63 (y_add rfl rfl ⟨(by omega), (by omega)⟩) rfl rfl rfl ?_; intro a64 hE65; clear hE63
     refine q_step (v := .int .i64 (t11 + 1)) hE65 (y_move rfl) rfl rfl rfl ?_; intro a66 hE67; clear hE65
     refine c_nil ?_
     have hE68 := hE67.sub (L' := [(0, .slice imagesA images.length imagesC), (5, .int .i64 (orI out5 (shlI 1 (gI images (gI (F_membersOf mask) t11))))), (9, .slice b16 ((F_membersOf mask).length) c17), (10, .int .i64 ((F_membersOf mask).length : Int)), (11, .int .i64 (t11 + 1))]) ⟨rfl, rfl, rfl, rfl, rfl, trivial⟩; clear hE67
     refine p_tn ⟨r33, Nat.lt_succ_self _, orI out5 (shlI 1 (gI images (gI (F_membersOf mask) t11))), t11 + 1, (hT29.symm.trans (show F_mapMask_L1b images mask (F_mapMask_L1 images mask r33) out5 t11 = F_mapMask_L1 images mask r33 (orI out5 (shlI 1 (gI images (gI (F_membersOf mask) t11)))) (t11 + 1) by unfold F_mapMask_L1b; rw [ht37]; first | done | rfl)).symm, (by omega), (by first | omega | (simp only [sS_len, sL_len]; omega) | (simp only [List.length_replicate, sI_len]; omega) | (simp only [List.length_append, List.length_cons, List.length_nil, sI_len, cond_true, cond_false]; omega) | (simp only [List.length_append, List.length_cons, List.length_nil, sI_len, cond_eq_ite, apply_ite List.length]; split <;> simp only [List.length_append, List.length_cons, List.length_nil, sI_len] <;> omega) | grind), (by first | omega | (simp only [sS_len, sL_len]; omega) | (simp only [List.length_replicate, sI_len]; omega) | (simp only [List.length_append, List.length_cons, List.length_nil, sI_len, cond_true, cond_false]; omega) | (simp only [List.length_append, List.length_cons, List.length_nil, sI_len, cond_eq_ite, apply_ite List.length]; split <;> simp only [List.length_append, List.length_cons, List.length_nil, sI_len] <;> omega) | grind), (hE68.sub (L' := [(0, .slice imagesA images.length imagesC), (5, .int .i64 (orI out5 (shlI 1 (gI images (gI (F_membersOf mask) t11))))), (9, .slice b16 ((F_membersOf mask).length) c17), (10, .int .i64 ((F_membersOf mask).length : Int)), (11, .int .i64 (t11 + 1))]) ⟨rfl, rfl, rfl, rfl, rfl, trivial⟩), (St.pick (Γ' := [.own 2 1 b16 ((F_membersOf mask).length) c17 (F_membersOf mask), .rd 1 imagesA images.length imagesC images]) hS28 [0, 1] (by decide) rfl)⟩
    ·
     have hp69 := of_decide_eq_false ht37
     have hE70 := hE36; rw [ht37] at hE70; clear hE36
     refine wp_exit ?_
     refine p_te ?_
     have hX71 : F_mapMask_L1 images mask (Int.toNat (((F_membersOf mask).length : Int) - 0) + 1) 0 0 = (out5, t11) := hT29.symm.trans (show F_mapMask_L1b images mask (F_mapMask_L1 images mask r33) out5 t11 = (out5, t11) by unfold F_mapMask_L1b; rw [ht37]; first | done | rfl)
     refine p_te (p_be (p_tn ?_))
     exact ⟨(by rw [hX71]; exact (show 0 ≤ t11 from (by first | omega | (simp only [sS_len, sL_len]; omega) | (simp only [List.length_replicate, sI_len]; omega) | (simp only [List.length_append, List.length_cons, List.length_nil, sI_len, cond_true, cond_false]; omega) | (simp only [List.length_append, List.length_cons, List.length_nil, sI_len, cond_eq_ite, apply_ite List.length]; split <;> simp only [List.length_append, List.length_cons, List.length_nil, sI_len] <;> omega) | grind))), (by rw [hX71]; exact (show t11 ≤ ((F_membersOf mask).length : Int) from (by first | omega | (simp only [sS_len, sL_len]; omega) | (simp only [List.length_replicate, sI_len]; omega) | (simp only [List.length_append, List.length_cons, List.length_nil, sI_len, cond_true, cond_false]; omega) | (simp only [List.length_append, List.length_cons, List.length_nil, sI_len, cond_eq_ite, apply_ite List.length]; split <;> simp only [List.length_append, List.length_cons, List.length_nil, sI_len] <;> omega) | grind))), (by rw [hX71]; exact (hE70.sub (L' := [(0, .slice imagesA images.length imagesC), (5, .int .i64 out5), (9, .slice b16 ((F_membersOf mask).length) c17), (10, .int .i64 ((F_membersOf mask).length : Int)), (11, .int .i64 t11)]) ⟨rfl, rfl, rfl, rfl, rfl, trivial⟩)), (St.pick (Γ' := [.own 2 1 b16 ((F_membersOf mask).length) c17 (F_membersOf mask), .rd 1 imagesA images.length imagesC images]) hS28 [0, 1] (by decide) rfl)⟩
  ·
   rintro a72 w73 ⟨hi77, hi78, hE74, hS75⟩; clear hE23 hS14
   refine p_tn ?_
   refine c_seq ?_
   refine c_reg ?_
   refine q_step (v := .int .i64 ((F_mapMask_L1 images mask (Int.toNat (((F_membersOf mask).length : Int) - 0) + 1) 0 0).1)) hE74 (y_move rfl) rfl rfl rfl ?_; intro a79 hE80; clear hE74
   refine q_step (v := .int .i64 ((F_mapMask_L1 images mask (Int.toNat (((F_membersOf mask).length : Int) - 0) + 1) 0 0).1)) hE80 (y_assign rfl) rfl rfl rfl ?_; intro a81 hE82; clear hE80
   refine c_nil ?_
   have hE83 := hE82.sub (L' := [(4, .int .i64 ((F_mapMask_L1 images mask (Int.toNat (((F_membersOf mask).length : Int) - 0) + 1) 0 0).1))]) ⟨rfl, trivial⟩; clear hE82
   refine p_tn ?_
   refine wp_ret ?_
   have hF : F_mapMask images mask = (F_mapMask_L1 images mask (Int.toNat (((F_membersOf mask).length : Int) - 0) + 1) 0 0).1 := by unfold F_mapMask; rfl
   refine c_ret1 hE83 rfl rfl ?_
   exact ⟨(by rw [hF]; first | done | (dsimp only; done) | rfl), hS75.ext⟩
def F_isMorphism_k1 (xp : Int) (cap0 : List Int) (cap10 : Int) (cap11 : List Int) (cap20 : Int) (cap21 : List Int) : Bool :=
  decide ((F_mapMask cap0 (gI cap11 xp)) = (gI cap21 (gI cap0 xp)))
theorem cf_isMorphism_k1 (args : Array Value) (w : World) : (callFunc 199 args).run Try.prog w = .ok (.enter 199 args) w := by kernel_rfl
set_option maxRecDepth 100000 in
theorem c_isMorphism_k1 (xp : Int) (cap0B : Nat) (cap0A : Option Addr) (cap0N cap0C : Nat) (cap0 : List Int) (cap1B : Nat) (cap10 : Int) (cap11A : Option Addr) (cap11N cap11C : Nat) (cap11 : List Int) (cap2B : Nat) (cap20 : Int) (cap21A : Option Addr) (cap21N cap21C : Nat) (cap21 : List Int) (w : World) (cap0R : RdS w 1 cap0A cap0N cap0C cap0) (cap0H : w.heap[cap0B]? = some (.cells #[.slice cap0A cap0N cap0C] 22 (0, 0))) (cap11R : RdS w 1 cap11A cap11N cap11C cap11) (cap1H : w.heap[cap1B]? = some (.cells #[.int .i64 cap10, .slice cap11A cap11N cap11C] 30 (0, 0))) (cap21R : RdS w 1 cap21A cap21N cap21C cap21) (cap2H : w.heap[cap2B]? = some (.cells #[.int .i64 cap20, .slice cap21A cap21N cap21C] 30 (0, 0))) (hx : 0 ≤ xp ∧ xp < cap10) (hf : cap10 ≤ 8) (hfl : (cap11.length : Int) = cap10) (hg : 0 ≤ cap20 ∧ cap20 ≤ 8) (hgl : (cap21.length : Int) = cap20) (hil : (cap0.length : Int) = cap10) (him : ∀ m : Int, 0 ≤ m → m < (cap0.length : Int) → 0 ≤ gI cap0 m ∧ gI cap0 m < cap20) (hfm : ∀ m : Int, 0 ≤ m → m < (cap11.length : Int) → 0 ≤ gI cap11 m ∧ gI cap11 m ≤ fullI cap10) :
    Calls Try.prog 199 #[.int .i64 xp, .pointer (some ⟨cap0B, 0, none⟩), .pointer (some ⟨cap1B, 0, none⟩), .pointer (some ⟨cap2B, 0, none⟩)] w (Ret fun v w' => v = .bool (F_isMorphism_k1 xp cap0 cap10 cap11 cap20 cap21) ∧ Ext w w') := by
  obtain rfl : cap0N = cap0.length := cap0R.len1.symm
  have cap0Le := cap0R.le
  obtain rfl : cap11N = cap11.length := cap11R.len1.symm
  have cap11Le := cap11R.le
  obtain rfl : cap21N = cap21.length := cap21R.len1.symm
  have cap21Le := cap21R.le
  have hm1 := him xp (by omega) (by omega)
  have hm2 := hfm xp (by omega) (by omega)
  have hf2 := fullI_bd (n := cap10) (by omega) (by omega)
  have hS := St.nil w
  have hS1 := St.rd0 hS rfl cap0R; clear hS
  have hS2 := St.rb0 hS1 rfl cap0H; clear hS1
  have hS3 := St.rd0 hS2 rfl cap11R; clear hS2
  have hS4 := St.rb0 hS3 rfl cap1H; clear hS3
  have hS5 := St.rd0 hS4 rfl cap21R; clear hS4
  have hS6 := St.rb0 hS5 rfl cap2H; clear hS5
  refine enter (args := [.int .i64 xp, .pointer (some ⟨cap0B, 0, none⟩), .pointer (some ⟨cap1B, 0, none⟩), .pointer (some ⟨cap2B, 0, none⟩)]) Try.func199 rfl rfl ?_
  rw [Try.ntmps199]; intro a hE
  have hE := hE.sub (L' := [(0, .int .i64 xp), (1, .pointer (some ⟨cap0B, 0, none⟩)), (2, .pointer (some ⟨cap1B, 0, none⟩)), (3, .pointer (some ⟨cap2B, 0, none⟩))]) ⟨rfl, rfl, rfl, rfl, trivial⟩
  refine c_seq ?_
  refine c_reg ?_
  refine q_step (v := .bool false) hE (y_assign rfl) rfl rfl rfl ?_; intro a7 hE8; clear hE
  refine c_nil ?_
  have hE9 := hE8.sub (L' := [(0, .int .i64 xp), (1, .pointer (some ⟨cap0B, 0, none⟩)), (2, .pointer (some ⟨cap1B, 0, none⟩)), (3, .pointer (some ⟨cap2B, 0, none⟩))]) ⟨rfl, rfl, rfl, rfl, trivial⟩; clear hE8
  refine p_tn ?_
  refine c_seq ?_
  refine d_start (fun w w' => (fun w' => w'.cell? ⟨cap0B, 0, none⟩ = some (.slice cap0A cap0.length cap0C) ∧ w'.cell? ⟨cap1B, 1, none⟩ = some (.slice cap11A cap11.length cap11C) ∧ w'.cell? (adr cap11A (Int.toNat xp)) = some (.int .i64 (gI cap11 xp)) ∧ w'.cell? ⟨cap2B, 1, none⟩ = some (.slice cap21A cap21.length cap21C) ∧ w'.cell? ⟨cap0B, 0, none⟩ = some (.slice cap0A cap0.length cap0C) ∧ w'.cell? (adr cap0A (Int.toNat xp)) = some (.int .i64 (gI cap0 xp)) ∧ w'.cell? (adr cap21A (Int.toNat (gI cap0 xp))) = some (.int .i64 (gI cap21 (gI cap0 xp))) ∧ True) w → (fun w' => w'.cell? ⟨cap0B, 0, none⟩ = some (.slice cap0A cap0.length cap0C) ∧ w'.cell? ⟨cap1B, 1, none⟩ = some (.slice cap11A cap11.length cap11C) ∧ w'.cell? (adr cap11A (Int.toNat xp)) = some (.int .i64 (gI cap11 xp)) ∧ w'.cell? ⟨cap2B, 1, none⟩ = some (.slice cap21A cap21.length cap21C) ∧ w'.cell? ⟨cap0B, 0, none⟩ = some (.slice cap0A cap0.length cap0C) ∧ w'.cell? (adr cap0A (Int.toNat xp)) = some (.int .i64 (gI cap0 xp)) ∧ w'.cell? (adr cap21A (Int.toNat (gI cap0 xp))) = some (.int .i64 (gI cap21 (gI cap0 xp))) ∧ True) w') [0, 2, 5, 8, 9, 12, 14] 17 (by kernel_rfl) rfl ?_
  intro w10 he11; have hS12 := St.go hS6 he11; clear hS6
  refine d_take (fun _ h => h) (fun _ _ h k => h k) (v := .slice cap0A cap0.length cap0C) 0 rfl hE9 (S := fun w' => w'.cell? ⟨cap0B, 0, none⟩ = some (.slice cap0A cap0.length cap0C) ∧ w'.cell? ⟨cap1B, 1, none⟩ = some (.slice cap11A cap11.length cap11C) ∧ w'.cell? (adr cap11A (Int.toNat xp)) = some (.int .i64 (gI cap11 xp)) ∧ w'.cell? ⟨cap2B, 1, none⟩ = some (.slice cap21A cap21.length cap21C) ∧ w'.cell? ⟨cap0B, 0, none⟩ = some (.slice cap0A cap0.length cap0C) ∧ w'.cell? (adr cap0A (Int.toNat xp)) = some (.int .i64 (gI cap0 xp)) ∧ w'.cell? (adr cap21A (Int.toNat (gI cap0 xp))) = some (.int .i64 (gI cap21 (gI cap0 xp))) ∧ True) ⟨(St.cellR (i := 4) hS12 rfl rfl _ (Ext.refl _)), (St.cellR (i := 2) hS12 rfl rfl _ (Ext.refl _)), (RdS.elt (St.rdR (i := 3) hS12 rfl) (by omega) (by omega) _ (Ext.refl _)), (St.cellR (i := 0) hS12 rfl rfl _ (Ext.refl _)), (St.cellR (i := 4) hS12 rfl rfl _ (Ext.refl _)), (RdS.elt (St.rdR (i := 5) hS12 rfl) (by omega) (by omega) _ (Ext.refl _)), (RdS.elt (St.rdR (i := 1) hS12 rfl) (by omega) (by omega) _ (Ext.refl _)), trivial⟩ (y_load (fun _ => by kernel_rfl) rfl (fun _ h => h.1)) rfl rfl (by kernel_rfl) (by kernel_rfl) (by kernel_rfl) (by kernel_rfl) rfl rfl (fun _ _ _ h => h) ?_; intro a13 hE14; clear hE9
  refine d_pure (fun _ h => h) (v := .pointer (some ⟨cap1B, 1, none⟩)) 1 rfl hE14 (y_field rfl (fun _ => by kernel_rfl)) rfl (by kernel_rfl) (by kernel_rfl) (by kernel_rfl) rfl rfl (fun _ _ _ h => h) ?_; intro a15 hE16; clear hE14
  refine d_take (fun _ h => h) (fun _ _ h k => h k) (v := .slice cap11A cap11.length cap11C) 2 rfl hE16 (S := fun w' => w'.cell? ⟨cap0B, 0, none⟩ = some (.slice cap0A cap0.length cap0C) ∧ w'.cell? ⟨cap1B, 1, none⟩ = some (.slice cap11A cap11.length cap11C) ∧ w'.cell? (adr cap11A (Int.toNat xp)) = some (.int .i64 (gI cap11 xp)) ∧ w'.cell? ⟨cap2B, 1, none⟩ = some (.slice cap21A cap21.length cap21C) ∧ w'.cell? ⟨cap0B, 0, none⟩ = some (.slice cap0A cap0.length cap0C) ∧ w'.cell? (adr cap0A (Int.toNat xp)) = some (.int .i64 (gI cap0 xp)) ∧ w'.cell? (adr cap21A (Int.toNat (gI cap0 xp))) = some (.int .i64 (gI cap21 (gI cap0 xp))) ∧ True) ⟨(St.cellR (i := 4) hS12 rfl rfl _ (Ext.refl _)), (St.cellR (i := 2) hS12 rfl rfl _ (Ext.refl _)), (RdS.elt (St.rdR (i := 3) hS12 rfl) (by omega) (by omega) _ (Ext.refl _)), (St.cellR (i := 0) hS12 rfl rfl _ (Ext.refl _)), (St.cellR (i := 4) hS12 rfl rfl _ (Ext.refl _)), (RdS.elt (St.rdR (i := 5) hS12 rfl) (by omega) (by omega) _ (Ext.refl _)), (RdS.elt (St.rdR (i := 1) hS12 rfl) (by omega) (by omega) _ (Ext.refl _)), trivial⟩ (y_load (fun _ => by kernel_rfl) rfl (fun _ h => h.2.1)) rfl rfl (by kernel_rfl) (by kernel_rfl) (by kernel_rfl) (by kernel_rfl) rfl rfl (fun _ _ _ h => h) ?_; intro a17 hE18; clear hE16
  refine d_pure (fun _ h => h) (v := .int .i64 xp) 3 rfl hE18 (y_move rfl) rfl (by kernel_rfl) (by kernel_rfl) (by kernel_rfl) rfl rfl (fun _ _ _ h => h) ?_; intro a19 hE20; clear hE18
  refine d_pure (fun _ h => h) (v := .pointer (some (adr cap11A (Int.toNat xp)))) 4 rfl hE20 (y_idx (by kernel_rfl) (fun _ => by kernel_rfl) rfl rfl (RdS.isS (m := xp) (St.rdR (i := 3) hS12 rfl) (by omega) (by omega)) (by omega) (by omega) (Nat.mul_one _).symm) rfl (by kernel_rfl) (by kernel_rfl) (by kernel_rfl) rfl rfl (fun _ _ _ h => h) ?_; intro a21 hE22; clear hE20
  refine d_take (fun _ h => h) (fun _ _ h k => h k) (v := .int .i64 (gI cap11 xp)) 5 rfl hE22 (S := fun w' => w'.cell? ⟨cap0B, 0, none⟩ = some (.slice cap0A cap0.length cap0C) ∧ w'.cell? ⟨cap1B, 1, none⟩ = some (.slice cap11A cap11.length cap11C) ∧ w'.cell? (adr cap11A (Int.toNat xp)) = some (.int .i64 (gI cap11 xp)) ∧ w'.cell? ⟨cap2B, 1, none⟩ = some (.slice cap21A cap21.length cap21C) ∧ w'.cell? ⟨cap0B, 0, none⟩ = some (.slice cap0A cap0.length cap0C) ∧ w'.cell? (adr cap0A (Int.toNat xp)) = some (.int .i64 (gI cap0 xp)) ∧ w'.cell? (adr cap21A (Int.toNat (gI cap0 xp))) = some (.int .i64 (gI cap21 (gI cap0 xp))) ∧ True) ⟨(St.cellR (i := 4) hS12 rfl rfl _ (Ext.refl _)), (St.cellR (i := 2) hS12 rfl rfl _ (Ext.refl _)), (RdS.elt (St.rdR (i := 3) hS12 rfl) (by omega) (by omega) _ (Ext.refl _)), (St.cellR (i := 0) hS12 rfl rfl _ (Ext.refl _)), (St.cellR (i := 4) hS12 rfl rfl _ (Ext.refl _)), (RdS.elt (St.rdR (i := 5) hS12 rfl) (by omega) (by omega) _ (Ext.refl _)), (RdS.elt (St.rdR (i := 1) hS12 rfl) (by omega) (by omega) _ (Ext.refl _)), trivial⟩ (y_load (fun _ => by kernel_rfl) rfl (fun _ h => h.2.2.1)) rfl rfl (by kernel_rfl) (by kernel_rfl) (by kernel_rfl) (by kernel_rfl) rfl rfl (fun _ _ _ h => h) ?_; intro a23 hE24; clear hE22
  refine d_pure (fun _ h => h) (v := .pointer (some ⟨cap2B, 1, none⟩)) 7 rfl hE24 (y_field rfl (fun _ => by kernel_rfl)) rfl (by kernel_rfl) (by kernel_rfl) (by kernel_rfl) rfl rfl (fun _ _ _ h => h) ?_; intro a25 hE26; clear hE24
  refine d_take (fun _ h => h) (fun _ _ h k => h k) (v := .slice cap21A cap21.length cap21C) 8 rfl hE26 (S := fun w' => w'.cell? ⟨cap0B, 0, none⟩ = some (.slice cap0A cap0.length cap0C) ∧ w'.cell? ⟨cap1B, 1, none⟩ = some (.slice cap11A cap11.length cap11C) ∧ w'.cell? (adr cap11A (Int.toNat xp)) = some (.int .i64 (gI cap11 xp)) ∧ w'.cell? ⟨cap2B, 1, none⟩ = some (.slice cap21A cap21.length cap21C) ∧ w'.cell? ⟨cap0B, 0, none⟩ = some (.slice cap0A cap0.length cap0C) ∧ w'.cell? (adr cap0A (Int.toNat xp)) = some (.int .i64 (gI cap0 xp)) ∧ w'.cell? (adr cap21A (Int.toNat (gI cap0 xp))) = some (.int .i64 (gI cap21 (gI cap0 xp))) ∧ True) ⟨(St.cellR (i := 4) hS12 rfl rfl _ (Ext.refl _)), (St.cellR (i := 2) hS12 rfl rfl _ (Ext.refl _)), (RdS.elt (St.rdR (i := 3) hS12 rfl) (by omega) (by omega) _ (Ext.refl _)), (St.cellR (i := 0) hS12 rfl rfl _ (Ext.refl _)), (St.cellR (i := 4) hS12 rfl rfl _ (Ext.refl _)), (RdS.elt (St.rdR (i := 5) hS12 rfl) (by omega) (by omega) _ (Ext.refl _)), (RdS.elt (St.rdR (i := 1) hS12 rfl) (by omega) (by omega) _ (Ext.refl _)), trivial⟩ (y_load (fun _ => by kernel_rfl) rfl (fun _ h => h.2.2.2.1)) rfl rfl (by kernel_rfl) (by kernel_rfl) (by kernel_rfl) (by kernel_rfl) rfl rfl (fun _ _ _ h => h) ?_; intro a27 hE28; clear hE26
  refine d_take (fun _ h => h) (fun _ _ h k => h k) (v := .slice cap0A cap0.length cap0C) 9 rfl hE28 (S := fun w' => w'.cell? ⟨cap0B, 0, none⟩ = some (.slice cap0A cap0.length cap0C) ∧ w'.cell? ⟨cap1B, 1, none⟩ = some (.slice cap11A cap11.length cap11C) ∧ w'.cell? (adr cap11A (Int.toNat xp)) = some (.int .i64 (gI cap11 xp)) ∧ w'.cell? ⟨cap2B, 1, none⟩ = some (.slice cap21A cap21.length cap21C) ∧ w'.cell? ⟨cap0B, 0, none⟩ = some (.slice cap0A cap0.length cap0C) ∧ w'.cell? (adr cap0A (Int.toNat xp)) = some (.int .i64 (gI cap0 xp)) ∧ w'.cell? (adr cap21A (Int.toNat (gI cap0 xp))) = some (.int .i64 (gI cap21 (gI cap0 xp))) ∧ True) ⟨(St.cellR (i := 4) hS12 rfl rfl _ (Ext.refl _)), (St.cellR (i := 2) hS12 rfl rfl _ (Ext.refl _)), (RdS.elt (St.rdR (i := 3) hS12 rfl) (by omega) (by omega) _ (Ext.refl _)), (St.cellR (i := 0) hS12 rfl rfl _ (Ext.refl _)), (St.cellR (i := 4) hS12 rfl rfl _ (Ext.refl _)), (RdS.elt (St.rdR (i := 5) hS12 rfl) (by omega) (by omega) _ (Ext.refl _)), (RdS.elt (St.rdR (i := 1) hS12 rfl) (by omega) (by omega) _ (Ext.refl _)), trivial⟩ (y_load (fun _ => by kernel_rfl) rfl (fun _ h => h.2.2.2.2.1)) rfl rfl (by kernel_rfl) (by kernel_rfl) (by kernel_rfl) (by kernel_rfl) rfl rfl (fun _ _ _ h => h) ?_; intro a29 hE30; clear hE28
  refine d_pure (fun _ h => h) (v := .int .i64 xp) 10 rfl hE30 (y_move rfl) rfl (by kernel_rfl) (by kernel_rfl) (by kernel_rfl) rfl rfl (fun _ _ _ h => h) ?_; intro a31 hE32; clear hE30
  refine d_pure (fun _ h => h) (v := .pointer (some (adr cap0A (Int.toNat xp)))) 11 rfl hE32 (y_idx (by kernel_rfl) (fun _ => by kernel_rfl) rfl rfl (RdS.isS (m := xp) (St.rdR (i := 5) hS12 rfl) (by omega) (by omega)) (by omega) (by omega) (Nat.mul_one _).symm) rfl (by kernel_rfl) (by kernel_rfl) (by kernel_rfl) rfl rfl (fun _ _ _ h => h) ?_; intro a33 hE34; clear hE32
  refine d_take (fun _ h => h) (fun _ _ h k => h k) (v := .int .i64 (gI cap0 xp)) 12 rfl hE34 (S := fun w' => w'.cell? ⟨cap0B, 0, none⟩ = some (.slice cap0A cap0.length cap0C) ∧ w'.cell? ⟨cap1B, 1, none⟩ = some (.slice cap11A cap11.length cap11C) ∧ w'.cell? (adr cap11A (Int.toNat xp)) = some (.int .i64 (gI cap11 xp)) ∧ w'.cell? ⟨cap2B, 1, none⟩ = some (.slice cap21A cap21.length cap21C) ∧ w'.cell? ⟨cap0B, 0, none⟩ = some (.slice cap0A cap0.length cap0C) ∧ w'.cell? (adr cap0A (Int.toNat xp)) = some (.int .i64 (gI cap0 xp)) ∧ w'.cell? (adr cap21A (Int.toNat (gI cap0 xp))) = some (.int .i64 (gI cap21 (gI cap0 xp))) ∧ True) ⟨(St.cellR (i := 4) hS12 rfl rfl _ (Ext.refl _)), (St.cellR (i := 2) hS12 rfl rfl _ (Ext.refl _)), (RdS.elt (St.rdR (i := 3) hS12 rfl) (by omega) (by omega) _ (Ext.refl _)), (St.cellR (i := 0) hS12 rfl rfl _ (Ext.refl _)), (St.cellR (i := 4) hS12 rfl rfl _ (Ext.refl _)), (RdS.elt (St.rdR (i := 5) hS12 rfl) (by omega) (by omega) _ (Ext.refl _)), (RdS.elt (St.rdR (i := 1) hS12 rfl) (by omega) (by omega) _ (Ext.refl _)), trivial⟩ (y_load (fun _ => by kernel_rfl) rfl (fun _ h => h.2.2.2.2.2.1)) rfl rfl (by kernel_rfl) (by kernel_rfl) (by kernel_rfl) (by kernel_rfl) rfl rfl (fun _ _ _ h => h) ?_; intro a35 hE36; clear hE34
  refine d_pure (fun _ h => h) (v := .pointer (some (adr cap21A (Int.toNat (gI cap0 xp))))) 13 rfl hE36 (y_idx (by kernel_rfl) (fun _ => by kernel_rfl) rfl rfl (RdS.isS (m := gI cap0 xp) (St.rdR (i := 1) hS12 rfl) (by omega) (by omega)) (by omega) (by omega) (Nat.mul_one _).symm) rfl (by kernel_rfl) (by kernel_rfl) (by kernel_rfl) rfl rfl (fun _ _ _ h => h) ?_; intro a37 hE38; clear hE36
  refine d_take (fun _ h => h) (fun _ _ h k => h k) (v := .int .i64 (gI cap21 (gI cap0 xp))) 14 rfl hE38 (S := fun w' => w'.cell? ⟨cap0B, 0, none⟩ = some (.slice cap0A cap0.length cap0C) ∧ w'.cell? ⟨cap1B, 1, none⟩ = some (.slice cap11A cap11.length cap11C) ∧ w'.cell? (adr cap11A (Int.toNat xp)) = some (.int .i64 (gI cap11 xp)) ∧ w'.cell? ⟨cap2B, 1, none⟩ = some (.slice cap21A cap21.length cap21C) ∧ w'.cell? ⟨cap0B, 0, none⟩ = some (.slice cap0A cap0.length cap0C) ∧ w'.cell? (adr cap0A (Int.toNat xp)) = some (.int .i64 (gI cap0 xp)) ∧ w'.cell? (adr cap21A (Int.toNat (gI cap0 xp))) = some (.int .i64 (gI cap21 (gI cap0 xp))) ∧ True) ⟨(St.cellR (i := 4) hS12 rfl rfl _ (Ext.refl _)), (St.cellR (i := 2) hS12 rfl rfl _ (Ext.refl _)), (RdS.elt (St.rdR (i := 3) hS12 rfl) (by omega) (by omega) _ (Ext.refl _)), (St.cellR (i := 0) hS12 rfl rfl _ (Ext.refl _)), (St.cellR (i := 4) hS12 rfl rfl _ (Ext.refl _)), (RdS.elt (St.rdR (i := 5) hS12 rfl) (by omega) (by omega) _ (Ext.refl _)), (RdS.elt (St.rdR (i := 1) hS12 rfl) (by omega) (by omega) _ (Ext.refl _)), trivial⟩ (y_load (fun _ => by kernel_rfl) rfl (fun _ h => h.2.2.2.2.2.2.1)) rfl rfl (by kernel_rfl) (by kernel_rfl) (by kernel_rfl) (by kernel_rfl) rfl rfl (fun _ _ _ h => h) ?_; intro a39 hE40; clear hE38
  refine d_only 6 (by kernel_rfl) rfl hE40 rfl (l_call (f := 194) (argv := [.slice cap0A cap0.length cap0C, .int .i64 (gI cap11 xp)]) hE40 (fun _ => cf_mapMask _ _) rfl rfl (c_mapMask cap0A cap0.length cap0C cap0 (gI cap11 xp) w10 (St.rdR (i := 5) hS12 rfl) (by omega) (by omega) (by rw [hil]; omega) (by omega) (fun m h0 h1 => by have := him m h0 h1; omega)) ?_)
  rintro _ w42 ⟨rfl, he46⟩ a43 hE44; clear hE40
  have hS45 := St.go hS12 he46; clear hS12
  refine ⟨fun _ _ => ⟨(St.cellR (i := 4) hS45 rfl rfl _ (Ext.refl _)), (St.cellR (i := 2) hS45 rfl rfl _ (Ext.refl _)), (RdS.elt (St.rdR (i := 3) hS45 rfl) (by omega) (by omega) _ (Ext.refl _)), (St.cellR (i := 0) hS45 rfl rfl _ (Ext.refl _)), (St.cellR (i := 4) hS45 rfl rfl _ (Ext.refl _)), (RdS.elt (St.rdR (i := 5) hS45 rfl) (by omega) (by omega) _ (Ext.refl _)), (RdS.elt (St.rdR (i := 1) hS45 rfl) (by omega) (by omega) _ (Ext.refl _)), trivial⟩, ?_⟩
  refine d_pure (fun _ h => h) (v := .bool (decide ((F_mapMask cap0 (gI cap11 xp)) = (gI cap21 (gI cap0 xp))))) 15 rfl hE44 (y_eql rfl rfl) rfl (by kernel_rfl) (by kernel_rfl) (by kernel_rfl) rfl rfl (fun _ _ _ h => h) ?_; intro a47 hE48; clear hE44
  refine d_pure (fun _ h => h) (v := .bool (decide ((F_mapMask cap0 (gI cap11 xp)) = (gI cap21 (gI cap0 xp))))) 16 rfl hE48 (y_assign rfl) rfl (by kernel_rfl) (by kernel_rfl) (by kernel_rfl) rfl rfl (fun _ _ _ h => h) ?_; intro a49 hE50; clear hE48
  refine d_done (by kernel_rfl) ?_
  have hE51 := hE50.sub (L' := [(5, .bool (decide ((F_mapMask cap0 (gI cap11 xp)) = (gI cap21 (gI cap0 xp)))))]) ⟨rfl, trivial⟩; clear hE50
  refine p_tn ?_
  refine wp_ret ?_
  have hF : F_isMorphism_k1 xp cap0 cap10 cap11 cap20 cap21 = decide ((F_mapMask cap0 (gI cap11 xp)) = (gI cap21 (gI cap0 xp))) := by unfold F_isMorphism_k1; rfl
  refine c_ret1 hE51 rfl rfl ?_
  exact ⟨(by rw [hF]; first | done | (dsimp only; done) | rfl), hS45.ext⟩
def F_Frame_everyWorld_L1b (f0 : Int) (holds : Int → Bool) (rec : Int → Except (Bool) (Int)) (t8 : Int) : Except (Bool) (Int) :=
  bif (decide (t8 < f0)) then (bif (!(holds t8)) then (.error false) else (rec (t8 + 1))) else (.ok t8)
def F_Frame_everyWorld_L1 (f0 : Int) (holds : Int → Bool) : Nat → Int → Except (Bool) (Int)
  | 0, t8 => .ok t8
  | r + 1, t8 => F_Frame_everyWorld_L1b f0 holds (F_Frame_everyWorld_L1 f0 holds r) t8
def F_Frame_everyWorld (f0 : Int) (f1 : List Int) (holds : Int → Bool) : Bool :=
  bif (isOk (F_Frame_everyWorld_L1 f0 holds (Int.toNat (f0 - 0) + 1) 0)) then true else (errD (F_Frame_everyWorld_L1 f0 holds (Int.toNat (f0 - 0) + 1) 0))
theorem cf_Frame_everyWorld (args : Array Value) (w : World) : (callFunc 198 args).run Try.prog w = .ok (.enter 198 args) w := by kernel_rfl
set_option maxRecDepth 100000 in
theorem c_Frame_everyWorld (f0 : Int) (f1A : Option Addr) (f1N f1C : Nat) (f1 : List Int) (holdsF : FuncId) (holdsC : List Value) (holds : Int → Bool) (holdsD : Int → Prop) (w : World) (f1R : RdS w 1 f1A f1N f1C f1) (holdsE : ∀ args w, (callFunc holdsF args).run Try.prog w = .ok (.enter holdsF args) w) (holdsH : ∀ (x0 : Int) (w' : World), holdsD x0 → Ext w w' → Calls Try.prog holdsF (([.int .i64 x0] ++ holdsC : List Value).toArray) w' (Ret fun v w'' => v = .bool (holds x0) ∧ Ext w' w'')) (h0 : 0 ≤ f0) (h1 : f0 ≤ 8) (holdsDom : ∀ m : Int, 0 ≤ m → m < f0 → holdsD m) :
    Calls Try.prog 198 #[.agg #[.int .i64 f0, .slice f1A f1N f1C], .func (.func holdsF) #[] holdsC.toArray] w (Ret fun v w' => v = .bool (F_Frame_everyWorld f0 f1 holds) ∧ Ext w w') := by
  obtain rfl : f1N = f1.length := f1R.len1.symm
  have f1Le := f1R.le
  have hS := St.nil w
  have hS1 := St.rd0 hS rfl f1R; clear hS
  refine enter (args := [.agg #[.int .i64 f0, .slice f1A f1.length f1C], .func (.func holdsF) #[] holdsC.toArray]) Try.func198 rfl rfl ?_
  rw [Try.ntmps198]; intro a hE
  have hE := hE.sub (L' := [(0, .agg #[.int .i64 f0, .slice f1A f1.length f1C]), (1, .func (.func holdsF) #[] holdsC.toArray)]) ⟨rfl, rfl, trivial⟩
  refine c_seq ?_
  refine c_reg ?_
  refine l_step hE rfl (l_box (v := .agg #[.int .i64 f0, .slice f1A f1.length f1C]) (cs := #[.int .i64 f0, .slice f1A f1.length f1C]) hS1 hE rfl rfl rfl ?_)
  intro b2 w3 hS6 he7 a4 hE5; clear hS1 hE
  refine q_step (v := .bool false) hE5 (y_assign rfl) rfl rfl rfl ?_; intro a8 hE9; clear hE5
  refine c_nil ?_
  have hE10 := hE9.sub (L' := [(1, .func (.func holdsF) #[] holdsC.toArray), (2, .pointer (some ⟨b2, 0, none⟩))]) ⟨rfl, rfl, trivial⟩; clear hE9
  refine p_tn ?_
  refine c_seq ?_
  refine c_seq ?_
  refine c_reg ?_
  refine q_step (v := .pointer (some ⟨b2, 0, none⟩)) hE10 (y_field rfl (fun _ => by kernel_rfl)) rfl rfl rfl ?_; intro a11 hE12; clear hE10
  refine q_step (v := .int .i64 f0) hE12 (y_load (fun _ => by kernel_rfl) rfl (St.cell (i := 0) hS6 rfl rfl)) rfl rfl rfl ?_; intro a13 hE14; clear hE12
  refine q_step (v := .int .i64 0) hE14 (y_move rfl) rfl rfl rfl ?_; intro a15 hE16; clear hE14
  refine c_nil ?_
  have hE17 := hE16.sub (L' := [(1, .func (.func holdsF) #[] holdsC.toArray), (7, .int .i64 f0), (8, .int .i64 0)]) ⟨rfl, rfl, rfl, trivial⟩; clear hE16
  refine p_tn ?_
  refine c_cut1 (fun a' w' => isOk (F_Frame_everyWorld_L1 f0 holds (Int.toNat (f0 - 0) + 1) 0) = true ∧ (0 ≤ (okD (F_Frame_everyWorld_L1 f0 holds (Int.toNat (f0 - 0) + 1) 0))) ∧ E a' 16 [(1, .func (.func holdsF) #[] holdsC.toArray), (7, .int .i64 f0), (8, .int .i64 (okD (F_Frame_everyWorld_L1 f0 holds (Int.toNat (f0 - 0) + 1) 0)))] ∧ St w w' [.blk b2 #[.int .i64 f0, .slice f1A f1.length f1C] 30, .rd 1 f1A f1.length f1C f1]) ?_ ?_
  ·
   refine wp_block ?_
   refine c_loop (fun r a' w' => ∃ t8 : Int, F_Frame_everyWorld_L1 f0 holds r t8 = F_Frame_everyWorld_L1 f0 holds (Int.toNat (f0 - 0) + 1) 0 ∧ Int.toNat (f0 - t8) < r ∧ (0 ≤ t8) ∧ E a' 16 [(1, .func (.func holdsF) #[] holdsC.toArray), (7, .int .i64 f0), (8, .int .i64 t8)] ∧ St w w' [.blk b2 #[.int .i64 f0, .slice f1A f1.length f1C] 30, .rd 1 f1A f1.length f1C f1]) (r := (Int.toNat (f0 - 0) + 1)) ?_ ?_
   · exact ⟨0, rfl, Nat.lt_succ_self _, (by first | omega | (simp only [sS_len, sL_len]; omega) | (simp only [List.length_replicate, sI_len]; omega) | (simp only [List.length_append, List.length_cons, List.length_nil, sI_len, cond_true, cond_false]; omega) | (simp only [List.length_append, List.length_cons, List.length_nil, sI_len, cond_eq_ite, apply_ite List.length]; split <;> simp only [List.length_append, List.length_cons, List.length_nil, sI_len] <;> omega) | grind), (hE17.sub (L' := [(1, .func (.func holdsF) #[] holdsC.toArray), (7, .int .i64 f0), (8, .int .i64 0)]) ⟨rfl, rfl, rfl, trivial⟩), (St.pick (Γ' := [.blk b2 #[.int .i64 f0, .slice f1A f1.length f1C] 30, .rd 1 f1A f1.length f1C f1]) hS6 [0, 1] (by decide) rfl)⟩
   ·
    clear hE17 hS6
    rintro r26 a19 w20 ⟨t8, hT23, hr24, hi25, hE21, hS22⟩
    obtain ⟨r26, rfl⟩ : ∃ r', r26 = r' + 1 := ⟨r26 - 1, by omega⟩
    refine c_seq ?_
    refine c_reg ?_
    refine q_step (v := .bool (decide (t8 < f0))) hE21 (y_lss rfl rfl) rfl rfl rfl ?_; intro a27 hE28; clear hE21
    refine c_nil ?_
    have hE29 := hE28.sub (L' := [(1, .func (.func holdsF) #[] holdsC.toArray), (7, .int .i64 f0), (8, .int .i64 t8), (9, .bool (decide (t8 < f0)))]) ⟨rfl, rfl, rfl, rfl, trivial⟩; clear hE28
    refine p_tn ?_
    refine c_seq ?_
    refine c_cond hE29 rfl (fun ht30 => ?_) (fun ht30 => ?_)
    ·
     have hp31 := of_decide_eq_true ht30
     have hE32 := hE29; rw [ht30] at hE32; clear hE29
     refine wp_skip ?_
     refine p_tn ?_
     refine c_seq ?_
     refine wp_block ?_
     refine c_seq ?_
     refine c_reg ?_
     refine q_step (v := .int .i64 t8) hE32 (y_move rfl) rfl rfl rfl ?_; intro a33 hE34; clear hE32
     refine q_step (v := .int .i64 t8) hE34 (y_assign rfl) rfl rfl rfl ?_; intro a35 hE36; clear hE34
     refine c_nil ?_
     have hE37 := hE36.sub (L' := [(1, .func (.func holdsF) #[] holdsC.toArray), (5, .int .i64 t8), (7, .int .i64 f0), (8, .int .i64 t8)]) ⟨rfl, rfl, rfl, rfl, trivial⟩; clear hE36
     refine p_tn ?_
     refine c_seq ?_
     refine c_reg ?_
     refine q_step (v := .func (.func holdsF) #[] holdsC.toArray) hE37 (y_move rfl) rfl rfl rfl ?_; intro a38 hE39; clear hE37
     refine q_step (v := .int .i64 t8) hE39 (y_move rfl) rfl rfl rfl ?_; intro a40 hE41; clear hE39
     refine l_step hE41 rfl (l_callv (f := holdsF) (caps := holdsC) (argv := [.int .i64 t8]) hE41 rfl (fun _ => holdsE _ _) rfl rfl (holdsH t8 w20 (holdsDom t8 (by omega) (by omega)) hS22.ext) ?_)
     rintro _ w43 ⟨rfl, he47⟩ a44 hE45; clear hE41
     have hS46 := St.go hS22 he47; clear hS22
     refine q_step (v := .bool (!(holds t8))) hE45 (y_not rfl) rfl rfl rfl ?_; intro a48 hE49; clear hE45
     refine c_nil ?_
     have hE50 := hE49.sub (L' := [(1, .func (.func holdsF) #[] holdsC.toArray), (7, .int .i64 f0), (8, .int .i64 t8), (14, .bool (!(holds t8)))]) ⟨rfl, rfl, rfl, rfl, trivial⟩; clear hE49
     refine p_tn ?_
     refine c_cond hE50 rfl (fun ht51 => ?_) (fun ht51 => ?_)
     ·
      have ht52 := bn_t ht51
      have hE53 := hE50; rw [ht51] at hE53; clear hE50
      refine c_seq ?_
      refine c_reg ?_
      refine q_step (v := .bool false) hE53 (y_assign rfl) rfl rfl rfl ?_; intro a54 hE55; clear hE53
      refine c_nil ?_
      have hE56 := hE55.sub (L' := [(4, .bool false)]) ⟨rfl, trivial⟩; clear hE55
      refine p_tn ?_
      refine wp_ret ?_
      refine p_br ?_
      refine p_tr ?_
      have hX57 : F_Frame_everyWorld_L1 f0 holds (Int.toNat (f0 - 0) + 1) 0 = .error false := hT23.symm.trans (show F_Frame_everyWorld_L1b f0 holds (F_Frame_everyWorld_L1 f0 holds r26) t8 = .error false by unfold F_Frame_everyWorld_L1b; rw [ht51, ht30]; first | done | rfl)
      refine p_tr (p_br (p_tr ?_))
      refine p_tr ?_
      have hF : F_Frame_everyWorld f0 f1 holds = false := by unfold F_Frame_everyWorld; rw [hX57]; first | done | rfl
      refine c_ret1 hE56 rfl rfl ?_
      exact ⟨(by rw [hF]; first | done | (dsimp only; done) | rfl), hS46.ext⟩
     ·
      have ht58 := bn_f ht51
      have hE59 := hE50; rw [ht51] at hE59; clear hE50
      refine wp_skip ?_
      refine p_bn ?_
      refine p_tn ?_
      refine c_reg ?_
      refine q_step (v := .int .i64 (t8 + 1)) hE59 (y_add rfl rfl ⟨(by omega), (by omega)⟩) rfl rfl rfl ?_; intro a60 hE61; clear hE59
      refine q_step (v := .int .i64 (t8 + 1)) hE61 (y_move rfl) rfl rfl rfl ?_; intro a62 hE63; clear hE61
      refine c_nil ?_
      have hE64 := hE63.sub (L' := [(1, .func (.func holdsF) #[] holdsC.toArray), (7, .int .i64 f0), (8, .int .i64 (t8 + 1))]) ⟨rfl, rfl, rfl, trivial⟩; clear hE63
      refine p_tn ⟨r26, Nat.lt_succ_self _, t8 + 1, (hT23.symm.trans (show F_Frame_everyWorld_L1b f0 holds (F_Frame_everyWorld_L1 f0 holds r26) t8 = F_Frame_everyWorld_L1 f0 holds r26 (t8 + 1) by unfold F_Frame_everyWorld_L1b; rw [ht51, ht30]; first | done | rfl)).symm, (by omega), (by first | omega | (simp only [sS_len, sL_len]; omega) | (simp only [List.length_replicate, sI_len]; omega) | (simp only [List.length_append, List.length_cons, List.length_nil, sI_len, cond_true, cond_false]; omega) | (simp only [List.length_append, List.length_cons, List.length_nil, sI_len, cond_eq_ite, apply_ite List.length]; split <;> simp only [List.length_append, List.length_cons, List.length_nil, sI_len] <;> omega) | grind), (hE64.sub (L' := [(1, .func (.func holdsF) #[] holdsC.toArray), (7, .int .i64 f0), (8, .int .i64 (t8 + 1))]) ⟨rfl, rfl, rfl, trivial⟩), (St.pick (Γ' := [.blk b2 #[.int .i64 f0, .slice f1A f1.length f1C] 30, .rd 1 f1A f1.length f1C f1]) hS46 [0, 1] (by decide) rfl)⟩
    ·
     have hp65 := of_decide_eq_false ht30
     have hE66 := hE29; rw [ht30] at hE66; clear hE29
     refine wp_exit ?_
     refine p_te ?_
     have hX67 : F_Frame_everyWorld_L1 f0 holds (Int.toNat (f0 - 0) + 1) 0 = .ok t8 := hT23.symm.trans (show F_Frame_everyWorld_L1b f0 holds (F_Frame_everyWorld_L1 f0 holds r26) t8 = .ok t8 by unfold F_Frame_everyWorld_L1b; rw [ht30]; first | done | rfl)
     refine p_te (p_be (p_tn ?_))
     exact ⟨(by rw [hX67]; rfl), (by rw [hX67]; exact (show 0 ≤ t8 from (by first | omega | (simp only [sS_len, sL_len]; omega) | (simp only [List.length_replicate, sI_len]; omega) | (simp only [List.length_append, List.length_cons, List.length_nil, sI_len, cond_true, cond_false]; omega) | (simp only [List.length_append, List.length_cons, List.length_nil, sI_len, cond_eq_ite, apply_ite List.length]; split <;> simp only [List.length_append, List.length_cons, List.length_nil, sI_len] <;> omega) | grind))), (by rw [hX67]; exact (hE66.sub (L' := [(1, .func (.func holdsF) #[] holdsC.toArray), (7, .int .i64 f0), (8, .int .i64 t8)]) ⟨rfl, rfl, rfl, trivial⟩)), (St.pick (Γ' := [.blk b2 #[.int .i64 f0, .slice f1A f1.length f1C] 30, .rd 1 f1A f1.length f1C f1]) hS22 [0, 1] (by decide) rfl)⟩
  ·
   rintro a68 w69 ⟨hO72, hi73, hE70, hS71⟩; clear hE17 hS6
   refine p_tn ?_
   refine c_seq ?_
   refine c_reg ?_
   refine q_step (v := .bool true) hE70 (y_assign rfl) rfl rfl rfl ?_; intro a74 hE75; clear hE70
   refine c_nil ?_
   have hE76 := hE75.sub (L' := [(4, .bool true)]) ⟨rfl, trivial⟩; clear hE75
   refine p_tn ?_
   refine wp_ret ?_
   have hF : F_Frame_everyWorld f0 f1 holds = true := by unfold F_Frame_everyWorld; rw [hO72]; first | done | rfl
   refine c_ret1 hE76 rfl rfl ?_
   exact ⟨(by rw [hF]; first | done | (dsimp only; done) | rfl), hS71.ext⟩
def F_isMorphism (f0 : Int) (f1 : List Int) (g0 : Int) (g1 : List Int) (images : List Int) : Bool :=
  F_Frame_everyWorld f0 f1 (fun x0 => F_isMorphism_k1 x0 images f0 f1 g0 g1)
theorem cf_isMorphism (args : Array Value) (w : World) : (callFunc 116 args).run Try.prog w = .ok (.enter 116 args) w := by kernel_rfl
set_option maxRecDepth 100000 in
theorem c_isMorphism (f0 : Int) (f1A : Option Addr) (f1N f1C : Nat) (f1 : List Int) (g0 : Int) (g1A : Option Addr) (g1N g1C : Nat) (g1 : List Int) (imagesA : Option Addr) (imagesN imagesC : Nat) (images : List Int) (w : World) (f1R : RdS w 1 f1A f1N f1C f1) (g1R : RdS w 1 g1A g1N g1C g1) (imagesR : RdS w 1 imagesA imagesN imagesC images) (hf0 : 0 ≤ f0) (hf : f0 ≤ 8) (hfl : (f1.length : Int) = f0) (hg : 0 ≤ g0 ∧ g0 ≤ 8) (hgl : (g1.length : Int) = g0) (hil : (images.length : Int) = f0) (him : ∀ m : Int, 0 ≤ m → m < (images.length : Int) → 0 ≤ gI images m ∧ gI images m < g0) (hfm : ∀ m : Int, 0 ≤ m → m < (f1.length : Int) → 0 ≤ gI f1 m ∧ gI f1 m ≤ fullI f0) :
    Calls Try.prog 116 #[.agg #[.int .i64 f0, .slice f1A f1N f1C], .agg #[.int .i64 g0, .slice g1A g1N g1C], .slice imagesA imagesN imagesC] w (Ret fun v w' => v = .bool (F_isMorphism f0 f1 g0 g1 images) ∧ Ext w w') := by
  obtain rfl : f1N = f1.length := f1R.len1.symm
  have f1Le := f1R.le
  obtain rfl : g1N = g1.length := g1R.len1.symm
  have g1Le := g1R.le
  obtain rfl : imagesN = images.length := imagesR.len1.symm
  have imagesLe := imagesR.le
  have hS := St.nil w
  have hS1 := St.rd0 hS rfl f1R; clear hS
  have hS2 := St.rd0 hS1 rfl g1R; clear hS1
  have hS3 := St.rd0 hS2 rfl imagesR; clear hS2
  refine enter (args := [.agg #[.int .i64 f0, .slice f1A f1.length f1C], .agg #[.int .i64 g0, .slice g1A g1.length g1C], .slice imagesA images.length imagesC]) Try.func116 rfl rfl ?_
  rw [Try.ntmps116]; intro a hE
  have hE := hE.sub (L' := [(0, .agg #[.int .i64 f0, .slice f1A f1.length f1C]), (1, .agg #[.int .i64 g0, .slice g1A g1.length g1C]), (2, .slice imagesA images.length imagesC)]) ⟨rfl, rfl, rfl, trivial⟩
  refine c_seq ?_
  refine c_reg ?_
  refine l_step hE rfl (l_box (v := .agg #[.int .i64 f0, .slice f1A f1.length f1C]) (cs := #[.int .i64 f0, .slice f1A f1.length f1C]) hS3 hE rfl rfl rfl ?_)
  intro b4 w5 hS8 he9 a6 hE7; clear hS3 hE
  refine l_step hE7 rfl (l_box (v := .agg #[.int .i64 g0, .slice g1A g1.length g1C]) (cs := #[.int .i64 g0, .slice g1A g1.length g1C]) hS8 hE7 rfl rfl rfl ?_)
  intro b10 w11 hS14 he15 a12 hE13; clear hS8 hE7
  refine l_step hE13 rfl (l_box (v := .slice imagesA images.length imagesC) (cs := #[.slice imagesA images.length imagesC]) hS14 hE13 rfl rfl rfl ?_)
  intro b16 w17 hS20 he21 a18 hE19; clear hS14 hE13
  refine q_step (v := .bool false) hE19 (y_assign rfl) rfl rfl rfl ?_; intro a22 hE23; clear hE19
  refine c_nil ?_
  have hE24 := hE23.sub (L' := [(3, .pointer (some ⟨b4, 0, none⟩)), (4, .pointer (some ⟨b10, 0, none⟩)), (5, .pointer (some ⟨b16, 0, none⟩))]) ⟨rfl, rfl, rfl, trivial⟩; clear hE23
  refine p_tn ?_
  refine c_seq ?_
  refine c_reg ?_
  refine q_step (v := .agg #[.int .i64 f0, .slice f1A f1.length f1C]) hE24 (y_loadS Try.underlying30 rfl (by kernel_rfl) rfl (St.row (i := 2) hS20 rfl)) rfl rfl rfl ?_; intro a25 hE26; clear hE24
  refine q_step (v := .func (.func 199) #[] #[.pointer (some ⟨b16, 0, none⟩), .pointer (some ⟨b4, 0, none⟩), .pointer (some ⟨b10, 0, none⟩)]) hE26 (y_makeFunc (vs := [.pointer (some ⟨b16, 0, none⟩), .pointer (some ⟨b4, 0, none⟩), .pointer (some ⟨b10, 0, none⟩)]) rfl) rfl rfl rfl ?_; intro a27 hE28; clear hE26
  refine l_step hE28 rfl (l_call (f := 198) (argv := [.agg #[.int .i64 f0, .slice f1A f1.length f1C], .func (.func 199) #[] #[.pointer (some ⟨b16, 0, none⟩), .pointer (some ⟨b4, 0, none⟩), .pointer (some ⟨b10, 0, none⟩)]]) hE28 (fun _ => cf_Frame_everyWorld _ _) rfl rfl (c_Frame_everyWorld f0 f1A f1.length f1C f1 199 [.pointer (some ⟨b16, 0, none⟩), .pointer (some ⟨b4, 0, none⟩), .pointer (some ⟨b10, 0, none⟩)] (fun x0 => F_isMorphism_k1 x0 images f0 f1 g0 g1) (fun x => 0 ≤ x ∧ x < f0) w17 (St.rdR (i := 5) hS20 rfl) (fun _ _ => cf_isMorphism_k1 _ _) (fun x0 w' hx he => c_isMorphism_k1 x0 b16 imagesA images.length imagesC images b4 f0 f1A f1.length f1C f1 b10 g0 g1A g1.length g1C g1 w' (RdS.ext (St.rdR (i := 3) hS20 rfl) he) (St.row (i := 0) hS20 rfl w' he) (RdS.ext (St.rdR (i := 5) hS20 rfl) he) (St.row (i := 2) hS20 rfl w' he) (RdS.ext (St.rdR (i := 4) hS20 rfl) he) (St.row (i := 1) hS20 rfl w' he) hx (by omega) (by omega) (by omega) (by omega) (by omega) him hfm) (by omega) (by omega) (fun m h0 h1 => ⟨h0, h1⟩)) ?_)
  rintro _ w30 ⟨rfl, he34⟩ a31 hE32; clear hE28
  have hS33 := St.go hS20 he34; clear hS20
  refine q_step (v := .bool (F_Frame_everyWorld f0 f1 (fun x0 => F_isMorphism_k1 x0 images f0 f1 g0 g1))) hE32 (y_assign rfl) rfl rfl rfl ?_; intro a35 hE36; clear hE32
  refine c_nil ?_
  have hE37 := hE36.sub (L' := [(6, .bool (F_Frame_everyWorld f0 f1 (fun x0 => F_isMorphism_k1 x0 images f0 f1 g0 g1)))]) ⟨rfl, trivial⟩; clear hE36
  refine p_tn ?_
  refine wp_ret ?_
  have hF : F_isMorphism f0 f1 g0 g1 images = F_Frame_everyWorld f0 f1 (fun x0 => F_isMorphism_k1 x0 images f0 f1 g0 g1) := by unfold F_isMorphism; rfl
  refine c_ret1 hE37 rfl rfl ?_
  exact ⟨(by rw [hF]; first | done | (dsimp only; done) | rfl), hS33.ext⟩
theorem mapMask_eq {images : List Int} {mask : Int} (hl : images.length ≤ 8) (h0 : 0 ≤ mask) (h1 : mask ≤ fullI (images.length : Int)) (hx : ∀ m : Int, 0 ≤ m → m < (images.length : Int) → 0 ≤ gI images m ∧ gI images m ≤ 7) : F_mapMask images mask = F_l08Image images mask := by
  unfold F_mapMask F_l08Image
  rw [listLoop (F_membersOf mask) (fun o m => orI o (shlI 1 (gI images m))) (F_mapMask_L1 images mask) (fun _ _ _ => rfl), members_fold (n := images.length) (by omega) h0 h1,
    rangeLoop0 (images.length : Int) (by omega) (fun o j => bif F_l01Bit mask j then orI o (powI (gI images j)) else o) (F_l08Image_L1 images mask) (fun _ _ _ => rfl), Int.toNat_natCast]
  apply foldl_ext'
  intro j hj o
  have hj := List.mem_range.1 hj
  have := hx (j : Int) (by omega) (by omega)
  rw [pow_shl this.1 (by omega)]; rfl
end Go.Proofs.Ytlbonhloeefnmaa
