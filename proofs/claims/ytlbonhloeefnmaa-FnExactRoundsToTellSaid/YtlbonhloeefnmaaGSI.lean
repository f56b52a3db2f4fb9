/- GSI: models and contracts, printed by wip/gen/gen.py -/
import Derived.Test.YtlbonhloeefnmaaGS
set_option linter.unusedVariables false
set_option linter.unusedSimpArgs false
namespace Go.Proofs.Ytlbonhloeefnmaa
open Go.RowKit


def F_forth_L1b (mp1 : List Int) (np1 : List Int) (linkp : List Int) (xp : Int) (yp : Int) (rec : Int → Except (Bool) (Int)) (t21 : Int) : Except (Bool) (Int) :=
  bif (decide (t21 < ((F_membersOf (gI mp1 xp)).length : Int))) then (bif (decide ((andI (gI linkp (gI (F_membersOf (gI mp1 xp)) t21)) (gI np1 yp)) = 0)) then (.error false) else (rec (t21 + 1))) else (.ok t21)
def F_forth_L1 (mp1 : List Int) (np1 : List Int) (linkp : List Int) (xp : Int) (yp : Int) : Nat → Int → Except (Bool) (Int)
  | 0, t21 => .ok t21
  | r + 1, t21 => F_forth_L1b mp1 np1 linkp xp yp (F_forth_L1 mp1 np1 linkp xp yp r) t21
def F_forth (mp0 : Int) (mp1 : List Int) (mp2 : List Int) (np0 : Int) (np1 : List Int) (np2 : List Int) (linkp : List Int) (xp : Int) (yp : Int) : Bool :=
  bif (isOk (F_forth_L1 mp1 np1 linkp xp yp (Int.toNat (((F_membersOf (gI mp1 xp)).length : Int) - 0) + 1) 0)) then true else (errD (F_forth_L1 mp1 np1 linkp xp yp (Int.toNat (((F_membersOf (gI mp1 xp)).length : Int) - 0) + 1) 0))
theorem cf_forth (args : Array Value) (w : World) : (callFunc 156 args).run Try.prog w = .ok (.enter 156 args) w := by kernel_rfl
set_option maxRecDepth 100000 in
theorem c_forth (mp0 : Int) (mp1A : Option Addr) (mp1N mp1C : Nat) (mp1 : List Int) (mp2A : Option Addr) (mp2N mp2C : Nat) (mp2 : List Int) (np0 : Int) (np1A : Option Addr) (np1N np1C : Nat) (np1 : List Int) (np2A : Option Addr) (np2N np2C : Nat) (np2 : List Int) (linkpA : Option Addr) (linkpN linkpC : Nat) (linkp : List Int) (xp : Int) (yp : Int) (w : World) (mp1R : RdS w 1 mp1A mp1N mp1C mp1) (mp2R : RdS w 1 mp2A mp2N mp2C mp2) (np1R : RdS w 1 np1A np1N np1C np1) (np2R : RdS w 1 np2A np2N np2C np2) (linkpR : RdS w 1 linkpA linkpN linkpC linkp) (hx : 0 ≤ xp ∧ xp < mp0) (hy : 0 ≤ yp ∧ yp < np0) (hwm : 0 ≤ mp0 ∧ mp0 ≤ 8) (hwn : 0 ≤ np0 ∧ np0 ≤ 8) (hlm : (mp1.length : Int) = mp0) (hln : (np1.length : Int) = np0) (hll : (linkp.length : Int) = mp0) (hfm : ∀ m : Int, 0 ≤ m → m < (mp1.length : Int) → 0 ≤ gI mp1 m ∧ gI mp1 m ≤ fullI mp0) :
    Calls Try.prog 156 #[.agg #[.int .i64 mp0, .slice mp1A mp1N mp1C, .slice mp2A mp2N mp2C], .agg #[.int .i64 np0, .slice np1A np1N np1C, .slice np2A np2N np2C], .slice linkpA linkpN linkpC, .int .i64 xp, .int .i64 yp] w (Ret fun v w' => v = .bool (F_forth mp0 mp1 mp2 np0 np1 np2 linkp xp yp) ∧ Ext w w') := by
  obtain rfl : mp1N = mp1.length := mp1R.len1.symm
  have mp1Le := mp1R.le
  obtain rfl : mp2N = mp2.length := mp2R.len1.symm
  have mp2Le := mp2R.le
  obtain rfl : np1N = np1.length := np1R.len1.symm
  have np1Le := np1R.le
  obtain rfl : np2N = np2.length := np2R.len1.symm
  have np2Le := np2R.le
  obtain rfl : linkpN = linkp.length := linkpR.len1.symm
  have linkpLe := linkpR.le
  have hm1 := hfm xp (by omega) (by omega)
  have hf8 := fullI_bd (n := mp0) (by omega) (by omega)
  have hml := members_len (mask := gI mp1 xp) (n := linkp.length) (by omega) (by omega) (by rw [hll]; omega)
  have hS := St.nil w
  have hS1 := St.rd0 hS rfl mp1R; clear hS
  have hS2 := St.rd0 hS1 rfl mp2R; clear hS1
  have hS3 := St.rd0 hS2 rfl np1R; clear hS2
  have hS4 := St.rd0 hS3 rfl np2R; clear hS3
  have hS5 := St.rd0 hS4 rfl linkpR; clear hS4
  refine enter (args := [.agg #[.int .i64 mp0, .slice mp1A mp1.length mp1C, .slice mp2A mp2.length mp2C], .agg #[.int .i64 np0, .slice np1A np1.length np1C, .slice np2A np2.length np2C], .slice linkpA linkp.length linkpC, .int .i64 xp, .int .i64 yp]) Try.func156 rfl rfl ?_
  rw [Try.ntmps156]; intro a hE
  have hE := hE.sub (L' := [(0, .agg #[.int .i64 mp0, .slice mp1A mp1.length mp1C, .slice mp2A mp2.length mp2C]), (1, .agg #[.int .i64 np0, .slice np1A np1.length np1C, .slice np2A np2.length np2C]), (2, .slice linkpA linkp.length linkpC), (3, .int .i64 xp), (4, .int .i64 yp)]) ⟨rfl, rfl, rfl, rfl, rfl, trivial⟩
  refine c_seq ?_
  refine c_reg ?_
  refine l_step hE rfl (l_box (v := .agg #[.int .i64 mp0, .slice mp1A mp1.length mp1C, .slice mp2A mp2.length mp2C]) (cs := #[.int .i64 mp0, .slice mp1A mp1.length mp1C, .slice mp2A mp2.length mp2C]) hS5 hE rfl rfl rfl ?_)
  intro b6 w7 hS10 he11 a8 hE9; clear hS5 hE
  refine l_step hE9 rfl (l_box (v := .agg #[.int .i64 np0, .slice np1A np1.length np1C, .slice np2A np2.length np2C]) (cs := #[.int .i64 np0, .slice np1A np1.length np1C, .slice np2A np2.length np2C]) hS10 hE9 rfl rfl rfl ?_)
  intro b12 w13 hS16 he17 a14 hE15; clear hS10 hE9
  refine q_step (v := .bool false) hE15 (y_assign rfl) rfl rfl rfl ?_; intro a18 hE19; clear hE15
  refine c_nil ?_
  have hE20 := hE19.sub (L' := [(2, .slice linkpA linkp.length linkpC), (3, .int .i64 xp), (4, .int .i64 yp), (5, .pointer (some ⟨b6, 0, none⟩)), (6, .pointer (some ⟨b12, 0, none⟩))]) ⟨rfl, rfl, rfl, rfl, rfl, trivial⟩; clear hE19
  refine p_tn ?_
  refine c_seq ?_
  refine c_seq ?_
  refine c_reg ?_
  refine q_step (v := .pointer (some ⟨b6, 0, none⟩)) hE20 (y_field rfl (fun _ => by kernel_rfl)) rfl rfl rfl ?_; intro a21 hE22; clear hE20
  refine q_step (v := .pointer (some ⟨b6, 1, none⟩)) hE22 (y_field rfl (fun _ => by kernel_rfl)) rfl rfl rfl ?_; intro a23 hE24; clear hE22
  refine q_step (v := .slice mp1A mp1.length mp1C) hE24 (y_load (fun _ => by kernel_rfl) rfl (St.cell (i := 1) hS16 rfl rfl)) rfl rfl rfl ?_; intro a25 hE26; clear hE24
  refine q_step (v := .int .i64 xp) hE26 (y_move rfl) rfl rfl rfl ?_; intro a27 hE28; clear hE26
  refine q_step (v := .pointer (some (adr mp1A (Int.toNat xp)))) hE28 (y_idx (by kernel_rfl) (fun _ => by kernel_rfl) rfl rfl (RdS.isS (m := xp) (St.rdR (i := 6) hS16 rfl) (by omega) (by omega)) (by omega) (by omega) (Nat.mul_one _).symm) rfl rfl rfl ?_; intro a29 hE30; clear hE28
  refine q_step (v := .int .i64 (gI mp1 xp)) hE30 (y_load (fun _ => by kernel_rfl) rfl (RdS.elt (St.rdR (i := 6) hS16 rfl) (by omega) (by omega))) rfl rfl rfl ?_; intro a31 hE32; clear hE30
  refine l_step hE32 rfl (l_call (f := 170) (argv := [.int .i64 (gI mp1 xp)]) hE32 (fun _ => cf_membersOf _ _) rfl rfl (c_membersOf (gI mp1 xp) w13 (by omega) (by omega)) ?_)
  rintro _ w34 ⟨b39, c40, rfl, ho41, he38⟩ a35 hE36; clear hE32
  have hS37 := St.own hS16 he38 ho41; clear hS16
  refine q_step (v := .int .i64 ((F_membersOf (gI mp1 xp)).length : Int)) hE36 (y_len (e := 2) (by kernel_rfl) rfl) rfl rfl rfl ?_; intro a42 hE43; clear hE36
  refine q_step (v := .int .i64 0) hE43 (y_move rfl) rfl rfl rfl ?_; intro a44 hE45; clear hE43
  refine c_nil ?_
  have hE46 := hE45.sub (L' := [(2, .slice linkpA linkp.length linkpC), (4, .int .i64 yp), (6, .pointer (some ⟨b12, 0, none⟩)), (19, .slice b39 ((F_membersOf (gI mp1 xp)).length) c40), (20, .int .i64 ((F_membersOf (gI mp1 xp)).length : Int)), (21, .int .i64 0)]) ⟨rfl, rfl, rfl, rfl, rfl, rfl, trivial⟩; clear hE45
  refine p_tn ?_
  refine c_cut1 (fun a' w' => isOk (F_forth_L1 mp1 np1 linkp xp yp (Int.toNat (((F_membersOf (gI mp1 xp)).length : Int) - 0) + 1) 0) = true ∧ (0 ≤ (okD (F_forth_L1 mp1 np1 linkp xp yp (Int.toNat (((F_membersOf (gI mp1 xp)).length : Int) - 0) + 1) 0))) ∧ ((okD (F_forth_L1 mp1 np1 linkp xp yp (Int.toNat (((F_membersOf (gI mp1 xp)).length : Int) - 0) + 1) 0)) ≤ ((F_membersOf (gI mp1 xp)).length : Int)) ∧ E a' 38 [(2, .slice linkpA linkp.length linkpC), (4, .int .i64 yp), (6, .pointer (some ⟨b12, 0, none⟩)), (19, .slice b39 ((F_membersOf (gI mp1 xp)).length) c40), (20, .int .i64 ((F_membersOf (gI mp1 xp)).length : Int)), (21, .int .i64 (okD (F_forth_L1 mp1 np1 linkp xp yp (Int.toNat (((F_membersOf (gI mp1 xp)).length : Int) - 0) + 1) 0)))] ∧ St w w' [.own 2 1 b39 ((F_membersOf (gI mp1 xp)).length) c40 (F_membersOf (gI mp1 xp)), .blk b12 #[.int .i64 np0, .slice np1A np1.length np1C, .slice np2A np2.length np2C] 32, .blk b6 #[.int .i64 mp0, .slice mp1A mp1.length mp1C, .slice mp2A mp2.length mp2C] 32, .rd 1 linkpA linkp.length linkpC linkp, .rd 1 np2A np2.length np2C np2, .rd 1 np1A np1.length np1C np1, .rd 1 mp2A mp2.length mp2C mp2, .rd 1 mp1A mp1.length mp1C mp1]) ?_ ?_
  ·
    refine wp_block ?_
    refine c_loop (fun r a' w' => ∃ t21 : Int, F_forth_L1 mp1 np1 linkp xp yp r t21 = F_forth_L1 mp1 np1 linkp xp yp (Int.toNat (((F_membersOf (gI mp1 xp)).length : Int) - 0) + 1) 0 ∧ Int.toNat (((F_membersOf (gI mp1 xp)).length : Int) - t21) < r ∧ (0 ≤ t21) ∧ (t21 ≤ ((F_membersOf (gI mp1 xp)).length : Int)) ∧ E a' 38 [(2, .slice linkpA linkp.length linkpC), (4, .int .i64 yp), (6, .pointer (some ⟨b12, 0, none⟩)), (19, .slice b39 ((F_membersOf (gI mp1 xp)).length) c40), (20, .int .i64 ((F_membersOf (gI mp1 xp)).length : Int)), (21, .int .i64 t21)] ∧ St w w' [.own 2 1 b39 ((F_membersOf (gI mp1 xp)).length) c40 (F_membersOf (gI mp1 xp)), .blk b12 #[.int .i64 np0, .slice np1A np1.length np1C, .slice np2A np2.length np2C] 32, .blk b6 #[.int .i64 mp0, .slice mp1A mp1.length mp1C, .slice mp2A mp2.length mp2C] 32, .rd 1 linkpA linkp.length linkpC linkp, .rd 1 np2A np2.length np2C np2, .rd 1 np1A np1.length np1C np1, .rd 1 mp2A mp2.length mp2C mp2, .rd 1 mp1A mp1.length mp1C mp1]) (r := (Int.toNat (((F_membersOf (gI mp1 xp)).length : Int) - 0) + 1)) ?_ ?_
    · exact ⟨0, rfl, Nat.lt_succ_self _, (by first | omega | (simp only [sS_len, sL_len]; omega) | (simp only [List.length_replicate, sI_len]; omega) | (simp only [List.length_append, List.length_cons, List.length_nil, sI_len, cond_true, cond_false]; omega) | (simp only [List.length_append, List.length_cons, List.length_nil, sI_len, cond_eq_ite, apply_ite List.length]; split <;> simp only [List.length_append, List.length_cons, List.length_nil, sI_len] <;> omega) | grind), (by first | omega | (simp only [sS_len, sL_len]; omega) | (simp only [List.length_replicate, sI_len]; omega) | (simp only [List.length_append, List.length_cons, List.length_nil, sI_len, cond_true, cond_false]; omega) | (simp only [List.length_append, List.length_cons, List.length_nil, sI_len, cond_eq_ite, apply_ite List.length]; split <;> simp only [List.length_append, List.length_cons, List.length_nil, sI_len] <;> omega) | grind), (hE46.sub (L' := [(2, .slice linkpA linkp.length linkpC), (4, .int .i64 yp), (6, .pointer (some ⟨b12, 0, none⟩)), (19, .slice b39 ((F_membersOf (gI mp1 xp)).length) c40), (20, .int .i64 ((F_membersOf (gI mp1 xp)).length : Int)), (21, .int .i64 0)]) ⟨rfl, rfl, rfl, rfl, rfl, rfl, trivial⟩), (St.pick (Γ' := [.own 2 1 b39 ((F_membersOf (gI mp1 xp)).length) c40 (F_membersOf (gI mp1 xp)), .blk b12 #[.int .i64 np0, .slice np1A np1.length np1C, .slice np2A np2.length np2C] 32, .blk b6 #[.int .i64 mp0, .slice mp1A mp1.length mp1C, .slice mp2A mp2.length mp2C] 32, .rd 1 linkpA linkp.length linkpC linkp, .rd 1 np2A np2.length np2C np2, .rd 1 np1A np1.length np1C np1, .rd 1 mp2A mp2.length mp2C mp2, .rd 1 mp1A mp1.length mp1C mp1]) hS37 [0, 1, 2, 3, 4, 5, 6, 7] (by decide) rfl)⟩
    ·
      clear hE46 hS37
      rintro r56 a48 w49 ⟨t21, hT52, hr53, hi54, hi55, hE50, hS51⟩
      obtain ⟨r56, rfl⟩ : ∃ r', r56 = r' + 1 := ⟨r56 - 1, by omega⟩
      refine c_seq ?_
      refine c_reg ?_
      refine q_step (v := .bool (decide (t21 < ((F_membersOf (gI mp1 xp)).length : Int)))) hE50 (y_lss rfl rfl) rfl rfl rfl ?_; intro a57 hE58; clear hE50
      refine c_nil ?_
      have hE59 := hE58.sub (L' := [(2, .slice linkpA linkp.length linkpC), (4, .int .i64 yp), (6, .pointer (some ⟨b12, 0, none⟩)), (19, .slice b39 ((F_membersOf (gI mp1 xp)).length) c40), (20, .int .i64 ((F_membersOf (gI mp1 xp)).length : Int)), (21, .int .i64 t21), (22, .bool (decide (t21 < ((F_membersOf (gI mp1 xp)).length : Int))))]) ⟨rfl, rfl, rfl, rfl, rfl, rfl, rfl, trivial⟩; clear hE58
      refine p_tn ?_
      refine c_seq ?_
      refine c_cond hE59 rfl (fun ht60 => ?_) (fun ht60 => ?_)
      ·
        have hp61 := of_decide_eq_true ht60
        have hE62 := hE59; rw [ht60] at hE62; clear hE59
        have hm2 := members_lt (mask := gI mp1 xp) (n := linkp.length) (by omega) hm1.1 (by rw [hll]; omega) t21 (by omega) (by omega)
        refine wp_skip ?_
        refine p_tn ?_
        refine c_seq ?_
        refine wp_block ?_
        refine c_seq ?_
        refine c_reg ?_
        refine q_step (v := .pointer (some (adr b39 (Int.toNat t21)))) hE62 (y_idx (by kernel_rfl) (fun _ => by kernel_rfl) rfl rfl (RdS.isS (m := t21) (St.rdO (i := 0) hS51 rfl) (by omega) (by omega)) (by omega) (by omega) (Nat.mul_one _).symm) rfl rfl rfl ?_; intro a63 hE64; clear hE62
        refine q_step (v := .int .i64 (gI (F_membersOf (gI mp1 xp)) t21)) hE64 (y_load (fun _ => by kernel_rfl) rfl (RdS.elt (St.rdO (i := 0) hS51 rfl) (by omega) (by omega))) rfl rfl rfl ?_; intro a65 hE66; clear hE64
        refine q_step (v := .int .i64 (gI (F_membersOf (gI mp1 xp)) t21)) hE66 (y_assign rfl) rfl rfl rfl ?_; intro a67 hE68; clear hE66
        refine c_nil ?_
        have hE69 := hE68.sub (L' := [(2, .slice linkpA linkp.length linkpC), (4, .int .i64 yp), (6, .pointer (some ⟨b12, 0, none⟩)), (12, .int .i64 (gI (F_membersOf (gI mp1 xp)) t21)), (19, .slice b39 ((F_membersOf (gI mp1 xp)).length) c40), (20, .int .i64 ((F_membersOf (gI mp1 xp)).length : Int)), (21, .int .i64 t21)]) ⟨rfl, rfl, rfl, rfl, rfl, rfl, rfl, trivial⟩; clear hE68
        refine p_tn ?_
        refine c_seq ?_
        refine d_start (fun w w' => (fun w' => w'.cell? (adr linkpA (Int.toNat (gI (F_membersOf (gI mp1 xp)) t21))) = some (.int .i64 (gI linkp (gI (F_membersOf (gI mp1 xp)) t21))) ∧ w'.cell? ⟨b12, 1, none⟩ = some (.slice np1A np1.length np1C) ∧ w'.cell? (adr np1A (Int.toNat yp)) = some (.int .i64 (gI np1 yp)) ∧ True) w → (fun w' => w'.cell? (adr linkpA (Int.toNat (gI (F_membersOf (gI mp1 xp)) t21))) = some (.int .i64 (gI linkp (gI (F_membersOf (gI mp1 xp)) t21))) ∧ w'.cell? ⟨b12, 1, none⟩ = some (.slice np1A np1.length np1C) ∧ w'.cell? (adr np1A (Int.toNat yp)) = some (.int .i64 (gI np1 yp)) ∧ True) w') [3, 6, 9] 12 (by kernel_rfl) rfl ?_
        intro w70 he71; have hS72 := St.go hS51 he71; clear hS51
        refine d_pure (fun _ h => h) (v := .slice linkpA linkp.length linkpC) 0 rfl hE69 (y_move rfl) rfl (by kernel_rfl) (by kernel_rfl) (by kernel_rfl) rfl rfl (fun _ _ _ h => h) ?_; intro a73 hE74; clear hE69
        refine d_pure (fun _ h => h) (v := .int .i64 (gI (F_membersOf (gI mp1 xp)) t21)) 1 rfl hE74 (y_move rfl) rfl (by kernel_rfl) (by kernel_rfl) (by kernel_rfl) rfl rfl (fun _ _ _ h => h) ?_; intro a75 hE76; clear hE74
        refine d_pure (fun _ h => h) (v := .pointer (some (adr linkpA (Int.toNat (gI (F_membersOf (gI mp1 xp)) t21))))) 2 rfl hE76 (y_idx (by kernel_rfl) (fun _ => by kernel_rfl) rfl rfl (RdS.isS (m := gI (F_membersOf (gI mp1 xp)) t21) (St.rdR (i := 3) hS72 rfl) (by omega) (by omega)) (by omega) (by omega) (Nat.mul_one _).symm) rfl (by kernel_rfl) (by kernel_rfl) (by kernel_rfl) rfl rfl (fun _ _ _ h => h) ?_; intro a77 hE78; clear hE76
        refine d_take (fun _ h => h) (fun _ _ h k => h k) (v := .int .i64 (gI linkp (gI (F_membersOf (gI mp1 xp)) t21))) 3 rfl hE78 (S := fun w' => w'.cell? (adr linkpA (Int.toNat (gI (F_membersOf (gI mp1 xp)) t21))) = some (.int .i64 (gI linkp (gI (F_membersOf (gI mp1 xp)) t21))) ∧ w'.cell? ⟨b12, 1, none⟩ = some (.slice np1A np1.length np1C) ∧ w'.cell? (adr np1A (Int.toNat yp)) = some (.int .i64 (gI np1 yp)) ∧ True) ⟨(RdS.elt (St.rdR (i := 3) hS72 rfl) (by omega) (by omega) _ (Ext.refl _)), (St.cell (i := 1) hS72 rfl rfl _ (Ext.refl _)), (RdS.elt (St.rdR (i := 5) hS72 rfl) (by omega) (by omega) _ (Ext.refl _)), trivial⟩ (y_load (fun _ => by kernel_rfl) rfl (fun _ h => h.1)) rfl rfl (by kernel_rfl) (by kernel_rfl) (by kernel_rfl) (by kernel_rfl) rfl rfl (fun _ _ _ h => h) ?_; intro a79 hE80; clear hE78
        refine d_pure (fun _ h => h) (v := .pointer (some ⟨b12, 0, none⟩)) 4 rfl hE80 (y_field rfl (fun _ => by kernel_rfl)) rfl (by kernel_rfl) (by kernel_rfl) (by kernel_rfl) rfl rfl (fun _ _ _ h => h) ?_; intro a81 hE82; clear hE80
        refine d_pure (fun _ h => h) (v := .pointer (some ⟨b12, 1, none⟩)) 5 rfl hE82 (y_field rfl (fun _ => by kernel_rfl)) rfl (by kernel_rfl) (by kernel_rfl) (by kernel_rfl) rfl rfl (fun _ _ _ h => h) ?_; intro a83 hE84; clear hE82
        refine d_take (fun _ h => h) (fun _ _ h k => h k) (v := .slice np1A np1.length np1C) 6 rfl hE84 (S := fun w' => w'.cell? (adr linkpA (Int.toNat (gI (F_membersOf (gI mp1 xp)) t21))) = some (.int .i64 (gI linkp (gI (F_membersOf (gI mp1 xp)) t21))) ∧ w'.cell? ⟨b12, 1, none⟩ = some (.slice np1A np1.length np1C) ∧ w'.cell? (adr np1A (Int.toNat yp)) = some (.int .i64 (gI np1 yp)) ∧ True) ⟨(RdS.elt (St.rdR (i := 3) hS72 rfl) (by omega) (by omega) _ (Ext.refl _)), (St.cell (i := 1) hS72 rfl rfl _ (Ext.refl _)), (RdS.elt (St.rdR (i := 5) hS72 rfl) (by omega) (by omega) _ (Ext.refl _)), trivial⟩ (y_load (fun _ => by kernel_rfl) rfl (fun _ h => h.2.1)) rfl rfl (by kernel_rfl) (by kernel_rfl) (by kernel_rfl) (by kernel_rfl) rfl rfl (fun _ _ _ h => h) ?_; intro a85 hE86; clear hE84
        refine d_pure (fun _ h => h) (v := .int .i64 yp) 7 rfl hE86 (y_move rfl) rfl (by kernel_rfl) (by kernel_rfl) (by kernel_rfl) rfl rfl (fun _ _ _ h => h) ?_; intro a87 hE88; clear hE86
        refine d_pure (fun _ h => h) (v := .pointer (some (adr np1A (Int.toNat yp)))) 8 rfl hE88 (y_idx (by kernel_rfl) (fun _ => by kernel_rfl) rfl rfl (RdS.isS (m := yp) (St.rdR (i := 5) hS72 rfl) (by omega) (by omega)) (by omega) (by omega) (Nat.mul_one _).symm) rfl (by kernel_rfl) (by kernel_rfl) (by kernel_rfl) rfl rfl (fun _ _ _ h => h) ?_; intro a89 hE90; clear hE88
        refine d_take (fun _ h => h) (fun _ _ h k => h k) (v := .int .i64 (gI np1 yp)) 9 rfl hE90 (S := fun w' => w'.cell? (adr linkpA (Int.toNat (gI (F_membersOf (gI mp1 xp)) t21))) = some (.int .i64 (gI linkp (gI (F_membersOf (gI mp1 xp)) t21))) ∧ w'.cell? ⟨b12, 1, none⟩ = some (.slice np1A np1.length np1C) ∧ w'.cell? (adr np1A (Int.toNat yp)) = some (.int .i64 (gI np1 yp)) ∧ True) ⟨(RdS.elt (St.rdR (i := 3) hS72 rfl) (by omega) (by omega) _ (Ext.refl _)), (St.cell (i := 1) hS72 rfl rfl _ (Ext.refl _)), (RdS.elt (St.rdR (i := 5) hS72 rfl) (by omega) (by omega) _ (Ext.refl _)), trivial⟩ (y_load (fun _ => by kernel_rfl) rfl (fun _ h => h.2.2.1)) rfl rfl (by kernel_rfl) (by kernel_rfl) (by kernel_rfl) (by kernel_rfl) rfl rfl (fun _ _ _ h => h) ?_; intro a91 hE92; clear hE90
        refine d_pure (fun _ h => h) (v := .int .i64 (andI (gI linkp (gI (F_membersOf (gI mp1 xp)) t21)) (gI np1 yp))) 10 rfl hE92 (y_and rfl rfl) rfl (by kernel_rfl) (by kernel_rfl) (by kernel_rfl) rfl rfl (fun _ _ _ h => h) ?_; intro a93 hE94; clear hE92
        refine d_pure (fun _ h => h) (v := .bool (decide ((andI (gI linkp (gI (F_membersOf (gI mp1 xp)) t21)) (gI np1 yp)) = 0))) 11 rfl hE94 (y_eql rfl rfl) rfl (by kernel_rfl) (by kernel_rfl) (by kernel_rfl) rfl rfl (fun _ _ _ h => h) ?_; intro a95 hE96; clear hE94
        refine d_done (by kernel_rfl) ?_
        have hE97 := hE96.sub (L' := [(2, .slice linkpA linkp.length linkpC), (4, .int .i64 yp), (6, .pointer (some ⟨b12, 0, none⟩)), (19, .slice b39 ((F_membersOf (gI mp1 xp)).length) c40), (20, .int .i64 ((F_membersOf (gI mp1 xp)).length : Int)), (21, .int .i64 t21), (36, .bool (decide ((andI (gI linkp (gI (F_membersOf (gI mp1 xp)) t21)) (gI np1 yp)) = 0)))]) ⟨rfl, rfl, rfl, rfl, rfl, rfl, rfl, trivial⟩; clear hE96
        refine p_tn ?_
        refine c_cond hE97 rfl (fun ht98 => ?_) (fun ht98 => ?_)
        ·
          have hp99 := of_decide_eq_true ht98
          have hE100 := hE97; rw [ht98] at hE100; clear hE97
          refine c_seq ?_
          refine c_reg ?_
          refine q_step (v := .bool false) hE100 (y_assign rfl) rfl rfl rfl ?_; intro a101 hE102; clear hE100
          refine c_nil ?_
          have hE103 := hE102.sub (L' := [(10, .bool false)]) ⟨rfl, trivial⟩; clear hE102
          refine p_tn ?_
          refine wp_ret ?_
          refine p_br ?_
          refine p_tr ?_
          have hX104 : F_forth_L1 mp1 np1 linkp xp yp (Int.toNat (((F_membersOf (gI mp1 xp)).length : Int) - 0) + 1) 0 = .error false := hT52.symm.trans (show F_forth_L1b mp1 np1 linkp xp yp (F_forth_L1 mp1 np1 linkp xp yp r56) t21 = .error false by unfold F_forth_L1b; rw [ht98, ht60]; first | done | rfl)
          refine p_tr (p_br (p_tr ?_))
          refine p_tr ?_
          have hF : F_forth mp0 mp1 mp2 np0 np1 np2 linkp xp yp = false := by unfold F_forth; rw [hX104]; first | done | rfl
          refine c_ret1 hE103 rfl rfl ?_
          exact ⟨(by rw [hF]; first | done | (dsimp only; done) | rfl), hS72.ext⟩
        ·
          have hp105 := of_decide_eq_false ht98
          have hE106 := hE97; rw [ht98] at hE106; clear hE97
          refine wp_skip ?_
          refine p_bn ?_
          refine p_tn ?_
          refine c_reg ?_
          refine q_step (v := .int .i64 (t21 + 1)) hE106 (y_add rfl rfl ⟨(by omega), (by omega)⟩) rfl rfl rfl ?_; intro a107 hE108; clear hE106
          refine q_step (v := .int .i64 (t21 + 1)) hE108 (y_move rfl) rfl rfl rfl ?_; intro a109 hE110; clear hE108
          refine c_nil ?_
          have hE111 := hE110.sub (L' := [(2, .slice linkpA linkp.length linkpC), (4, .int .i64 yp), (6, .pointer (some ⟨b12, 0, none⟩)), (19, .slice b39 ((F_membersOf (gI mp1 xp)).length) c40), (20, .int .i64 ((F_membersOf (gI mp1 xp)).length : Int)), (21, .int .i64 (t21 + 1))]) ⟨rfl, rfl, rfl, rfl, rfl, rfl, trivial⟩; clear hE110
          refine p_tn ⟨r56, Nat.lt_succ_self _, t21 + 1, (hT52.symm.trans (show F_forth_L1b mp1 np1 linkp xp yp (F_forth_L1 mp1 np1 linkp xp yp r56) t21 = F_forth_L1 mp1 np1 linkp xp yp r56 (t21 + 1) by unfold F_forth_L1b; rw [ht98, ht60]; first | done | rfl)).symm, (by omega), (by first | omega | (simp only [sS_len, sL_len]; omega) | (simp only [List.length_replicate, sI_len]; omega) | (simp only [List.length_append, List.length_cons, List.length_nil, sI_len, cond_true, cond_false]; omega) | (simp only [List.length_append, List.length_cons, List.length_nil, sI_len, cond_eq_ite, apply_ite List.length]; split <;> simp only [List.length_append, List.length_cons, List.length_nil, sI_len] <;> omega) | grind), (by first | omega | (simp only [sS_len, sL_len]; omega) | (simp only [List.length_replicate, sI_len]; omega) | (simp only [List.length_append, List.length_cons, List.length_nil, sI_len, cond_true, cond_false]; omega) | (simp only [List.length_append, List.length_cons, List.length_nil, sI_len, cond_eq_ite, apply_ite List.length]; split <;> simp only [List.length_append, List.length_cons, List.length_nil, sI_len] <;> omega) | grind), (hE111.sub (L' := [(2, .slice linkpA linkp.length linkpC), (4, .int .i64 yp), (6, .pointer (some ⟨b12, 0, none⟩)), (19, .slice b39 ((F_membersOf (gI mp1 xp)).length) c40), (20, .int .i64 ((F_membersOf (gI mp1 xp)).length : Int)), (21, .int .i64 (t21 + 1))]) ⟨rfl, rfl, rfl, rfl, rfl, rfl, trivial⟩), (St.pick (Γ' := [.own 2 1 b39 ((F_membersOf (gI mp1 xp)).length) c40 (F_membersOf (gI mp1 xp)), .blk b12 #[.int .i64 np0, .slice np1A np1.length np1C, .slice np2A np2.length np2C] 32, .blk b6 #[.int .i64 mp0, .slice mp1A mp1.length mp1C, .slice mp2A mp2.length mp2C] 32, .rd 1 linkpA linkp.length linkpC linkp, .rd 1 np2A np2.length np2C np2, .rd 1 np1A np1.length np1C np1, .rd 1 mp2A mp2.length mp2C mp2, .rd 1 mp1A mp1.length mp1C mp1]) hS72 [0, 1, 2, 3, 4, 5, 6, 7] (by decide) rfl)⟩
      ·
        have hp112 := of_decide_eq_false ht60
        have hE113 := hE59; rw [ht60] at hE113; clear hE59
        refine wp_exit ?_
        refine p_te ?_
        have hX114 : F_forth_L1 mp1 np1 linkp xp yp (Int.toNat (((F_membersOf (gI mp1 xp)).length : Int) - 0) + 1) 0 = .ok t21 := hT52.symm.trans (show F_forth_L1b mp1 np1 linkp xp yp (F_forth_L1 mp1 np1 linkp xp yp r56) t21 = .ok t21 by unfold F_forth_L1b; rw [ht60]; first | done | rfl)
        refine p_te (p_be (p_tn ?_))
        exact ⟨(by rw [hX114]; rfl), (by rw [hX114]; exact (show 0 ≤ t21 from (by first | omega | (simp only [sS_len, sL_len]; omega) | (simp only [List.length_replicate, sI_len]; omega) | (simp only [List.length_append, List.length_cons, List.length_nil, sI_len, cond_true, cond_false]; omega) | (simp only [List.length_append, List.length_cons, List.length_nil, sI_len, cond_eq_ite, apply_ite List.length]; split <;> simp only [List.length_append, List.length_cons, List.length_nil, sI_len] <;> omega) | grind))), (by rw [hX114]; exact (show t21 ≤ ((F_membersOf (gI mp1 xp)).length : Int) from (by first | omega | (simp only [sS_len, sL_len]; omega) | (simp only [List.length_replicate, sI_len]; omega) | (simp only [List.length_append, List.length_cons, List.length_nil, sI_len, cond_true, cond_false]; omega) | (simp only [List.length_append, List.length_cons, List.length_nil, sI_len, cond_eq_ite, apply_ite List.length]; split <;> simp only [List.length_append, List.length_cons, List.length_nil, sI_len] <;> omega) | grind))), (by rw [hX114]; exact (hE113.sub (L' := [(2, .slice linkpA linkp.length linkpC), (4, .int .i64 yp), (6, .pointer (some ⟨b12, 0, none⟩)), (19, .slice b39 ((F_membersOf (gI mp1 xp)).length) c40), (20, .int .i64 ((F_membersOf (gI mp1 xp)).length : Int)), (21, .int .i64 t21)]) ⟨rfl, rfl, rfl, rfl, rfl, rfl, trivial⟩)), (St.pick (Γ' := [.own 2 1 b39 ((F_membersOf (gI mp1 xp)).length) c40 (F_membersOf (gI mp1 xp)), .blk b12 #[.int .i64 np0, .slice np1A np1.length np1C, .slice np2A np2.length np2C] 32, .blk b6 #[.int .i64 mp0, .slice mp1A mp1.length mp1C, .slice mp2A mp2.length mp2C] 32, .rd 1 linkpA linkp.length linkpC linkp, .rd 1 np2A np2.length np2C np2, .rd 1 np1A np1.length np1C np1, .rd 1 mp2A mp2.length mp2C mp2, .rd 1 mp1A mp1.length mp1C mp1]) hS51 [0, 1, 2, 3, 4, 5, 6, 7] (by decide) rfl)⟩
  ·
    rintro a115 w116 ⟨hO119, hi120, hi121, hE117, hS118⟩; clear hE46 hS37
    refine p_tn ?_
    refine c_seq ?_
    refine c_reg ?_
    refine q_step (v := .bool true) hE117 (y_assign rfl) rfl rfl rfl ?_; intro a122 hE123; clear hE117
    refine c_nil ?_
    have hE124 := hE123.sub (L' := [(10, .bool true)]) ⟨rfl, trivial⟩; clear hE123
    refine p_tn ?_
    refine wp_ret ?_
    have hF : F_forth mp0 mp1 mp2 np0 np1 np2 linkp xp yp = true := by unfold F_forth; rw [hO119]; first | done | rfl
    refine c_ret1 hE124 rfl rfl ?_
    exact ⟨(by rw [hF]; first | done | (dsimp only; done) | rfl), hS118.ext⟩

theorem forth_eq (mp0 : Int) (mp1 mp2 : List Int) (np0 : Int) (np1 np2 : List Int) (linkp : List Int) (xp yp : Int) (hl : linkp.length ≤ 62) (h0 : 0 ≤ gI mp1 xp) (h1 : gI mp1 xp ≤ fullI (linkp.length : Int)) : F_forth mp0 mp1 mp2 np0 np1 np2 linkp xp yp = F_l07Forth linkp (gI mp1 xp) (gI np1 yp) := by
  rw [l07Forth_eq]
  unfold F_forth
  rw [allE (F_forth_L1 mp1 np1 linkp xp yp) false ((F_membersOf (gI mp1 xp)).length : Int) (fun i => decide (andI (gI linkp (gI (F_membersOf (gI mp1 xp)) i)) (gI np1 yp) = 0)) (by omega) (fun _ _ _ _ => rfl), isOk_bif, errD_bif, bif_tf, Int.toNat_natCast,
    all_gI (F_membersOf (gI mp1 xp)) (fun s => !decide (andI (gI linkp s) (gI np1 yp) = 0)), members_all hl h0 h1]
  congr 1; funext j; rw [Bool.not_and]

end Go.Proofs.Ytlbonhloeefnmaa
