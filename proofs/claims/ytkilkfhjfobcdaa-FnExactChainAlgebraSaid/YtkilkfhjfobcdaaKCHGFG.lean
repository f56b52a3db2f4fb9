/- GFG: models and contracts, printed by wip/gen/gen.py -/
import Derived.Test.YtkilkfhjfobcdaaKCHGCF
import Derived.Test.YtkilkfhjfobcdaaKCHGL
set_option linter.unusedVariables false
set_option linter.unusedSimpArgs false
namespace Go.Proofs.Ytkilkfhjfobcdaa
open Go.RowKit
def F_z_Equal_L1b (s1 : List Int) (s2 : List Int) (rec : Int → Except (Bool) (Int)) (t13 : Int) : Except (Bool) (Int) :=
  bif (decide (t13 < (s1.length : Int))) then (bif (!decide ((gI s1 t13) = (gI s2 t13))) then (.error false) else (rec (t13 + 1))) else (.ok t13)
def F_z_Equal_L1 (s1 : List Int) (s2 : List Int) : Nat → Int → Except (Bool) (Int)
  | 0, t13 => .ok t13
  | r + 1, t13 => F_z_Equal_L1b s1 s2 (F_z_Equal_L1 s1 s2 r) t13
def F_z_Equal (s1 : List Int) (s2 : List Int) : Bool :=
  bif (!decide ((s1.length : Int) = (s2.length : Int))) then false else (bif (isOk (F_z_Equal_L1 s1 s2 (Int.toNat ((s1.length : Int) - 0) + 1) 0)) then true else (errD (F_z_Equal_L1 s1 s2 (Int.toNat ((s1.length : Int) - 0) + 1) 0)))
theorem cf_z_Equal (args : Array Value) (w : World) : (callFunc 213 args).run Try.prog w = .ok (.enter 213 args) w := by kernel_rfl
set_option maxRecDepth 100000 in
theorem c_z_Equal (s1A : Option Addr) (s1N s1C : Nat) (s1 : List Int) (s2A : Option Addr) (s2N s2C : Nat) (s2 : List Int) (w : World) (s1R : RdS w 1 s1A s1N s1C s1) (s2R : RdS w 1 s2A s2N s2C s2) :
    Calls Try.prog 213 #[.slice s1A s1N s1C, .slice s2A s2N s2C] w (Ret fun v w' => v = .bool (F_z_Equal s1 s2) ∧ Ext w w') := by
  obtain rfl : s1N = s1.length := s1R.len1.symm
  have s1Le := s1R.le
  obtain rfl : s2N = s2.length := s2R.len1.symm
  have s2Le := s2R.le
  have hS := St.nil w
  have hS1 := St.rd0 hS rfl s1R; clear hS
  have hS2 := St.rd0 hS1 rfl s2R; clear hS1
  refine enter (args := [.slice s1A s1.length s1C, .slice s2A s2.length s2C]) Try.func213 rfl rfl ?_
  rw [Try.ntmps213]; intro a hE
  have hE := hE.sub (L' := [(0, .slice s1A s1.length s1C), (1, .slice s2A s2.length s2C)]) ⟨rfl, rfl, trivial⟩
  refine c_seq ?_
  refine c_reg ?_
  refine q_step (v := .bool false) hE (y_assign rfl) rfl rfl rfl ?_; intro a3 hE4; clear hE
  refine c_nil ?_
  have hE5 := hE4.sub (L' := [(0, .slice s1A s1.length s1C), (1, .slice s2A s2.length s2C)]) ⟨rfl, rfl, trivial⟩; clear hE4
  refine p_tn ?_
  refine c_seq ?_
  refine c_seq ?_
  refine c_reg ?_
  refine q_step (v := .slice s1A s1.length s1C) hE5 (y_move rfl) rfl rfl rfl ?_; intro a6 hE7; clear hE5
  refine q_step (v := .int .i64 (s1.length : Int)) hE7 (y_len (e := 2) (by kernel_rfl) rfl) rfl rfl rfl ?_; intro a8 hE9; clear hE7
  refine q_step (v := .slice s2A s2.length s2C) hE9 (y_move rfl) rfl rfl rfl ?_; intro a10 hE11; clear hE9
  refine q_step (v := .int .i64 (s2.length : Int)) hE11 (y_len (e := 2) (by kernel_rfl) rfl) rfl rfl rfl ?_; intro a12 hE13; clear hE11
  refine q_step (v := .bool (!decide ((s1.length : Int) = (s2.length : Int)))) hE13 (y_neq rfl rfl) rfl rfl rfl ?_; intro a14 hE15; clear hE13
  refine c_nil ?_
  have hE16 := hE15.sub (L' := [(0, .slice s1A s1.length s1C), (1, .slice s2A s2.length s2C), (10, .bool (!decide ((s1.length : Int) = (s2.length : Int))))]) ⟨rfl, rfl, rfl, trivial⟩; clear hE15
  refine p_tn ?_
  refine c_cond hE16 rfl (fun ht17 => ?_) (fun ht17 => ?_)
  ·
   have ht18 := bn_t ht17
   have hp19 := of_decide_eq_false ht18
   have hE20 := hE16; rw [ht17] at hE20; clear hE16
   refine c_seq ?_
   refine c_reg ?_
   refine q_step (v := .bool false) hE20 (y_assign rfl) rfl rfl rfl ?_; intro a21 hE22; clear hE20
   refine c_nil ?_
   have hE23 := hE22.sub (L' := [(4, .bool false)]) ⟨rfl, trivial⟩; clear hE22
   refine p_tn ?_
   refine wp_ret ?_
   refine p_tr ?_
   have hF : F_z_Equal s1 s2 = false := by unfold F_z_Equal; rw [ht17]; first | done | rfl
   refine c_ret1 hE23 rfl rfl ?_
   exact ⟨(by rw [hF]; first | done | (dsimp only; done) | rfl), hS2.ext⟩
  ·
   have ht24 := bn_f ht17
   have hp25 := of_decide_eq_true ht24
   have hE26 := hE16; rw [ht17] at hE26; clear hE16
   refine wp_skip ?_
   refine p_tn ?_
   refine c_seq ?_
   refine c_seq ?_
   refine c_reg ?_
   refine q_step (v := .slice s1A s1.length s1C) hE26 (y_move rfl) rfl rfl rfl ?_; intro a27 hE28; clear hE26
   refine q_step (v := .int .i64 (s1.length : Int)) hE28 (y_len (e := 2) (by kernel_rfl) rfl) rfl rfl rfl ?_; intro a29 hE30; clear hE28
   refine q_step (v := .int .i64 0) hE30 (y_move rfl) rfl rfl rfl ?_; intro a31 hE32; clear hE30
   refine c_nil ?_
   have hE33 := hE32.sub (L' := [(0, .slice s1A s1.length s1C), (1, .slice s2A s2.length s2C), (12, .int .i64 (s1.length : Int)), (13, .int .i64 0)]) ⟨rfl, rfl, rfl, rfl, trivial⟩; clear hE32
   refine p_tn ?_
   refine c_cut1 (fun a' w' => isOk (F_z_Equal_L1 s1 s2 (Int.toNat ((s1.length : Int) - 0) + 1) 0) = true ∧ (0 ≤ (okD (F_z_Equal_L1 s1 s2 (Int.toNat ((s1.length : Int) - 0) + 1) 0))) ∧ ((okD (F_z_Equal_L1 s1 s2 (Int.toNat ((s1.length : Int) - 0) + 1) 0)) ≤ (s1.length : Int)) ∧ E a' 26 [(0, .slice s1A s1.length s1C), (1, .slice s2A s2.length s2C), (12, .int .i64 (s1.length : Int)), (13, .int .i64 (okD (F_z_Equal_L1 s1 s2 (Int.toNat ((s1.length : Int) - 0) + 1) 0)))] ∧ St w w' [.rd 1 s2A s2.length s2C s2, .rd 1 s1A s1.length s1C s1]) ?_ ?_
   ·
    refine wp_block ?_
    refine c_loop (fun r a' w' => ∃ t13 : Int, F_z_Equal_L1 s1 s2 r t13 = F_z_Equal_L1 s1 s2 (Int.toNat ((s1.length : Int) - 0) + 1) 0 ∧ Int.toNat ((s1.length : Int) - t13) < r ∧ (0 ≤ t13) ∧ (t13 ≤ (s1.length : Int)) ∧ E a' 26 [(0, .slice s1A s1.length s1C), (1, .slice s2A s2.length s2C), (12, .int .i64 (s1.length : Int)), (13, .int .i64 t13)] ∧ St w w' [.rd 1 s2A s2.length s2C s2, .rd 1 s1A s1.length s1C s1]) (r := (Int.toNat ((s1.length : Int) - 0) + 1)) ?_ ?_
    · exact ⟨0, rfl, Nat.lt_succ_self _, (by first | omega | (simp only [sS_len, sL_len]; omega) | (simp only [List.length_replicate, sI_len]; omega) | (simp only [List.length_append, List.length_cons, List.length_nil, sI_len, cond_true, cond_false]; omega) | (simp only [List.length_append, List.length_cons, List.length_nil, sI_len, cond_eq_ite, apply_ite List.length]; split <;> simp only [List.length_append, List.length_cons, List.length_nil, sI_len] <;> omega) | grind), (by first | omega | (simp only [sS_len, sL_len]; omega) | (simp only [List.length_replicate, sI_len]; omega) | (simp only [List.length_append, List.length_cons, List.length_nil, sI_len, cond_true, cond_false]; omega) | (simp only [List.length_append, List.length_cons, List.length_nil, sI_len, cond_eq_ite, apply_ite List.length]; split <;> simp only [List.length_append, List.length_cons, List.length_nil, sI_len] <;> omega) | grind), (hE33.sub (L' := [(0, .slice s1A s1.length s1C), (1, .slice s2A s2.length s2C), (12, .int .i64 (s1.length : Int)), (13, .int .i64 0)]) ⟨rfl, rfl, rfl, rfl, trivial⟩), (St.pick (Γ' := [.rd 1 s2A s2.length s2C s2, .rd 1 s1A s1.length s1C s1]) hS2 [0, 1] (by decide) rfl)⟩
    ·
     clear hE33 hS2
     rintro r43 a35 w36 ⟨t13, hT39, hr40, hi41, hi42, hE37, hS38⟩
     obtain ⟨r43, rfl⟩ : ∃ r', r43 = r' + 1 := ⟨r43 - 1, by omega⟩
     refine c_seq ?_
     refine c_reg ?_
     refine q_step (v := .bool (decide (t13 < (s1.length : Int)))) hE37 (y_lss rfl rfl) rfl rfl rfl ?_; intro a44 hE45; clear hE37
     refine c_nil ?_
     have hE46 := hE45.sub (L' := [(0, .slice s1A s1.length s1C), (1, .slice s2A s2.length s2C), (12, .int .i64 (s1.length : Int)), (13, .int .i64 t13), (14, .bool (decide (t13 < (s1.length : Int))))]) ⟨rfl, rfl, rfl, rfl, rfl, trivial⟩; clear hE45
     refine p_tn ?_
     refine c_seq ?_
     refine c_cond hE46 rfl (fun ht47 => ?_) (fun ht47 => ?_)
     ·
      have hp48 := of_decide_eq_true ht47
      have hE49 := hE46; rw [ht47] at hE49; clear hE46
      refine wp_skip ?_
      refine p_tn ?_
      refine c_seq ?_
      refine wp_block ?_
      refine c_seq ?_
      refine c_reg ?_
      refine q_step (v := .int .i64 t13) hE49 (y_move rfl) rfl rfl rfl ?_; intro a50 hE51; clear hE49
      refine q_step (v := .int .i64 t13) hE51 (y_assign rfl) rfl rfl rfl ?_; intro a52 hE53; clear hE51
      refine c_nil ?_
      have hE54 := hE53.sub (L' := [(0, .slice s1A s1.length s1C), (1, .slice s2A s2.length s2C), (5, .int .i64 t13), (12, .int .i64 (s1.length : Int)), (13, .int .i64 t13)]) ⟨rfl, rfl, rfl, rfl, rfl, trivial⟩; clear hE53
      refine p_tn ?_
      refine c_seq ?_
      refine d_start (fun w w' => (fun w' => w'.cell? (adr s1A (Int.toNat t13)) = some (.int .i64 (gI s1 t13)) ∧ w'.cell? (adr s2A (Int.toNat t13)) = some (.int .i64 (gI s2 t13)) ∧ True) w → (fun w' => w'.cell? (adr s1A (Int.toNat t13)) = some (.int .i64 (gI s1 t13)) ∧ w'.cell? (adr s2A (Int.toNat t13)) = some (.int .i64 (gI s2 t13)) ∧ True) w') [3, 7] 9 (by kernel_rfl) rfl ?_
      intro w55 he56; have hS57 := St.go hS38 he56; clear hS38
      refine d_pure (fun _ h => h) (v := .slice s1A s1.length s1C) 0 rfl hE54 (y_move rfl) rfl (by kernel_rfl) (by kernel_rfl) (by kernel_rfl) rfl rfl (fun _ _ _ h => h) ?_; intro a58 hE59; clear hE54
      refine d_pure (fun _ h => h) (v := .int .i64 t13) 1 rfl hE59 (y_move rfl) rfl (by kernel_rfl) (by kernel_rfl) (by kernel_rfl) rfl rfl (fun _ _ _ h => h) ?_; intro a60 hE61; clear hE59
      refine d_pure (fun _ h => h) (v := .pointer (some (adr s1A (Int.toNat t13)))) 2 rfl hE61 (y_idx (by kernel_rfl) (fun _ => by kernel_rfl) rfl rfl (RdS.isS (m := t13) (St.rdR (i := 1) hS57 rfl) (by omega) (by omega)) (by omega) (by omega) (Nat.mul_one _).symm) rfl (by kernel_rfl) (by kernel_rfl) (by kernel_rfl) rfl rfl (fun _ _ _ h => h) ?_; intro a62 hE63; clear hE61
      refine d_take (fun _ h => h) (fun _ _ h k => h k) (v := .int .i64 (gI s1 t13)) 3 rfl hE63 (S := fun w' => w'.cell? (adr s1A (Int.toNat t13)) = some (.int .i64 (gI s1 t13)) ∧ w'.cell? (adr s2A (Int.toNat t13)) = some (.int .i64 (gI s2 t13)) ∧ True) ⟨(RdS.elt (St.rdR (i := 1) hS57 rfl) (by omega) (by omega) _ (Ext.refl _)), (RdS.elt (St.rdR (i := 0) hS57 rfl) (by omega) (by omega) _ (Ext.refl _)), trivial⟩ (y_load (fun _ => by kernel_rfl) rfl (fun _ h => h.1)) rfl rfl (by kernel_rfl) (by kernel_rfl) (by kernel_rfl) (by kernel_rfl) rfl rfl (fun _ _ _ h => h) ?_; intro a64 hE65; clear hE63
      refine d_pure (fun _ h => h) (v := .slice s2A s2.length s2C) 4 rfl hE65 (y_move rfl) rfl (by kernel_rfl) (by kernel_rfl) (by kernel_rfl) rfl rfl (fun _ _ _ h => h) ?_; intro a66 hE67; clear hE65
      refine d_pure (fun _ h => h) (v := .int .i64 t13) 5 rfl hE67 (y_move rfl) rfl (by kernel_rfl) (by kernel_rfl) (by kernel_rfl) rfl rfl (fun _ _ _ h => h) ?_; intro a68 hE69; clear hE67
      refine d_pure (fun _ h => h) (v := .pointer (some (adr s2A (Int.toNat t13)))) 6 rfl hE69 (y_idx (by kernel_rfl) (fun _ => by kernel_rfl) rfl rfl (RdS.isS (m := t13) (St.rdR (i := 0) hS57 rfl) (by omega) (by omega)) (by omega) (by omega) (Nat.mul_one _).symm) rfl (by kernel_rfl) (by kernel_rfl) (by kernel_rfl) rfl rfl (fun _ _ _ h => h) ?_; intro a70 hE71; clear hE69
      refine d_take (fun _ h => h) (fun _ _ h k => h k) (v := .int .i64 (gI s2 t13)) 7 rfl hE71 (S := fun w' => w'.cell? (adr s1A (Int.toNat t13)) = some (.int .i64 (gI s1 t13)) ∧ w'.cell? (adr s2A (Int.toNat t13)) = some (.int .i64 (gI s2 t13)) ∧ True) ⟨(RdS.elt (St.rdR (i := 1) hS57 rfl) (by omega) (by omega) _ (Ext.refl _)), (RdS.elt (St.rdR (i := 0) hS57 rfl) (by omega) (by omega) _ (Ext.refl _)), trivial⟩ (y_load (fun _ => by kernel_rfl) rfl (fun _ h => h.2.1)) rfl rfl (by kernel_rfl) (by kernel_rfl) (by kernel_rfl) (by kernel_rfl) rfl rfl (fun _ _ _ h => h) ?_; intro a72 hE73; clear hE71
      refine d_pure (fun _ h => h) (v := .bool (!decide ((gI s1 t13) = (gI s2 t13)))) 8 rfl hE73 (y_neq rfl rfl) rfl (by kernel_rfl) (by kernel_rfl) (by kernel_rfl) rfl rfl (fun _ _ _ h => h) ?_; intro a74 hE75; clear hE73
      refine d_done (by kernel_rfl) ?_
      have hE76 := hE75.sub (L' := [(0, .slice s1A s1.length s1C), (1, .slice s2A s2.length s2C), (12, .int .i64 (s1.length : Int)), (13, .int .i64 t13), (24, .bool (!decide ((gI s1 t13) = (gI s2 t13))))]) ⟨rfl, rfl, rfl, rfl, rfl, trivial⟩; clear hE75
      refine p_tn ?_
      refine c_cond hE76 rfl (fun ht77 => ?_) (fun ht77 => ?_)
      ·
       have ht78 := bn_t ht77
       have hp79 := of_decide_eq_false ht78
       have hE80 := hE76; rw [ht77] at hE80; clear hE76
       refine c_seq ?_
       refine c_reg ?_
       refine q_step (v := .bool false) hE80 (y_assign rfl) rfl rfl rfl ?_; intro a81 hE82; clear hE80
       refine c_nil ?_
       have hE83 := hE82.sub (L' := [(4, .bool false)]) ⟨rfl, trivial⟩; clear hE82
       refine p_tn ?_
       refine wp_ret ?_
       refine p_br ?_
       refine p_tr ?_
       have hX84 : F_z_Equal_L1 s1 s2 (Int.toNat ((s1.length : Int) - 0) + 1) 0 = .error false := hT39.symm.trans (show F_z_Equal_L1b s1 s2 (F_z_Equal_L1 s1 s2 r43) t13 = .error false by unfold F_z_Equal_L1b; rw [ht77, ht47]; first | done | rfl)
       refine p_tr (p_br (p_tr ?_))
       refine p_tr ?_
       have hF : F_z_Equal s1 s2 = false := by unfold F_z_Equal; rw [hX84, ht17]; first | done | rfl
       refine c_ret1 hE83 rfl rfl ?_
       exact ⟨(by rw [hF]; first | done | (dsimp only; done) | rfl), hS57.ext⟩
      ·
       have ht85 := bn_f ht77
       have hp86 := of_decide_eq_true ht85
       have hE87 := hE76; rw [ht77] at hE87; clear hE76
       refine wp_skip ?_
       refine p_bn ?_
       refine p_tn ?_
       refine c_reg ?_
       refine q_step (v := .int .i64 (t13 + 1)) hE87 (y_add rfl rfl ⟨(by omega), (by omega)⟩) rfl rfl rfl ?_; intro a88 hE89; clear hE87
       refine q_step (v := .int .i64 (t13 + 1)) hE89 (y_move rfl) rfl rfl rfl ?_; intro a90 hE91; clear hE89
       refine c_nil ?_
       have hE92 := hE91.sub (L' := [(0, .slice s1A s1.length s1C), (1, .slice s2A s2.length s2C), (12, .int .i64 (s1.length : Int)), (13, .int .i64 (t13 + 1))]) ⟨rfl, rfl, rfl, rfl, trivial⟩; clear hE91
       refine p_tn ⟨r43, Nat.lt_succ_self _, t13 + 1, (hT39.symm.trans (show F_z_Equal_L1b s1 s2 (F_z_Equal_L1 s1 s2 r43) t13 = F_z_Equal_L1 s1 s2 r43 (t13 + 1) by unfold F_z_Equal_L1b; rw [ht77, ht47]; first | done | rfl)).symm, (by omega), (by first | omega | (simp only [sS_len, sL_len]; omega) | (simp only [List.length_replicate, sI_len]; omega) | (simp only [List.length_append, List.length_cons, List.length_nil, sI_len, cond_true, cond_false]; omega) | (simp only [List.length_append, List.length_cons, List.length_nil, sI_len, cond_eq_ite, apply_ite List.length]; split <;> simp only [List.length_append, List.length_cons, List.length_nil, sI_len] <;> omega) | grind), (by first | omega | (simp only [sS_len, sL_len]; omega) | (simp only [List.length_replicate, sI_len]; omega) | (simp only [List.length_append, List.length_cons, List.length_nil, sI_len, cond_true, cond_false]; omega) | (simp only [List.length_append, List.length_cons, List.length_nil, sI_len, cond_eq_ite, apply_ite List.length]; split <;> simp only [List.length_append, List.length_cons, List.length_nil, sI_len] <;> omega) | grind), (hE92.sub (L' := [(0, .slice s1A s1.length s1C), (1, .slice s2A s2.length s2C), (12, .int .i64 (s1.length : Int)), (13, .int .i64 (t13 + 1))]) ⟨rfl, rfl, rfl, rfl, trivial⟩), (St.pick (Γ' := [.rd 1 s2A s2.length s2C s2, .rd 1 s1A s1.length s1C s1]) hS57 [0, 1] (by decide) rfl)⟩
     ·
      have hp93 := of_decide_eq_false ht47
      have hE94 := hE46; rw [ht47] at hE94; clear hE46
      refine wp_exit ?_
      refine p_te ?_
      have hX95 : F_z_Equal_L1 s1 s2 (Int.toNat ((s1.length : Int) - 0) + 1) 0 = .ok t13 := hT39.symm.trans (show F_z_Equal_L1b s1 s2 (F_z_Equal_L1 s1 s2 r43) t13 = .ok t13 by unfold F_z_Equal_L1b; rw [ht47]; first | done | rfl)
      refine p_te (p_be (p_tn ?_))
      exact ⟨(by rw [hX95]; rfl), (by rw [hX95]; exact (show 0 ≤ t13 from (by first | omega | (simp only [sS_len, sL_len]; omega) | (simp only [List.length_replicate, sI_len]; omega) | (simp only [List.length_append, List.length_cons, List.length_nil, sI_len, cond_true, cond_false]; omega) | (simp only [List.length_append, List.length_cons, List.length_nil, sI_len, cond_eq_ite, apply_ite List.length]; split <;> simp only [List.length_append, List.length_cons, List.length_nil, sI_len] <;> omega) | grind))), (by rw [hX95]; exact (show t13 ≤ (s1.length : Int) from (by first | omega | (simp only [sS_len, sL_len]; omega) | (simp only [List.length_replicate, sI_len]; omega) | (simp only [List.length_append, List.length_cons, List.length_nil, sI_len, cond_true, cond_false]; omega) | (simp only [List.length_append, List.length_cons, List.length_nil, sI_len, cond_eq_ite, apply_ite List.length]; split <;> simp only [List.length_append, List.length_cons, List.length_nil, sI_len] <;> omega) | grind))), (by rw [hX95]; exact (hE94.sub (L' := [(0, .slice s1A s1.length s1C), (1, .slice s2A s2.length s2C), (12, .int .i64 (s1.length : Int)), (13, .int .i64 t13)]) ⟨rfl, rfl, rfl, rfl, trivial⟩)), (St.pick (Γ' := [.rd 1 s2A s2.length s2C s2, .rd 1 s1A s1.length s1C s1]) hS38 [0, 1] (by decide) rfl)⟩
   ·
    rintro a96 w97 ⟨hO100, hi101, hi102, hE98, hS99⟩; clear hE33 hS2
    refine p_tn ?_
    refine c_seq ?_
    refine c_reg ?_
    refine q_step (v := .bool true) hE98 (y_assign rfl) rfl rfl rfl ?_; intro a103 hE104; clear hE98
    refine c_nil ?_
    have hE105 := hE104.sub (L' := [(4, .bool true)]) ⟨rfl, trivial⟩; clear hE104
    refine p_tn ?_
    refine wp_ret ?_
    have hF : F_z_Equal s1 s2 = true := by unfold F_z_Equal; rw [hO100, ht17]; first | done | rfl
    refine c_ret1 hE105 rfl rfl ?_
    exact ⟨(by rw [hF]; first | done | (dsimp only; done) | rfl), hS99.ext⟩
def F_OnesCount (xp : Int) : Int :=
  andI (wI (wrU ((wrU ((wrU ((andU (wrU ((shrU (wrU ((andU (shrU (wrU ((andU (shrU xp 1) 6148914691236517205) + (andU xp 6148914691236517205))) 2) 3689348814741910323) + (andU (wrU ((andU (shrU xp 1) 6148914691236517205) + (andU xp 6148914691236517205))) 3689348814741910323))) 4) + (wrU ((andU (shrU (wrU ((andU (shrU xp 1) 6148914691236517205) + (andU xp 6148914691236517205))) 2) 3689348814741910323) + (andU (wrU ((andU (shrU xp 1) 6148914691236517205) + (andU xp 6148914691236517205))) 3689348814741910323))))) 1085102592571150095) + (shrU (andU (wrU ((shrU (wrU ((andU (shrU (wrU ((andU (shrU xp 1) 6148914691236517205) + (andU xp 6148914691236517205))) 2) 3689348814741910323) + (andU (wrU ((andU (shrU xp 1) 6148914691236517205) + (andU xp 6148914691236517205))) 3689348814741910323))) 4) + (wrU ((andU (shrU (wrU ((andU (shrU xp 1) 6148914691236517205) + (andU xp 6148914691236517205))) 2) 3689348814741910323) + (andU (wrU ((andU (shrU xp 1) 6148914691236517205) + (andU xp 6148914691236517205))) 3689348814741910323))))) 1085102592571150095) 8))) + (shrU (wrU ((andU (wrU ((shrU (wrU ((andU (shrU (wrU ((andU (shrU xp 1) 6148914691236517205) + (andU xp 6148914691236517205))) 2) 3689348814741910323) + (andU (wrU ((andU (shrU xp 1) 6148914691236517205) + (andU xp 6148914691236517205))) 3689348814741910323))) 4) + (wrU ((andU (shrU (wrU ((andU (shrU xp 1) 6148914691236517205) + (andU xp 6148914691236517205))) 2) 3689348814741910323) + (andU (wrU ((andU (shrU xp 1) 6148914691236517205) + (andU xp 6148914691236517205))) 3689348814741910323))))) 1085102592571150095) + (shrU (andU (wrU ((shrU (wrU ((andU (shrU (wrU ((andU (shrU xp 1) 6148914691236517205) + (andU xp 6148914691236517205))) 2) 3689348814741910323) + (andU (wrU ((andU (shrU xp 1) 6148914691236517205) + (andU xp 6148914691236517205))) 3689348814741910323))) 4) + (wrU ((andU (shrU (wrU ((andU (shrU xp 1) 6148914691236517205) + (andU xp 6148914691236517205))) 2) 3689348814741910323) + (andU (wrU ((andU (shrU xp 1) 6148914691236517205) + (andU xp 6148914691236517205))) 3689348814741910323))))) 1085102592571150095) 8))) 16))) + (shrU (wrU ((wrU ((andU (wrU ((shrU (wrU ((andU (shrU (wrU ((andU (shrU xp 1) 6148914691236517205) + (andU xp 6148914691236517205))) 2) 3689348814741910323) + (andU (wrU ((andU (shrU xp 1) 6148914691236517205) + (andU xp 6148914691236517205))) 3689348814741910323))) 4) + (wrU ((andU (shrU (wrU ((andU (shrU xp 1) 6148914691236517205) + (andU xp 6148914691236517205))) 2) 3689348814741910323) + (andU (wrU ((andU (shrU xp 1) 6148914691236517205) + (andU xp 6148914691236517205))) 3689348814741910323))))) 1085102592571150095) + (shrU (andU (wrU ((shrU (wrU ((andU (shrU (wrU ((andU (shrU xp 1) 6148914691236517205) + (andU xp 6148914691236517205))) 2) 3689348814741910323) + (andU (wrU ((andU (shrU xp 1) 6148914691236517205) + (andU xp 6148914691236517205))) 3689348814741910323))) 4) + (wrU ((andU (shrU (wrU ((andU (shrU xp 1) 6148914691236517205) + (andU xp 6148914691236517205))) 2) 3689348814741910323) + (andU (wrU ((andU (shrU xp 1) 6148914691236517205) + (andU xp 6148914691236517205))) 3689348814741910323))))) 1085102592571150095) 8))) + (shrU (wrU ((andU (wrU ((shrU (wrU ((andU (shrU (wrU ((andU (shrU xp 1) 6148914691236517205) + (andU xp 6148914691236517205))) 2) 3689348814741910323) + (andU (wrU ((andU (shrU xp 1) 6148914691236517205) + (andU xp 6148914691236517205))) 3689348814741910323))) 4) + (wrU ((andU (shrU (wrU ((andU (shrU xp 1) 6148914691236517205) + (andU xp 6148914691236517205))) 2) 3689348814741910323) + (andU (wrU ((andU (shrU xp 1) 6148914691236517205) + (andU xp 6148914691236517205))) 3689348814741910323))))) 1085102592571150095) + (shrU (andU (wrU ((shrU (wrU ((andU (shrU (wrU ((andU (shrU xp 1) 6148914691236517205) + (andU xp 6148914691236517205))) 2) 3689348814741910323) + (andU (wrU ((andU (shrU xp 1) 6148914691236517205) + (andU xp 6148914691236517205))) 3689348814741910323))) 4) + (wrU ((andU (shrU (wrU ((andU (shrU xp 1) 6148914691236517205) + (andU xp 6148914691236517205))) 2) 3689348814741910323) + (andU (wrU ((andU (shrU xp 1) 6148914691236517205) + (andU xp 6148914691236517205))) 3689348814741910323))))) 1085102592571150095) 8))) 16))) 32)))) 127
theorem cf_OnesCount (args : Array Value) (w : World) : (callFunc 226 args).run Try.prog w = .ok (.enter 226 args) w := by kernel_rfl
set_option maxRecDepth 100000 in
theorem c_OnesCount (xp : Int) (w : World) :
    Calls Try.prog 226 #[.int .u64 xp] w (Ret fun v w' => v = .int .i64 (F_OnesCount xp) ∧ w = w') := by
  have hS := St.nil w
  refine enter (args := [.int .u64 xp]) Try.func226 rfl rfl ?_
  rw [Try.ntmps226]; intro a hE
  have hE := hE.sub (L' := [(0, .int .u64 xp)]) ⟨rfl, trivial⟩
  refine c_seq ?_
  refine c_reg ?_
  refine q_step (v := .int .i64 0) hE (y_assign rfl) rfl rfl rfl ?_; intro a1 hE2; clear hE
  refine c_nil ?_
  have hE3 := hE2.sub (L' := [(0, .int .u64 xp)]) ⟨rfl, trivial⟩; clear hE2
  refine p_tn ?_
  refine c_seq ?_
  refine c_reg ?_
  refine q_step (v := .int .u64 xp) hE3 (y_move rfl) rfl rfl rfl ?_; intro a4 hE5; clear hE3
  refine q_step (v := .int .u64 (shrU xp 1)) hE5 (y_shrU rfl rfl (by omega)) rfl rfl rfl ?_; intro a6 hE7; clear hE5
  refine q_step (v := .int .u64 (andU (shrU xp 1) 6148914691236517205)) hE7 (y_andU rfl rfl) rfl rfl rfl ?_; intro a8 hE9; clear hE7
  refine q_step (v := .int .u64 xp) hE9 (y_move rfl) rfl rfl rfl ?_; intro a10 hE11; clear hE9
  refine q_step (v := .int .u64 (andU xp 6148914691236517205)) hE11 (y_andU rfl rfl) rfl rfl rfl ?_; intro a12 hE13; clear hE11
  refine q_step (v := .int .u64 (wrU ((andU (shrU xp 1) 6148914691236517205) + (andU xp 6148914691236517205)))) hE13 (y_addU rfl rfl) rfl rfl rfl ?_; intro a14 hE15; clear hE13
  refine q_step (v := .int .u64 (wrU ((andU (shrU xp 1) 6148914691236517205) + (andU xp 6148914691236517205)))) hE15 (y_assign rfl) rfl rfl rfl ?_; intro a16 hE17; clear hE15
  refine c_nil ?_
  have hE18 := hE17.sub (L' := [(0, .int .u64 (wrU ((andU (shrU xp 1) 6148914691236517205) + (andU xp 6148914691236517205))))]) ⟨rfl, trivial⟩; clear hE17
  refine p_tn ?_
  refine c_seq ?_
  refine c_reg ?_
  refine q_step (v := .int .u64 (wrU ((andU (shrU xp 1) 6148914691236517205) + (andU xp 6148914691236517205)))) hE18 (y_move rfl) rfl rfl rfl ?_; intro a19 hE20; clear hE18
  refine q_step (v := .int .u64 (shrU (wrU ((andU (shrU xp 1) 6148914691236517205) + (andU xp 6148914691236517205))) 2)) hE20 (y_shrU rfl rfl (by omega)) rfl rfl rfl ?_; intro a21 hE22; clear hE20
  refine q_step (v := .int .u64 (andU (shrU (wrU ((andU (shrU xp 1) 6148914691236517205) + (andU xp 6148914691236517205))) 2) 3689348814741910323)) hE22 (y_andU rfl rfl) rfl rfl rfl ?_; intro a23 hE24; clear hE22
  refine q_step (v := .int .u64 (wrU ((andU (shrU xp 1) 6148914691236517205) + (andU xp 6148914691236517205)))) hE24 (y_move rfl) rfl rfl rfl ?_; intro a25 hE26; clear hE24
  refine q_step (v := .int .u64 (andU (wrU ((andU (shrU xp 1) 6148914691236517205) + (andU xp 6148914691236517205))) 3689348814741910323)) hE26 (y_andU rfl rfl) rfl rfl rfl ?_; intro a27 hE28; clear hE26
  refine q_step (v := .int .u64 (wrU ((andU (shrU (wrU ((andU (shrU xp 1) 6148914691236517205) + (andU xp 6148914691236517205))) 2) 3689348814741910323) + (andU (wrU ((andU (shrU xp 1) 6148914691236517205) + (andU xp 6148914691236517205))) 3689348814741910323)))) hE28 (y_addU rfl rfl) rfl rfl rfl ?_; intro a29 hE30; clear hE28
  refine q_step (v := .int .u64 (wrU ((andU (shrU (wrU ((andU (shrU xp 1) 6148914691236517205) + (andU xp 6148914691236517205))) 2) 3689348814741910323) + (andU (wrU ((andU (shrU xp 1) 6148914691236517205) + (andU xp 6148914691236517205))) 3689348814741910323)))) hE30 (y_assign rfl) rfl rfl rfl ?_; intro a31 hE32; clear hE30
  refine c_nil ?_
  have hE33 := hE32.sub (L' := [(0, .int .u64 (wrU ((andU (shrU (wrU ((andU (shrU xp 1) 6148914691236517205) + (andU xp 6148914691236517205))) 2) 3689348814741910323) + (andU (wrU ((andU (shrU xp 1) 6148914691236517205) + (andU xp 6148914691236517205))) 3689348814741910323))))]) ⟨rfl, trivial⟩; clear hE32
  refine p_tn ?_
  refine c_seq ?_
  refine c_reg ?_
  refine q_step (v := .int .u64 (wrU ((andU (shrU (wrU ((andU (shrU xp 1) 6148914691236517205) + (andU xp 6148914691236517205))) 2) 3689348814741910323) + (andU (wrU ((andU (shrU xp 1) 6148914691236517205) + (andU xp 6148914691236517205))) 3689348814741910323)))) hE33 (y_move rfl) rfl rfl rfl ?_; intro a34 hE35; clear hE33
  refine q_step (v := .int .u64 (shrU (wrU ((andU (shrU (wrU ((andU (shrU xp 1) 6148914691236517205) + (andU xp 6148914691236517205))) 2) 3689348814741910323) + (andU (wrU ((andU (shrU xp 1) 6148914691236517205) + (andU xp 6148914691236517205))) 3689348814741910323))) 4)) hE35 (y_shrU rfl rfl (by omega)) rfl rfl rfl ?_; intro a36 hE37; clear hE35
  refine q_step (v := .int .u64 (wrU ((andU (shrU (wrU ((andU (shrU xp 1) 6148914691236517205) + (andU xp 6148914691236517205))) 2) 3689348814741910323) + (andU (wrU ((andU (shrU xp 1) 6148914691236517205) + (andU xp 6148914691236517205))) 3689348814741910323)))) hE37 (y_move rfl) rfl rfl rfl ?_; intro a38 hE39; clear hE37
  refine q_step (v := .int .u64 (wrU ((shrU (wrU ((andU (shrU (wrU ((andU (shrU xp 1) 6148914691236517205) + (andU xp 6148914691236517205))) 2) 3689348814741910323) + (andU (wrU ((andU (shrU xp 1) 6148914691236517205) + (andU xp 6148914691236517205))) 3689348814741910323))) 4) + (wrU ((andU (shrU (wrU ((andU (shrU xp 1) 6148914691236517205) + (andU xp 6148914691236517205))) 2) 3689348814741910323) + (andU (wrU ((andU (shrU xp 1) 6148914691236517205) + (andU xp 6148914691236517205))) 3689348814741910323)))))) hE39 (y_addU rfl rfl) rfl rfl rfl ?_; intro a40 hE41; clear hE39
  refine q_step (v := .int .u64 (andU (wrU ((shrU (wrU ((andU (shrU (wrU ((andU (shrU xp 1) 6148914691236517205) + (andU xp 6148914691236517205))) 2) 3689348814741910323) + (andU (wrU ((andU (shrU xp 1) 6148914691236517205) + (andU xp 6148914691236517205))) 3689348814741910323))) 4) + (wrU ((andU (shrU (wrU ((andU (shrU xp 1) 6148914691236517205) + (andU xp 6148914691236517205))) 2) 3689348814741910323) + (andU (wrU ((andU (shrU xp 1) 6148914691236517205) + (andU xp 6148914691236517205))) 3689348814741910323))))) 1085102592571150095)) hE41 (y_andU rfl rfl) rfl rfl rfl ?_; intro a42 hE43; clear hE41
  refine q_step (v := .int .u64 (andU (wrU ((shrU (wrU ((andU (shrU (wrU ((andU (shrU xp 1) 6148914691236517205) + (andU xp 6148914691236517205))) 2) 3689348814741910323) + (andU (wrU ((andU (shrU xp 1) 6148914691236517205) + (andU xp 6148914691236517205))) 3689348814741910323))) 4) + (wrU ((andU (shrU (wrU ((andU (shrU xp 1) 6148914691236517205) + (andU xp 6148914691236517205))) 2) 3689348814741910323) + (andU (wrU ((andU (shrU xp 1) 6148914691236517205) + (andU xp 6148914691236517205))) 3689348814741910323))))) 1085102592571150095)) hE43 (y_assign rfl) rfl rfl rfl ?_; intro a44 hE45; clear hE43
  refine c_nil ?_
  have hE46 := hE45.sub (L' := [(0, .int .u64 (andU (wrU ((shrU (wrU ((andU (shrU (wrU ((andU (shrU xp 1) 6148914691236517205) + (andU xp 6148914691236517205))) 2) 3689348814741910323) + (andU (wrU ((andU (shrU xp 1) 6148914691236517205) + (andU xp 6148914691236517205))) 3689348814741910323))) 4) + (wrU ((andU (shrU (wrU ((andU (shrU xp 1) 6148914691236517205) + (andU xp 6148914691236517205))) 2) 3689348814741910323) + (andU (wrU ((andU (shrU xp 1) 6148914691236517205) + (andU xp 6148914691236517205))) 3689348814741910323))))) 1085102592571150095))]) ⟨rfl, trivial⟩; clear hE45
  refine p_tn ?_
  refine c_seq ?_
  refine c_reg ?_
  refine q_step (v := .int .u64 (andU (wrU ((shrU (wrU ((andU (shrU (wrU ((andU (shrU xp 1) 6148914691236517205) + (andU xp 6148914691236517205))) 2) 3689348814741910323) + (andU (wrU ((andU (shrU xp 1) 6148914691236517205) + (andU xp 6148914691236517205))) 3689348814741910323))) 4) + (wrU ((andU (shrU (wrU ((andU (shrU xp 1) 6148914691236517205) + (andU xp 6148914691236517205))) 2) 3689348814741910323) + (andU (wrU ((andU (shrU xp 1) 6148914691236517205) + (andU xp 6148914691236517205))) 3689348814741910323))))) 1085102592571150095)) hE46 (y_move rfl) rfl rfl rfl ?_; intro a47 hE48; clear hE46
  refine q_step (v := .int .u64 (andU (wrU ((shrU (wrU ((andU (shrU (wrU ((andU (shrU xp 1) 6148914691236517205) + (andU xp 6148914691236517205))) 2) 3689348814741910323) + (andU (wrU ((andU (shrU xp 1) 6148914691236517205) + (andU xp 6148914691236517205))) 3689348814741910323))) 4) + (wrU ((andU (shrU (wrU ((andU (shrU xp 1) 6148914691236517205) + (andU xp 6148914691236517205))) 2) 3689348814741910323) + (andU (wrU ((andU (shrU xp 1) 6148914691236517205) + (andU xp 6148914691236517205))) 3689348814741910323))))) 1085102592571150095)) hE48 (y_move rfl) rfl rfl rfl ?_; intro a49 hE50; clear hE48
  refine q_step (v := .int .u64 (shrU (andU (wrU ((shrU (wrU ((andU (shrU (wrU ((andU (shrU xp 1) 6148914691236517205) + (andU xp 6148914691236517205))) 2) 3689348814741910323) + (andU (wrU ((andU (shrU xp 1) 6148914691236517205) + (andU xp 6148914691236517205))) 3689348814741910323))) 4) + (wrU ((andU (shrU (wrU ((andU (shrU xp 1) 6148914691236517205) + (andU xp 6148914691236517205))) 2) 3689348814741910323) + (andU (wrU ((andU (shrU xp 1) 6148914691236517205) + (andU xp 6148914691236517205))) 3689348814741910323))))) 1085102592571150095) 8)) hE50 (y_shrU rfl rfl (by omega)) rfl rfl rfl ?_; intro a51 hE52; clear hE50
  refine q_step (v := .int .u64 (wrU ((andU (wrU ((shrU (wrU ((andU (shrU (wrU ((andU (shrU xp 1) 6148914691236517205) + (andU xp 6148914691236517205))) 2) 3689348814741910323) + (andU (wrU ((andU (shrU xp 1) 6148914691236517205) + (andU xp 6148914691236517205))) 3689348814741910323))) 4) + (wrU ((andU (shrU (wrU ((andU (shrU xp 1) 6148914691236517205) + (andU xp 6148914691236517205))) 2) 3689348814741910323) + (andU (wrU ((andU (shrU xp 1) 6148914691236517205) + (andU xp 6148914691236517205))) 3689348814741910323))))) 1085102592571150095) + (shrU (andU (wrU ((shrU (wrU ((andU (shrU (wrU ((andU (shrU xp 1) 6148914691236517205) + (andU xp 6148914691236517205))) 2) 3689348814741910323) + (andU (wrU ((andU (shrU xp 1) 6148914691236517205) + (andU xp 6148914691236517205))) 3689348814741910323))) 4) + (wrU ((andU (shrU (wrU ((andU (shrU xp 1) 6148914691236517205) + (andU xp 6148914691236517205))) 2) 3689348814741910323) + (andU (wrU ((andU (shrU xp 1) 6148914691236517205) + (andU xp 6148914691236517205))) 3689348814741910323))))) 1085102592571150095) 8)))) hE52 (y_addU rfl rfl) rfl rfl rfl ?_; intro a53 hE54; clear hE52
  refine q_step (v := .int .u64 (wrU ((andU (wrU ((shrU (wrU ((andU (shrU (wrU ((andU (shrU xp 1) 6148914691236517205) + (andU xp 6148914691236517205))) 2) 3689348814741910323) + (andU (wrU ((andU (shrU xp 1) 6148914691236517205) + (andU xp 6148914691236517205))) 3689348814741910323))) 4) + (wrU ((andU (shrU (wrU ((andU (shrU xp 1) 6148914691236517205) + (andU xp 6148914691236517205))) 2) 3689348814741910323) + (andU (wrU ((andU (shrU xp 1) 6148914691236517205) + (andU xp 6148914691236517205))) 3689348814741910323))))) 1085102592571150095) + (shrU (andU (wrU ((shrU (wrU ((andU (shrU (wrU ((andU (shrU xp 1) 6148914691236517205) + (andU xp 6148914691236517205))) 2) 3689348814741910323) + (andU (wrU ((andU (shrU xp 1) 6148914691236517205) + (andU xp 6148914691236517205))) 3689348814741910323))) 4) + (wrU ((andU (shrU (wrU ((andU (shrU xp 1) 6148914691236517205) + (andU xp 6148914691236517205))) 2) 3689348814741910323) + (andU (wrU ((andU (shrU xp 1) 6148914691236517205) + (andU xp 6148914691236517205))) 3689348814741910323))))) 1085102592571150095) 8)))) hE54 (y_assign rfl) rfl rfl rfl ?_; intro a55 hE56; clear hE54
  refine c_nil ?_
  have hE57 := hE56.sub (L' := [(0, .int .u64 (wrU ((andU (wrU ((shrU (wrU ((andU (shrU (wrU ((andU (shrU xp 1) 6148914691236517205) + (andU xp 6148914691236517205))) 2) 3689348814741910323) + (andU (wrU ((andU (shrU xp 1) 6148914691236517205) + (andU xp 6148914691236517205))) 3689348814741910323))) 4) + (wrU ((andU (shrU (wrU ((andU (shrU xp 1) 6148914691236517205) + (andU xp 6148914691236517205))) 2) 3689348814741910323) + (andU (wrU ((andU (shrU xp 1) 6148914691236517205) + (andU xp 6148914691236517205))) 3689348814741910323))))) 1085102592571150095) + (shrU (andU (wrU ((shrU (wrU ((andU (shrU (wrU ((andU (shrU xp 1) 6148914691236517205) + (andU xp 6148914691236517205))) 2) 3689348814741910323) + (andU (wrU ((andU (shrU xp 1) 6148914691236517205) + (andU xp 6148914691236517205))) 3689348814741910323))) 4) + (wrU ((andU (shrU (wrU ((andU (shrU xp 1) 6148914691236517205) + (andU xp 6148914691236517205))) 2) 3689348814741910323) + (andU (wrU ((andU (shrU xp 1) 6148914691236517205) + (andU xp 6148914691236517205))) 3689348814741910323))))) 1085102592571150095) 8))))]) ⟨rfl, trivial⟩; clear hE56
  refine p_tn ?_
  refine c_seq ?_
  refine c_reg ?_
  refine q_step (v := .int .u64 (wrU ((andU (wrU ((shrU (wrU ((andU (shrU (wrU ((andU (shrU xp 1) 6148914691236517205) + (andU xp 6148914691236517205))) 2) 3689348814741910323) + (andU (wrU ((andU (shrU xp 1) 6148914691236517205) + (andU xp 6148914691236517205))) 3689348814741910323))) 4) + (wrU ((andU (shrU (wrU ((andU (shrU xp 1) 6148914691236517205) + (andU xp 6148914691236517205))) 2) 3689348814741910323) + (andU (wrU ((andU (shrU xp 1) 6148914691236517205) + (andU xp 6148914691236517205))) 3689348814741910323))))) 1085102592571150095) + (shrU (andU (wrU ((shrU (wrU ((andU (shrU (wrU ((andU (shrU xp 1) 6148914691236517205) + (andU xp 6148914691236517205))) 2) 3689348814741910323) + (andU (wrU ((andU (shrU xp 1) 6148914691236517205) + (andU xp 6148914691236517205))) 3689348814741910323))) 4) + (wrU ((andU (shrU (wrU ((andU (shrU xp 1) 6148914691236517205) + (andU xp 6148914691236517205))) 2) 3689348814741910323) + (andU (wrU ((andU (shrU xp 1) 6148914691236517205) + (andU xp 6148914691236517205))) 3689348814741910323))))) 1085102592571150095) 8)))) hE57 (y_move rfl) rfl rfl rfl ?_; intro a58 hE59; clear hE57
  refine q_step (v := .int .u64 (wrU ((andU (wrU ((shrU (wrU ((andU (shrU (wrU ((andU (shrU xp 1) 6148914691236517205) + (andU xp 6148914691236517205))) 2) 3689348814741910323) + (andU (wrU ((andU (shrU xp 1) 6148914691236517205) + (andU xp 6148914691236517205))) 3689348814741910323))) 4) + (wrU ((andU (shrU (wrU ((andU (shrU xp 1) 6148914691236517205) + (andU xp 6148914691236517205))) 2) 3689348814741910323) + (andU (wrU ((andU (shrU xp 1) 6148914691236517205) + (andU xp 6148914691236517205))) 3689348814741910323))))) 1085102592571150095) + (shrU (andU (wrU ((shrU (wrU ((andU (shrU (wrU ((andU (shrU xp 1) 6148914691236517205) + (andU xp 6148914691236517205))) 2) 3689348814741910323) + (andU (wrU ((andU (shrU xp 1) 6148914691236517205) + (andU xp 6148914691236517205))) 3689348814741910323))) 4) + (wrU ((andU (shrU (wrU ((andU (shrU xp 1) 6148914691236517205) + (andU xp 6148914691236517205))) 2) 3689348814741910323) + (andU (wrU ((andU (shrU xp 1) 6148914691236517205) + (andU xp 6148914691236517205))) 3689348814741910323))))) 1085102592571150095) 8)))) hE59 (y_move rfl) rfl rfl rfl ?_; intro a60 hE61; clear hE59
  refine q_step (v := .int .u64 (shrU (wrU ((andU (wrU ((shrU (wrU ((andU (shrU (wrU ((andU (shrU xp 1) 6148914691236517205) + (andU xp 6148914691236517205))) 2) 3689348814741910323) + (andU (wrU ((andU (shrU xp 1) 6148914691236517205) + (andU xp 6148914691236517205))) 3689348814741910323))) 4) + (wrU ((andU (shrU (wrU ((andU (shrU xp 1) 6148914691236517205) + (andU xp 6148914691236517205))) 2) 3689348814741910323) + (andU (wrU ((andU (shrU xp 1) 6148914691236517205) + (andU xp 6148914691236517205))) 3689348814741910323))))) 1085102592571150095) + (shrU (andU (wrU ((shrU (wrU ((andU (shrU (wrU ((andU (shrU xp 1) 6148914691236517205) + (andU xp 6148914691236517205))) 2) 3689348814741910323) + (andU (wrU ((andU (shrU xp 1) 6148914691236517205) + (andU xp 6148914691236517205))) 3689348814741910323))) 4) + (wrU ((andU (shrU (wrU ((andU (shrU xp 1) 6148914691236517205) + (andU xp 6148914691236517205))) 2) 3689348814741910323) + (andU (wrU ((andU (shrU xp 1) 6148914691236517205) + (andU xp 6148914691236517205))) 3689348814741910323))))) 1085102592571150095) 8))) 16)) hE61 (y_shrU rfl rfl (by omega)) rfl rfl rfl ?_; intro a62 hE63; clear hE61
  refine q_step (v := .int .u64 (wrU ((wrU ((andU (wrU ((shrU (wrU ((andU (shrU (wrU ((andU (shrU xp 1) 6148914691236517205) + (andU xp 6148914691236517205))) 2) 3689348814741910323) + (andU (wrU ((andU (shrU xp 1) 6148914691236517205) + (andU xp 6148914691236517205))) 3689348814741910323))) 4) + (wrU ((andU (shrU (wrU ((andU (shrU xp 1) 6148914691236517205) + (andU xp 6148914691236517205))) 2) 3689348814741910323) + (andU (wrU ((andU (shrU xp 1) 6148914691236517205) + (andU xp 6148914691236517205))) 3689348814741910323))))) 1085102592571150095) + (shrU (andU (wrU ((shrU (wrU ((andU (shrU (wrU ((andU (shrU xp 1) 6148914691236517205) + (andU xp 6148914691236517205))) 2) 3689348814741910323) + (andU (wrU ((andU (shrU xp 1) 6148914691236517205) + (andU xp 6148914691236517205))) 3689348814741910323))) 4) + (wrU ((andU (shrU (wrU ((andU (shrU xp 1) 6148914691236517205) + (andU xp 6148914691236517205))) 2) 3689348814741910323) + (andU (wrU ((andU (shrU xp 1) 6148914691236517205) + (andU xp 6148914691236517205))) 3689348814741910323))))) 1085102592571150095) 8))) + (shrU (wrU ((andU (wrU ((shrU (wrU ((andU (shrU (wrU ((andU (shrU xp 1) 6148914691236517205) + (andU xp 6148914691236517205))) 2) 3689348814741910323) + (andU (wrU ((andU (shrU xp 1) 6148914691236517205) + (andU xp 6148914691236517205))) 3689348814741910323))) 4) + (wrU ((andU (shrU (wrU ((andU (shrU xp 1) 6148914691236517205) + (andU xp 6148914691236517205))) 2) 3689348814741910323) + (andU (wrU ((andU (shrU xp 1) 6148914691236517205) + (andU xp 6148914691236517205))) 3689348814741910323))))) 1085102592571150095) + (shrU (andU (wrU ((shrU (wrU ((andU (shrU (wrU ((andU (shrU xp 1) 6148914691236517205) + (andU xp 6148914691236517205))) 2) 3689348814741910323) + (andU (wrU ((andU (shrU xp 1) 6148914691236517205) + (andU xp 6148914691236517205))) 3689348814741910323))) 4) + (wrU ((andU (shrU (wrU ((andU (shrU xp 1) 6148914691236517205) + (andU xp 6148914691236517205))) 2) 3689348814741910323) + (andU (wrU ((andU (shrU xp 1) 6148914691236517205) + (andU xp 6148914691236517205))) 3689348814741910323))))) 1085102592571150095) 8))) 16)))) hE63 (y_addU rfl rfl) rfl rfl rfl ?_; intro a64 hE65; clear hE63
  refine q_step (v := .int .u64 (wrU ((wrU ((andU (wrU ((shrU (wrU ((andU (shrU (wrU ((andU (shrU xp 1) 6148914691236517205) + (andU xp 6148914691236517205))) 2) 3689348814741910323) + (andU (wrU ((andU (shrU xp 1) 6148914691236517205) + (andU xp 6148914691236517205))) 3689348814741910323))) 4) + (wrU ((andU (shrU (wrU ((andU (shrU xp 1) 6148914691236517205) + (andU xp 6148914691236517205))) 2) 3689348814741910323) + (andU (wrU ((andU (shrU xp 1) 6148914691236517205) + (andU xp 6148914691236517205))) 3689348814741910323))))) 1085102592571150095) + (shrU (andU (wrU ((shrU (wrU ((andU (shrU (wrU ((andU (shrU xp 1) 6148914691236517205) + (andU xp 6148914691236517205))) 2) 3689348814741910323) + (andU (wrU ((andU (shrU xp 1) 6148914691236517205) + (andU xp 6148914691236517205))) 3689348814741910323))) 4) + (wrU ((andU (shrU (wrU ((andU (shrU xp 1) 6148914691236517205) + (andU xp 6148914691236517205))) 2) 3689348814741910323) + (andU (wrU ((andU (shrU xp 1) 6148914691236517205) + (andU xp 6148914691236517205))) 3689348814741910323))))) 1085102592571150095) 8))) + (shrU (wrU ((andU (wrU ((shrU (wrU ((andU (shrU (wrU ((andU (shrU xp 1) 6148914691236517205) + (andU xp 6148914691236517205))) 2) 3689348814741910323) + (andU (wrU ((andU (shrU xp 1) 6148914691236517205) + (andU xp 6148914691236517205))) 3689348814741910323))) 4) + (wrU ((andU (shrU (wrU ((andU (shrU xp 1) 6148914691236517205) + (andU xp 6148914691236517205))) 2) 3689348814741910323) + (andU (wrU ((andU (shrU xp 1) 6148914691236517205) + (andU xp 6148914691236517205))) 3689348814741910323))))) 1085102592571150095) + (shrU (andU (wrU ((shrU (wrU ((andU (shrU (wrU ((andU (shrU xp 1) 6148914691236517205) + (andU xp 6148914691236517205))) 2) 3689348814741910323) + (andU (wrU ((andU (shrU xp 1) 6148914691236517205) + (andU xp 6148914691236517205))) 3689348814741910323))) 4) + (wrU ((andU (shrU (wrU ((andU (shrU xp 1) 6148914691236517205) + (andU xp 6148914691236517205))) 2) 3689348814741910323) + (andU (wrU ((andU (shrU xp 1) 6148914691236517205) + (andU xp 6148914691236517205))) 3689348814741910323))))) 1085102592571150095) 8))) 16)))) hE65 (y_assign rfl) rfl rfl rfl ?_; intro a66 hE67; clear hE65
  refine c_nil ?_
  have hE68 := hE67.sub (L' := [(0, .int .u64 (wrU ((wrU ((andU (wrU ((shrU (wrU ((andU (shrU (wrU ((andU (shrU xp 1) 6148914691236517205) + (andU xp 6148914691236517205))) 2) 3689348814741910323) + (andU (wrU ((andU (shrU xp 1) 6148914691236517205) + (andU xp 6148914691236517205))) 3689348814741910323))) 4) + (wrU ((andU (shrU (wrU ((andU (shrU xp 1) 6148914691236517205) + (andU xp 6148914691236517205))) 2) 3689348814741910323) + (andU (wrU ((andU (shrU xp 1) 6148914691236517205) + (andU xp 6148914691236517205))) 3689348814741910323))))) 1085102592571150095) + (shrU (andU (wrU ((shrU (wrU ((andU (shrU (wrU ((andU (shrU xp 1) 6148914691236517205) + (andU xp 6148914691236517205))) 2) 3689348814741910323) + (andU (wrU ((andU (shrU xp 1) 6148914691236517205) + (andU xp 6148914691236517205))) 3689348814741910323))) 4) + (wrU ((andU (shrU (wrU ((andU (shrU xp 1) 6148914691236517205) + (andU xp 6148914691236517205))) 2) 3689348814741910323) + (andU (wrU ((andU (shrU xp 1) 6148914691236517205) + (andU xp 6148914691236517205))) 3689348814741910323))))) 1085102592571150095) 8))) + (shrU (wrU ((andU (wrU ((shrU (wrU ((andU (shrU (wrU ((andU (shrU xp 1) 6148914691236517205) + (andU xp 6148914691236517205))) 2) 3689348814741910323) + (andU (wrU ((andU (shrU xp 1) 6148914691236517205) + (andU xp 6148914691236517205))) 3689348814741910323))) 4) + (wrU ((andU (shrU (wrU ((andU (shrU xp 1) 6148914691236517205) + (andU xp 6148914691236517205))) 2) 3689348814741910323) + (andU (wrU ((andU (shrU xp 1) 6148914691236517205) + (andU xp 6148914691236517205))) 3689348814741910323))))) 1085102592571150095) + (shrU (andU (wrU ((shrU (wrU ((andU (shrU (wrU ((andU (shrU xp 1) 6148914691236517205) + (andU xp 6148914691236517205))) 2) 3689348814741910323) + (andU (wrU ((andU (shrU xp 1) 6148914691236517205) + (andU xp 6148914691236517205))) 3689348814741910323))) 4) + (wrU ((andU (shrU (wrU ((andU (shrU xp 1) 6148914691236517205) + (andU xp 6148914691236517205))) 2) 3689348814741910323) + (andU (wrU ((andU (shrU xp 1) 6148914691236517205) + (andU xp 6148914691236517205))) 3689348814741910323))))) 1085102592571150095) 8))) 16))))]) ⟨rfl, trivial⟩; clear hE67
  refine p_tn ?_
  refine c_seq ?_
  refine c_reg ?_
  refine q_step (v := .int .u64 (wrU ((wrU ((andU (wrU ((shrU (wrU ((andU (shrU (wrU ((andU (shrU xp 1) 6148914691236517205) + (andU xp 6148914691236517205))) 2) 3689348814741910323) + (andU (wrU ((andU (shrU xp 1) 6148914691236517205) + (andU xp 6148914691236517205))) 3689348814741910323))) 4) + (wrU ((andU (shrU (wrU ((andU (shrU xp 1) 6148914691236517205) + (andU xp 6148914691236517205))) 2) 3689348814741910323) + (andU (wrU ((andU (shrU xp 1) 6148914691236517205) + (andU xp 6148914691236517205))) 3689348814741910323))))) 1085102592571150095) + (shrU (andU (wrU ((shrU (wrU ((andU (shrU (wrU ((andU (shrU xp 1) 6148914691236517205) + (andU xp 6148914691236517205))) 2) 3689348814741910323) + (andU (wrU ((andU (shrU xp 1) 6148914691236517205) + (andU xp 6148914691236517205))) 3689348814741910323))) 4) + (wrU ((andU (shrU (wrU ((andU (shrU xp 1) 6148914691236517205) + (andU xp 6148914691236517205))) 2) 3689348814741910323) + (andU (wrU ((andU (shrU xp 1) 6148914691236517205) + (andU xp 6148914691236517205))) 3689348814741910323))))) 1085102592571150095) 8))) + (shrU (wrU ((andU (wrU ((shrU (wrU ((andU (shrU (wrU ((andU (shrU xp 1) 6148914691236517205) + (andU xp 6148914691236517205))) 2) 3689348814741910323) + (andU (wrU ((andU (shrU xp 1) 6148914691236517205) + (andU xp 6148914691236517205))) 3689348814741910323))) 4) + (wrU ((andU (shrU (wrU ((andU (shrU xp 1) 6148914691236517205) + (andU xp 6148914691236517205))) 2) 3689348814741910323) + (andU (wrU ((andU (shrU xp 1) 6148914691236517205) + (andU xp 6148914691236517205))) 3689348814741910323))))) 1085102592571150095) + (shrU (andU (wrU ((shrU (wrU ((andU (shrU (wrU ((andU (shrU xp 1) 6148914691236517205) + (andU xp 6148914691236517205))) 2) 3689348814741910323) + (andU (wrU ((andU (shrU xp 1) 6148914691236517205) + (andU xp 6148914691236517205))) 3689348814741910323))) 4) + (wrU ((andU (shrU (wrU ((andU (shrU xp 1) 6148914691236517205) + (andU xp 6148914691236517205))) 2) 3689348814741910323) + (andU (wrU ((andU (shrU xp 1) 6148914691236517205) + (andU xp 6148914691236517205))) 3689348814741910323))))) 1085102592571150095) 8))) 16)))) hE68 (y_move rfl) rfl rfl rfl ?_; intro a69 hE70; clear hE68
  refine q_step (v := .int .u64 (wrU ((wrU ((andU (wrU ((shrU (wrU ((andU (shrU (wrU ((andU (shrU xp 1) 6148914691236517205) + (andU xp 6148914691236517205))) 2) 3689348814741910323) + (andU (wrU ((andU (shrU xp 1) 6148914691236517205) + (andU xp 6148914691236517205))) 3689348814741910323))) 4) + (wrU ((andU (shrU (wrU ((andU (shrU xp 1) 6148914691236517205) + (andU xp 6148914691236517205))) 2) 3689348814741910323) + (andU (wrU ((andU (shrU xp 1) 6148914691236517205) + (andU xp 6148914691236517205))) 3689348814741910323))))) 1085102592571150095) + (shrU (andU (wrU ((shrU (wrU ((andU (shrU (wrU ((andU (shrU xp 1) 6148914691236517205) + (andU xp 6148914691236517205))) 2) 3689348814741910323) + (andU (wrU ((andU (shrU xp 1) 6148914691236517205) + (andU xp 6148914691236517205))) 3689348814741910323))) 4) + (wrU ((andU (shrU (wrU ((andU (shrU xp 1) 6148914691236517205) + (andU xp 6148914691236517205))) 2) 3689348814741910323) + (andU (wrU ((andU (shrU xp 1) 6148914691236517205) + (andU xp 6148914691236517205))) 3689348814741910323))))) 1085102592571150095) 8))) + (shrU (wrU ((andU (wrU ((shrU (wrU ((andU (shrU (wrU ((andU (shrU xp 1) 6148914691236517205) + (andU xp 6148914691236517205))) 2) 3689348814741910323) + (andU (wrU ((andU (shrU xp 1) 6148914691236517205) + (andU xp 6148914691236517205))) 3689348814741910323))) 4) + (wrU ((andU (shrU (wrU ((andU (shrU xp 1) 6148914691236517205) + (andU xp 6148914691236517205))) 2) 3689348814741910323) + (andU (wrU ((andU (shrU xp 1) 6148914691236517205) + (andU xp 6148914691236517205))) 3689348814741910323))))) 1085102592571150095) + (shrU (andU (wrU ((shrU (wrU ((andU (shrU (wrU ((andU (shrU xp 1) 6148914691236517205) + (andU xp 6148914691236517205))) 2) 3689348814741910323) + (andU (wrU ((andU (shrU xp 1) 6148914691236517205) + (andU xp 6148914691236517205))) 3689348814741910323))) 4) + (wrU ((andU (shrU (wrU ((andU (shrU xp 1) 6148914691236517205) + (andU xp 6148914691236517205))) 2) 3689348814741910323) + (andU (wrU ((andU (shrU xp 1) 6148914691236517205) + (andU xp 6148914691236517205))) 3689348814741910323))))) 1085102592571150095) 8))) 16)))) hE70 (y_move rfl) rfl rfl rfl ?_; intro a71 hE72; clear hE70
  refine q_step (v := .int .u64 (shrU (wrU ((wrU ((andU (wrU ((shrU (wrU ((andU (shrU (wrU ((andU (shrU xp 1) 6148914691236517205) + (andU xp 6148914691236517205))) 2) 3689348814741910323) + (andU (wrU ((andU (shrU xp 1) 6148914691236517205) + (andU xp 6148914691236517205))) 3689348814741910323))) 4) + (wrU ((andU (shrU (wrU ((andU (shrU xp 1) 6148914691236517205) + (andU xp 6148914691236517205))) 2) 3689348814741910323) + (andU (wrU ((andU (shrU xp 1) 6148914691236517205) + (andU xp 6148914691236517205))) 3689348814741910323))))) 1085102592571150095) + (shrU (andU (wrU ((shrU (wrU ((andU (shrU (wrU ((andU (shrU xp 1) 6148914691236517205) + (andU xp 6148914691236517205))) 2) 3689348814741910323) + (andU (wrU ((andU (shrU xp 1) 6148914691236517205) + (andU xp 6148914691236517205))) 3689348814741910323))) 4) + (wrU ((andU (shrU (wrU ((andU (shrU xp 1) 6148914691236517205) + (andU xp 6148914691236517205))) 2) 3689348814741910323) + (andU (wrU ((andU (shrU xp 1) 6148914691236517205) + (andU xp 6148914691236517205))) 3689348814741910323))))) 1085102592571150095) 8))) + (shrU (wrU ((andU (wrU ((shrU (wrU ((andU (shrU (wrU ((andU (shrU xp 1) 6148914691236517205) + (andU xp 6148914691236517205))) 2) 3689348814741910323) + (andU (wrU ((andU (shrU xp 1) 6148914691236517205) + (andU xp 6148914691236517205))) 3689348814741910323))) 4) + (wrU ((andU (shrU (wrU ((andU (shrU xp 1) 6148914691236517205) + (andU xp 6148914691236517205))) 2) 3689348814741910323) + (andU (wrU ((andU (shrU xp 1) 6148914691236517205) + (andU xp 6148914691236517205))) 3689348814741910323))))) 1085102592571150095) + (shrU (andU (wrU ((shrU (wrU ((andU (shrU (wrU ((andU (shrU xp 1) 6148914691236517205) + (andU xp 6148914691236517205))) 2) 3689348814741910323) + (andU (wrU ((andU (shrU xp 1) 6148914691236517205) + (andU xp 6148914691236517205))) 3689348814741910323))) 4) + (wrU ((andU (shrU (wrU ((andU (shrU xp 1) 6148914691236517205) + (andU xp 6148914691236517205))) 2) 3689348814741910323) + (andU (wrU ((andU (shrU xp 1) 6148914691236517205) + (andU xp 6148914691236517205))) 3689348814741910323))))) 1085102592571150095) 8))) 16))) 32)) hE72 (y_shrU rfl rfl (by omega)) rfl rfl rfl ?_; intro a73 hE74; clear hE72
  refine q_step (v := .int .u64 (wrU ((wrU ((wrU ((andU (wrU ((shrU (wrU ((andU (shrU (wrU ((andU (shrU xp 1) 6148914691236517205) + (andU xp 6148914691236517205))) 2) 3689348814741910323) + (andU (wrU ((andU (shrU xp 1) 6148914691236517205) + (andU xp 6148914691236517205))) 3689348814741910323))) 4) + (wrU ((andU (shrU (wrU ((andU (shrU xp 1) 6148914691236517205) + (andU xp 6148914691236517205))) 2) 3689348814741910323) + (andU (wrU ((andU (shrU xp 1) 6148914691236517205) + (andU xp 6148914691236517205))) 3689348814741910323))))) 1085102592571150095) + (shrU (andU (wrU ((shrU (wrU ((andU (shrU (wrU ((andU (shrU xp 1) 6148914691236517205) + (andU xp 6148914691236517205))) 2) 3689348814741910323) + (andU (wrU ((andU (shrU xp 1) 6148914691236517205) + (andU xp 6148914691236517205))) 3689348814741910323))) 4) + (wrU ((andU (shrU (wrU ((andU (shrU xp 1) 6148914691236517205) + (andU xp 6148914691236517205))) 2) 3689348814741910323) + (andU (wrU ((andU (shrU xp 1) 6148914691236517205) + (andU xp 6148914691236517205))) 3689348814741910323))))) 1085102592571150095) 8))) + (shrU (wrU ((andU (wrU ((shrU (wrU ((andU (shrU (wrU ((andU (shrU xp 1) 6148914691236517205) + (andU xp 6148914691236517205))) 2) 3689348814741910323) + (andU (wrU ((andU (shrU xp 1) 6148914691236517205) + (andU xp 6148914691236517205))) 3689348814741910323))) 4) + (wrU ((andU (shrU (wrU ((andU (shrU xp 1) 6148914691236517205) + (andU xp 6148914691236517205))) 2) 3689348814741910323) + (andU (wrU ((andU (shrU xp 1) 6148914691236517205) + (andU xp 6148914691236517205))) 3689348814741910323))))) 1085102592571150095) + (shrU (andU (wrU ((shrU (wrU ((andU (shrU (wrU ((andU (shrU xp 1) 6148914691236517205) + (andU xp 6148914691236517205))) 2) 3689348814741910323) + (andU (wrU ((andU (shrU xp 1) 6148914691236517205) + (andU xp 6148914691236517205))) 3689348814741910323))) 4) + (wrU ((andU (shrU (wrU ((andU (shrU xp 1) 6148914691236517205) + (andU xp 6148914691236517205))) 2) 3689348814741910323) + (andU (wrU ((andU (shrU xp 1) 6148914691236517205) + (andU xp 6148914691236517205))) 3689348814741910323))))) 1085102592571150095) 8))) 16))) + (shrU (wrU ((wrU ((andU (wrU ((shrU (wrU ((andU (shrU (wrU ((andU (shrU xp 1) 6148914691236517205) + (andU xp 6148914691236517205))) 2) 3689348814741910323) + (andU (wrU ((andU (shrU xp 1) 6148914691236517205) + (andU xp 6148914691236517205))) 3689348814741910323))) 4) + (wrU ((andU (shrU (wrU ((andU (shrU xp 1) 6148914691236517205) + (andU xp 6148914691236517205))) 2) 3689348814741910323) + (andU (wrU ((andU (shrU xp 1) 6148914691236517205) + (andU xp 6148914691236517205))) 3689348814741910323))))) 1085102592571150095) + (shrU (andU (wrU ((shrU (wrU ((andU (shrU (wrU ((andU (shrU xp 1) 6148914691236517205) + (andU xp 6148914691236517205))) 2) 3689348814741910323) + (andU (wrU ((andU (shrU xp 1) 6148914691236517205) + (andU xp 6148914691236517205))) 3689348814741910323))) 4) + (wrU ((andU (shrU (wrU ((andU (shrU xp 1) 6148914691236517205) + (andU xp 6148914691236517205))) 2) 3689348814741910323) + (andU (wrU ((andU (shrU xp 1) 6148914691236517205) + (andU xp 6148914691236517205))) 3689348814741910323))))) 1085102592571150095) 8))) + (shrU (wrU ((andU (wrU ((shrU (wrU ((andU (shrU (wrU ((andU (shrU xp 1) 6148914691236517205) + (andU xp 6148914691236517205))) 2) 3689348814741910323) + (andU (wrU ((andU (shrU xp 1) 6148914691236517205) + (andU xp 6148914691236517205))) 3689348814741910323))) 4) + (wrU ((andU (shrU (wrU ((andU (shrU xp 1) 6148914691236517205) + (andU xp 6148914691236517205))) 2) 3689348814741910323) + (andU (wrU ((andU (shrU xp 1) 6148914691236517205) + (andU xp 6148914691236517205))) 3689348814741910323))))) 1085102592571150095) + (shrU (andU (wrU ((shrU (wrU ((andU (shrU (wrU ((andU (shrU xp 1) 6148914691236517205) + (andU xp 6148914691236517205))) 2) 3689348814741910323) + (andU (wrU ((andU (shrU xp 1) 6148914691236517205) + (andU xp 6148914691236517205))) 3689348814741910323))) 4) + (wrU ((andU (shrU (wrU ((andU (shrU xp 1) 6148914691236517205) + (andU xp 6148914691236517205))) 2) 3689348814741910323) + (andU (wrU ((andU (shrU xp 1) 6148914691236517205) + (andU xp 6148914691236517205))) 3689348814741910323))))) 1085102592571150095) 8))) 16))) 32)))) hE74 (y_addU rfl rfl) rfl rfl rfl ?_; intro a75 hE76; clear hE74
  refine q_step (v := .int .u64 (wrU ((wrU ((wrU ((andU (wrU ((shrU (wrU ((andU (shrU (wrU ((andU (shrU xp 1) 6148914691236517205) + (andU xp 6148914691236517205))) 2) 3689348814741910323) + (andU (wrU ((andU (shrU xp 1) 6148914691236517205) + (andU xp 6148914691236517205))) 3689348814741910323))) 4) + (wrU ((andU (shrU (wrU ((andU (shrU xp 1) 6148914691236517205) + (andU xp 6148914691236517205))) 2) 3689348814741910323) + (andU (wrU ((andU (shrU xp 1) 6148914691236517205) + (andU xp 6148914691236517205))) 3689348814741910323))))) 1085102592571150095) + (shrU (andU (wrU ((shrU (wrU ((andU (shrU (wrU ((andU (shrU xp 1) 6148914691236517205) + (andU xp 6148914691236517205))) 2) 3689348814741910323) + (andU (wrU ((andU (shrU xp 1) 6148914691236517205) + (andU xp 6148914691236517205))) 3689348814741910323))) 4) + (wrU ((andU (shrU (wrU ((andU (shrU xp 1) 6148914691236517205) + (andU xp 6148914691236517205))) 2) 3689348814741910323) + (andU (wrU ((andU (shrU xp 1) 6148914691236517205) + (andU xp 6148914691236517205))) 3689348814741910323))))) 1085102592571150095) 8))) + (shrU (wrU ((andU (wrU ((shrU (wrU ((andU (shrU (wrU ((andU (shrU xp 1) 6148914691236517205) + (andU xp 6148914691236517205))) 2) 3689348814741910323) + (andU (wrU ((andU (shrU xp 1) 6148914691236517205) + (andU xp 6148914691236517205))) 3689348814741910323))) 4) + (wrU ((andU (shrU (wrU ((andU (shrU xp 1) 6148914691236517205) + (andU xp 6148914691236517205))) 2) 3689348814741910323) + (andU (wrU ((andU (shrU xp 1) 6148914691236517205) + (andU xp 6148914691236517205))) 3689348814741910323))))) 1085102592571150095) + (shrU (andU (wrU ((shrU (wrU ((andU (shrU (wrU ((andU (shrU xp 1) 6148914691236517205) + (andU xp 6148914691236517205))) 2) 3689348814741910323) + (andU (wrU ((andU (shrU xp 1) 6148914691236517205) + (andU xp 6148914691236517205))) 3689348814741910323))) 4) + (wrU ((andU (shrU (wrU ((andU (shrU xp 1) 6148914691236517205) + (andU xp 6148914691236517205))) 2) 3689348814741910323) + (andU (wrU ((andU (shrU xp 1) 6148914691236517205) + (andU xp 6148914691236517205))) 3689348814741910323))))) 1085102592571150095) 8))) 16))) + (shrU (wrU ((wrU ((andU (wrU ((shrU (wrU ((andU (shrU (wrU ((andU (shrU xp 1) 6148914691236517205) + (andU xp 6148914691236517205))) 2) 3689348814741910323) + (andU (wrU ((andU (shrU xp 1) 6148914691236517205) + (andU xp 6148914691236517205))) 3689348814741910323))) 4) + (wrU ((andU (shrU (wrU ((andU (shrU xp 1) 6148914691236517205) + (andU xp 6148914691236517205))) 2) 3689348814741910323) + (andU (wrU ((andU (shrU xp 1) 6148914691236517205) + (andU xp 6148914691236517205))) 3689348814741910323))))) 1085102592571150095) + (shrU (andU (wrU ((shrU (wrU ((andU (shrU (wrU ((andU (shrU xp 1) 6148914691236517205) + (andU xp 6148914691236517205))) 2) 3689348814741910323) + (andU (wrU ((andU (shrU xp 1) 6148914691236517205) + (andU xp 6148914691236517205))) 3689348814741910323))) 4) + (wrU ((andU (shrU (wrU ((andU (shrU xp 1) 6148914691236517205) + (andU xp 6148914691236517205))) 2) 3689348814741910323) + (andU (wrU ((andU (shrU xp 1) 6148914691236517205) + (andU xp 6148914691236517205))) 3689348814741910323))))) 1085102592571150095) 8))) + (shrU (wrU ((andU (wrU ((shrU (wrU ((andU (shrU (wrU ((andU (shrU xp 1) 6148914691236517205) + (andU xp 6148914691236517205))) 2) 3689348814741910323) + (andU (wrU ((andU (shrU xp 1) 6148914691236517205) + (andU xp 6148914691236517205))) 3689348814741910323))) 4) + (wrU ((andU (shrU (wrU ((andU (shrU xp 1) 6148914691236517205) + (andU xp 6148914691236517205))) 2) 3689348814741910323) + (andU (wrU ((andU (shrU xp 1) 6148914691236517205) + (andU xp 6148914691236517205))) 3689348814741910323))))) 1085102592571150095) + (shrU (andU (wrU ((shrU (wrU ((andU (shrU (wrU ((andU (shrU xp 1) 6148914691236517205) + (andU xp 6148914691236517205))) 2) 3689348814741910323) + (andU (wrU ((andU (shrU xp 1) 6148914691236517205) + (andU xp 6148914691236517205))) 3689348814741910323))) 4) + (wrU ((andU (shrU (wrU ((andU (shrU xp 1) 6148914691236517205) + (andU xp 6148914691236517205))) 2) 3689348814741910323) + (andU (wrU ((andU (shrU xp 1) 6148914691236517205) + (andU xp 6148914691236517205))) 3689348814741910323))))) 1085102592571150095) 8))) 16))) 32)))) hE76 (y_assign rfl) rfl rfl rfl ?_; intro a77 hE78; clear hE76
  refine c_nil ?_
  have hE79 := hE78.sub (L' := [(0, .int .u64 (wrU ((wrU ((wrU ((andU (wrU ((shrU (wrU ((andU (shrU (wrU ((andU (shrU xp 1) 6148914691236517205) + (andU xp 6148914691236517205))) 2) 3689348814741910323) + (andU (wrU ((andU (shrU xp 1) 6148914691236517205) + (andU xp 6148914691236517205))) 3689348814741910323))) 4) + (wrU ((andU (shrU (wrU ((andU (shrU xp 1) 6148914691236517205) + (andU xp 6148914691236517205))) 2) 3689348814741910323) + (andU (wrU ((andU (shrU xp 1) 6148914691236517205) + (andU xp 6148914691236517205))) 3689348814741910323))))) 1085102592571150095) + (shrU (andU (wrU ((shrU (wrU ((andU (shrU (wrU ((andU (shrU xp 1) 6148914691236517205) + (andU xp 6148914691236517205))) 2) 3689348814741910323) + (andU (wrU ((andU (shrU xp 1) 6148914691236517205) + (andU xp 6148914691236517205))) 3689348814741910323))) 4) + (wrU ((andU (shrU (wrU ((andU (shrU xp 1) 6148914691236517205) + (andU xp 6148914691236517205))) 2) 3689348814741910323) + (andU (wrU ((andU (shrU xp 1) 6148914691236517205) + (andU xp 6148914691236517205))) 3689348814741910323))))) 1085102592571150095) 8))) + (shrU (wrU ((andU (wrU ((shrU (wrU ((andU (shrU (wrU ((andU (shrU xp 1) 6148914691236517205) + (andU xp 6148914691236517205))) 2) 3689348814741910323) + (andU (wrU ((andU (shrU xp 1) 6148914691236517205) + (andU xp 6148914691236517205))) 3689348814741910323))) 4) + (wrU ((andU (shrU (wrU ((andU (shrU xp 1) 6148914691236517205) + (andU xp 6148914691236517205))) 2) 3689348814741910323) + (andU (wrU ((andU (shrU xp 1) 6148914691236517205) + (andU xp 6148914691236517205))) 3689348814741910323))))) 1085102592571150095) + (shrU (andU (wrU ((shrU (wrU ((andU (shrU (wrU ((andU (shrU xp 1) 6148914691236517205) + (andU xp 6148914691236517205))) 2) 3689348814741910323) + (andU (wrU ((andU (shrU xp 1) 6148914691236517205) + (andU xp 6148914691236517205))) 3689348814741910323))) 4) + (wrU ((andU (shrU (wrU ((andU (shrU xp 1) 6148914691236517205) + (andU xp 6148914691236517205))) 2) 3689348814741910323) + (andU (wrU ((andU (shrU xp 1) 6148914691236517205) + (andU xp 6148914691236517205))) 3689348814741910323))))) 1085102592571150095) 8))) 16))) + (shrU (wrU ((wrU ((andU (wrU ((shrU (wrU ((andU (shrU (wrU ((andU (shrU xp 1) 6148914691236517205) + (andU xp 6148914691236517205))) 2) 3689348814741910323) + (andU (wrU ((andU (shrU xp 1) 6148914691236517205) + (andU xp 6148914691236517205))) 3689348814741910323))) 4) + (wrU ((andU (shrU (wrU ((andU (shrU xp 1) 6148914691236517205) + (andU xp 6148914691236517205))) 2) 3689348814741910323) + (andU (wrU ((andU (shrU xp 1) 6148914691236517205) + (andU xp 6148914691236517205))) 3689348814741910323))))) 1085102592571150095) + (shrU (andU (wrU ((shrU (wrU ((andU (shrU (wrU ((andU (shrU xp 1) 6148914691236517205) + (andU xp 6148914691236517205))) 2) 3689348814741910323) + (andU (wrU ((andU (shrU xp 1) 6148914691236517205) + (andU xp 6148914691236517205))) 3689348814741910323))) 4) + (wrU ((andU (shrU (wrU ((andU (shrU xp 1) 6148914691236517205) + (andU xp 6148914691236517205))) 2) 3689348814741910323) + (andU (wrU ((andU (shrU xp 1) 6148914691236517205) + (andU xp 6148914691236517205))) 3689348814741910323))))) 1085102592571150095) 8))) + (shrU (wrU ((andU (wrU ((shrU (wrU ((andU (shrU (wrU ((andU (shrU xp 1) 6148914691236517205) + (andU xp 6148914691236517205))) 2) 3689348814741910323) + (andU (wrU ((andU (shrU xp 1) 6148914691236517205) + (andU xp 6148914691236517205))) 3689348814741910323))) 4) + (wrU ((andU (shrU (wrU ((andU (shrU xp 1) 6148914691236517205) + (andU xp 6148914691236517205))) 2) 3689348814741910323) + (andU (wrU ((andU (shrU xp 1) 6148914691236517205) + (andU xp 6148914691236517205))) 3689348814741910323))))) 1085102592571150095) + (shrU (andU (wrU ((shrU (wrU ((andU (shrU (wrU ((andU (shrU xp 1) 6148914691236517205) + (andU xp 6148914691236517205))) 2) 3689348814741910323) + (andU (wrU ((andU (shrU xp 1) 6148914691236517205) + (andU xp 6148914691236517205))) 3689348814741910323))) 4) + (wrU ((andU (shrU (wrU ((andU (shrU xp 1) 6148914691236517205) + (andU xp 6148914691236517205))) 2) 3689348814741910323) + (andU (wrU ((andU (shrU xp 1) 6148914691236517205) + (andU xp 6148914691236517205))) 3689348814741910323))))) 1085102592571150095) 8))) 16))) 32))))]) ⟨rfl, trivial⟩; clear hE78
  refine p_tn ?_
  refine c_seq ?_
  refine c_reg ?_
  refine q_step (v := .int .u64 (wrU ((wrU ((wrU ((andU (wrU ((shrU (wrU ((andU (shrU (wrU ((andU (shrU xp 1) 6148914691236517205) + (andU xp 6148914691236517205))) 2) 3689348814741910323) + (andU (wrU ((andU (shrU xp 1) 6148914691236517205) + (andU xp 6148914691236517205))) 3689348814741910323))) 4) + (wrU ((andU (shrU (wrU ((andU (shrU xp 1) 6148914691236517205) + (andU xp 6148914691236517205))) 2) 3689348814741910323) + (andU (wrU ((andU (shrU xp 1) 6148914691236517205) + (andU xp 6148914691236517205))) 3689348814741910323))))) 1085102592571150095) + (shrU (andU (wrU ((shrU (wrU ((andU (shrU (wrU ((andU (shrU xp 1) 6148914691236517205) + (andU xp 6148914691236517205))) 2) 3689348814741910323) + (andU (wrU ((andU (shrU xp 1) 6148914691236517205) + (andU xp 6148914691236517205))) 3689348814741910323))) 4) + (wrU ((andU (shrU (wrU ((andU (shrU xp 1) 6148914691236517205) + (andU xp 6148914691236517205))) 2) 3689348814741910323) + (andU (wrU ((andU (shrU xp 1) 6148914691236517205) + (andU xp 6148914691236517205))) 3689348814741910323))))) 1085102592571150095) 8))) + (shrU (wrU ((andU (wrU ((shrU (wrU ((andU (shrU (wrU ((andU (shrU xp 1) 6148914691236517205) + (andU xp 6148914691236517205))) 2) 3689348814741910323) + (andU (wrU ((andU (shrU xp 1) 6148914691236517205) + (andU xp 6148914691236517205))) 3689348814741910323))) 4) + (wrU ((andU (shrU (wrU ((andU (shrU xp 1) 6148914691236517205) + (andU xp 6148914691236517205))) 2) 3689348814741910323) + (andU (wrU ((andU (shrU xp 1) 6148914691236517205) + (andU xp 6148914691236517205))) 3689348814741910323))))) 1085102592571150095) + (shrU (andU (wrU ((shrU (wrU ((andU (shrU (wrU ((andU (shrU xp 1) 6148914691236517205) + (andU xp 6148914691236517205))) 2) 3689348814741910323) + (andU (wrU ((andU (shrU xp 1) 6148914691236517205) + (andU xp 6148914691236517205))) 3689348814741910323))) 4) + (wrU ((andU (shrU (wrU ((andU (shrU xp 1) 6148914691236517205) + (andU xp 6148914691236517205))) 2) 3689348814741910323) + (andU (wrU ((andU (shrU xp 1) 6148914691236517205) + (andU xp 6148914691236517205))) 3689348814741910323))))) 1085102592571150095) 8))) 16))) + (shrU (wrU ((wrU ((andU (wrU ((shrU (wrU ((andU (shrU (wrU ((andU (shrU xp 1) 6148914691236517205) + (andU xp 6148914691236517205))) 2) 3689348814741910323) + (andU (wrU ((andU (shrU xp 1) 6148914691236517205) + (andU xp 6148914691236517205))) 3689348814741910323))) 4) + (wrU ((andU (shrU (wrU ((andU (shrU xp 1) 6148914691236517205) + (andU xp 6148914691236517205))) 2) 3689348814741910323) + (andU (wrU ((andU (shrU xp 1) 6148914691236517205) + (andU xp 6148914691236517205))) 3689348814741910323))))) 1085102592571150095) + (shrU (andU (wrU ((shrU (wrU ((andU (shrU (wrU ((andU (shrU xp 1) 6148914691236517205) + (andU xp 6148914691236517205))) 2) 3689348814741910323) + (andU (wrU ((andU (shrU xp 1) 6148914691236517205) + (andU xp 6148914691236517205))) 3689348814741910323))) 4) + (wrU ((andU (shrU (wrU ((andU (shrU xp 1) 6148914691236517205) + (andU xp 6148914691236517205))) 2) 3689348814741910323) + (andU (wrU ((andU (shrU xp 1) 6148914691236517205) + (andU xp 6148914691236517205))) 3689348814741910323))))) 1085102592571150095) 8))) + (shrU (wrU ((andU (wrU ((shrU (wrU ((andU (shrU (wrU ((andU (shrU xp 1) 6148914691236517205) + (andU xp 6148914691236517205))) 2) 3689348814741910323) + (andU (wrU ((andU (shrU xp 1) 6148914691236517205) + (andU xp 6148914691236517205))) 3689348814741910323))) 4) + (wrU ((andU (shrU (wrU ((andU (shrU xp 1) 6148914691236517205) + (andU xp 6148914691236517205))) 2) 3689348814741910323) + (andU (wrU ((andU (shrU xp 1) 6148914691236517205) + (andU xp 6148914691236517205))) 3689348814741910323))))) 1085102592571150095) + (shrU (andU (wrU ((shrU (wrU ((andU (shrU (wrU ((andU (shrU xp 1) 6148914691236517205) + (andU xp 6148914691236517205))) 2) 3689348814741910323) + (andU (wrU ((andU (shrU xp 1) 6148914691236517205) + (andU xp 6148914691236517205))) 3689348814741910323))) 4) + (wrU ((andU (shrU (wrU ((andU (shrU xp 1) 6148914691236517205) + (andU xp 6148914691236517205))) 2) 3689348814741910323) + (andU (wrU ((andU (shrU xp 1) 6148914691236517205) + (andU xp 6148914691236517205))) 3689348814741910323))))) 1085102592571150095) 8))) 16))) 32)))) hE79 (y_move rfl) rfl rfl rfl ?_; intro a80 hE81; clear hE79
  refine q_step (v := .int .i64 (wI (wrU ((wrU ((wrU ((andU (wrU ((shrU (wrU ((andU (shrU (wrU ((andU (shrU xp 1) 6148914691236517205) + (andU xp 6148914691236517205))) 2) 3689348814741910323) + (andU (wrU ((andU (shrU xp 1) 6148914691236517205) + (andU xp 6148914691236517205))) 3689348814741910323))) 4) + (wrU ((andU (shrU (wrU ((andU (shrU xp 1) 6148914691236517205) + (andU xp 6148914691236517205))) 2) 3689348814741910323) + (andU (wrU ((andU (shrU xp 1) 6148914691236517205) + (andU xp 6148914691236517205))) 3689348814741910323))))) 1085102592571150095) + (shrU (andU (wrU ((shrU (wrU ((andU (shrU (wrU ((andU (shrU xp 1) 6148914691236517205) + (andU xp 6148914691236517205))) 2) 3689348814741910323) + (andU (wrU ((andU (shrU xp 1) 6148914691236517205) + (andU xp 6148914691236517205))) 3689348814741910323))) 4) + (wrU ((andU (shrU (wrU ((andU (shrU xp 1) 6148914691236517205) + (andU xp 6148914691236517205))) 2) 3689348814741910323) + (andU (wrU ((andU (shrU xp 1) 6148914691236517205) + (andU xp 6148914691236517205))) 3689348814741910323))))) 1085102592571150095) 8))) + (shrU (wrU ((andU (wrU ((shrU (wrU ((andU (shrU (wrU ((andU (shrU xp 1) 6148914691236517205) + (andU xp 6148914691236517205))) 2) 3689348814741910323) + (andU (wrU ((andU (shrU xp 1) 6148914691236517205) + (andU xp 6148914691236517205))) 3689348814741910323))) 4) + (wrU ((andU (shrU (wrU ((andU (shrU xp 1) 6148914691236517205) + (andU xp 6148914691236517205))) 2) 3689348814741910323) + (andU (wrU ((andU (shrU xp 1) 6148914691236517205) + (andU xp 6148914691236517205))) 3689348814741910323))))) 1085102592571150095) + (shrU (andU (wrU ((shrU (wrU ((andU (shrU (wrU ((andU (shrU xp 1) 6148914691236517205) + (andU xp 6148914691236517205))) 2) 3689348814741910323) + (andU (wrU ((andU (shrU xp 1) 6148914691236517205) + (andU xp 6148914691236517205))) 3689348814741910323))) 4) + (wrU ((andU (shrU (wrU ((andU (shrU xp 1) 6148914691236517205) + (andU xp 6148914691236517205))) 2) 3689348814741910323) + (andU (wrU ((andU (shrU xp 1) 6148914691236517205) + (andU xp 6148914691236517205))) 3689348814741910323))))) 1085102592571150095) 8))) 16))) + (shrU (wrU ((wrU ((andU (wrU ((shrU (wrU ((andU (shrU (wrU ((andU (shrU xp 1) 6148914691236517205) + (andU xp 6148914691236517205))) 2) 3689348814741910323) + (andU (wrU ((andU (shrU xp 1) 6148914691236517205) + (andU xp 6148914691236517205))) 3689348814741910323))) 4) + (wrU ((andU (shrU (wrU ((andU (shrU xp 1) 6148914691236517205) + (andU xp 6148914691236517205))) 2) 3689348814741910323) + (andU (wrU ((andU (shrU xp 1) 6148914691236517205) + (andU xp 6148914691236517205))) 3689348814741910323))))) 1085102592571150095) + (shrU (andU (wrU ((shrU (wrU ((andU (shrU (wrU ((andU (shrU xp 1) 6148914691236517205) + (andU xp 6148914691236517205))) 2) 3689348814741910323) + (andU (wrU ((andU (shrU xp 1) 6148914691236517205) + (andU xp 6148914691236517205))) 3689348814741910323))) 4) + (wrU ((andU (shrU (wrU ((andU (shrU xp 1) 6148914691236517205) + (andU xp 6148914691236517205))) 2) 3689348814741910323) + (andU (wrU ((andU (shrU xp 1) 6148914691236517205) + (andU xp 6148914691236517205))) 3689348814741910323))))) 1085102592571150095) 8))) + (shrU (wrU ((andU (wrU ((shrU (wrU ((andU (shrU (wrU ((andU (shrU xp 1) 6148914691236517205) + (andU xp 6148914691236517205))) 2) 3689348814741910323) + (andU (wrU ((andU (shrU xp 1) 6148914691236517205) + (andU xp 6148914691236517205))) 3689348814741910323))) 4) + (wrU ((andU (shrU (wrU ((andU (shrU xp 1) 6148914691236517205) + (andU xp 6148914691236517205))) 2) 3689348814741910323) + (andU (wrU ((andU (shrU xp 1) 6148914691236517205) + (andU xp 6148914691236517205))) 3689348814741910323))))) 1085102592571150095) + (shrU (andU (wrU ((shrU (wrU ((andU (shrU (wrU ((andU (shrU xp 1) 6148914691236517205) + (andU xp 6148914691236517205))) 2) 3689348814741910323) + (andU (wrU ((andU (shrU xp 1) 6148914691236517205) + (andU xp 6148914691236517205))) 3689348814741910323))) 4) + (wrU ((andU (shrU (wrU ((andU (shrU xp 1) 6148914691236517205) + (andU xp 6148914691236517205))) 2) 3689348814741910323) + (andU (wrU ((andU (shrU xp 1) 6148914691236517205) + (andU xp 6148914691236517205))) 3689348814741910323))))) 1085102592571150095) 8))) 16))) 32))))) hE81 (y_convI (ds := .int .u64) (by kernel_rfl) (by kernel_rfl) rfl) rfl rfl rfl ?_; intro a82 hE83; clear hE81
  refine q_step (v := .int .i64 (andI (wI (wrU ((wrU ((wrU ((andU (wrU ((shrU (wrU ((andU (shrU (wrU ((andU (shrU xp 1) 6148914691236517205) + (andU xp 6148914691236517205))) 2) 3689348814741910323) + (andU (wrU ((andU (shrU xp 1) 6148914691236517205) + (andU xp 6148914691236517205))) 3689348814741910323))) 4) + (wrU ((andU (shrU (wrU ((andU (shrU xp 1) 6148914691236517205) + (andU xp 6148914691236517205))) 2) 3689348814741910323) + (andU (wrU ((andU (shrU xp 1) 6148914691236517205) + (andU xp 6148914691236517205))) 3689348814741910323))))) 1085102592571150095) + (shrU (andU (wrU ((shrU (wrU ((andU (shrU (wrU ((andU (shrU xp 1) 6148914691236517205) + (andU xp 6148914691236517205))) 2) 3689348814741910323) + (andU (wrU ((andU (shrU xp 1) 6148914691236517205) + (andU xp 6148914691236517205))) 3689348814741910323))) 4) + (wrU ((andU (shrU (wrU ((andU (shrU xp 1) 6148914691236517205) + (andU xp 6148914691236517205))) 2) 3689348814741910323) + (andU (wrU ((andU (shrU xp 1) 6148914691236517205) + (andU xp 6148914691236517205))) 3689348814741910323))))) 1085102592571150095) 8))) + (shrU (wrU ((andU (wrU ((shrU (wrU ((andU (shrU (wrU ((andU (shrU xp 1) 6148914691236517205) + (andU xp 6148914691236517205))) 2) 3689348814741910323) + (andU (wrU ((andU (shrU xp 1) 6148914691236517205) + (andU xp 6148914691236517205))) 3689348814741910323))) 4) + (wrU ((andU (shrU (wrU ((andU (shrU xp 1) 6148914691236517205) + (andU xp 6148914691236517205))) 2) 3689348814741910323) + (andU (wrU ((andU (shrU xp 1) 6148914691236517205) + (andU xp 6148914691236517205))) 3689348814741910323))))) 1085102592571150095) + (shrU (andU (wrU ((shrU (wrU ((andU (shrU (wrU ((andU (shrU xp 1) 6148914691236517205) + (andU xp 6148914691236517205))) 2) 3689348814741910323) + (andU (wrU ((andU (shrU xp 1) 6148914691236517205) + (andU xp 6148914691236517205))) 3689348814741910323))) 4) + (wrU ((andU (shrU (wrU ((andU (shrU xp 1) 6148914691236517205) + (andU xp 6148914691236517205))) 2) 3689348814741910323) + (andU (wrU ((andU (shrU xp 1) 6148914691236517205) + (andU xp 6148914691236517205))) 3689348814741910323))))) 1085102592571150095) 8))) 16))) + (shrU (wrU ((wrU ((andU (wrU ((shrU (wrU ((andU (shrU (wrU ((andU (shrU xp 1) 6148914691236517205) + (andU xp 6148914691236517205))) 2) 3689348814741910323) + (andU (wrU ((andU (shrU xp 1) 6148914691236517205) + (andU xp 6148914691236517205))) 3689348814741910323))) 4) + (wrU ((andU (shrU (wrU ((andU (shrU xp 1) 6148914691236517205) + (andU xp 6148914691236517205))) 2) 3689348814741910323) + (andU (wrU ((andU (shrU xp 1) 6148914691236517205) + (andU xp 6148914691236517205))) 3689348814741910323))))) 1085102592571150095) + (shrU (andU (wrU ((shrU (wrU ((andU (shrU (wrU ((andU (shrU xp 1) 6148914691236517205) + (andU xp 6148914691236517205))) 2) 3689348814741910323) + (andU (wrU ((andU (shrU xp 1) 6148914691236517205) + (andU xp 6148914691236517205))) 3689348814741910323))) 4) + (wrU ((andU (shrU (wrU ((andU (shrU xp 1) 6148914691236517205) + (andU xp 6148914691236517205))) 2) 3689348814741910323) + (andU (wrU ((andU (shrU xp 1) 6148914691236517205) + (andU xp 6148914691236517205))) 3689348814741910323))))) 1085102592571150095) 8))) + (shrU (wrU ((andU (wrU ((shrU (wrU ((andU (shrU (wrU ((andU (shrU xp 1) 6148914691236517205) + (andU xp 6148914691236517205))) 2) 3689348814741910323) + (andU (wrU ((andU (shrU xp 1) 6148914691236517205) + (andU xp 6148914691236517205))) 3689348814741910323))) 4) + (wrU ((andU (shrU (wrU ((andU (shrU xp 1) 6148914691236517205) + (andU xp 6148914691236517205))) 2) 3689348814741910323) + (andU (wrU ((andU (shrU xp 1) 6148914691236517205) + (andU xp 6148914691236517205))) 3689348814741910323))))) 1085102592571150095) + (shrU (andU (wrU ((shrU (wrU ((andU (shrU (wrU ((andU (shrU xp 1) 6148914691236517205) + (andU xp 6148914691236517205))) 2) 3689348814741910323) + (andU (wrU ((andU (shrU xp 1) 6148914691236517205) + (andU xp 6148914691236517205))) 3689348814741910323))) 4) + (wrU ((andU (shrU (wrU ((andU (shrU xp 1) 6148914691236517205) + (andU xp 6148914691236517205))) 2) 3689348814741910323) + (andU (wrU ((andU (shrU xp 1) 6148914691236517205) + (andU xp 6148914691236517205))) 3689348814741910323))))) 1085102592571150095) 8))) 16))) 32)))) 127)) hE83 (y_and rfl rfl) rfl rfl rfl ?_; intro a84 hE85; clear hE83
  refine q_step (v := .int .i64 (andI (wI (wrU ((wrU ((wrU ((andU (wrU ((shrU (wrU ((andU (shrU (wrU ((andU (shrU xp 1) 6148914691236517205) + (andU xp 6148914691236517205))) 2) 3689348814741910323) + (andU (wrU ((andU (shrU xp 1) 6148914691236517205) + (andU xp 6148914691236517205))) 3689348814741910323))) 4) + (wrU ((andU (shrU (wrU ((andU (shrU xp 1) 6148914691236517205) + (andU xp 6148914691236517205))) 2) 3689348814741910323) + (andU (wrU ((andU (shrU xp 1) 6148914691236517205) + (andU xp 6148914691236517205))) 3689348814741910323))))) 1085102592571150095) + (shrU (andU (wrU ((shrU (wrU ((andU (shrU (wrU ((andU (shrU xp 1) 6148914691236517205) + (andU xp 6148914691236517205))) 2) 3689348814741910323) + (andU (wrU ((andU (shrU xp 1) 6148914691236517205) + (andU xp 6148914691236517205))) 3689348814741910323))) 4) + (wrU ((andU (shrU (wrU ((andU (shrU xp 1) 6148914691236517205) + (andU xp 6148914691236517205))) 2) 3689348814741910323) + (andU (wrU ((andU (shrU xp 1) 6148914691236517205) + (andU xp 6148914691236517205))) 3689348814741910323))))) 1085102592571150095) 8))) + (shrU (wrU ((andU (wrU ((shrU (wrU ((andU (shrU (wrU ((andU (shrU xp 1) 6148914691236517205) + (andU xp 6148914691236517205))) 2) 3689348814741910323) + (andU (wrU ((andU (shrU xp 1) 6148914691236517205) + (andU xp 6148914691236517205))) 3689348814741910323))) 4) + (wrU ((andU (shrU (wrU ((andU (shrU xp 1) 6148914691236517205) + (andU xp 6148914691236517205))) 2) 3689348814741910323) + (andU (wrU ((andU (shrU xp 1) 6148914691236517205) + (andU xp 6148914691236517205))) 3689348814741910323))))) 1085102592571150095) + (shrU (andU (wrU ((shrU (wrU ((andU (shrU (wrU ((andU (shrU xp 1) 6148914691236517205) + (andU xp 6148914691236517205))) 2) 3689348814741910323) + (andU (wrU ((andU (shrU xp 1) 6148914691236517205) + (andU xp 6148914691236517205))) 3689348814741910323))) 4) + (wrU ((andU (shrU (wrU ((andU (shrU xp 1) 6148914691236517205) + (andU xp 6148914691236517205))) 2) 3689348814741910323) + (andU (wrU ((andU (shrU xp 1) 6148914691236517205) + (andU xp 6148914691236517205))) 3689348814741910323))))) 1085102592571150095) 8))) 16))) + (shrU (wrU ((wrU ((andU (wrU ((shrU (wrU ((andU (shrU (wrU ((andU (shrU xp 1) 6148914691236517205) + (andU xp 6148914691236517205))) 2) 3689348814741910323) + (andU (wrU ((andU (shrU xp 1) 6148914691236517205) + (andU xp 6148914691236517205))) 3689348814741910323))) 4) + (wrU ((andU (shrU (wrU ((andU (shrU xp 1) 6148914691236517205) + (andU xp 6148914691236517205))) 2) 3689348814741910323) + (andU (wrU ((andU (shrU xp 1) 6148914691236517205) + (andU xp 6148914691236517205))) 3689348814741910323))))) 1085102592571150095) + (shrU (andU (wrU ((shrU (wrU ((andU (shrU (wrU ((andU (shrU xp 1) 6148914691236517205) + (andU xp 6148914691236517205))) 2) 3689348814741910323) + (andU (wrU ((andU (shrU xp 1) 6148914691236517205) + (andU xp 6148914691236517205))) 3689348814741910323))) 4) + (wrU ((andU (shrU (wrU ((andU (shrU xp 1) 6148914691236517205) + (andU xp 6148914691236517205))) 2) 3689348814741910323) + (andU (wrU ((andU (shrU xp 1) 6148914691236517205) + (andU xp 6148914691236517205))) 3689348814741910323))))) 1085102592571150095) 8))) + (shrU (wrU ((andU (wrU ((shrU (wrU ((andU (shrU (wrU ((andU (shrU xp 1) 6148914691236517205) + (andU xp 6148914691236517205))) 2) 3689348814741910323) + (andU (wrU ((andU (shrU xp 1) 6148914691236517205) + (andU xp 6148914691236517205))) 3689348814741910323))) 4) + (wrU ((andU (shrU (wrU ((andU (shrU xp 1) 6148914691236517205) + (andU xp 6148914691236517205))) 2) 3689348814741910323) + (andU (wrU ((andU (shrU xp 1) 6148914691236517205) + (andU xp 6148914691236517205))) 3689348814741910323))))) 1085102592571150095) + (shrU (andU (wrU ((shrU (wrU ((andU (shrU (wrU ((andU (shrU xp 1) 6148914691236517205) + (andU xp 6148914691236517205))) 2) 3689348814741910323) + (andU (wrU ((andU (shrU xp 1) 6148914691236517205) + (andU xp 6148914691236517205))) 3689348814741910323))) 4) + (wrU ((andU (shrU (wrU ((andU (shrU xp 1) 6148914691236517205) + (andU xp 6148914691236517205))) 2) 3689348814741910323) + (andU (wrU ((andU (shrU xp 1) 6148914691236517205) + (andU xp 6148914691236517205))) 3689348814741910323))))) 1085102592571150095) 8))) 16))) 32)))) 127)) hE85 (y_assign rfl) rfl rfl rfl ?_; intro a86 hE87; clear hE85
  refine c_nil ?_
  have hE88 := hE87.sub (L' := [(2, .int .i64 (andI (wI (wrU ((wrU ((wrU ((andU (wrU ((shrU (wrU ((andU (shrU (wrU ((andU (shrU xp 1) 6148914691236517205) + (andU xp 6148914691236517205))) 2) 3689348814741910323) + (andU (wrU ((andU (shrU xp 1) 6148914691236517205) + (andU xp 6148914691236517205))) 3689348814741910323))) 4) + (wrU ((andU (shrU (wrU ((andU (shrU xp 1) 6148914691236517205) + (andU xp 6148914691236517205))) 2) 3689348814741910323) + (andU (wrU ((andU (shrU xp 1) 6148914691236517205) + (andU xp 6148914691236517205))) 3689348814741910323))))) 1085102592571150095) + (shrU (andU (wrU ((shrU (wrU ((andU (shrU (wrU ((andU (shrU xp 1) 6148914691236517205) + (andU xp 6148914691236517205))) 2) 3689348814741910323) + (andU (wrU ((andU (shrU xp 1) 6148914691236517205) + (andU xp 6148914691236517205))) 3689348814741910323))) 4) + (wrU ((andU (shrU (wrU ((andU (shrU xp 1) 6148914691236517205) + (andU xp 6148914691236517205))) 2) 3689348814741910323) + (andU (wrU ((andU (shrU xp 1) 6148914691236517205) + (andU xp 6148914691236517205))) 3689348814741910323))))) 1085102592571150095) 8))) + (shrU (wrU ((andU (wrU ((shrU (wrU ((andU (shrU (wrU ((andU (shrU xp 1) 6148914691236517205) + (andU xp 6148914691236517205))) 2) 3689348814741910323) + (andU (wrU ((andU (shrU xp 1) 6148914691236517205) + (andU xp 6148914691236517205))) 3689348814741910323))) 4) + (wrU ((andU (shrU (wrU ((andU (shrU xp 1) 6148914691236517205) + (andU xp 6148914691236517205))) 2) 3689348814741910323) + (andU (wrU ((andU (shrU xp 1) 6148914691236517205) + (andU xp 6148914691236517205))) 3689348814741910323))))) 1085102592571150095) + (shrU (andU (wrU ((shrU (wrU ((andU (shrU (wrU ((andU (shrU xp 1) 6148914691236517205) + (andU xp 6148914691236517205))) 2) 3689348814741910323) + (andU (wrU ((andU (shrU xp 1) 6148914691236517205) + (andU xp 6148914691236517205))) 3689348814741910323))) 4) + (wrU ((andU (shrU (wrU ((andU (shrU xp 1) 6148914691236517205) + (andU xp 6148914691236517205))) 2) 3689348814741910323) + (andU (wrU ((andU (shrU xp 1) 6148914691236517205) + (andU xp 6148914691236517205))) 3689348814741910323))))) 1085102592571150095) 8))) 16))) + (shrU (wrU ((wrU ((andU (wrU ((shrU (wrU ((andU (shrU (wrU ((andU (shrU xp 1) 6148914691236517205) + (andU xp 6148914691236517205))) 2) 3689348814741910323) + (andU (wrU ((andU (shrU xp 1) 6148914691236517205) + (andU xp 6148914691236517205))) 3689348814741910323))) 4) + (wrU ((andU (shrU (wrU ((andU (shrU xp 1) 6148914691236517205) + (andU xp 6148914691236517205))) 2) 3689348814741910323) + (andU (wrU ((andU (shrU xp 1) 6148914691236517205) + (andU xp 6148914691236517205))) 3689348814741910323))))) 1085102592571150095) + (shrU (andU (wrU ((shrU (wrU ((andU (shrU (wrU ((andU (shrU xp 1) 6148914691236517205) + (andU xp 6148914691236517205))) 2) 3689348814741910323) + (andU (wrU ((andU (shrU xp 1) 6148914691236517205) + (andU xp 6148914691236517205))) 3689348814741910323))) 4) + (wrU ((andU (shrU (wrU ((andU (shrU xp 1) 6148914691236517205) + (andU xp 6148914691236517205))) 2) 3689348814741910323) + (andU (wrU ((andU (shrU xp 1) 6148914691236517205) + (andU xp 6148914691236517205))) 3689348814741910323))))) 1085102592571150095) 8))) + (shrU (wrU ((andU (wrU ((shrU (wrU ((andU (shrU (wrU ((andU (shrU xp 1) 6148914691236517205) + (andU xp 6148914691236517205))) 2) 3689348814741910323) + (andU (wrU ((andU (shrU xp 1) 6148914691236517205) + (andU xp 6148914691236517205))) 3689348814741910323))) 4) + (wrU ((andU (shrU (wrU ((andU (shrU xp 1) 6148914691236517205) + (andU xp 6148914691236517205))) 2) 3689348814741910323) + (andU (wrU ((andU (shrU xp 1) 6148914691236517205) + (andU xp 6148914691236517205))) 3689348814741910323))))) 1085102592571150095) + (shrU (andU (wrU ((shrU (wrU ((andU (shrU (wrU ((andU (shrU xp 1) 6148914691236517205) + (andU xp 6148914691236517205))) 2) 3689348814741910323) + (andU (wrU ((andU (shrU xp 1) 6148914691236517205) + (andU xp 6148914691236517205))) 3689348814741910323))) 4) + (wrU ((andU (shrU (wrU ((andU (shrU xp 1) 6148914691236517205) + (andU xp 6148914691236517205))) 2) 3689348814741910323) + (andU (wrU ((andU (shrU xp 1) 6148914691236517205) + (andU xp 6148914691236517205))) 3689348814741910323))))) 1085102592571150095) 8))) 16))) 32)))) 127))]) ⟨rfl, trivial⟩; clear hE87
  refine p_tn ?_
  refine wp_ret ?_
  have hF : F_OnesCount xp = andI (wI (wrU ((wrU ((wrU ((andU (wrU ((shrU (wrU ((andU (shrU (wrU ((andU (shrU xp 1) 6148914691236517205) + (andU xp 6148914691236517205))) 2) 3689348814741910323) + (andU (wrU ((andU (shrU xp 1) 6148914691236517205) + (andU xp 6148914691236517205))) 3689348814741910323))) 4) + (wrU ((andU (shrU (wrU ((andU (shrU xp 1) 6148914691236517205) + (andU xp 6148914691236517205))) 2) 3689348814741910323) + (andU (wrU ((andU (shrU xp 1) 6148914691236517205) + (andU xp 6148914691236517205))) 3689348814741910323))))) 1085102592571150095) + (shrU (andU (wrU ((shrU (wrU ((andU (shrU (wrU ((andU (shrU xp 1) 6148914691236517205) + (andU xp 6148914691236517205))) 2) 3689348814741910323) + (andU (wrU ((andU (shrU xp 1) 6148914691236517205) + (andU xp 6148914691236517205))) 3689348814741910323))) 4) + (wrU ((andU (shrU (wrU ((andU (shrU xp 1) 6148914691236517205) + (andU xp 6148914691236517205))) 2) 3689348814741910323) + (andU (wrU ((andU (shrU xp 1) 6148914691236517205) + (andU xp 6148914691236517205))) 3689348814741910323))))) 1085102592571150095) 8))) + (shrU (wrU ((andU (wrU ((shrU (wrU ((andU (shrU (wrU ((andU (shrU xp 1) 6148914691236517205) + (andU xp 6148914691236517205))) 2) 3689348814741910323) + (andU (wrU ((andU (shrU xp 1) 6148914691236517205) + (andU xp 6148914691236517205))) 3689348814741910323))) 4) + (wrU ((andU (shrU (wrU ((andU (shrU xp 1) 6148914691236517205) + (andU xp 6148914691236517205))) 2) 3689348814741910323) + (andU (wrU ((andU (shrU xp 1) 6148914691236517205) + (andU xp 6148914691236517205))) 3689348814741910323))))) 1085102592571150095) + (shrU (andU (wrU ((shrU (wrU ((andU (shrU (wrU ((andU (shrU xp 1) 6148914691236517205) + (andU xp 6148914691236517205))) 2) 3689348814741910323) + (andU (wrU ((andU (shrU xp 1) 6148914691236517205) + (andU xp 6148914691236517205))) 3689348814741910323))) 4) + (wrU ((andU (shrU (wrU ((andU (shrU xp 1) 6148914691236517205) + (andU xp 6148914691236517205))) 2) 3689348814741910323) + (andU (wrU ((andU (shrU xp 1) 6148914691236517205) + (andU xp 6148914691236517205))) 3689348814741910323))))) 1085102592571150095) 8))) 16))) + (shrU (wrU ((wrU ((andU (wrU ((shrU (wrU ((andU (shrU (wrU ((andU (shrU xp 1) 6148914691236517205) + (andU xp 6148914691236517205))) 2) 3689348814741910323) + (andU (wrU ((andU (shrU xp 1) 6148914691236517205) + (andU xp 6148914691236517205))) 3689348814741910323))) 4) + (wrU ((andU (shrU (wrU ((andU (shrU xp 1) 6148914691236517205) + (andU xp 6148914691236517205))) 2) 3689348814741910323) + (andU (wrU ((andU (shrU xp 1) 6148914691236517205) + (andU xp 6148914691236517205))) 3689348814741910323))))) 1085102592571150095) + (shrU (andU (wrU ((shrU (wrU ((andU (shrU (wrU ((andU (shrU xp 1) 6148914691236517205) + (andU xp 6148914691236517205))) 2) 3689348814741910323) + (andU (wrU ((andU (shrU xp 1) 6148914691236517205) + (andU xp 6148914691236517205))) 3689348814741910323))) 4) + (wrU ((andU (shrU (wrU ((andU (shrU xp 1) 6148914691236517205) + (andU xp 6148914691236517205))) 2) 3689348814741910323) + (andU (wrU ((andU (shrU xp 1) 6148914691236517205) + (andU xp 6148914691236517205))) 3689348814741910323))))) 1085102592571150095) 8))) + (shrU (wrU ((andU (wrU ((shrU (wrU ((andU (shrU (wrU ((andU (shrU xp 1) 6148914691236517205) + (andU xp 6148914691236517205))) 2) 3689348814741910323) + (andU (wrU ((andU (shrU xp 1) 6148914691236517205) + (andU xp 6148914691236517205))) 3689348814741910323))) 4) + (wrU ((andU (shrU (wrU ((andU (shrU xp 1) 6148914691236517205) + (andU xp 6148914691236517205))) 2) 3689348814741910323) + (andU (wrU ((andU (shrU xp 1) 6148914691236517205) + (andU xp 6148914691236517205))) 3689348814741910323))))) 1085102592571150095) + (shrU (andU (wrU ((shrU (wrU ((andU (shrU (wrU ((andU (shrU xp 1) 6148914691236517205) + (andU xp 6148914691236517205))) 2) 3689348814741910323) + (andU (wrU ((andU (shrU xp 1) 6148914691236517205) + (andU xp 6148914691236517205))) 3689348814741910323))) 4) + (wrU ((andU (shrU (wrU ((andU (shrU xp 1) 6148914691236517205) + (andU xp 6148914691236517205))) 2) 3689348814741910323) + (andU (wrU ((andU (shrU xp 1) 6148914691236517205) + (andU xp 6148914691236517205))) 3689348814741910323))))) 1085102592571150095) 8))) 16))) 32)))) 127 := by unfold F_OnesCount; rfl
  refine c_ret1 hE88 rfl rfl ?_
  exact ⟨(by rw [hF]; first | done | (dsimp only; done) | rfl), rfl⟩
def F_countMembers (mask : Int) : Int :=
  F_OnesCount (wrU mask)
theorem cf_countMembers (args : Array Value) (w : World) : (callFunc 224 args).run Try.prog w = .ok (.enter 224 args) w := by kernel_rfl
set_option maxRecDepth 100000 in
theorem c_countMembers (mask : Int) (w : World) :
    Calls Try.prog 224 #[.int .i64 mask] w (Ret fun v w' => v = .int .i64 (F_countMembers mask) ∧ w = w') := by
  have hS := St.nil w
  refine enter (args := [.int .i64 mask]) Try.func224 rfl rfl ?_
  rw [Try.ntmps224]; intro a hE
  have hE := hE.sub (L' := [(0, .int .i64 mask)]) ⟨rfl, trivial⟩
  refine c_seq ?_
  refine c_reg ?_
  refine q_step (v := .int .i64 0) hE (y_assign rfl) rfl rfl rfl ?_; intro a1 hE2; clear hE
  refine c_nil ?_
  have hE3 := hE2.sub (L' := [(0, .int .i64 mask)]) ⟨rfl, trivial⟩; clear hE2
  refine p_tn ?_
  refine c_seq ?_
  refine c_reg ?_
  refine q_step (v := .int .i64 mask) hE3 (y_move rfl) rfl rfl rfl ?_; intro a4 hE5; clear hE3
  refine q_step (v := .int .u64 (wrU mask)) hE5 (y_convU (ds := .int .i64) (by kernel_rfl) (by kernel_rfl) rfl) rfl rfl rfl ?_; intro a6 hE7; clear hE5
  refine l_step hE7 rfl (l_call (f := 226) (argv := [.int .u64 (wrU mask)]) hE7 (fun _ => cf_OnesCount _ _) rfl rfl (c_OnesCount (wrU mask) w) ?_)
  rintro _ _ ⟨rfl, rfl⟩ a10 hE11; clear hE7
  refine q_step (v := .int .i64 (F_OnesCount (wrU mask))) hE11 (y_assign rfl) rfl rfl rfl ?_; intro a14 hE15; clear hE11
  refine c_nil ?_
  have hE16 := hE15.sub (L' := [(2, .int .i64 (F_OnesCount (wrU mask)))]) ⟨rfl, trivial⟩; clear hE15
  refine p_tn ?_
  refine wp_ret ?_
  have hF : F_countMembers mask = F_OnesCount (wrU mask) := by unfold F_countMembers; rfl
  refine c_ret1 hE16 rfl rfl ?_
  exact ⟨(by rw [hF]; first | done | (dsimp only; done) | rfl), rfl⟩
def F_Frame_sees (f0 : Int) (f1 : List Int) (xp : Int) (yp : Int) : Bool :=
  F_has (gI f1 xp) yp
theorem cf_Frame_sees (args : Array Value) (w : World) : (callFunc 176 args).run Try.prog w = .ok (.enter 176 args) w := by kernel_rfl
set_option maxRecDepth 100000 in
theorem c_Frame_sees (f0 : Int) (f1A : Option Addr) (f1N f1C : Nat) (f1 : List Int) (xp : Int) (yp : Int) (w : World) (f1R : RdS w 1 f1A f1N f1C f1) (hx : 0 ≤ xp ∧ xp < (f1.length : Int)) (hy : 0 ≤ yp) :
    Calls Try.prog 176 #[.agg #[.int .i64 f0, .slice f1A f1N f1C], .int .i64 xp, .int .i64 yp] w (Ret fun v w' => v = .bool (F_Frame_sees f0 f1 xp yp) ∧ Ext w w') := by
  obtain rfl : f1N = f1.length := f1R.len1.symm
  have f1Le := f1R.le
  have hS := St.nil w
  have hS1 := St.rd0 hS rfl f1R; clear hS
  refine enter (args := [.agg #[.int .i64 f0, .slice f1A f1.length f1C], .int .i64 xp, .int .i64 yp]) Try.func176 rfl rfl ?_
  rw [Try.ntmps176]; intro a hE
  have hE := hE.sub (L' := [(0, .agg #[.int .i64 f0, .slice f1A f1.length f1C]), (1, .int .i64 xp), (2, .int .i64 yp)]) ⟨rfl, rfl, rfl, trivial⟩
  refine c_seq ?_
  refine c_reg ?_
  refine l_step hE rfl (l_box (v := .agg #[.int .i64 f0, .slice f1A f1.length f1C]) (cs := #[.int .i64 f0, .slice f1A f1.length f1C]) hS1 hE rfl rfl rfl ?_)
  intro b2 w3 hS6 he7 a4 hE5; clear hS1 hE
  refine q_step (v := .bool false) hE5 (y_assign rfl) rfl rfl rfl ?_; intro a8 hE9; clear hE5
  refine c_nil ?_
  have hE10 := hE9.sub (L' := [(1, .int .i64 xp), (2, .int .i64 yp), (3, .pointer (some ⟨b2, 0, none⟩))]) ⟨rfl, rfl, rfl, trivial⟩; clear hE9
  refine p_tn ?_
  refine c_seq ?_
  refine c_reg ?_
  refine q_step (v := .pointer (some ⟨b2, 1, none⟩)) hE10 (y_field rfl (fun _ => by kernel_rfl)) rfl rfl rfl ?_; intro a11 hE12; clear hE10
  refine q_step (v := .slice f1A f1.length f1C) hE12 (y_load (fun _ => by kernel_rfl) rfl (St.cell (i := 0) hS6 rfl rfl)) rfl rfl rfl ?_; intro a13 hE14; clear hE12
  refine q_step (v := .int .i64 xp) hE14 (y_move rfl) rfl rfl rfl ?_; intro a15 hE16; clear hE14
  refine q_step (v := .pointer (some (adr f1A (Int.toNat xp)))) hE16 (y_idx (by kernel_rfl) (fun _ => by kernel_rfl) rfl rfl (RdS.isS (m := xp) (St.rdR (i := 1) hS6 rfl) (by omega) (by omega)) (by omega) (by omega) (Nat.mul_one _).symm) rfl rfl rfl ?_; intro a17 hE18; clear hE16
  refine q_step (v := .int .i64 (gI f1 xp)) hE18 (y_load (fun _ => by kernel_rfl) rfl (RdS.elt (St.rdR (i := 1) hS6 rfl) (by omega) (by omega))) rfl rfl rfl ?_; intro a19 hE20; clear hE18
  refine q_step (v := .int .i64 yp) hE20 (y_move rfl) rfl rfl rfl ?_; intro a21 hE22; clear hE20
  refine l_step hE22 rfl (l_call (f := 177) (argv := [.int .i64 (gI f1 xp), .int .i64 yp]) hE22 (fun _ => cf_has _ _) rfl rfl (c_has (gI f1 xp) yp w3 (by omega)) ?_)
  rintro _ _ ⟨rfl, rfl⟩ a25 hE26; clear hE22
  refine q_step (v := .bool (F_has (gI f1 xp) yp)) hE26 (y_assign rfl) rfl rfl rfl ?_; intro a29 hE30; clear hE26
  refine c_nil ?_
  have hE31 := hE30.sub (L' := [(6, .bool (F_has (gI f1 xp) yp))]) ⟨rfl, trivial⟩; clear hE30
  refine p_tn ?_
  refine wp_ret ?_
  have hF : F_Frame_sees f0 f1 xp yp = F_has (gI f1 xp) yp := by unfold F_Frame_sees; rfl
  refine c_ret1 hE31 rfl rfl ?_
  exact ⟨(by rw [hF]; first | done | (dsimp only; done) | rfl), hS6.ext⟩
def F_Frame_everyPair_L3b (f1 : List Int) (holds : Int → Int → Int → Bool) (t14 : Int) (t22L2 : Int) (rec : Int → Except (Bool) (Int)) (t29L3 : Int) : Except (Bool) (Int) :=
  bif (decide (t29L3 < ((F_membersOf (gI f1 t14)).length : Int))) then (bif (!(holds t14 (gI (F_membersOf (gI f1 t14)) t22L2) (gI (F_membersOf (gI f1 t14)) t29L3))) then (.error false) else (rec (t29L3 + 1))) else (.ok t29L3)
def F_Frame_everyPair_L3 (f1 : List Int) (holds : Int → Int → Int → Bool) (t14 : Int) (t22L2 : Int) : Nat → Int → Except (Bool) (Int)
  | 0, t29L3 => .ok t29L3
  | r + 1, t29L3 => F_Frame_everyPair_L3b f1 holds t14 t22L2 (F_Frame_everyPair_L3 f1 holds t14 t22L2 r) t29L3
def F_Frame_everyPair_L2b (f1 : List Int) (holds : Int → Int → Int → Bool) (t14 : Int) (rec : Int → Except (Bool) (Int)) (t22L2 : Int) : Except (Bool) (Int) :=
  bif (decide (t22L2 < ((F_membersOf (gI f1 t14)).length : Int))) then (bif (isOk (F_Frame_everyPair_L3 f1 holds t14 t22L2 (Int.toNat (((F_membersOf (gI f1 t14)).length : Int) - 0) + 1) 0)) then (rec (t22L2 + 1)) else (.error (errD (F_Frame_everyPair_L3 f1 holds t14 t22L2 (Int.toNat (((F_membersOf (gI f1 t14)).length : Int) - 0) + 1) 0)))) else (.ok t22L2)
def F_Frame_everyPair_L2 (f1 : List Int) (holds : Int → Int → Int → Bool) (t14 : Int) : Nat → Int → Except (Bool) (Int)
  | 0, t22L2 => .ok t22L2
  | r + 1, t22L2 => F_Frame_everyPair_L2b f1 holds t14 (F_Frame_everyPair_L2 f1 holds t14 r) t22L2
def F_Frame_everyPair_L1b (f1 : List Int) (holds : Int → Int → Int → Bool) (rec : Int → Except (Bool) (Int)) (t14 : Int) : Except (Bool) (Int) :=
  bif (decide (t14 < (f1.length : Int))) then (bif (isOk (F_Frame_everyPair_L2 f1 holds t14 (Int.toNat (((F_membersOf (gI f1 t14)).length : Int) - 0) + 1) 0)) then (rec (t14 + 1)) else (.error (errD (F_Frame_everyPair_L2 f1 holds t14 (Int.toNat (((F_membersOf (gI f1 t14)).length : Int) - 0) + 1) 0)))) else (.ok t14)
def F_Frame_everyPair_L1 (f1 : List Int) (holds : Int → Int → Int → Bool) : Nat → Int → Except (Bool) (Int)
  | 0, t14 => .ok t14
  | r + 1, t14 => F_Frame_everyPair_L1b f1 holds (F_Frame_everyPair_L1 f1 holds r) t14
def F_Frame_everyPair (f0 : Int) (f1 : List Int) (holds : Int → Int → Int → Bool) : Bool :=
  bif (isOk (F_Frame_everyPair_L1 f1 holds (Int.toNat ((f1.length : Int) - 0) + 1) 0)) then true else (errD (F_Frame_everyPair_L1 f1 holds (Int.toNat ((f1.length : Int) - 0) + 1) 0))
theorem cf_Frame_everyPair (args : Array Value) (w : World) : (callFunc 215 args).run Try.prog w = .ok (.enter 215 args) w := by kernel_rfl
set_option maxRecDepth 100000 in
theorem c_Frame_everyPair (f0 : Int) (f1A : Option Addr) (f1N f1C : Nat) (f1 : List Int) (holdsF : FuncId) (holdsC : List Value) (holds : Int → Int → Int → Bool) (holdsD : Int → Int → Int → Prop) (w : World) (f1R : RdS w 1 f1A f1N f1C f1) (holdsE : ∀ args w, (callFunc holdsF args).run Try.prog w = .ok (.enter holdsF args) w) (holdsH : ∀ (x0 : Int) (x1 : Int) (x2 : Int) (w' : World), holdsD x0 x1 x2 → Ext w w' → Calls Try.prog holdsF (([.int .i64 x0, .int .i64 x1, .int .i64 x2] ++ holdsC : List Value).toArray) w' (Ret fun v w'' => v = .bool (holds x0 x1 x2) ∧ Ext w' w'')) (hf : 0 ≤ f0 ∧ f0 ≤ 30) (hfl : (f1.length : Int) = f0) (hfm : ∀ m : Int, 0 ≤ m → m < (f1.length : Int) → 0 ≤ gI f1 m ∧ gI f1 m ≤ fullI f0) (holdsDom : ∀ x y z : Int, 0 ≤ x → x < f0 → 0 ≤ y → y < f0 → 0 ≤ z → z < f0 → holdsD x y z) :
    Calls Try.prog 215 #[.agg #[.int .i64 f0, .slice f1A f1N f1C], .func (.func holdsF) #[] holdsC.toArray] w (Ret fun v w' => v = .bool (F_Frame_everyPair f0 f1 holds) ∧ Ext w w') := by
  obtain rfl : f1N = f1.length := f1R.len1.symm
  have f1Le := f1R.le
  have hf8 := fullI_bd (n := f0) (by omega) (by omega)
  have hS := St.nil w
  have hS1 := St.rd0 hS rfl f1R; clear hS
  refine enter (args := [.agg #[.int .i64 f0, .slice f1A f1.length f1C], .func (.func holdsF) #[] holdsC.toArray]) Try.func215 rfl rfl ?_
  rw [Try.ntmps215]; intro a hE
  have hE := hE.sub (L' := [(0, .agg #[.int .i64 f0, .slice f1A f1.length f1C]), (1, .func (.func holdsF) #[] holdsC.toArray)]) ⟨rfl, rfl, trivial⟩
  refine c_seq ?_
  refine c_reg ?_
  refine l_step hE rfl (l_box (v := .agg #[.int .i64 f0, .slice f1A f1.length f1C]) (cs := #[.int .i64 f0, .slice f1A f1.length f1C]) hS1 hE rfl rfl rfl ?_)
  intro b2 w3 hS6 he7 a4 hE5; clear hS1 hE
  refine q_step (v := .bool false) hE5 (y_assign rfl) rfl rfl rfl ?_; intro a8 hE9; clear hE5
  refine c_nil ?_
  have hE10 := hE9.sub (L' := [(1, .func (.func holdsF) #[] holdsC.toArray), (2, .pointer (some ⟨b2, 0, none⟩))]) ⟨rfl, rfl, trivial⟩; clear hE9
  refine p_tn ?_
  refine c_seq ?_
  refine c_seq ?_
  refine c_reg ?_
  refine q_step (v := .pointer (some ⟨b2, 1, none⟩)) hE10 (y_field rfl (fun _ => by kernel_rfl)) rfl rfl rfl ?_; intro a11 hE12; clear hE10
  refine q_step (v := .slice f1A f1.length f1C) hE12 (y_load (fun _ => by kernel_rfl) rfl (St.cell (i := 0) hS6 rfl rfl)) rfl rfl rfl ?_; intro a13 hE14; clear hE12
  refine q_step (v := .int .i64 (f1.length : Int)) hE14 (y_len (e := 2) (by kernel_rfl) rfl) rfl rfl rfl ?_; intro a15 hE16; clear hE14
  refine q_step (v := .int .i64 0) hE16 (y_move rfl) rfl rfl rfl ?_; intro a17 hE18; clear hE16
  refine c_nil ?_
  have hE19 := hE18.sub (L' := [(1, .func (.func holdsF) #[] holdsC.toArray), (12, .slice f1A f1.length f1C), (13, .int .i64 (f1.length : Int)), (14, .int .i64 0)]) ⟨rfl, rfl, rfl, rfl, trivial⟩; clear hE18
  refine p_tn ?_
  refine c_cut1 (fun a' w' => isOk (F_Frame_everyPair_L1 f1 holds (Int.toNat ((f1.length : Int) - 0) + 1) 0) = true ∧ (0 ≤ (okD (F_Frame_everyPair_L1 f1 holds (Int.toNat ((f1.length : Int) - 0) + 1) 0))) ∧ ((okD (F_Frame_everyPair_L1 f1 holds (Int.toNat ((f1.length : Int) - 0) + 1) 0)) ≤ (f1.length : Int)) ∧ E a' 42 [(1, .func (.func holdsF) #[] holdsC.toArray), (12, .slice f1A f1.length f1C), (13, .int .i64 (f1.length : Int)), (14, .int .i64 (okD (F_Frame_everyPair_L1 f1 holds (Int.toNat ((f1.length : Int) - 0) + 1) 0)))] ∧ St w w' [.blk b2 #[.int .i64 f0, .slice f1A f1.length f1C] 57, .rd 1 f1A f1.length f1C f1]) ?_ ?_
  ·
   refine wp_block ?_
   refine c_loop (fun r a' w' => ∃ t14 : Int, F_Frame_everyPair_L1 f1 holds r t14 = F_Frame_everyPair_L1 f1 holds (Int.toNat ((f1.length : Int) - 0) + 1) 0 ∧ Int.toNat ((f1.length : Int) - t14) < r ∧ (0 ≤ t14) ∧ (t14 ≤ (f1.length : Int)) ∧ E a' 42 [(1, .func (.func holdsF) #[] holdsC.toArray), (12, .slice f1A f1.length f1C), (13, .int .i64 (f1.length : Int)), (14, .int .i64 t14)] ∧ St w w' [.blk b2 #[.int .i64 f0, .slice f1A f1.length f1C] 57, .rd 1 f1A f1.length f1C f1]) (r := (Int.toNat ((f1.length : Int) - 0) + 1)) ?_ ?_
   · exact ⟨0, rfl, Nat.lt_succ_self _, (by first | omega | (simp only [sS_len, sL_len]; omega) | (simp only [List.length_replicate, sI_len]; omega) | (simp only [List.length_append, List.length_cons, List.length_nil, sI_len, cond_true, cond_false]; omega) | (simp only [List.length_append, List.length_cons, List.length_nil, sI_len, cond_eq_ite, apply_ite List.length]; split <;> simp only [List.length_append, List.length_cons, List.length_nil, sI_len] <;> omega) | grind), (by first | omega | (simp only [sS_len, sL_len]; omega) | (simp only [List.length_replicate, sI_len]; omega) | (simp only [List.length_append, List.length_cons, List.length_nil, sI_len, cond_true, cond_false]; omega) | (simp only [List.length_append, List.length_cons, List.length_nil, sI_len, cond_eq_ite, apply_ite List.length]; split <;> simp only [List.length_append, List.length_cons, List.length_nil, sI_len] <;> omega) | grind), (hE19.sub (L' := [(1, .func (.func holdsF) #[] holdsC.toArray), (12, .slice f1A f1.length f1C), (13, .int .i64 (f1.length : Int)), (14, .int .i64 0)]) ⟨rfl, rfl, rfl, rfl, trivial⟩), (St.pick (Γ' := [.blk b2 #[.int .i64 f0, .slice f1A f1.length f1C] 57, .rd 1 f1A f1.length f1C f1]) hS6 [0, 1] (by decide) rfl)⟩
   ·
    clear hE19 hS6
    rintro r29 a21 w22 ⟨t14, hT25, hr26, hi27, hi28, hE23, hS24⟩
    obtain ⟨r29, rfl⟩ : ∃ r', r29 = r' + 1 := ⟨r29 - 1, by omega⟩
    refine c_seq ?_
    refine c_reg ?_
    refine q_step (v := .bool (decide (t14 < (f1.length : Int)))) hE23 (y_lss rfl rfl) rfl rfl rfl ?_; intro a30 hE31; clear hE23
    refine c_nil ?_
    have hE32 := hE31.sub (L' := [(1, .func (.func holdsF) #[] holdsC.toArray), (12, .slice f1A f1.length f1C), (13, .int .i64 (f1.length : Int)), (14, .int .i64 t14), (15, .bool (decide (t14 < (f1.length : Int))))]) ⟨rfl, rfl, rfl, rfl, rfl, trivial⟩; clear hE31
    refine p_tn ?_
    refine c_seq ?_
    refine c_cond hE32 rfl (fun ht33 => ?_) (fun ht33 => ?_)
    ·
     have hp34 := of_decide_eq_true ht33
     have hE35 := hE32; rw [ht33] at hE35; clear hE32
     have hx1 := hfm t14 (by omega) (by omega)
     have hml := members_len (mask := gI f1 t14) (n := f1.length) (by omega) hx1.1 (by rw [hfl]; exact hx1.2)
     refine wp_skip ?_
     refine p_tn ?_
     refine c_seq ?_
     refine wp_block ?_
     refine c_seq ?_
     refine c_reg ?_
     refine q_step (v := .int .i64 t14) hE35 (y_move rfl) rfl rfl rfl ?_; intro a36 hE37; clear hE35
     refine q_step (v := .pointer (some (adr f1A (Int.toNat t14)))) hE37 (y_idx (by kernel_rfl) (fun _ => by kernel_rfl) rfl rfl (RdS.isS (m := t14) (St.rdR (i := 1) hS24 rfl) (by omega) (by omega)) (by omega) (by omega) (Nat.mul_one _).symm) rfl rfl rfl ?_; intro a38 hE39; clear hE37
     refine q_step (v := .int .i64 (gI f1 t14)) hE39 (y_load (fun _ => by kernel_rfl) rfl (RdS.elt (St.rdR (i := 1) hS24 rfl) (by omega) (by omega))) rfl rfl rfl ?_; intro a40 hE41; clear hE39
     refine q_step (v := .int .i64 t14) hE41 (y_assign rfl) rfl rfl rfl ?_; intro a42 hE43; clear hE41
     refine q_step (v := .int .i64 (gI f1 t14)) hE43 (y_assign rfl) rfl rfl rfl ?_; intro a44 hE45; clear hE43
     refine c_nil ?_
     have hE46 := hE45.sub (L' := [(1, .func (.func holdsF) #[] holdsC.toArray), (5, .int .i64 t14), (6, .int .i64 (gI f1 t14)), (12, .slice f1A f1.length f1C), (13, .int .i64 (f1.length : Int)), (14, .int .i64 t14)]) ⟨rfl, rfl, rfl, rfl, rfl, rfl, trivial⟩; clear hE45
     refine p_tn ?_
     refine c_seq ?_
     refine c_reg ?_
     refine q_step (v := .int .i64 (gI f1 t14)) hE46 (y_move rfl) rfl rfl rfl ?_; intro a47 hE48; clear hE46
     refine l_step hE48 rfl (l_call (f := 194) (argv := [.int .i64 (gI f1 t14)]) hE48 (fun _ => cf_membersOf _ _) rfl rfl (c_membersOf (gI f1 t14) w22 (by omega) (by omega)) ?_)
     rintro _ w50 ⟨b55, c56, rfl, ho57, he54⟩ a51 hE52; clear hE48
     have hS53 := St.own hS24 he54 ho57; clear hS24
     refine q_step (v := .int .i64 ((F_membersOf (gI f1 t14)).length : Int)) hE52 (y_len (e := 2) (by kernel_rfl) rfl) rfl rfl rfl ?_; intro a58 hE59; clear hE52
     refine q_step (v := .int .i64 0) hE59 (y_move rfl) rfl rfl rfl ?_; intro a60 hE61; clear hE59
     refine c_nil ?_
     have hE62 := hE61.sub (L' := [(1, .func (.func holdsF) #[] holdsC.toArray), (5, .int .i64 t14), (6, .int .i64 (gI f1 t14)), (12, .slice f1A f1.length f1C), (13, .int .i64 (f1.length : Int)), (14, .int .i64 t14), (20, .slice b55 ((F_membersOf (gI f1 t14)).length) c56), (21, .int .i64 ((F_membersOf (gI f1 t14)).length : Int)), (22, .int .i64 0)]) ⟨rfl, rfl, rfl, rfl, rfl, rfl, rfl, rfl, rfl, trivial⟩; clear hE61
     refine p_tn ?_
     refine c_cut1 (fun a' w' => isOk (F_Frame_everyPair_L2 f1 holds t14 (Int.toNat (((F_membersOf (gI f1 t14)).length : Int) - 0) + 1) 0) = true ∧ (0 ≤ (okD (F_Frame_everyPair_L2 f1 holds t14 (Int.toNat (((F_membersOf (gI f1 t14)).length : Int) - 0) + 1) 0))) ∧ ((okD (F_Frame_everyPair_L2 f1 holds t14 (Int.toNat (((F_membersOf (gI f1 t14)).length : Int) - 0) + 1) 0)) ≤ ((F_membersOf (gI f1 t14)).length : Int)) ∧ E a' 42 [(1, .func (.func holdsF) #[] holdsC.toArray), (5, .int .i64 t14), (6, .int .i64 (gI f1 t14)), (12, .slice f1A f1.length f1C), (13, .int .i64 (f1.length : Int)), (14, .int .i64 t14), (20, .slice b55 ((F_membersOf (gI f1 t14)).length) c56), (21, .int .i64 ((F_membersOf (gI f1 t14)).length : Int)), (22, .int .i64 (okD (F_Frame_everyPair_L2 f1 holds t14 (Int.toNat (((F_membersOf (gI f1 t14)).length : Int) - 0) + 1) 0)))] ∧ St w w' [.own 2 1 b55 ((F_membersOf (gI f1 t14)).length) c56 (F_membersOf (gI f1 t14)), .blk b2 #[.int .i64 f0, .slice f1A f1.length f1C] 57, .rd 1 f1A f1.length f1C f1]) ?_ ?_
     ·
      refine wp_block ?_
      refine c_loop (fun r a' w' => ∃ t22L2 : Int, F_Frame_everyPair_L2 f1 holds t14 r t22L2 = F_Frame_everyPair_L2 f1 holds t14 (Int.toNat (((F_membersOf (gI f1 t14)).length : Int) - 0) + 1) 0 ∧ Int.toNat (((F_membersOf (gI f1 t14)).length : Int) - t22L2) < r ∧ (0 ≤ t22L2) ∧ (t22L2 ≤ ((F_membersOf (gI f1 t14)).length : Int)) ∧ E a' 42 [(1, .func (.func holdsF) #[] holdsC.toArray), (5, .int .i64 t14), (6, .int .i64 (gI f1 t14)), (12, .slice f1A f1.length f1C), (13, .int .i64 (f1.length : Int)), (14, .int .i64 t14), (20, .slice b55 ((F_membersOf (gI f1 t14)).length) c56), (21, .int .i64 ((F_membersOf (gI f1 t14)).length : Int)), (22, .int .i64 t22L2)] ∧ St w w' [.own 2 1 b55 ((F_membersOf (gI f1 t14)).length) c56 (F_membersOf (gI f1 t14)), .blk b2 #[.int .i64 f0, .slice f1A f1.length f1C] 57, .rd 1 f1A f1.length f1C f1]) (r := (Int.toNat (((F_membersOf (gI f1 t14)).length : Int) - 0) + 1)) ?_ ?_
      · exact ⟨0, rfl, Nat.lt_succ_self _, (by first | omega | (simp only [sS_len, sL_len]; omega) | (simp only [List.length_replicate, sI_len]; omega) | (simp only [List.length_append, List.length_cons, List.length_nil, sI_len, cond_true, cond_false]; omega) | (simp only [List.length_append, List.length_cons, List.length_nil, sI_len, cond_eq_ite, apply_ite List.length]; split <;> simp only [List.length_append, List.length_cons, List.length_nil, sI_len] <;> omega) | grind), (by first | omega | (simp only [sS_len, sL_len]; omega) | (simp only [List.length_replicate, sI_len]; omega) | (simp only [List.length_append, List.length_cons, List.length_nil, sI_len, cond_true, cond_false]; omega) | (simp only [List.length_append, List.length_cons, List.length_nil, sI_len, cond_eq_ite, apply_ite List.length]; split <;> simp only [List.length_append, List.length_cons, List.length_nil, sI_len] <;> omega) | grind), (hE62.sub (L' := [(1, .func (.func holdsF) #[] holdsC.toArray), (5, .int .i64 t14), (6, .int .i64 (gI f1 t14)), (12, .slice f1A f1.length f1C), (13, .int .i64 (f1.length : Int)), (14, .int .i64 t14), (20, .slice b55 ((F_membersOf (gI f1 t14)).length) c56), (21, .int .i64 ((F_membersOf (gI f1 t14)).length : Int)), (22, .int .i64 0)]) ⟨rfl, rfl, rfl, rfl, rfl, rfl, rfl, rfl, rfl, trivial⟩), (St.pick (Γ' := [.own 2 1 b55 ((F_membersOf (gI f1 t14)).length) c56 (F_membersOf (gI f1 t14)), .blk b2 #[.int .i64 f0, .slice f1A f1.length f1C] 57, .rd 1 f1A f1.length f1C f1]) hS53 [0, 1, 2] (by decide) rfl)⟩
      ·
       clear hE62 hS53
       rintro r72 a64 w65 ⟨t22L2, hT68, hr69, hi70, hi71, hE66, hS67⟩
       obtain ⟨r72, rfl⟩ : ∃ r', r72 = r' + 1 := ⟨r72 - 1, by omega⟩
       refine c_seq ?_
       refine c_reg ?_
       refine q_step (v := .bool (decide (t22L2 < ((F_membersOf (gI f1 t14)).length : Int)))) hE66 (y_lss rfl rfl) rfl rfl rfl ?_; intro a73 hE74; clear hE66
       refine c_nil ?_
       have hE75 := hE74.sub (L' := [(1, .func (.func holdsF) #[] holdsC.toArray), (5, .int .i64 t14), (6, .int .i64 (gI f1 t14)), (12, .slice f1A f1.length f1C), (13, .int .i64 (f1.length : Int)), (14, .int .i64 t14), (20, .slice b55 ((F_membersOf (gI f1 t14)).length) c56), (21, .int .i64 ((F_membersOf (gI f1 t14)).length : Int)), (22, .int .i64 t22L2), (23, .bool (decide (t22L2 < ((F_membersOf (gI f1 t14)).length : Int))))]) ⟨rfl, rfl, rfl, rfl, rfl, rfl, rfl, rfl, rfl, rfl, trivial⟩; clear hE74
       refine p_tn ?_
       refine c_seq ?_
       refine c_cond hE75 rfl (fun ht76 => ?_) (fun ht76 => ?_)
       ·
        have hp77 := of_decide_eq_true ht76
        have hE78 := hE75; rw [ht76] at hE78; clear hE75
        have hm1 := members_lt (mask := gI f1 t14) (n := f1.length) (by omega) hx1.1 (by rw [hfl]; exact hx1.2) t22L2 (by omega) (by omega)
        refine wp_skip ?_
        refine p_tn ?_
        refine c_seq ?_
        refine wp_block ?_
        refine c_seq ?_
        refine c_reg ?_
        refine q_step (v := .pointer (some (adr b55 (Int.toNat t22L2)))) hE78 (y_idx (by kernel_rfl) (fun _ => by kernel_rfl) rfl rfl (RdS.isS (m := t22L2) (St.rdO (i := 0) hS67 rfl) (by omega) (by omega)) (by omega) (by omega) (Nat.mul_one _).symm) rfl rfl rfl ?_; intro a79 hE80; clear hE78
        refine q_step (v := .int .i64 (gI (F_membersOf (gI f1 t14)) t22L2)) hE80 (y_load (fun _ => by kernel_rfl) rfl (RdS.elt (St.rdO (i := 0) hS67 rfl) (by omega) (by omega))) rfl rfl rfl ?_; intro a81 hE82; clear hE80
        refine q_step (v := .int .i64 (gI (F_membersOf (gI f1 t14)) t22L2)) hE82 (y_assign rfl) rfl rfl rfl ?_; intro a83 hE84; clear hE82
        refine c_nil ?_
        have hE85 := hE84.sub (L' := [(1, .func (.func holdsF) #[] holdsC.toArray), (5, .int .i64 t14), (6, .int .i64 (gI f1 t14)), (8, .int .i64 (gI (F_membersOf (gI f1 t14)) t22L2)), (12, .slice f1A f1.length f1C), (13, .int .i64 (f1.length : Int)), (14, .int .i64 t14), (20, .slice b55 ((F_membersOf (gI f1 t14)).length) c56), (21, .int .i64 ((F_membersOf (gI f1 t14)).length : Int)), (22, .int .i64 t22L2)]) ⟨rfl, rfl, rfl, rfl, rfl, rfl, rfl, rfl, rfl, rfl, trivial⟩; clear hE84
        refine p_tn ?_
        refine c_seq ?_
        refine c_reg ?_
        refine q_step (v := .int .i64 (gI f1 t14)) hE85 (y_move rfl) rfl rfl rfl ?_; intro a86 hE87; clear hE85
        refine l_step hE87 rfl (l_call (f := 194) (argv := [.int .i64 (gI f1 t14)]) hE87 (fun _ => cf_membersOf _ _) rfl rfl (c_membersOf (gI f1 t14) w65 (by omega) (by omega)) ?_)
        rintro _ w89 ⟨b94, c95, rfl, ho96, he93⟩ a90 hE91; clear hE87
        have hS92 := St.own hS67 he93 ho96; clear hS67
        refine q_step (v := .int .i64 ((F_membersOf (gI f1 t14)).length : Int)) hE91 (y_len (e := 2) (by kernel_rfl) rfl) rfl rfl rfl ?_; intro a97 hE98; clear hE91
        refine q_step (v := .int .i64 0) hE98 (y_move rfl) rfl rfl rfl ?_; intro a99 hE100; clear hE98
        refine c_nil ?_
        have hE101 := hE100.sub (L' := [(1, .func (.func holdsF) #[] holdsC.toArray), (5, .int .i64 t14), (6, .int .i64 (gI f1 t14)), (8, .int .i64 (gI (F_membersOf (gI f1 t14)) t22L2)), (12, .slice f1A f1.length f1C), (13, .int .i64 (f1.length : Int)), (14, .int .i64 t14), (20, .slice b55 ((F_membersOf (gI f1 t14)).length) c56), (21, .int .i64 ((F_membersOf (gI f1 t14)).length : Int)), (22, .int .i64 t22L2), (27, .slice b94 ((F_membersOf (gI f1 t14)).length) c95), (28, .int .i64 ((F_membersOf (gI f1 t14)).length : Int)), (29, .int .i64 0)]) ⟨rfl, rfl, rfl, rfl, rfl, rfl, rfl, rfl, rfl, rfl, rfl, rfl, rfl, trivial⟩; clear hE100
        refine p_tn ?_
        refine c_cut1 (fun a' w' => isOk (F_Frame_everyPair_L3 f1 holds t14 t22L2 (Int.toNat (((F_membersOf (gI f1 t14)).length : Int) - 0) + 1) 0) = true ∧ (0 ≤ (okD (F_Frame_everyPair_L3 f1 holds t14 t22L2 (Int.toNat (((F_membersOf (gI f1 t14)).length : Int) - 0) + 1) 0))) ∧ ((okD (F_Frame_everyPair_L3 f1 holds t14 t22L2 (Int.toNat (((F_membersOf (gI f1 t14)).length : Int) - 0) + 1) 0)) ≤ ((F_membersOf (gI f1 t14)).length : Int)) ∧ E a' 42 [(1, .func (.func holdsF) #[] holdsC.toArray), (5, .int .i64 t14), (6, .int .i64 (gI f1 t14)), (8, .int .i64 (gI (F_membersOf (gI f1 t14)) t22L2)), (12, .slice f1A f1.length f1C), (13, .int .i64 (f1.length : Int)), (14, .int .i64 t14), (20, .slice b55 ((F_membersOf (gI f1 t14)).length) c56), (21, .int .i64 ((F_membersOf (gI f1 t14)).length : Int)), (22, .int .i64 t22L2), (27, .slice b94 ((F_membersOf (gI f1 t14)).length) c95), (28, .int .i64 ((F_membersOf (gI f1 t14)).length : Int)), (29, .int .i64 (okD (F_Frame_everyPair_L3 f1 holds t14 t22L2 (Int.toNat (((F_membersOf (gI f1 t14)).length : Int) - 0) + 1) 0)))] ∧ St w w' [.own 2 1 b94 ((F_membersOf (gI f1 t14)).length) c95 (F_membersOf (gI f1 t14)), .own 2 1 b55 ((F_membersOf (gI f1 t14)).length) c56 (F_membersOf (gI f1 t14)), .blk b2 #[.int .i64 f0, .slice f1A f1.length f1C] 57, .rd 1 f1A f1.length f1C f1]) ?_ ?_
        ·
         refine wp_block ?_
         refine c_loop (fun r a' w' => ∃ t29L3 : Int, F_Frame_everyPair_L3 f1 holds t14 t22L2 r t29L3 = F_Frame_everyPair_L3 f1 holds t14 t22L2 (Int.toNat (((F_membersOf (gI f1 t14)).length : Int) - 0) + 1) 0 ∧ Int.toNat (((F_membersOf (gI f1 t14)).length : Int) - t29L3) < r ∧ (0 ≤ t29L3) ∧ (t29L3 ≤ ((F_membersOf (gI f1 t14)).length : Int)) ∧ E a' 42 [(1, .func (.func holdsF) #[] holdsC.toArray), (5, .int .i64 t14), (6, .int .i64 (gI f1 t14)), (8, .int .i64 (gI (F_membersOf (gI f1 t14)) t22L2)), (12, .slice f1A f1.length f1C), (13, .int .i64 (f1.length : Int)), (14, .int .i64 t14), (20, .slice b55 ((F_membersOf (gI f1 t14)).length) c56), (21, .int .i64 ((F_membersOf (gI f1 t14)).length : Int)), (22, .int .i64 t22L2), (27, .slice b94 ((F_membersOf (gI f1 t14)).length) c95), (28, .int .i64 ((F_membersOf (gI f1 t14)).length : Int)), (29, .int .i64 t29L3)] ∧ St w w' [.own 2 1 b94 ((F_membersOf (gI f1 t14)).length) c95 (F_membersOf (gI f1 t14)), .own 2 1 b55 ((F_membersOf (gI f1 t14)).length) c56 (F_membersOf (gI f1 t14)), .blk b2 #[.int .i64 f0, .slice f1A f1.length f1C] 57, .rd 1 f1A f1.length f1C f1]) (r := (Int.toNat (((F_membersOf (gI f1 t14)).length : Int) - 0) + 1)) ?_ ?_
         · exact ⟨0, rfl, Nat.lt_succ_self _, (by first | omega | (simp only [sS_len, sL_len]; omega) | (simp only [List.length_replicate, sI_len]; omega) | (simp only [List.length_append, List.length_cons, List.length_nil, sI_len, cond_true, cond_false]; omega) | (simp only [List.length_append, List.length_cons, List.length_nil, sI_len, cond_eq_ite, apply_ite List.length]; split <;> simp only [List.length_append, List.length_cons, List.length_nil, sI_len] <;> omega) | grind), (by first | omega | (simp only [sS_len, sL_len]; omega) | (simp only [List.length_replicate, sI_len]; omega) | (simp only [List.length_append, List.length_cons, List.length_nil, sI_len, cond_true, cond_false]; omega) | (simp only [List.length_append, List.length_cons, List.length_nil, sI_len, cond_eq_ite, apply_ite List.length]; split <;> simp only [List.length_append, List.length_cons, List.length_nil, sI_len] <;> omega) | grind), (hE101.sub (L' := [(1, .func (.func holdsF) #[] holdsC.toArray), (5, .int .i64 t14), (6, .int .i64 (gI f1 t14)), (8, .int .i64 (gI (F_membersOf (gI f1 t14)) t22L2)), (12, .slice f1A f1.length f1C), (13, .int .i64 (f1.length : Int)), (14, .int .i64 t14), (20, .slice b55 ((F_membersOf (gI f1 t14)).length) c56), (21, .int .i64 ((F_membersOf (gI f1 t14)).length : Int)), (22, .int .i64 t22L2), (27, .slice b94 ((F_membersOf (gI f1 t14)).length) c95), (28, .int .i64 ((F_membersOf (gI f1 t14)).length : Int)), (29, .int .i64 0)]) ⟨rfl, rfl, rfl, rfl, rfl, rfl, rfl, rfl, rfl, rfl, rfl, rfl, rfl, trivial⟩), (St.pick (Γ' := [.own 2 1 b94 ((F_membersOf (gI f1 t14)).length) c95 (F_membersOf (gI f1 t14)), .own 2 1 b55 ((F_membersOf (gI f1 t14)).length) c56 (F_membersOf (gI f1 t14)), .blk b2 #[.int .i64 f0, .slice f1A f1.length f1C] 57, .rd 1 f1A f1.length f1C f1]) hS92 [0, 1, 2, 3] (by decide) rfl)⟩
         ·
          clear hE101 hS92
          rintro r111 a103 w104 ⟨t29L3, hT107, hr108, hi109, hi110, hE105, hS106⟩
          obtain ⟨r111, rfl⟩ : ∃ r', r111 = r' + 1 := ⟨r111 - 1, by omega⟩
          refine c_seq ?_
          refine c_reg ?_
          refine q_step (v := .bool (decide (t29L3 < ((F_membersOf (gI f1 t14)).length : Int)))) hE105 (y_lss rfl rfl) rfl rfl rfl ?_; intro a112 hE113; clear hE105
          refine c_nil ?_
          have hE114 := hE113.sub (L' := [(1, .func (.func holdsF) #[] holdsC.toArray), (5, .int .i64 t14), (6, .int .i64 (gI f1 t14)), (8, .int .i64 (gI (F_membersOf (gI f1 t14)) t22L2)), (12, .slice f1A f1.length f1C), (13, .int .i64 (f1.length : Int)), (14, .int .i64 t14), (20, .slice b55 ((F_membersOf (gI f1 t14)).length) c56), (21, .int .i64 ((F_membersOf (gI f1 t14)).length : Int)), (22, .int .i64 t22L2), (27, .slice b94 ((F_membersOf (gI f1 t14)).length) c95), (28, .int .i64 ((F_membersOf (gI f1 t14)).length : Int)), (29, .int .i64 t29L3), (30, .bool (decide (t29L3 < ((F_membersOf (gI f1 t14)).length : Int))))]) ⟨rfl, rfl, rfl, rfl, rfl, rfl, rfl, rfl, rfl, rfl, rfl, rfl, rfl, rfl, trivial⟩; clear hE113
          refine p_tn ?_
          refine c_seq ?_
          refine c_cond hE114 rfl (fun ht115 => ?_) (fun ht115 => ?_)
          ·
           have hp116 := of_decide_eq_true ht115
           have hE117 := hE114; rw [ht115] at hE117; clear hE114
           have hm2 := members_lt (mask := gI f1 t14) (n := f1.length) (by omega) hx1.1 (by rw [hfl]; exact hx1.2) t29L3 (by omega) (by omega)
           refine wp_skip ?_
           refine p_tn ?_
           refine c_seq ?_
           refine wp_block ?_
           refine c_seq ?_
           refine c_reg ?_
           refine q_step (v := .pointer (some (adr b94 (Int.toNat t29L3)))) hE117 (y_idx (by kernel_rfl) (fun _ => by kernel_rfl) rfl rfl (RdS.isS (m := t29L3) (St.rdO (i := 0) hS106 rfl) (by omega) (by omega)) (by omega) (by omega) (Nat.mul_one _).symm) rfl rfl rfl ?_; intro a118 hE119; clear hE117
           refine q_step (v := .int .i64 (gI (F_membersOf (gI f1 t14)) t29L3)) hE119 (y_load (fun _ => by kernel_rfl) rfl (RdS.elt (St.rdO (i := 0) hS106 rfl) (by omega) (by omega))) rfl rfl rfl ?_; intro a120 hE121; clear hE119
           refine q_step (v := .int .i64 (gI (F_membersOf (gI f1 t14)) t29L3)) hE121 (y_assign rfl) rfl rfl rfl ?_; intro a122 hE123; clear hE121
           refine c_nil ?_
           have hE124 := hE123.sub (L' := [(1, .func (.func holdsF) #[] holdsC.toArray), (5, .int .i64 t14), (6, .int .i64 (gI f1 t14)), (8, .int .i64 (gI (F_membersOf (gI f1 t14)) t22L2)), (10, .int .i64 (gI (F_membersOf (gI f1 t14)) t29L3)), (12, .slice f1A f1.length f1C), (13, .int .i64 (f1.length : Int)), (14, .int .i64 t14), (20, .slice b55 ((F_membersOf (gI f1 t14)).length) c56), (21, .int .i64 ((F_membersOf (gI f1 t14)).length : Int)), (22, .int .i64 t22L2), (27, .slice b94 ((F_membersOf (gI f1 t14)).length) c95), (28, .int .i64 ((F_membersOf (gI f1 t14)).length : Int)), (29, .int .i64 t29L3)]) ⟨rfl, rfl, rfl, rfl, rfl, rfl, rfl, rfl, rfl, rfl, rfl, rfl, rfl, rfl, trivial⟩; clear hE123
           refine p_tn ?_
           refine c_seq ?_
           refine c_reg ?_
           refine q_step (v := .func (.func holdsF) #[] holdsC.toArray) hE124 (y_move rfl) rfl rfl rfl ?_; intro a125 hE126; clear hE124
           refine q_step (v := .int .i64 t14) hE126 (y_move rfl) rfl rfl rfl ?_; intro a127 hE128; clear hE126
           refine q_step (v := .int .i64 (gI (F_membersOf (gI f1 t14)) t22L2)) hE128 (y_move rfl) rfl rfl rfl ?_; intro a129 hE130; clear hE128
           refine q_step (v := .int .i64 (gI (F_membersOf (gI f1 t14)) t29L3)) hE130 (y_move rfl) rfl rfl rfl ?_; intro a131 hE132; clear hE130
           refine l_step hE132 rfl (l_callv (f := holdsF) (caps := holdsC) (argv := [.int .i64 t14, .int .i64 (gI (F_membersOf (gI f1 t14)) t22L2), .int .i64 (gI (F_membersOf (gI f1 t14)) t29L3)]) hE132 rfl (fun _ => holdsE _ _) rfl rfl (holdsH t14 (gI (F_membersOf (gI f1 t14)) t22L2) (gI (F_membersOf (gI f1 t14)) t29L3) w104 (holdsDom t14 _ _ (by omega) (by omega) hm1.1 (by omega) hm2.1 (by omega)) hS106.ext) ?_)
           rintro _ w134 ⟨rfl, he138⟩ a135 hE136; clear hE132
           have hS137 := St.go hS106 he138; clear hS106
           refine q_step (v := .bool (!(holds t14 (gI (F_membersOf (gI f1 t14)) t22L2) (gI (F_membersOf (gI f1 t14)) t29L3)))) hE136 (y_not rfl) rfl rfl rfl ?_; intro a139 hE140; clear hE136
           refine c_nil ?_
           have hE141 := hE140.sub (L' := [(1, .func (.func holdsF) #[] holdsC.toArray), (5, .int .i64 t14), (6, .int .i64 (gI f1 t14)), (8, .int .i64 (gI (F_membersOf (gI f1 t14)) t22L2)), (12, .slice f1A f1.length f1C), (13, .int .i64 (f1.length : Int)), (14, .int .i64 t14), (20, .slice b55 ((F_membersOf (gI f1 t14)).length) c56), (21, .int .i64 ((F_membersOf (gI f1 t14)).length : Int)), (22, .int .i64 t22L2), (27, .slice b94 ((F_membersOf (gI f1 t14)).length) c95), (28, .int .i64 ((F_membersOf (gI f1 t14)).length : Int)), (29, .int .i64 t29L3), (38, .bool (!(holds t14 (gI (F_membersOf (gI f1 t14)) t22L2) (gI (F_membersOf (gI f1 t14)) t29L3))))]) ⟨rfl, rfl, rfl, rfl, rfl, rfl, rfl, rfl, rfl, rfl, rfl, rfl, rfl, rfl, trivial⟩; clear hE140
           refine p_tn ?_
           refine c_cond hE141 rfl (fun ht142 => ?_) (fun ht142 => ?_)
           ·
            have ht143 := bn_t ht142
            have hE144 := hE141; rw [ht142] at hE144; clear hE141
            refine c_seq ?_
            refine c_reg ?_
            refine q_step (v := .bool false) hE144 (y_assign rfl) rfl rfl rfl ?_; intro a145 hE146; clear hE144
            refine c_nil ?_
            have hE147 := hE146.sub (L' := [(4, .bool false)]) ⟨rfl, trivial⟩; clear hE146
            refine p_tn ?_
            refine wp_ret ?_
            refine p_br ?_
            refine p_tr ?_
            have hX148 : F_Frame_everyPair_L3 f1 holds t14 t22L2 (Int.toNat (((F_membersOf (gI f1 t14)).length : Int) - 0) + 1) 0 = .error false := hT107.symm.trans (show F_Frame_everyPair_L3b f1 holds t14 t22L2 (F_Frame_everyPair_L3 f1 holds t14 t22L2 r111) t29L3 = .error false by unfold F_Frame_everyPair_L3b; rw [ht142, ht115]; first | done | rfl)
            refine p_tr (p_br (p_tr ?_))
            refine p_br ?_
            refine p_tr ?_
            have hX149 : F_Frame_everyPair_L2 f1 holds t14 (Int.toNat (((F_membersOf (gI f1 t14)).length : Int) - 0) + 1) 0 = .error false := hT68.symm.trans (show F_Frame_everyPair_L2b f1 holds t14 (F_Frame_everyPair_L2 f1 holds t14 r72) t22L2 = .error false by unfold F_Frame_everyPair_L2b; rw [hX148, ht76]; first | done | rfl)
            refine p_tr (p_br (p_tr ?_))
            refine p_br ?_
            refine p_tr ?_
            have hX150 : F_Frame_everyPair_L1 f1 holds (Int.toNat ((f1.length : Int) - 0) + 1) 0 = .error false := hT25.symm.trans (show F_Frame_everyPair_L1b f1 holds (F_Frame_everyPair_L1 f1 holds r29) t14 = .error false by unfold F_Frame_everyPair_L1b; rw [hX149, ht33]; first | done | rfl)
            refine p_tr (p_br (p_tr ?_))
            refine p_tr ?_
            have hF : F_Frame_everyPair f0 f1 holds = false := by unfold F_Frame_everyPair; rw [hX150]; first | done | rfl
            refine c_ret1 hE147 rfl rfl ?_
            exact ⟨(by rw [hF]; first | done | (dsimp only; done) | rfl), hS137.ext⟩
           ·
            have ht151 := bn_f ht142
            have hE152 := hE141; rw [ht142] at hE152; clear hE141
            refine wp_skip ?_
            refine p_bn ?_
            refine p_tn ?_
            refine c_reg ?_
            refine q_step (v := .int .i64 (t29L3 + 1)) hE152 (y_add rfl rfl ⟨(by omega), (by omega)⟩) rfl rfl rfl ?_; intro a153 hE154; clear hE152
            refine q_step (v := .int .i64 (t29L3 + 1)) hE154 (y_move rfl) rfl rfl rfl ?_; intro a155 hE156; clear hE154
            refine c_nil ?_
            have hE157 := hE156.sub (L' := [(1, .func (.func holdsF) #[] holdsC.toArray), (5, .int .i64 t14), (6, .int .i64 (gI f1 t14)), (8, .int .i64 (gI (F_membersOf (gI f1 t14)) t22L2)), (12, .slice f1A f1.length f1C), (13, .int .i64 (f1.length : Int)), (14, .int .i64 t14), (20, .slice b55 ((F_membersOf (gI f1 t14)).length) c56), (21, .int .i64 ((F_membersOf (gI f1 t14)).length : Int)), (22, .int .i64 t22L2), (27, .slice b94 ((F_membersOf (gI f1 t14)).length) c95), (28, .int .i64 ((F_membersOf (gI f1 t14)).length : Int)), (29, .int .i64 (t29L3 + 1))]) ⟨rfl, rfl, rfl, rfl, rfl, rfl, rfl, rfl, rfl, rfl, rfl, rfl, rfl, trivial⟩; clear hE156
            refine p_tn ⟨r111, Nat.lt_succ_self _, t29L3 + 1, (hT107.symm.trans (show F_Frame_everyPair_L3b f1 holds t14 t22L2 (F_Frame_everyPair_L3 f1 holds t14 t22L2 r111) t29L3 = F_Frame_everyPair_L3 f1 holds t14 t22L2 r111 (t29L3 + 1) by unfold F_Frame_everyPair_L3b; rw [ht142, ht115]; first | done | rfl)).symm, (by omega), (by first | omega | (simp only [sS_len, sL_len]; omega) | (simp only [List.length_replicate, sI_len]; omega) | (simp only [List.length_append, List.length_cons, List.length_nil, sI_len, cond_true, cond_false]; omega) | (simp only [List.length_append, List.length_cons, List.length_nil, sI_len, cond_eq_ite, apply_ite List.length]; split <;> simp only [List.length_append, List.length_cons, List.length_nil, sI_len] <;> omega) | grind), (by first | omega | (simp only [sS_len, sL_len]; omega) | (simp only [List.length_replicate, sI_len]; omega) | (simp only [List.length_append, List.length_cons, List.length_nil, sI_len, cond_true, cond_false]; omega) | (simp only [List.length_append, List.length_cons, List.length_nil, sI_len, cond_eq_ite, apply_ite List.length]; split <;> simp only [List.length_append, List.length_cons, List.length_nil, sI_len] <;> omega) | grind), (hE157.sub (L' := [(1, .func (.func holdsF) #[] holdsC.toArray), (5, .int .i64 t14), (6, .int .i64 (gI f1 t14)), (8, .int .i64 (gI (F_membersOf (gI f1 t14)) t22L2)), (12, .slice f1A f1.length f1C), (13, .int .i64 (f1.length : Int)), (14, .int .i64 t14), (20, .slice b55 ((F_membersOf (gI f1 t14)).length) c56), (21, .int .i64 ((F_membersOf (gI f1 t14)).length : Int)), (22, .int .i64 t22L2), (27, .slice b94 ((F_membersOf (gI f1 t14)).length) c95), (28, .int .i64 ((F_membersOf (gI f1 t14)).length : Int)), (29, .int .i64 (t29L3 + 1))]) ⟨rfl, rfl, rfl, rfl, rfl, rfl, rfl, rfl, rfl, rfl, rfl, rfl, rfl, trivial⟩), (St.pick (Γ' := [.own 2 1 b94 ((F_membersOf (gI f1 t14)).length) c95 (F_membersOf (gI f1 t14)), .own 2 1 b55 ((F_membersOf (gI f1 t14)).length) c56 (F_membersOf (gI f1 t14)), .blk b2 #[.int .i64 f0, .slice f1A f1.length f1C] 57, .rd 1 f1A f1.length f1C f1]) hS137 [0, 1, 2, 3] (by decide) rfl)⟩
          ·
           have hp158 := of_decide_eq_false ht115
           have hE159 := hE114; rw [ht115] at hE159; clear hE114
           refine wp_exit ?_
           refine p_te ?_
           have hX160 : F_Frame_everyPair_L3 f1 holds t14 t22L2 (Int.toNat (((F_membersOf (gI f1 t14)).length : Int) - 0) + 1) 0 = .ok t29L3 := hT107.symm.trans (show F_Frame_everyPair_L3b f1 holds t14 t22L2 (F_Frame_everyPair_L3 f1 holds t14 t22L2 r111) t29L3 = .ok t29L3 by unfold F_Frame_everyPair_L3b; rw [ht115]; first | done | rfl)
           refine p_te (p_be (p_tn ?_))
           exact ⟨(by rw [hX160]; rfl), (by rw [hX160]; exact (show 0 ≤ t29L3 from (by first | omega | (simp only [sS_len, sL_len]; omega) | (simp only [List.length_replicate, sI_len]; omega) | (simp only [List.length_append, List.length_cons, List.length_nil, sI_len, cond_true, cond_false]; omega) | (simp only [List.length_append, List.length_cons, List.length_nil, sI_len, cond_eq_ite, apply_ite List.length]; split <;> simp only [List.length_append, List.length_cons, List.length_nil, sI_len] <;> omega) | grind))), (by rw [hX160]; exact (show t29L3 ≤ ((F_membersOf (gI f1 t14)).length : Int) from (by first | omega | (simp only [sS_len, sL_len]; omega) | (simp only [List.length_replicate, sI_len]; omega) | (simp only [List.length_append, List.length_cons, List.length_nil, sI_len, cond_true, cond_false]; omega) | (simp only [List.length_append, List.length_cons, List.length_nil, sI_len, cond_eq_ite, apply_ite List.length]; split <;> simp only [List.length_append, List.length_cons, List.length_nil, sI_len] <;> omega) | grind))), (by rw [hX160]; exact (hE159.sub (L' := [(1, .func (.func holdsF) #[] holdsC.toArray), (5, .int .i64 t14), (6, .int .i64 (gI f1 t14)), (8, .int .i64 (gI (F_membersOf (gI f1 t14)) t22L2)), (12, .slice f1A f1.length f1C), (13, .int .i64 (f1.length : Int)), (14, .int .i64 t14), (20, .slice b55 ((F_membersOf (gI f1 t14)).length) c56), (21, .int .i64 ((F_membersOf (gI f1 t14)).length : Int)), (22, .int .i64 t22L2), (27, .slice b94 ((F_membersOf (gI f1 t14)).length) c95), (28, .int .i64 ((F_membersOf (gI f1 t14)).length : Int)), (29, .int .i64 t29L3)]) ⟨rfl, rfl, rfl, rfl, rfl, rfl, rfl, rfl, rfl, rfl, rfl, rfl, rfl, trivial⟩)), (St.pick (Γ' := [.own 2 1 b94 ((F_membersOf (gI f1 t14)).length) c95 (F_membersOf (gI f1 t14)), .own 2 1 b55 ((F_membersOf (gI f1 t14)).length) c56 (F_membersOf (gI f1 t14)), .blk b2 #[.int .i64 f0, .slice f1A f1.length f1C] 57, .rd 1 f1A f1.length f1C f1]) hS106 [0, 1, 2, 3] (by decide) rfl)⟩
        ·
         rintro a161 w162 ⟨hO165, hi166, hi167, hE163, hS164⟩; clear hE101 hS92
         refine p_bn ?_
         refine p_tn ?_
         refine c_reg ?_
         refine q_step (v := .int .i64 (t22L2 + 1)) hE163 (y_add rfl rfl ⟨(by omega), (by omega)⟩) rfl rfl rfl ?_; intro a168 hE169; clear hE163
         refine q_step (v := .int .i64 (t22L2 + 1)) hE169 (y_move rfl) rfl rfl rfl ?_; intro a170 hE171; clear hE169
         refine c_nil ?_
         have hE172 := hE171.sub (L' := [(1, .func (.func holdsF) #[] holdsC.toArray), (5, .int .i64 t14), (6, .int .i64 (gI f1 t14)), (12, .slice f1A f1.length f1C), (13, .int .i64 (f1.length : Int)), (14, .int .i64 t14), (20, .slice b55 ((F_membersOf (gI f1 t14)).length) c56), (21, .int .i64 ((F_membersOf (gI f1 t14)).length : Int)), (22, .int .i64 (t22L2 + 1))]) ⟨rfl, rfl, rfl, rfl, rfl, rfl, rfl, rfl, rfl, trivial⟩; clear hE171
         refine p_tn ⟨r72, Nat.lt_succ_self _, t22L2 + 1, (hT68.symm.trans (show F_Frame_everyPair_L2b f1 holds t14 (F_Frame_everyPair_L2 f1 holds t14 r72) t22L2 = F_Frame_everyPair_L2 f1 holds t14 r72 (t22L2 + 1) by unfold F_Frame_everyPair_L2b; rw [hO165, ht76]; first | done | rfl)).symm, (by omega), (by first | omega | (simp only [sS_len, sL_len]; omega) | (simp only [List.length_replicate, sI_len]; omega) | (simp only [List.length_append, List.length_cons, List.length_nil, sI_len, cond_true, cond_false]; omega) | (simp only [List.length_append, List.length_cons, List.length_nil, sI_len, cond_eq_ite, apply_ite List.length]; split <;> simp only [List.length_append, List.length_cons, List.length_nil, sI_len] <;> omega) | grind), (by first | omega | (simp only [sS_len, sL_len]; omega) | (simp only [List.length_replicate, sI_len]; omega) | (simp only [List.length_append, List.length_cons, List.length_nil, sI_len, cond_true, cond_false]; omega) | (simp only [List.length_append, List.length_cons, List.length_nil, sI_len, cond_eq_ite, apply_ite List.length]; split <;> simp only [List.length_append, List.length_cons, List.length_nil, sI_len] <;> omega) | grind), (hE172.sub (L' := [(1, .func (.func holdsF) #[] holdsC.toArray), (5, .int .i64 t14), (6, .int .i64 (gI f1 t14)), (12, .slice f1A f1.length f1C), (13, .int .i64 (f1.length : Int)), (14, .int .i64 t14), (20, .slice b55 ((F_membersOf (gI f1 t14)).length) c56), (21, .int .i64 ((F_membersOf (gI f1 t14)).length : Int)), (22, .int .i64 (t22L2 + 1))]) ⟨rfl, rfl, rfl, rfl, rfl, rfl, rfl, rfl, rfl, trivial⟩), (St.pick (Γ' := [.own 2 1 b55 ((F_membersOf (gI f1 t14)).length) c56 (F_membersOf (gI f1 t14)), .blk b2 #[.int .i64 f0, .slice f1A f1.length f1C] 57, .rd 1 f1A f1.length f1C f1]) hS164 [1, 2, 3] (by decide) rfl)⟩
       ·
        have hp173 := of_decide_eq_false ht76
        have hE174 := hE75; rw [ht76] at hE174; clear hE75
        refine wp_exit ?_
        refine p_te ?_
        have hX175 : F_Frame_everyPair_L2 f1 holds t14 (Int.toNat (((F_membersOf (gI f1 t14)).length : Int) - 0) + 1) 0 = .ok t22L2 := hT68.symm.trans (show F_Frame_everyPair_L2b f1 holds t14 (F_Frame_everyPair_L2 f1 holds t14 r72) t22L2 = .ok t22L2 by unfold F_Frame_everyPair_L2b; rw [ht76]; first | done | rfl)
        refine p_te (p_be (p_tn ?_))
        exact ⟨(by rw [hX175]; rfl), (by rw [hX175]; exact (show 0 ≤ t22L2 from (by first | omega | (simp only [sS_len, sL_len]; omega) | (simp only [List.length_replicate, sI_len]; omega) | (simp only [List.length_append, List.length_cons, List.length_nil, sI_len, cond_true, cond_false]; omega) | (simp only [List.length_append, List.length_cons, List.length_nil, sI_len, cond_eq_ite, apply_ite List.length]; split <;> simp only [List.length_append, List.length_cons, List.length_nil, sI_len] <;> omega) | grind))), (by rw [hX175]; exact (show t22L2 ≤ ((F_membersOf (gI f1 t14)).length : Int) from (by first | omega | (simp only [sS_len, sL_len]; omega) | (simp only [List.length_replicate, sI_len]; omega) | (simp only [List.length_append, List.length_cons, List.length_nil, sI_len, cond_true, cond_false]; omega) | (simp only [List.length_append, List.length_cons, List.length_nil, sI_len, cond_eq_ite, apply_ite List.length]; split <;> simp only [List.length_append, List.length_cons, List.length_nil, sI_len] <;> omega) | grind))), (by rw [hX175]; exact (hE174.sub (L' := [(1, .func (.func holdsF) #[] holdsC.toArray), (5, .int .i64 t14), (6, .int .i64 (gI f1 t14)), (12, .slice f1A f1.length f1C), (13, .int .i64 (f1.length : Int)), (14, .int .i64 t14), (20, .slice b55 ((F_membersOf (gI f1 t14)).length) c56), (21, .int .i64 ((F_membersOf (gI f1 t14)).length : Int)), (22, .int .i64 t22L2)]) ⟨rfl, rfl, rfl, rfl, rfl, rfl, rfl, rfl, rfl, trivial⟩)), (St.pick (Γ' := [.own 2 1 b55 ((F_membersOf (gI f1 t14)).length) c56 (F_membersOf (gI f1 t14)), .blk b2 #[.int .i64 f0, .slice f1A f1.length f1C] 57, .rd 1 f1A f1.length f1C f1]) hS67 [0, 1, 2] (by decide) rfl)⟩
     ·
      rintro a176 w177 ⟨hO180, hi181, hi182, hE178, hS179⟩; clear hE62 hS53
      refine p_bn ?_
      refine p_tn ?_
      refine c_reg ?_
      refine q_step (v := .int .i64 (t14 + 1)) hE178 (y_add rfl rfl ⟨(by omega), (by omega)⟩) rfl rfl rfl ?_; intro a183 hE184; clear hE178
      refine q_step (v := .int .i64 (t14 + 1)) hE184 (y_move rfl) rfl rfl rfl ?_; intro a185 hE186; clear hE184
      refine c_nil ?_
      have hE187 := hE186.sub (L' := [(1, .func (.func holdsF) #[] holdsC.toArray), (12, .slice f1A f1.length f1C), (13, .int .i64 (f1.length : Int)), (14, .int .i64 (t14 + 1))]) ⟨rfl, rfl, rfl, rfl, trivial⟩; clear hE186
      refine p_tn ⟨r29, Nat.lt_succ_self _, t14 + 1, (hT25.symm.trans (show F_Frame_everyPair_L1b f1 holds (F_Frame_everyPair_L1 f1 holds r29) t14 = F_Frame_everyPair_L1 f1 holds r29 (t14 + 1) by unfold F_Frame_everyPair_L1b; rw [hO180, ht33]; first | done | rfl)).symm, (by omega), (by first | omega | (simp only [sS_len, sL_len]; omega) | (simp only [List.length_replicate, sI_len]; omega) | (simp only [List.length_append, List.length_cons, List.length_nil, sI_len, cond_true, cond_false]; omega) | (simp only [List.length_append, List.length_cons, List.length_nil, sI_len, cond_eq_ite, apply_ite List.length]; split <;> simp only [List.length_append, List.length_cons, List.length_nil, sI_len] <;> omega) | grind), (by first | omega | (simp only [sS_len, sL_len]; omega) | (simp only [List.length_replicate, sI_len]; omega) | (simp only [List.length_append, List.length_cons, List.length_nil, sI_len, cond_true, cond_false]; omega) | (simp only [List.length_append, List.length_cons, List.length_nil, sI_len, cond_eq_ite, apply_ite List.length]; split <;> simp only [List.length_append, List.length_cons, List.length_nil, sI_len] <;> omega) | grind), (hE187.sub (L' := [(1, .func (.func holdsF) #[] holdsC.toArray), (12, .slice f1A f1.length f1C), (13, .int .i64 (f1.length : Int)), (14, .int .i64 (t14 + 1))]) ⟨rfl, rfl, rfl, rfl, trivial⟩), (St.pick (Γ' := [.blk b2 #[.int .i64 f0, .slice f1A f1.length f1C] 57, .rd 1 f1A f1.length f1C f1]) hS179 [1, 2] (by decide) rfl)⟩
    ·
     have hp188 := of_decide_eq_false ht33
     have hE189 := hE32; rw [ht33] at hE189; clear hE32
     refine wp_exit ?_
     refine p_te ?_
     have hX190 : F_Frame_everyPair_L1 f1 holds (Int.toNat ((f1.length : Int) - 0) + 1) 0 = .ok t14 := hT25.symm.trans (show F_Frame_everyPair_L1b f1 holds (F_Frame_everyPair_L1 f1 holds r29) t14 = .ok t14 by unfold F_Frame_everyPair_L1b; rw [ht33]; first | done | rfl)
     refine p_te (p_be (p_tn ?_))
     exact ⟨(by rw [hX190]; rfl), (by rw [hX190]; exact (show 0 ≤ t14 from (by first | omega | (simp only [sS_len, sL_len]; omega) | (simp only [List.length_replicate, sI_len]; omega) | (simp only [List.length_append, List.length_cons, List.length_nil, sI_len, cond_true, cond_false]; omega) | (simp only [List.length_append, List.length_cons, List.length_nil, sI_len, cond_eq_ite, apply_ite List.length]; split <;> simp only [List.length_append, List.length_cons, List.length_nil, sI_len] <;> omega) | grind))), (by rw [hX190]; exact (show t14 ≤ (f1.length : Int) from (by first | omega | (simp only [sS_len, sL_len]; omega) | (simp only [List.length_replicate, sI_len]; omega) | (simp only [List.length_append, List.length_cons, List.length_nil, sI_len, cond_true, cond_false]; omega) | (simp only [List.length_append, List.length_cons, List.length_nil, sI_len, cond_eq_ite, apply_ite List.length]; split <;> simp only [List.length_append, List.length_cons, List.length_nil, sI_len] <;> omega) | grind))), (by rw [hX190]; exact (hE189.sub (L' := [(1, .func (.func holdsF) #[] holdsC.toArray), (12, .slice f1A f1.length f1C), (13, .int .i64 (f1.length : Int)), (14, .int .i64 t14)]) ⟨rfl, rfl, rfl, rfl, trivial⟩)), (St.pick (Γ' := [.blk b2 #[.int .i64 f0, .slice f1A f1.length f1C] 57, .rd 1 f1A f1.length f1C f1]) hS24 [0, 1] (by decide) rfl)⟩
  ·
   rintro a191 w192 ⟨hO195, hi196, hi197, hE193, hS194⟩; clear hE19 hS6
   refine p_tn ?_
   refine c_seq ?_
   refine c_reg ?_
   refine q_step (v := .bool true) hE193 (y_assign rfl) rfl rfl rfl ?_; intro a198 hE199; clear hE193
   refine c_nil ?_
   have hE200 := hE199.sub (L' := [(4, .bool true)]) ⟨rfl, trivial⟩; clear hE199
   refine p_tn ?_
   refine wp_ret ?_
   have hF : F_Frame_everyPair f0 f1 holds = true := by unfold F_Frame_everyPair; rw [hO195]; first | done | rfl
   refine c_ret1 hE200 rfl rfl ?_
   exact ⟨(by rw [hF]; first | done | (dsimp only; done) | rfl), hS194.ext⟩
def F_Frame_hasFlag_k1 (xp : Int) (cap00 : Int) (cap01 : List Int) : Bool :=
  F_Frame_sees cap00 cap01 xp xp
theorem cf_Frame_hasFlag_k1 (args : Array Value) (w : World) : (callFunc 211 args).run Try.prog w = .ok (.enter 211 args) w := by kernel_rfl
set_option maxRecDepth 100000 in
theorem c_Frame_hasFlag_k1 (xp : Int) (cap0B : Nat) (cap00 : Int) (cap01A : Option Addr) (cap01N cap01C : Nat) (cap01 : List Int) (w : World) (cap01R : RdS w 1 cap01A cap01N cap01C cap01) (cap0H : w.heap[cap0B]? = some (.cells #[.int .i64 cap00, .slice cap01A cap01N cap01C] 57 (0, 0))) (hf : 0 ≤ cap00 ∧ cap00 ≤ 30) (hfl : (cap01.length : Int) = cap00) (hx : 0 ≤ xp ∧ xp < cap00) :
    Calls Try.prog 211 #[.int .i64 xp, .pointer (some ⟨cap0B, 0, none⟩)] w (Ret fun v w' => v = .bool (F_Frame_hasFlag_k1 xp cap00 cap01) ∧ Ext w w') := by
  obtain rfl : cap01N = cap01.length := cap01R.len1.symm
  have cap01Le := cap01R.le
  have hS := St.nil w
  have hS1 := St.rd0 hS rfl cap01R; clear hS
  have hS2 := St.rb0 hS1 rfl cap0H; clear hS1
  refine enter (args := [.int .i64 xp, .pointer (some ⟨cap0B, 0, none⟩)]) Try.func211 rfl rfl ?_
  rw [Try.ntmps211]; intro a hE
  have hE := hE.sub (L' := [(0, .int .i64 xp), (1, .pointer (some ⟨cap0B, 0, none⟩))]) ⟨rfl, rfl, trivial⟩
  refine c_seq ?_
  refine c_reg ?_
  refine q_step (v := .bool false) hE (y_assign rfl) rfl rfl rfl ?_; intro a3 hE4; clear hE
  refine c_nil ?_
  have hE5 := hE4.sub (L' := [(0, .int .i64 xp), (1, .pointer (some ⟨cap0B, 0, none⟩))]) ⟨rfl, rfl, trivial⟩; clear hE4
  refine p_tn ?_
  refine c_seq ?_
  refine c_reg ?_
  refine q_step (v := .agg #[.int .i64 cap00, .slice cap01A cap01.length cap01C]) hE5 (y_loadS Try.underlying57 rfl (by kernel_rfl) rfl (St.rowR (i := 0) hS2 rfl)) rfl rfl rfl ?_; intro a6 hE7; clear hE5
  refine q_step (v := .int .i64 xp) hE7 (y_move rfl) rfl rfl rfl ?_; intro a8 hE9; clear hE7
  refine q_step (v := .int .i64 xp) hE9 (y_move rfl) rfl rfl rfl ?_; intro a10 hE11; clear hE9
  refine l_step hE11 rfl (l_call (f := 176) (argv := [.agg #[.int .i64 cap00, .slice cap01A cap01.length cap01C], .int .i64 xp, .int .i64 xp]) hE11 (fun _ => cf_Frame_sees _ _) rfl rfl (c_Frame_sees cap00 cap01A cap01.length cap01C cap01 xp xp w (St.rdR (i := 1) hS2 rfl) (by omega) (by omega)) ?_)
  rintro _ w13 ⟨rfl, he17⟩ a14 hE15; clear hE11
  have hS16 := St.go hS2 he17; clear hS2
  refine q_step (v := .bool (F_Frame_sees cap00 cap01 xp xp)) hE15 (y_assign rfl) rfl rfl rfl ?_; intro a18 hE19; clear hE15
  refine c_nil ?_
  have hE20 := hE19.sub (L' := [(3, .bool (F_Frame_sees cap00 cap01 xp xp))]) ⟨rfl, trivial⟩; clear hE19
  refine p_tn ?_
  refine wp_ret ?_
  have hF : F_Frame_hasFlag_k1 xp cap00 cap01 = F_Frame_sees cap00 cap01 xp xp := by unfold F_Frame_hasFlag_k1; rfl
  refine c_ret1 hE20 rfl rfl ?_
  exact ⟨(by rw [hF]; first | done | (dsimp only; done) | rfl), hS16.ext⟩
def F_Frame_hasFlag_k2 (xp : Int) (cap00 : Int) (cap01 : List Int) : Bool :=
  (!decide ((gI cap01 xp) = 0))
theorem cf_Frame_hasFlag_k2 (args : Array Value) (w : World) : (callFunc 212 args).run Try.prog w = .ok (.enter 212 args) w := by kernel_rfl
set_option maxRecDepth 100000 in
theorem c_Frame_hasFlag_k2 (xp : Int) (cap0B : Nat) (cap00 : Int) (cap01A : Option Addr) (cap01N cap01C : Nat) (cap01 : List Int) (w : World) (cap01R : RdS w 1 cap01A cap01N cap01C cap01) (cap0H : w.heap[cap0B]? = some (.cells #[.int .i64 cap00, .slice cap01A cap01N cap01C] 57 (0, 0))) (hf : 0 ≤ cap00 ∧ cap00 ≤ 30) (hfl : (cap01.length : Int) = cap00) (hx : 0 ≤ xp ∧ xp < cap00) :
    Calls Try.prog 212 #[.int .i64 xp, .pointer (some ⟨cap0B, 0, none⟩)] w (Ret fun v w' => v = .bool (F_Frame_hasFlag_k2 xp cap00 cap01) ∧ w = w') := by
  obtain rfl : cap01N = cap01.length := cap01R.len1.symm
  have cap01Le := cap01R.le
  have hS := St.nil w
  have hS1 := St.rd0 hS rfl cap01R; clear hS
  have hS2 := St.rb0 hS1 rfl cap0H; clear hS1
  refine enter (args := [.int .i64 xp, .pointer (some ⟨cap0B, 0, none⟩)]) Try.func212 rfl rfl ?_
  rw [Try.ntmps212]; intro a hE
  have hE := hE.sub (L' := [(0, .int .i64 xp), (1, .pointer (some ⟨cap0B, 0, none⟩))]) ⟨rfl, rfl, trivial⟩
  refine c_seq ?_
  refine c_reg ?_
  refine q_step (v := .bool false) hE (y_assign rfl) rfl rfl rfl ?_; intro a3 hE4; clear hE
  refine c_nil ?_
  have hE5 := hE4.sub (L' := [(0, .int .i64 xp), (1, .pointer (some ⟨cap0B, 0, none⟩))]) ⟨rfl, rfl, trivial⟩; clear hE4
  refine p_tn ?_
  refine c_seq ?_
  refine c_reg ?_
  refine q_step (v := .pointer (some ⟨cap0B, 1, none⟩)) hE5 (y_field rfl (fun _ => by kernel_rfl)) rfl rfl rfl ?_; intro a6 hE7; clear hE5
  refine q_step (v := .slice cap01A cap01.length cap01C) hE7 (y_load (fun _ => by kernel_rfl) rfl (St.cellR (i := 0) hS2 rfl rfl)) rfl rfl rfl ?_; intro a8 hE9; clear hE7
  refine q_step (v := .int .i64 xp) hE9 (y_move rfl) rfl rfl rfl ?_; intro a10 hE11; clear hE9
  refine q_step (v := .pointer (some (adr cap01A (Int.toNat xp)))) hE11 (y_idx (by kernel_rfl) (fun _ => by kernel_rfl) rfl rfl (RdS.isS (m := xp) (St.rdR (i := 1) hS2 rfl) (by omega) (by omega)) (by omega) (by omega) (Nat.mul_one _).symm) rfl rfl rfl ?_; intro a12 hE13; clear hE11
  refine q_step (v := .int .i64 (gI cap01 xp)) hE13 (y_load (fun _ => by kernel_rfl) rfl (RdS.elt (St.rdR (i := 1) hS2 rfl) (by omega) (by omega))) rfl rfl rfl ?_; intro a14 hE15; clear hE13
  refine q_step (v := .bool (!decide ((gI cap01 xp) = 0))) hE15 (y_neq rfl rfl) rfl rfl rfl ?_; intro a16 hE17; clear hE15
  refine q_step (v := .bool (!decide ((gI cap01 xp) = 0))) hE17 (y_assign rfl) rfl rfl rfl ?_; intro a18 hE19; clear hE17
  refine c_nil ?_
  have hE20 := hE19.sub (L' := [(3, .bool (!decide ((gI cap01 xp) = 0)))]) ⟨rfl, trivial⟩; clear hE19
  refine p_tn ?_
  refine wp_ret ?_
  have hF : F_Frame_hasFlag_k2 xp cap00 cap01 = (!decide ((gI cap01 xp) = 0)) := by unfold F_Frame_hasFlag_k2; rfl
  refine c_ret1 hE20 rfl rfl ?_
  exact ⟨(by rw [hF]; first | done | (dsimp only; done) | rfl), rfl⟩
def F_Frame_hasFlag_k3 (xp : Int) (yp : Int) (zp : Int) (cap00 : Int) (cap01 : List Int) : Bool :=
  F_Frame_sees cap00 cap01 yp zp
theorem cf_Frame_hasFlag_k3 (args : Array Value) (w : World) : (callFunc 216 args).run Try.prog w = .ok (.enter 216 args) w := by kernel_rfl
set_option maxRecDepth 100000 in
theorem c_Frame_hasFlag_k3 (xp : Int) (yp : Int) (zp : Int) (cap0B : Nat) (cap00 : Int) (cap01A : Option Addr) (cap01N cap01C : Nat) (cap01 : List Int) (w : World) (cap01R : RdS w 1 cap01A cap01N cap01C cap01) (cap0H : w.heap[cap0B]? = some (.cells #[.int .i64 cap00, .slice cap01A cap01N cap01C] 57 (0, 0))) (hf : 0 ≤ cap00 ∧ cap00 ≤ 30) (hfl : (cap01.length : Int) = cap00) (hy : 0 ≤ yp ∧ yp < cap00) (hz : 0 ≤ zp ∧ zp < cap00) :
    Calls Try.prog 216 #[.int .i64 xp, .int .i64 yp, .int .i64 zp, .pointer (some ⟨cap0B, 0, none⟩)] w (Ret fun v w' => v = .bool (F_Frame_hasFlag_k3 xp yp zp cap00 cap01) ∧ Ext w w') := by
  obtain rfl : cap01N = cap01.length := cap01R.len1.symm
  have cap01Le := cap01R.le
  have hS := St.nil w
  have hS1 := St.rd0 hS rfl cap01R; clear hS
  have hS2 := St.rb0 hS1 rfl cap0H; clear hS1
  refine enter (args := [.int .i64 xp, .int .i64 yp, .int .i64 zp, .pointer (some ⟨cap0B, 0, none⟩)]) Try.func216 rfl rfl ?_
  rw [Try.ntmps216]; intro a hE
  have hE := hE.sub (L' := [(0, .int .i64 xp), (1, .int .i64 yp), (2, .int .i64 zp), (3, .pointer (some ⟨cap0B, 0, none⟩))]) ⟨rfl, rfl, rfl, rfl, trivial⟩
  refine c_seq ?_
  refine c_reg ?_
  refine q_step (v := .bool false) hE (y_assign rfl) rfl rfl rfl ?_; intro a3 hE4; clear hE
  refine c_nil ?_
  have hE5 := hE4.sub (L' := [(1, .int .i64 yp), (2, .int .i64 zp), (3, .pointer (some ⟨cap0B, 0, none⟩))]) ⟨rfl, rfl, rfl, trivial⟩; clear hE4
  refine p_tn ?_
  refine c_seq ?_
  refine c_reg ?_
  refine q_step (v := .agg #[.int .i64 cap00, .slice cap01A cap01.length cap01C]) hE5 (y_loadS Try.underlying57 rfl (by kernel_rfl) rfl (St.rowR (i := 0) hS2 rfl)) rfl rfl rfl ?_; intro a6 hE7; clear hE5
  refine q_step (v := .int .i64 yp) hE7 (y_move rfl) rfl rfl rfl ?_; intro a8 hE9; clear hE7
  refine q_step (v := .int .i64 zp) hE9 (y_move rfl) rfl rfl rfl ?_; intro a10 hE11; clear hE9
  refine l_step hE11 rfl (l_call (f := 176) (argv := [.agg #[.int .i64 cap00, .slice cap01A cap01.length cap01C], .int .i64 yp, .int .i64 zp]) hE11 (fun _ => cf_Frame_sees _ _) rfl rfl (c_Frame_sees cap00 cap01A cap01.length cap01C cap01 yp zp w (St.rdR (i := 1) hS2 rfl) (by omega) (by omega)) ?_)
  rintro _ w13 ⟨rfl, he17⟩ a14 hE15; clear hE11
  have hS16 := St.go hS2 he17; clear hS2
  refine q_step (v := .bool (F_Frame_sees cap00 cap01 yp zp)) hE15 (y_assign rfl) rfl rfl rfl ?_; intro a18 hE19; clear hE15
  refine c_nil ?_
  have hE20 := hE19.sub (L' := [(7, .bool (F_Frame_sees cap00 cap01 yp zp))]) ⟨rfl, trivial⟩; clear hE19
  refine p_tn ?_
  refine wp_ret ?_
  have hF : F_Frame_hasFlag_k3 xp yp zp cap00 cap01 = F_Frame_sees cap00 cap01 yp zp := by unfold F_Frame_hasFlag_k3; rfl
  refine c_ret1 hE20 rfl rfl ?_
  exact ⟨(by rw [hF]; first | done | (dsimp only; done) | rfl), hS16.ext⟩
def F_Frame_hasFlag_k4 (xp : Int) (yp : Int) (zp : Int) (cap00 : Int) (cap01 : List Int) : Bool :=
  (!decide ((andI (gI cap01 yp) (gI cap01 zp)) = 0))
theorem cf_Frame_hasFlag_k4 (args : Array Value) (w : World) : (callFunc 217 args).run Try.prog w = .ok (.enter 217 args) w := by kernel_rfl
set_option maxRecDepth 100000 in
theorem c_Frame_hasFlag_k4 (xp : Int) (yp : Int) (zp : Int) (cap0B : Nat) (cap00 : Int) (cap01A : Option Addr) (cap01N cap01C : Nat) (cap01 : List Int) (w : World) (cap01R : RdS w 1 cap01A cap01N cap01C cap01) (cap0H : w.heap[cap0B]? = some (.cells #[.int .i64 cap00, .slice cap01A cap01N cap01C] 57 (0, 0))) (hf : 0 ≤ cap00 ∧ cap00 ≤ 30) (hfl : (cap01.length : Int) = cap00) (hy : 0 ≤ yp ∧ yp < cap00) (hz : 0 ≤ zp ∧ zp < cap00) :
    Calls Try.prog 217 #[.int .i64 xp, .int .i64 yp, .int .i64 zp, .pointer (some ⟨cap0B, 0, none⟩)] w (Ret fun v w' => v = .bool (F_Frame_hasFlag_k4 xp yp zp cap00 cap01) ∧ Ext w w') := by
  obtain rfl : cap01N = cap01.length := cap01R.len1.symm
  have cap01Le := cap01R.le
  have hS := St.nil w
  have hS1 := St.rd0 hS rfl cap01R; clear hS
  have hS2 := St.rb0 hS1 rfl cap0H; clear hS1
  refine enter (args := [.int .i64 xp, .int .i64 yp, .int .i64 zp, .pointer (some ⟨cap0B, 0, none⟩)]) Try.func217 rfl rfl ?_
  rw [Try.ntmps217]; intro a hE
  have hE := hE.sub (L' := [(0, .int .i64 xp), (1, .int .i64 yp), (2, .int .i64 zp), (3, .pointer (some ⟨cap0B, 0, none⟩))]) ⟨rfl, rfl, rfl, rfl, trivial⟩
  refine c_seq ?_
  refine c_reg ?_
  refine q_step (v := .bool false) hE (y_assign rfl) rfl rfl rfl ?_; intro a3 hE4; clear hE
  refine c_nil ?_
  have hE5 := hE4.sub (L' := [(1, .int .i64 yp), (2, .int .i64 zp), (3, .pointer (some ⟨cap0B, 0, none⟩))]) ⟨rfl, rfl, rfl, trivial⟩; clear hE4
  refine p_tn ?_
  refine c_seq ?_
  refine d_start (fun w w' => (fun w' => w'.cell? ⟨cap0B, 1, none⟩ = some (.slice cap01A cap01.length cap01C) ∧ w'.cell? (adr cap01A (Int.toNat yp)) = some (.int .i64 (gI cap01 yp)) ∧ w'.cell? ⟨cap0B, 1, none⟩ = some (.slice cap01A cap01.length cap01C) ∧ w'.cell? (adr cap01A (Int.toNat zp)) = some (.int .i64 (gI cap01 zp)) ∧ True) w → (fun w' => w'.cell? ⟨cap0B, 1, none⟩ = some (.slice cap01A cap01.length cap01C) ∧ w'.cell? (adr cap01A (Int.toNat yp)) = some (.int .i64 (gI cap01 yp)) ∧ w'.cell? ⟨cap0B, 1, none⟩ = some (.slice cap01A cap01.length cap01C) ∧ w'.cell? (adr cap01A (Int.toNat zp)) = some (.int .i64 (gI cap01 zp)) ∧ True) w') [1, 4, 6, 9] 13 (by kernel_rfl) rfl ?_
  intro w6 he7; have hS8 := St.go hS2 he7; clear hS2
  refine d_pure (fun _ h => h) (v := .pointer (some ⟨cap0B, 1, none⟩)) 0 rfl hE5 (y_field rfl (fun _ => by kernel_rfl)) rfl (by kernel_rfl) (by kernel_rfl) (by kernel_rfl) rfl rfl (fun _ _ _ h => h) ?_; intro a9 hE10; clear hE5
  refine d_take (fun _ h => h) (fun _ _ h k => h k) (v := .slice cap01A cap01.length cap01C) 1 rfl hE10 (S := fun w' => w'.cell? ⟨cap0B, 1, none⟩ = some (.slice cap01A cap01.length cap01C) ∧ w'.cell? (adr cap01A (Int.toNat yp)) = some (.int .i64 (gI cap01 yp)) ∧ w'.cell? ⟨cap0B, 1, none⟩ = some (.slice cap01A cap01.length cap01C) ∧ w'.cell? (adr cap01A (Int.toNat zp)) = some (.int .i64 (gI cap01 zp)) ∧ True) ⟨(St.cellR (i := 0) hS8 rfl rfl _ (Ext.refl _)), (RdS.elt (St.rdR (i := 1) hS8 rfl) (by omega) (by omega) _ (Ext.refl _)), (St.cellR (i := 0) hS8 rfl rfl _ (Ext.refl _)), (RdS.elt (St.rdR (i := 1) hS8 rfl) (by omega) (by omega) _ (Ext.refl _)), trivial⟩ (y_load (fun _ => by kernel_rfl) rfl (fun _ h => h.1)) rfl rfl (by kernel_rfl) (by kernel_rfl) (by kernel_rfl) (by kernel_rfl) rfl rfl (fun _ _ _ h => h) ?_; intro a11 hE12; clear hE10
  refine d_pure (fun _ h => h) (v := .int .i64 yp) 2 rfl hE12 (y_move rfl) rfl (by kernel_rfl) (by kernel_rfl) (by kernel_rfl) rfl rfl (fun _ _ _ h => h) ?_; intro a13 hE14; clear hE12
  refine d_pure (fun _ h => h) (v := .pointer (some (adr cap01A (Int.toNat yp)))) 3 rfl hE14 (y_idx (by kernel_rfl) (fun _ => by kernel_rfl) rfl rfl (RdS.isS (m := yp) (St.rdR (i := 1) hS8 rfl) (by omega) (by omega)) (by omega) (by omega) (Nat.mul_one _).symm) rfl (by kernel_rfl) (by kernel_rfl) (by kernel_rfl) rfl rfl (fun _ _ _ h => h) ?_; intro a15 hE16; clear hE14
  refine d_take (fun _ h => h) (fun _ _ h k => h k) (v := .int .i64 (gI cap01 yp)) 4 rfl hE16 (S := fun w' => w'.cell? ⟨cap0B, 1, none⟩ = some (.slice cap01A cap01.length cap01C) ∧ w'.cell? (adr cap01A (Int.toNat yp)) = some (.int .i64 (gI cap01 yp)) ∧ w'.cell? ⟨cap0B, 1, none⟩ = some (.slice cap01A cap01.length cap01C) ∧ w'.cell? (adr cap01A (Int.toNat zp)) = some (.int .i64 (gI cap01 zp)) ∧ True) ⟨(St.cellR (i := 0) hS8 rfl rfl _ (Ext.refl _)), (RdS.elt (St.rdR (i := 1) hS8 rfl) (by omega) (by omega) _ (Ext.refl _)), (St.cellR (i := 0) hS8 rfl rfl _ (Ext.refl _)), (RdS.elt (St.rdR (i := 1) hS8 rfl) (by omega) (by omega) _ (Ext.refl _)), trivial⟩ (y_load (fun _ => by kernel_rfl) rfl (fun _ h => h.2.1)) rfl rfl (by kernel_rfl) (by kernel_rfl) (by kernel_rfl) (by kernel_rfl) rfl rfl (fun _ _ _ h => h) ?_; intro a17 hE18; clear hE16
  refine d_pure (fun _ h => h) (v := .pointer (some ⟨cap0B, 1, none⟩)) 5 rfl hE18 (y_field rfl (fun _ => by kernel_rfl)) rfl (by kernel_rfl) (by kernel_rfl) (by kernel_rfl) rfl rfl (fun _ _ _ h => h) ?_; intro a19 hE20; clear hE18
  refine d_take (fun _ h => h) (fun _ _ h k => h k) (v := .slice cap01A cap01.length cap01C) 6 rfl hE20 (S := fun w' => w'.cell? ⟨cap0B, 1, none⟩ = some (.slice cap01A cap01.length cap01C) ∧ w'.cell? (adr cap01A (Int.toNat yp)) = some (.int .i64 (gI cap01 yp)) ∧ w'.cell? ⟨cap0B, 1, none⟩ = some (.slice cap01A cap01.length cap01C) ∧ w'.cell? (adr cap01A (Int.toNat zp)) = some (.int .i64 (gI cap01 zp)) ∧ True) ⟨(St.cellR (i := 0) hS8 rfl rfl _ (Ext.refl _)), (RdS.elt (St.rdR (i := 1) hS8 rfl) (by omega) (by omega) _ (Ext.refl _)), (St.cellR (i := 0) hS8 rfl rfl _ (Ext.refl _)), (RdS.elt (St.rdR (i := 1) hS8 rfl) (by omega) (by omega) _ (Ext.refl _)), trivial⟩ (y_load (fun _ => by kernel_rfl) rfl (fun _ h => h.2.2.1)) rfl rfl (by kernel_rfl) (by kernel_rfl) (by kernel_rfl) (by kernel_rfl) rfl rfl (fun _ _ _ h => h) ?_; intro a21 hE22; clear hE20
  refine d_pure (fun _ h => h) (v := .int .i64 zp) 7 rfl hE22 (y_move rfl) rfl (by kernel_rfl) (by kernel_rfl) (by kernel_rfl) rfl rfl (fun _ _ _ h => h) ?_; intro a23 hE24; clear hE22
  refine d_pure (fun _ h => h) (v := .pointer (some (adr cap01A (Int.toNat zp)))) 8 rfl hE24 (y_idx (by kernel_rfl) (fun _ => by kernel_rfl) rfl rfl (RdS.isS (m := zp) (St.rdR (i := 1) hS8 rfl) (by omega) (by omega)) (by omega) (by omega) (Nat.mul_one _).symm) rfl (by kernel_rfl) (by kernel_rfl) (by kernel_rfl) rfl rfl (fun _ _ _ h => h) ?_; intro a25 hE26; clear hE24
  refine d_take (fun _ h => h) (fun _ _ h k => h k) (v := .int .i64 (gI cap01 zp)) 9 rfl hE26 (S := fun w' => w'.cell? ⟨cap0B, 1, none⟩ = some (.slice cap01A cap01.length cap01C) ∧ w'.cell? (adr cap01A (Int.toNat yp)) = some (.int .i64 (gI cap01 yp)) ∧ w'.cell? ⟨cap0B, 1, none⟩ = some (.slice cap01A cap01.length cap01C) ∧ w'.cell? (adr cap01A (Int.toNat zp)) = some (.int .i64 (gI cap01 zp)) ∧ True) ⟨(St.cellR (i := 0) hS8 rfl rfl _ (Ext.refl _)), (RdS.elt (St.rdR (i := 1) hS8 rfl) (by omega) (by omega) _ (Ext.refl _)), (St.cellR (i := 0) hS8 rfl rfl _ (Ext.refl _)), (RdS.elt (St.rdR (i := 1) hS8 rfl) (by omega) (by omega) _ (Ext.refl _)), trivial⟩ (y_load (fun _ => by kernel_rfl) rfl (fun _ h => h.2.2.2.1)) rfl rfl (by kernel_rfl) (by kernel_rfl) (by kernel_rfl) (by kernel_rfl) rfl rfl (fun _ _ _ h => h) ?_; intro a27 hE28; clear hE26
  refine d_pure (fun _ h => h) (v := .int .i64 (andI (gI cap01 yp) (gI cap01 zp))) 10 rfl hE28 (y_and rfl rfl) rfl (by kernel_rfl) (by kernel_rfl) (by kernel_rfl) rfl rfl (fun _ _ _ h => h) ?_; intro a29 hE30; clear hE28
  refine d_pure (fun _ h => h) (v := .bool (!decide ((andI (gI cap01 yp) (gI cap01 zp)) = 0))) 11 rfl hE30 (y_neq rfl rfl) rfl (by kernel_rfl) (by kernel_rfl) (by kernel_rfl) rfl rfl (fun _ _ _ h => h) ?_; intro a31 hE32; clear hE30
  refine d_pure (fun _ h => h) (v := .bool (!decide ((andI (gI cap01 yp) (gI cap01 zp)) = 0))) 12 rfl hE32 (y_assign rfl) rfl (by kernel_rfl) (by kernel_rfl) (by kernel_rfl) rfl rfl (fun _ _ _ h => h) ?_; intro a33 hE34; clear hE32
  refine d_done (by kernel_rfl) ?_
  have hE35 := hE34.sub (L' := [(7, .bool (!decide ((andI (gI cap01 yp) (gI cap01 zp)) = 0)))]) ⟨rfl, trivial⟩; clear hE34
  refine p_tn ?_
  refine wp_ret ?_
  have hF : F_Frame_hasFlag_k4 xp yp zp cap00 cap01 = (!decide ((andI (gI cap01 yp) (gI cap01 zp)) = 0)) := by unfold F_Frame_hasFlag_k4; rfl
  refine c_ret1 hE35 rfl rfl ?_
  exact ⟨(by rw [hF]; first | done | (dsimp only; done) | rfl), hS8.ext⟩
def F_Frame_hasFlag_k5 (xp : Int) (yp : Int) (zp : Int) (cap00 : Int) (cap01 : List Int) : Bool :=
  ((F_Frame_sees cap00 cap01 yp zp) || (F_Frame_sees cap00 cap01 zp yp))
theorem cf_Frame_hasFlag_k5 (args : Array Value) (w : World) : (callFunc 218 args).run Try.prog w = .ok (.enter 218 args) w := by kernel_rfl
set_option maxRecDepth 100000 in
theorem c_Frame_hasFlag_k5 (xp : Int) (yp : Int) (zp : Int) (cap0B : Nat) (cap00 : Int) (cap01A : Option Addr) (cap01N cap01C : Nat) (cap01 : List Int) (w : World) (cap01R : RdS w 1 cap01A cap01N cap01C cap01) (cap0H : w.heap[cap0B]? = some (.cells #[.int .i64 cap00, .slice cap01A cap01N cap01C] 57 (0, 0))) (hf : 0 ≤ cap00 ∧ cap00 ≤ 30) (hfl : (cap01.length : Int) = cap00) (hy : 0 ≤ yp ∧ yp < cap00) (hz : 0 ≤ zp ∧ zp < cap00) :
    Calls Try.prog 218 #[.int .i64 xp, .int .i64 yp, .int .i64 zp, .pointer (some ⟨cap0B, 0, none⟩)] w (Ret fun v w' => v = .bool (F_Frame_hasFlag_k5 xp yp zp cap00 cap01) ∧ Ext w w') := by
  obtain rfl : cap01N = cap01.length := cap01R.len1.symm
  have cap01Le := cap01R.le
  have hS := St.nil w
  have hS1 := St.rd0 hS rfl cap01R; clear hS
  have hS2 := St.rb0 hS1 rfl cap0H; clear hS1
  refine enter (args := [.int .i64 xp, .int .i64 yp, .int .i64 zp, .pointer (some ⟨cap0B, 0, none⟩)]) Try.func218 rfl rfl ?_
  rw [Try.ntmps218]; intro a hE
  have hE := hE.sub (L' := [(0, .int .i64 xp), (1, .int .i64 yp), (2, .int .i64 zp), (3, .pointer (some ⟨cap0B, 0, none⟩))]) ⟨rfl, rfl, rfl, rfl, trivial⟩
  refine c_seq ?_
  refine c_reg ?_
  refine q_step (v := .bool false) hE (y_assign rfl) rfl rfl rfl ?_; intro a3 hE4; clear hE
  refine c_nil ?_
  have hE5 := hE4.sub (L' := [(1, .int .i64 yp), (2, .int .i64 zp), (3, .pointer (some ⟨cap0B, 0, none⟩))]) ⟨rfl, rfl, rfl, trivial⟩; clear hE4
  refine p_tn ?_
  refine c_cut (fun a' w' => E a' 18 [(7, .bool ((F_Frame_sees cap00 cap01 yp zp) || (F_Frame_sees cap00 cap01 zp yp)))] ∧ St w w' [.rd 1 cap01A cap01.length cap01C cap01, .rb cap0B #[.int .i64 cap00, .slice cap01A cap01.length cap01C] 57]) ?_ ?_
  ·
   refine c_reg ?_
   refine q_step (v := .agg #[.int .i64 cap00, .slice cap01A cap01.length cap01C]) hE5 (y_loadS Try.underlying57 rfl (by kernel_rfl) rfl (St.rowR (i := 0) hS2 rfl)) rfl rfl rfl ?_; intro a6 hE7; clear hE5
   refine q_step (v := .int .i64 yp) hE7 (y_move rfl) rfl rfl rfl ?_; intro a8 hE9; clear hE7
   refine q_step (v := .int .i64 zp) hE9 (y_move rfl) rfl rfl rfl ?_; intro a10 hE11; clear hE9
   refine l_step hE11 rfl (l_call (f := 176) (argv := [.agg #[.int .i64 cap00, .slice cap01A cap01.length cap01C], .int .i64 yp, .int .i64 zp]) hE11 (fun _ => cf_Frame_sees _ _) rfl rfl (c_Frame_sees cap00 cap01A cap01.length cap01C cap01 yp zp w (St.rdR (i := 1) hS2 rfl) (by omega) (by omega)) ?_)
   rintro _ w13 ⟨rfl, he17⟩ a14 hE15; clear hE11
   have hS16 := St.go hS2 he17; clear hS2
   refine q_step (v := .bool (F_Frame_sees cap00 cap01 yp zp)) hE15 (y_move rfl) rfl rfl rfl ?_; intro a18 hE19; clear hE15
   rcases Bool.eq_false_or_eq_true (F_Frame_sees cap00 cap01 yp zp) with hb20 | hb20
   ·
    have hE21 := hE19; (try rw [hb20] at hE21); clear hE19
    refine q_skip hE21 rfl rfl rfl ?_; intro a22 hE23; clear hE21
    refine q_skip hE23 rfl rfl rfl ?_; intro a24 hE25; clear hE23
    refine q_skip hE25 rfl rfl rfl ?_; intro a26 hE27; clear hE25
    refine q_skip hE27 rfl rfl rfl ?_; intro a28 hE29; clear hE27
    refine q_step (v := .bool true) hE29 (y_pick (b := true) rfl rfl) rfl rfl rfl ?_; intro a30 hE31; clear hE29
    refine q_step (v := .bool true) hE31 (y_assign rfl) rfl rfl rfl ?_; intro a32 hE33; clear hE31
    refine c_nil ?_
    have hE34 := hE33.sub (L' := [(7, .bool true)]) ⟨rfl, trivial⟩; clear hE33
    refine p_tn ?_
    have hE35 := hE34.sub (L' := [(7, .bool true)]) ⟨rfl, trivial⟩
    have hS36 := (St.pick (Γ' := [.rd 1 cap01A cap01.length cap01C cap01, .rb cap0B #[.int .i64 cap00, .slice cap01A cap01.length cap01C] 57]) hS16 [1, 0] (by decide) rfl)
    exact ⟨(by rw [hb20]; exact hE35), hS36⟩
   ·
    have hE37 := hE19; (try rw [hb20] at hE37); clear hE19
    refine q_step (v := .agg #[.int .i64 cap00, .slice cap01A cap01.length cap01C]) hE37 (y_loadS Try.underlying57 rfl (by kernel_rfl) rfl (St.rowR (i := 0) hS16 rfl)) rfl rfl rfl ?_; intro a38 hE39; clear hE37
    refine q_step (v := .int .i64 zp) hE39 (y_move rfl) rfl rfl rfl ?_; intro a40 hE41; clear hE39
    refine q_step (v := .int .i64 yp) hE41 (y_move rfl) rfl rfl rfl ?_; intro a42 hE43; clear hE41
    refine l_step hE43 rfl (l_call (f := 176) (argv := [.agg #[.int .i64 cap00, .slice cap01A cap01.length cap01C], .int .i64 zp, .int .i64 yp]) hE43 (fun _ => cf_Frame_sees _ _) rfl rfl (c_Frame_sees cap00 cap01A cap01.length cap01C cap01 zp yp w13 (St.rdR (i := 1) hS16 rfl) (by omega) (by omega)) ?_)
    rintro _ w45 ⟨rfl, he49⟩ a46 hE47; clear hE43
    have hS48 := St.go hS16 he49; clear hS16
    refine q_step (v := .bool (F_Frame_sees cap00 cap01 zp yp)) hE47 (y_pick (b := false) rfl rfl) rfl rfl rfl ?_; intro a50 hE51; clear hE47
    refine q_step (v := .bool (F_Frame_sees cap00 cap01 zp yp)) hE51 (y_assign rfl) rfl rfl rfl ?_; intro a52 hE53; clear hE51
    refine c_nil ?_
    have hE54 := hE53.sub (L' := [(7, .bool (F_Frame_sees cap00 cap01 zp yp))]) ⟨rfl, trivial⟩; clear hE53
    refine p_tn ?_
    have hE55 := hE54.sub (L' := [(7, .bool (F_Frame_sees cap00 cap01 zp yp))]) ⟨rfl, trivial⟩
    have hS56 := (St.pick (Γ' := [.rd 1 cap01A cap01.length cap01C cap01, .rb cap0B #[.int .i64 cap00, .slice cap01A cap01.length cap01C] 57]) hS48 [1, 0] (by decide) rfl)
    exact ⟨(by rw [hb20]; exact hE55), hS56⟩
  ·
   rintro a57 w58 ⟨hE59, hS60⟩; clear hE5 hS2
   refine wp_ret ?_
   have hF : F_Frame_hasFlag_k5 xp yp zp cap00 cap01 = ((F_Frame_sees cap00 cap01 yp zp) || (F_Frame_sees cap00 cap01 zp yp)) := by unfold F_Frame_hasFlag_k5; rfl
   refine c_ret1 hE59 rfl rfl ?_
   exact ⟨(by rw [hF]; first | done | (dsimp only; done) | rfl), hS60.ext⟩
def F_Frame_hasFlag_k6 (xp : Int) (cap0 : List Int) : Bool :=
  (!(F_has (gI cap0 xp) xp))
theorem cf_Frame_hasFlag_k6 (args : Array Value) (w : World) : (callFunc 219 args).run Try.prog w = .ok (.enter 219 args) w := by kernel_rfl
set_option maxRecDepth 100000 in
theorem c_Frame_hasFlag_k6 (xp : Int) (cap0B : Nat) (cap0A : Option Addr) (cap0N cap0C : Nat) (cap0 : List Int) (w : World) (cap0R : RdS w 1 cap0A cap0N cap0C cap0) (cap0H : w.heap[cap0B]? = some (.cells #[.slice cap0A cap0N cap0C] 22 (0, 0))) (hl : 0 ≤ xp ∧ xp < (cap0.length : Int)) :
    Calls Try.prog 219 #[.int .i64 xp, .pointer (some ⟨cap0B, 0, none⟩)] w (Ret fun v w' => v = .bool (F_Frame_hasFlag_k6 xp cap0) ∧ w = w') := by
  obtain rfl : cap0N = cap0.length := cap0R.len1.symm
  have cap0Le := cap0R.le
  have hS := St.nil w
  have hS1 := St.rd0 hS rfl cap0R; clear hS
  have hS2 := St.rb0 hS1 rfl cap0H; clear hS1
  refine enter (args := [.int .i64 xp, .pointer (some ⟨cap0B, 0, none⟩)]) Try.func219 rfl rfl ?_
  rw [Try.ntmps219]; intro a hE
  have hE := hE.sub (L' := [(0, .int .i64 xp), (1, .pointer (some ⟨cap0B, 0, none⟩))]) ⟨rfl, rfl, trivial⟩
  refine c_seq ?_
  refine c_reg ?_
  refine q_step (v := .bool false) hE (y_assign rfl) rfl rfl rfl ?_; intro a3 hE4; clear hE
  refine c_nil ?_
  have hE5 := hE4.sub (L' := [(0, .int .i64 xp), (1, .pointer (some ⟨cap0B, 0, none⟩))]) ⟨rfl, rfl, trivial⟩; clear hE4
  refine p_tn ?_
  refine c_seq ?_
  refine c_reg ?_
  refine q_step (v := .slice cap0A cap0.length cap0C) hE5 (y_load (fun _ => by kernel_rfl) rfl (St.cellR (i := 0) hS2 rfl rfl)) rfl rfl rfl ?_; intro a6 hE7; clear hE5
  refine q_step (v := .int .i64 xp) hE7 (y_move rfl) rfl rfl rfl ?_; intro a8 hE9; clear hE7
  refine q_step (v := .pointer (some (adr cap0A (Int.toNat xp)))) hE9 (y_idx (by kernel_rfl) (fun _ => by kernel_rfl) rfl rfl (RdS.isS (m := xp) (St.rdR (i := 1) hS2 rfl) (by omega) (by omega)) (by omega) (by omega) (Nat.mul_one _).symm) rfl rfl rfl ?_; intro a10 hE11; clear hE9
  refine q_step (v := .int .i64 (gI cap0 xp)) hE11 (y_load (fun _ => by kernel_rfl) rfl (RdS.elt (St.rdR (i := 1) hS2 rfl) (by omega) (by omega))) rfl rfl rfl ?_; intro a12 hE13; clear hE11
  refine q_step (v := .int .i64 xp) hE13 (y_move rfl) rfl rfl rfl ?_; intro a14 hE15; clear hE13
  refine l_step hE15 rfl (l_call (f := 177) (argv := [.int .i64 (gI cap0 xp), .int .i64 xp]) hE15 (fun _ => cf_has _ _) rfl rfl (c_has (gI cap0 xp) xp w (by omega)) ?_)
  rintro _ _ ⟨rfl, rfl⟩ a18 hE19; clear hE15
  refine q_step (v := .bool (!(F_has (gI cap0 xp) xp))) hE19 (y_not rfl) rfl rfl rfl ?_; intro a22 hE23; clear hE19
  refine q_step (v := .bool (!(F_has (gI cap0 xp) xp))) hE23 (y_assign rfl) rfl rfl rfl ?_; intro a24 hE25; clear hE23
  refine c_nil ?_
  have hE26 := hE25.sub (L' := [(3, .bool (!(F_has (gI cap0 xp) xp)))]) ⟨rfl, trivial⟩; clear hE25
  refine p_tn ?_
  refine wp_ret ?_
  have hF : F_Frame_hasFlag_k6 xp cap0 = (!(F_has (gI cap0 xp) xp)) := by unfold F_Frame_hasFlag_k6; rfl
  refine c_ret1 hE26 rfl rfl ?_
  exact ⟨(by rw [hF]; first | done | (dsimp only; done) | rfl), rfl⟩
def F_Frame_hasFlag_k7 (xp : Int) (cap00 : Int) (cap01 : List Int) (cap1 : List Int) : Bool :=
  F_within (andI (gI cap01 xp) (gI cap1 xp)) (shlI 1 xp)
theorem cf_Frame_hasFlag_k7 (args : Array Value) (w : World) : (callFunc 220 args).run Try.prog w = .ok (.enter 220 args) w := by kernel_rfl
set_option maxRecDepth 100000 in
theorem c_Frame_hasFlag_k7 (xp : Int) (cap0B : Nat) (cap00 : Int) (cap01A : Option Addr) (cap01N cap01C : Nat) (cap01 : List Int) (cap1B : Nat) (cap1A : Option Addr) (cap1N cap1C : Nat) (cap1 : List Int) (w : World) (cap01R : RdS w 1 cap01A cap01N cap01C cap01) (cap0H : w.heap[cap0B]? = some (.cells #[.int .i64 cap00, .slice cap01A cap01N cap01C] 57 (0, 0))) (cap1R : RdS w 1 cap1A cap1N cap1C cap1) (cap1H : w.heap[cap1B]? = some (.cells #[.slice cap1A cap1N cap1C] 22 (0, 0))) (hf : 0 ≤ cap00 ∧ cap00 ≤ 30) (hfl : (cap01.length : Int) = cap00) (hx : 0 ≤ xp ∧ xp < cap00) (hb : (cap1.length : Int) = cap00) :
    Calls Try.prog 220 #[.int .i64 xp, .pointer (some ⟨cap0B, 0, none⟩), .pointer (some ⟨cap1B, 0, none⟩)] w (Ret fun v w' => v = .bool (F_Frame_hasFlag_k7 xp cap00 cap01 cap1) ∧ Ext w w') := by
  obtain rfl : cap01N = cap01.length := cap01R.len1.symm
  have cap01Le := cap01R.le
  obtain rfl : cap1N = cap1.length := cap1R.len1.symm
  have cap1Le := cap1R.le
  have hS := St.nil w
  have hS1 := St.rd0 hS rfl cap01R; clear hS
  have hS2 := St.rb0 hS1 rfl cap0H; clear hS1
  have hS3 := St.rd0 hS2 rfl cap1R; clear hS2
  have hS4 := St.rb0 hS3 rfl cap1H; clear hS3
  refine enter (args := [.int .i64 xp, .pointer (some ⟨cap0B, 0, none⟩), .pointer (some ⟨cap1B, 0, none⟩)]) Try.func220 rfl rfl ?_
  rw [Try.ntmps220]; intro a hE
  have hE := hE.sub (L' := [(0, .int .i64 xp), (1, .pointer (some ⟨cap0B, 0, none⟩)), (2, .pointer (some ⟨cap1B, 0, none⟩))]) ⟨rfl, rfl, rfl, trivial⟩
  refine c_seq ?_
  refine c_reg ?_
  refine q_step (v := .bool false) hE (y_assign rfl) rfl rfl rfl ?_; intro a5 hE6; clear hE
  refine c_nil ?_
  have hE7 := hE6.sub (L' := [(0, .int .i64 xp), (1, .pointer (some ⟨cap0B, 0, none⟩)), (2, .pointer (some ⟨cap1B, 0, none⟩))]) ⟨rfl, rfl, rfl, trivial⟩; clear hE6
  refine p_tn ?_
  refine c_seq ?_
  refine d_start (fun w w' => (fun w' => w'.cell? ⟨cap0B, 1, none⟩ = some (.slice cap01A cap01.length cap01C) ∧ w'.cell? (adr cap01A (Int.toNat xp)) = some (.int .i64 (gI cap01 xp)) ∧ w'.cell? ⟨cap1B, 0, none⟩ = some (.slice cap1A cap1.length cap1C) ∧ w'.cell? (adr cap1A (Int.toNat xp)) = some (.int .i64 (gI cap1 xp)) ∧ True) w → (fun w' => w'.cell? ⟨cap0B, 1, none⟩ = some (.slice cap01A cap01.length cap01C) ∧ w'.cell? (adr cap01A (Int.toNat xp)) = some (.int .i64 (gI cap01 xp)) ∧ w'.cell? ⟨cap1B, 0, none⟩ = some (.slice cap1A cap1.length cap1C) ∧ w'.cell? (adr cap1A (Int.toNat xp)) = some (.int .i64 (gI cap1 xp)) ∧ True) w') [1, 4, 5, 8] 14 (by kernel_rfl) rfl ?_
  intro w8 he9; have hS10 := St.go hS4 he9; clear hS4
  refine d_pure (fun _ h => h) (v := .pointer (some ⟨cap0B, 1, none⟩)) 0 rfl hE7 (y_field rfl (fun _ => by kernel_rfl)) rfl (by kernel_rfl) (by kernel_rfl) (by kernel_rfl) rfl rfl (fun _ _ _ h => h) ?_; intro a11 hE12; clear hE7
  refine d_take (fun _ h => h) (fun _ _ h k => h k) (v := .slice cap01A cap01.length cap01C) 1 rfl hE12 (S := fun w' => w'.cell? ⟨cap0B, 1, none⟩ = some (.slice cap01A cap01.length cap01C) ∧ w'.cell? (adr cap01A (Int.toNat xp)) = some (.int .i64 (gI cap01 xp)) ∧ w'.cell? ⟨cap1B, 0, none⟩ = some (.slice cap1A cap1.length cap1C) ∧ w'.cell? (adr cap1A (Int.toNat xp)) = some (.int .i64 (gI cap1 xp)) ∧ True) ⟨(St.cellR (i := 2) hS10 rfl rfl _ (Ext.refl _)), (RdS.elt (St.rdR (i := 3) hS10 rfl) (by omega) (by omega) _ (Ext.refl _)), (St.cellR (i := 0) hS10 rfl rfl _ (Ext.refl _)), (RdS.elt (St.rdR (i := 1) hS10 rfl) (by omega) (by omega) _ (Ext.refl _)), trivial⟩ (y_load (fun _ => by kernel_rfl) rfl (fun _ h => h.1)) rfl rfl (by kernel_rfl) (by kernel_rfl) (by kernel_rfl) (by kernel_rfl) rfl rfl (fun _ _ _ h => h) ?_; intro a13 hE14; clear hE12
  refine d_pure (fun _ h => h) (v := .int .i64 xp) 2 rfl hE14 (y_move rfl) rfl (by kernel_rfl) (by kernel_rfl) (by kernel_rfl) rfl rfl (fun _ _ _ h => h) ?_; intro a15 hE16; clear hE14
  refine d_pure (fun _ h => h) (v := .pointer (some (adr cap01A (Int.toNat xp)))) 3 rfl hE16 (y_idx (by kernel_rfl) (fun _ => by kernel_rfl) rfl rfl (RdS.isS (m := xp) (St.rdR (i := 3) hS10 rfl) (by omega) (by omega)) (by omega) (by omega) (Nat.mul_one _).symm) rfl (by kernel_rfl) (by kernel_rfl) (by kernel_rfl) rfl rfl (fun _ _ _ h => h) ?_; intro a17 hE18; clear hE16
  refine d_take (fun _ h => h) (fun _ _ h k => h k) (v := .int .i64 (gI cap01 xp)) 4 rfl hE18 (S := fun w' => w'.cell? ⟨cap0B, 1, none⟩ = some (.slice cap01A cap01.length cap01C) ∧ w'.cell? (adr cap01A (Int.toNat xp)) = some (.int .i64 (gI cap01 xp)) ∧ w'.cell? ⟨cap1B, 0, none⟩ = some (.slice cap1A cap1.length cap1C) ∧ w'.cell? (adr cap1A (Int.toNat xp)) = some (.int .i64 (gI cap1 xp)) ∧ True) ⟨(St.cellR (i := 2) hS10 rfl rfl _ (Ext.refl _)), (RdS.elt (St.rdR (i := 3) hS10 rfl) (by omega) (by omega) _ (Ext.refl _)), (St.cellR (i := 0) hS10 rfl rfl _ (Ext.refl _)), (RdS.elt (St.rdR (i := 1) hS10 rfl) (by omega) (by omega) _ (Ext.refl _)), trivial⟩ (y_load (fun _ => by kernel_rfl) rfl (fun _ h => h.2.1)) rfl rfl (by kernel_rfl) (by kernel_rfl) (by kernel_rfl) (by kernel_rfl) rfl rfl (fun _ _ _ h => h) ?_; intro a19 hE20; clear hE18
  refine d_take (fun _ h => h) (fun _ _ h k => h k) (v := .slice cap1A cap1.length cap1C) 5 rfl hE20 (S := fun w' => w'.cell? ⟨cap0B, 1, none⟩ = some (.slice cap01A cap01.length cap01C) ∧ w'.cell? (adr cap01A (Int.toNat xp)) = some (.int .i64 (gI cap01 xp)) ∧ w'.cell? ⟨cap1B, 0, none⟩ = some (.slice cap1A cap1.length cap1C) ∧ w'.cell? (adr cap1A (Int.toNat xp)) = some (.int .i64 (gI cap1 xp)) ∧ True) ⟨(St.cellR (i := 2) hS10 rfl rfl _ (Ext.refl _)), (RdS.elt (St.rdR (i := 3) hS10 rfl) (by omega) (by omega) _ (Ext.refl _)), (St.cellR (i := 0) hS10 rfl rfl _ (Ext.refl _)), (RdS.elt (St.rdR (i := 1) hS10 rfl) (by omega) (by omega) _ (Ext.refl _)), trivial⟩ (y_load (fun _ => by kernel_rfl) rfl (fun _ h => h.2.2.1)) rfl rfl (by kernel_rfl) (by kernel_rfl) (by kernel_rfl) (by kernel_rfl) rfl rfl (fun _ _ _ h => h) ?_; intro a21 hE22; clear hE20
  refine d_pure (fun _ h => h) (v := .int .i64 xp) 6 rfl hE22 (y_move rfl) rfl (by kernel_rfl) (by kernel_rfl) (by kernel_rfl) rfl rfl (fun _ _ _ h => h) ?_; intro a23 hE24; clear hE22
  refine d_pure (fun _ h => h) (v := .pointer (some (adr cap1A (Int.toNat xp)))) 7 rfl hE24 (y_idx (by kernel_rfl) (fun _ => by kernel_rfl) rfl rfl (RdS.isS (m := xp) (St.rdR (i := 1) hS10 rfl) (by omega) (by omega)) (by omega) (by omega) (Nat.mul_one _).symm) rfl (by kernel_rfl) (by kernel_rfl) (by kernel_rfl) rfl rfl (fun _ _ _ h => h) ?_; intro a25 hE26; clear hE24
  refine d_take (fun _ h => h) (fun _ _ h k => h k) (v := .int .i64 (gI cap1 xp)) 8 rfl hE26 (S := fun w' => w'.cell? ⟨cap0B, 1, none⟩ = some (.slice cap01A cap01.length cap01C) ∧ w'.cell? (adr cap01A (Int.toNat xp)) = some (.int .i64 (gI cap01 xp)) ∧ w'.cell? ⟨cap1B, 0, none⟩ = some (.slice cap1A cap1.length cap1C) ∧ w'.cell? (adr cap1A (Int.toNat xp)) = some (.int .i64 (gI cap1 xp)) ∧ True) ⟨(St.cellR (i := 2) hS10 rfl rfl _ (Ext.refl _)), (RdS.elt (St.rdR (i := 3) hS10 rfl) (by omega) (by omega) _ (Ext.refl _)), (St.cellR (i := 0) hS10 rfl rfl _ (Ext.refl _)), (RdS.elt (St.rdR (i := 1) hS10 rfl) (by omega) (by omega) _ (Ext.refl _)), trivial⟩ (y_load (fun _ => by kernel_rfl) rfl (fun _ h => h.2.2.2.1)) rfl rfl (by kernel_rfl) (by kernel_rfl) (by kernel_rfl) (by kernel_rfl) rfl rfl (fun _ _ _ h => h) ?_; intro a27 hE28; clear hE26
  refine d_pure (fun _ h => h) (v := .int .i64 (andI (gI cap01 xp) (gI cap1 xp))) 9 rfl hE28 (y_and rfl rfl) rfl (by kernel_rfl) (by kernel_rfl) (by kernel_rfl) rfl rfl (fun _ _ _ h => h) ?_; intro a29 hE30; clear hE28
  refine d_pure (fun _ h => h) (v := .int .i64 xp) 10 rfl hE30 (y_move rfl) rfl (by kernel_rfl) (by kernel_rfl) (by kernel_rfl) rfl rfl (fun _ _ _ h => h) ?_; intro a31 hE32; clear hE30
  refine d_pure (fun _ h => h) (v := .int .i64 (shlI 1 xp)) 11 rfl hE32 (y_shl rfl rfl (by omega)) rfl (by kernel_rfl) (by kernel_rfl) (by kernel_rfl) rfl rfl (fun _ _ _ h => h) ?_; intro a33 hE34; clear hE32
  refine d_only 12 (by kernel_rfl) rfl hE34 rfl (l_call (f := 221) (argv := [.int .i64 (andI (gI cap01 xp) (gI cap1 xp)), .int .i64 (shlI 1 xp)]) hE34 (fun _ => cf_within _ _) rfl rfl (c_within (andI (gI cap01 xp) (gI cap1 xp)) (shlI 1 xp) w8) ?_)
  rintro _ _ ⟨rfl, rfl⟩ a37 hE38; clear hE34
  refine ⟨fun h => Bool.noConfusion (h.symm.trans (show exm _ _ _ = true by kernel_rfl)), ?_⟩
  refine d_pure (fun _ h => h) (v := .bool (F_within (andI (gI cap01 xp) (gI cap1 xp)) (shlI 1 xp))) 13 rfl hE38 (y_assign rfl) rfl (by kernel_rfl) (by kernel_rfl) (by kernel_rfl) rfl rfl (fun _ _ _ h => h) ?_; intro a41 hE42; clear hE38
  refine d_done (by kernel_rfl) ?_
  have hE43 := hE42.sub (L' := [(4, .bool (F_within (andI (gI cap01 xp) (gI cap1 xp)) (shlI 1 xp)))]) ⟨rfl, trivial⟩; clear hE42
  refine p_tn ?_
  refine wp_ret ?_
  have hF : F_Frame_hasFlag_k7 xp cap00 cap01 cap1 = F_within (andI (gI cap01 xp) (gI cap1 xp)) (shlI 1 xp) := by unfold F_Frame_hasFlag_k7; rfl
  refine c_ret1 hE43 rfl rfl ?_
  exact ⟨(by rw [hF]; first | done | (dsimp only; done) | rfl), hS10.ext⟩
def F_Frame_hasFlag_k8 (xp : Int) (yp : Int) (zp : Int) (cap00 : Int) (cap01 : List Int) (cap1 : List Int) : Bool :=
  (!decide ((andI (gI cap01 xp) (gI cap1 yp)) = 0))
theorem cf_Frame_hasFlag_k8 (args : Array Value) (w : World) : (callFunc 222 args).run Try.prog w = .ok (.enter 222 args) w := by kernel_rfl
set_option maxRecDepth 100000 in
theorem c_Frame_hasFlag_k8 (xp : Int) (yp : Int) (zp : Int) (cap0B : Nat) (cap00 : Int) (cap01A : Option Addr) (cap01N cap01C : Nat) (cap01 : List Int) (cap1B : Nat) (cap1A : Option Addr) (cap1N cap1C : Nat) (cap1 : List Int) (w : World) (cap01R : RdS w 1 cap01A cap01N cap01C cap01) (cap0H : w.heap[cap0B]? = some (.cells #[.int .i64 cap00, .slice cap01A cap01N cap01C] 57 (0, 0))) (cap1R : RdS w 1 cap1A cap1N cap1C cap1) (cap1H : w.heap[cap1B]? = some (.cells #[.slice cap1A cap1N cap1C] 22 (0, 0))) (hf : 0 ≤ cap00 ∧ cap00 ≤ 30) (hfl : (cap01.length : Int) = cap00) (hx : 0 ≤ xp ∧ xp < cap00) (hy : 0 ≤ yp ∧ yp < cap00) (hb : (cap1.length : Int) = cap00) :
    Calls Try.prog 222 #[.int .i64 xp, .int .i64 yp, .int .i64 zp, .pointer (some ⟨cap0B, 0, none⟩), .pointer (some ⟨cap1B, 0, none⟩)] w (Ret fun v w' => v = .bool (F_Frame_hasFlag_k8 xp yp zp cap00 cap01 cap1) ∧ Ext w w') := by
  obtain rfl : cap01N = cap01.length := cap01R.len1.symm
  have cap01Le := cap01R.le
  obtain rfl : cap1N = cap1.length := cap1R.len1.symm
  have cap1Le := cap1R.le
  have hS := St.nil w
  have hS1 := St.rd0 hS rfl cap01R; clear hS
  have hS2 := St.rb0 hS1 rfl cap0H; clear hS1
  have hS3 := St.rd0 hS2 rfl cap1R; clear hS2
  have hS4 := St.rb0 hS3 rfl cap1H; clear hS3
  refine enter (args := [.int .i64 xp, .int .i64 yp, .int .i64 zp, .pointer (some ⟨cap0B, 0, none⟩), .pointer (some ⟨cap1B, 0, none⟩)]) Try.func222 rfl rfl ?_
  rw [Try.ntmps222]; intro a hE
  have hE := hE.sub (L' := [(0, .int .i64 xp), (1, .int .i64 yp), (2, .int .i64 zp), (3, .pointer (some ⟨cap0B, 0, none⟩)), (4, .pointer (some ⟨cap1B, 0, none⟩))]) ⟨rfl, rfl, rfl, rfl, rfl, trivial⟩
  refine c_seq ?_
  refine c_reg ?_
  refine q_step (v := .bool false) hE (y_assign rfl) rfl rfl rfl ?_; intro a5 hE6; clear hE
  refine c_nil ?_
  have hE7 := hE6.sub (L' := [(0, .int .i64 xp), (1, .int .i64 yp), (3, .pointer (some ⟨cap0B, 0, none⟩)), (4, .pointer (some ⟨cap1B, 0, none⟩))]) ⟨rfl, rfl, rfl, rfl, trivial⟩; clear hE6
  refine p_tn ?_
  refine c_seq ?_
  refine d_start (fun w w' => (fun w' => w'.cell? ⟨cap0B, 1, none⟩ = some (.slice cap01A cap01.length cap01C) ∧ w'.cell? (adr cap01A (Int.toNat xp)) = some (.int .i64 (gI cap01 xp)) ∧ w'.cell? ⟨cap1B, 0, none⟩ = some (.slice cap1A cap1.length cap1C) ∧ w'.cell? (adr cap1A (Int.toNat yp)) = some (.int .i64 (gI cap1 yp)) ∧ True) w → (fun w' => w'.cell? ⟨cap0B, 1, none⟩ = some (.slice cap01A cap01.length cap01C) ∧ w'.cell? (adr cap01A (Int.toNat xp)) = some (.int .i64 (gI cap01 xp)) ∧ w'.cell? ⟨cap1B, 0, none⟩ = some (.slice cap1A cap1.length cap1C) ∧ w'.cell? (adr cap1A (Int.toNat yp)) = some (.int .i64 (gI cap1 yp)) ∧ True) w') [1, 4, 5, 8] 12 (by kernel_rfl) rfl ?_
  intro w8 he9; have hS10 := St.go hS4 he9; clear hS4
  refine d_pure (fun _ h => h) (v := .pointer (some ⟨cap0B, 1, none⟩)) 0 rfl hE7 (y_field rfl (fun _ => by kernel_rfl)) rfl (by kernel_rfl) (by kernel_rfl) (by kernel_rfl) rfl rfl (fun _ _ _ h => h) ?_; intro a11 hE12; clear hE7
  refine d_take (fun _ h => h) (fun _ _ h k => h k) (v := .slice cap01A cap01.length cap01C) 1 rfl hE12 (S := fun w' => w'.cell? ⟨cap0B, 1, none⟩ = some (.slice cap01A cap01.length cap01C) ∧ w'.cell? (adr cap01A (Int.toNat xp)) = some (.int .i64 (gI cap01 xp)) ∧ w'.cell? ⟨cap1B, 0, none⟩ = some (.slice cap1A cap1.length cap1C) ∧ w'.cell? (adr cap1A (Int.toNat yp)) = some (.int .i64 (gI cap1 yp)) ∧ True) ⟨(St.cellR (i := 2) hS10 rfl rfl _ (Ext.refl _)), (RdS.elt (St.rdR (i := 3) hS10 rfl) (by omega) (by omega) _ (Ext.refl _)), (St.cellR (i := 0) hS10 rfl rfl _ (Ext.refl _)), (RdS.elt (St.rdR (i := 1) hS10 rfl) (by omega) (by omega) _ (Ext.refl _)), trivial⟩ (y_load (fun _ => by kernel_rfl) rfl (fun _ h => h.1)) rfl rfl (by kernel_rfl) (by kernel_rfl) (by kernel_rfl) (by kernel_rfl) rfl rfl (fun _ _ _ h => h) ?_; intro a13 hE14; clear hE12
  refine d_pure (fun _ h => h) (v := .int .i64 xp) 2 rfl hE14 (y_move rfl) rfl (by kernel_rfl) (by kernel_rfl) (by kernel_rfl) rfl rfl (fun _ _ _ h => h) ?_; intro a15 hE16; clear hE14
  refine d_pure (fun _ h => h) (v := .pointer (some (adr cap01A (Int.toNat xp)))) 3 rfl hE16 (y_idx (by kernel_rfl) (fun _ => by kernel_rfl) rfl rfl (RdS.isS (m := xp) (St.rdR (i := 3) hS10 rfl) (by omega) (by omega)) (by omega) (by omega) (Nat.mul_one _).symm) rfl (by kernel_rfl) (by kernel_rfl) (by kernel_rfl) rfl rfl (fun _ _ _ h => h) ?_; intro a17 hE18; clear hE16
  refine d_take (fun _ h => h) (fun _ _ h k => h k) (v := .int .i64 (gI cap01 xp)) 4 rfl hE18 (S := fun w' => w'.cell? ⟨cap0B, 1, none⟩ = some (.slice cap01A cap01.length cap01C) ∧ w'.cell? (adr cap01A (Int.toNat xp)) = some (.int .i64 (gI cap01 xp)) ∧ w'.cell? ⟨cap1B, 0, none⟩ = some (.slice cap1A cap1.length cap1C) ∧ w'.cell? (adr cap1A (Int.toNat yp)) = some (.int .i64 (gI cap1 yp)) ∧ True) ⟨(St.cellR (i := 2) hS10 rfl rfl _ (Ext.refl _)), (RdS.elt (St.rdR (i := 3) hS10 rfl) (by omega) (by omega) _ (Ext.refl _)), (St.cellR (i := 0) hS10 rfl rfl _ (Ext.refl _)), (RdS.elt (St.rdR (i := 1) hS10 rfl) (by omega) (by omega) _ (Ext.refl _)), trivial⟩ (y_load (fun _ => by kernel_rfl) rfl (fun _ h => h.2.1)) rfl rfl (by kernel_rfl) (by kernel_rfl) (by kernel_rfl) (by kernel_rfl) rfl rfl (fun _ _ _ h => h) ?_; intro a19 hE20; clear hE18
  refine d_take (fun _ h => h) (fun _ _ h k => h k) (v := .slice cap1A cap1.length cap1C) 5 rfl hE20 (S := fun w' => w'.cell? ⟨cap0B, 1, none⟩ = some (.slice cap01A cap01.length cap01C) ∧ w'.cell? (adr cap01A (Int.toNat xp)) = some (.int .i64 (gI cap01 xp)) ∧ w'.cell? ⟨cap1B, 0, none⟩ = some (.slice cap1A cap1.length cap1C) ∧ w'.cell? (adr cap1A (Int.toNat yp)) = some (.int .i64 (gI cap1 yp)) ∧ True) ⟨(St.cellR (i := 2) hS10 rfl rfl _ (Ext.refl _)), (RdS.elt (St.rdR (i := 3) hS10 rfl) (by omega) (by omega) _ (Ext.refl _)), (St.cellR (i := 0) hS10 rfl rfl _ (Ext.refl _)), (RdS.elt (St.rdR (i := 1) hS10 rfl) (by omega) (by omega) _ (Ext.refl _)), trivial⟩ (y_load (fun _ => by kernel_rfl) rfl (fun _ h => h.2.2.1)) rfl rfl (by kernel_rfl) (by kernel_rfl) (by kernel_rfl) (by kernel_rfl) rfl rfl (fun _ _ _ h => h) ?_; intro a21 hE22; clear hE20
  refine d_pure (fun _ h => h) (v := .int .i64 yp) 6 rfl hE22 (y_move rfl) rfl (by kernel_rfl) (by kernel_rfl) (by kernel_rfl) rfl rfl (fun _ _ _ h => h) ?_; intro a23 hE24; clear hE22
  refine d_pure (fun _ h => h) (v := .pointer (some (adr cap1A (Int.toNat yp)))) 7 rfl hE24 (y_idx (by kernel_rfl) (fun _ => by kernel_rfl) rfl rfl (RdS.isS (m := yp) (St.rdR (i := 1) hS10 rfl) (by omega) (by omega)) (by omega) (by omega) (Nat.mul_one _).symm) rfl (by kernel_rfl) (by kernel_rfl) (by kernel_rfl) rfl rfl (fun _ _ _ h => h) ?_; intro a25 hE26; clear hE24
  refine d_take (fun _ h => h) (fun _ _ h k => h k) (v := .int .i64 (gI cap1 yp)) 8 rfl hE26 (S := fun w' => w'.cell? ⟨cap0B, 1, none⟩ = some (.slice cap01A cap01.length cap01C) ∧ w'.cell? (adr cap01A (Int.toNat xp)) = some (.int .i64 (gI cap01 xp)) ∧ w'.cell? ⟨cap1B, 0, none⟩ = some (.slice cap1A cap1.length cap1C) ∧ w'.cell? (adr cap1A (Int.toNat yp)) = some (.int .i64 (gI cap1 yp)) ∧ True) ⟨(St.cellR (i := 2) hS10 rfl rfl _ (Ext.refl _)), (RdS.elt (St.rdR (i := 3) hS10 rfl) (by omega) (by omega) _ (Ext.refl _)), (St.cellR (i := 0) hS10 rfl rfl _ (Ext.refl _)), (RdS.elt (St.rdR (i := 1) hS10 rfl) (by omega) (by omega) _ (Ext.refl _)), trivial⟩ (y_load (fun _ => by kernel_rfl) rfl (fun _ h => h.2.2.2.1)) rfl rfl (by kernel_rfl) (by kernel_rfl) (by kernel_rfl) (by kernel_rfl) rfl rfl (fun _ _ _ h => h) ?_; intro a27 hE28; clear hE26
  refine d_pure (fun _ h => h) (v := .int .i64 (andI (gI cap01 xp) (gI cap1 yp))) 9 rfl hE28 (y_and rfl rfl) rfl (by kernel_rfl) (by kernel_rfl) (by kernel_rfl) rfl rfl (fun _ _ _ h => h) ?_; intro a29 hE30; clear hE28
  refine d_pure (fun _ h => h) (v := .bool (!decide ((andI (gI cap01 xp) (gI cap1 yp)) = 0))) 10 rfl hE30 (y_neq rfl rfl) rfl (by kernel_rfl) (by kernel_rfl) (by kernel_rfl) rfl rfl (fun _ _ _ h => h) ?_; intro a31 hE32; clear hE30
  refine d_pure (fun _ h => h) (v := .bool (!decide ((andI (gI cap01 xp) (gI cap1 yp)) = 0))) 11 rfl hE32 (y_assign rfl) rfl (by kernel_rfl) (by kernel_rfl) (by kernel_rfl) rfl rfl (fun _ _ _ h => h) ?_; intro a33 hE34; clear hE32
  refine d_done (by kernel_rfl) ?_
  have hE35 := hE34.sub (L' := [(8, .bool (!decide ((andI (gI cap01 xp) (gI cap1 yp)) = 0)))]) ⟨rfl, trivial⟩; clear hE34
  refine p_tn ?_
  refine wp_ret ?_
  have hF : F_Frame_hasFlag_k8 xp yp zp cap00 cap01 cap1 = (!decide ((andI (gI cap01 xp) (gI cap1 yp)) = 0)) := by unfold F_Frame_hasFlag_k8; rfl
  refine c_ret1 hE35 rfl rfl ?_
  exact ⟨(by rw [hF]; first | done | (dsimp only; done) | rfl), hS10.ext⟩
def F_Frame_hasFlag_k9 (xp : Int) (cap00 : Int) (cap01 : List Int) : Bool :=
  decide ((F_countMembers (gI cap01 xp)) ≤ 1)
theorem cf_Frame_hasFlag_k9 (args : Array Value) (w : World) : (callFunc 223 args).run Try.prog w = .ok (.enter 223 args) w := by kernel_rfl
set_option maxRecDepth 100000 in
theorem c_Frame_hasFlag_k9 (xp : Int) (cap0B : Nat) (cap00 : Int) (cap01A : Option Addr) (cap01N cap01C : Nat) (cap01 : List Int) (w : World) (cap01R : RdS w 1 cap01A cap01N cap01C cap01) (cap0H : w.heap[cap0B]? = some (.cells #[.int .i64 cap00, .slice cap01A cap01N cap01C] 57 (0, 0))) (hf : 0 ≤ cap00 ∧ cap00 ≤ 30) (hfl : (cap01.length : Int) = cap00) (hx : 0 ≤ xp ∧ xp < cap00) :
    Calls Try.prog 223 #[.int .i64 xp, .pointer (some ⟨cap0B, 0, none⟩)] w (Ret fun v w' => v = .bool (F_Frame_hasFlag_k9 xp cap00 cap01) ∧ w = w') := by
  obtain rfl : cap01N = cap01.length := cap01R.len1.symm
  have cap01Le := cap01R.le
  have hS := St.nil w
  have hS1 := St.rd0 hS rfl cap01R; clear hS
  have hS2 := St.rb0 hS1 rfl cap0H; clear hS1
  refine enter (args := [.int .i64 xp, .pointer (some ⟨cap0B, 0, none⟩)]) Try.func223 rfl rfl ?_
  rw [Try.ntmps223]; intro a hE
  have hE := hE.sub (L' := [(0, .int .i64 xp), (1, .pointer (some ⟨cap0B, 0, none⟩))]) ⟨rfl, rfl, trivial⟩
  refine c_seq ?_
  refine c_reg ?_
  refine q_step (v := .bool false) hE (y_assign rfl) rfl rfl rfl ?_; intro a3 hE4; clear hE
  refine c_nil ?_
  have hE5 := hE4.sub (L' := [(0, .int .i64 xp), (1, .pointer (some ⟨cap0B, 0, none⟩))]) ⟨rfl, rfl, trivial⟩; clear hE4
  refine p_tn ?_
  refine c_seq ?_
  refine c_reg ?_
  refine q_step (v := .pointer (some ⟨cap0B, 1, none⟩)) hE5 (y_field rfl (fun _ => by kernel_rfl)) rfl rfl rfl ?_; intro a6 hE7; clear hE5
  refine q_step (v := .slice cap01A cap01.length cap01C) hE7 (y_load (fun _ => by kernel_rfl) rfl (St.cellR (i := 0) hS2 rfl rfl)) rfl rfl rfl ?_; intro a8 hE9; clear hE7
  refine q_step (v := .int .i64 xp) hE9 (y_move rfl) rfl rfl rfl ?_; intro a10 hE11; clear hE9
  refine q_step (v := .pointer (some (adr cap01A (Int.toNat xp)))) hE11 (y_idx (by kernel_rfl) (fun _ => by kernel_rfl) rfl rfl (RdS.isS (m := xp) (St.rdR (i := 1) hS2 rfl) (by omega) (by omega)) (by omega) (by omega) (Nat.mul_one _).symm) rfl rfl rfl ?_; intro a12 hE13; clear hE11
  refine q_step (v := .int .i64 (gI cap01 xp)) hE13 (y_load (fun _ => by kernel_rfl) rfl (RdS.elt (St.rdR (i := 1) hS2 rfl) (by omega) (by omega))) rfl rfl rfl ?_; intro a14 hE15; clear hE13
  refine l_step hE15 rfl (l_call (f := 224) (argv := [.int .i64 (gI cap01 xp)]) hE15 (fun _ => cf_countMembers _ _) rfl rfl (c_countMembers (gI cap01 xp) w) ?_)
  rintro _ _ ⟨rfl, rfl⟩ a18 hE19; clear hE15
  refine q_step (v := .bool (decide ((F_countMembers (gI cap01 xp)) ≤ 1))) hE19 (y_leq rfl rfl) rfl rfl rfl ?_; intro a22 hE23; clear hE19
  refine q_step (v := .bool (decide ((F_countMembers (gI cap01 xp)) ≤ 1))) hE23 (y_assign rfl) rfl rfl rfl ?_; intro a24 hE25; clear hE23
  refine c_nil ?_
  have hE26 := hE25.sub (L' := [(3, .bool (decide ((F_countMembers (gI cap01 xp)) ≤ 1)))]) ⟨rfl, trivial⟩; clear hE25
  refine p_tn ?_
  refine wp_ret ?_
  have hF : F_Frame_hasFlag_k9 xp cap00 cap01 = decide ((F_countMembers (gI cap01 xp)) ≤ 1) := by unfold F_Frame_hasFlag_k9; rfl
  refine c_ret1 hE26 rfl rfl ?_
  exact ⟨(by rw [hF]; first | done | (dsimp only; done) | rfl), rfl⟩
def F_Frame_hasFlag (f0 : Int) (f1 : List Int) (flag : Int) : Bool :=
  bif (decide (flag = 0)) then (F_Frame_everyWorld f0 f1 (fun x0 => F_Frame_hasFlag_k1 x0 f0 f1)) else (bif (decide (flag = 1)) then (F_Frame_everyWorld f0 f1 (fun x0 => F_Frame_hasFlag_k2 x0 f0 f1)) else (bif (decide (flag = 2)) then (F_z_Equal (F_transitive f1) f1) else (bif (decide (flag = 3)) then (F_z_Equal (F_inverse f1) f1) else (bif (decide (flag = 4)) then (F_Frame_everyPair f0 f1 (fun x0 x1 x2 => F_Frame_hasFlag_k3 x0 x1 x2 f0 f1)) else (bif (decide (flag = 5)) then (F_Frame_everyPair f0 f1 (fun x0 x1 x2 => F_Frame_hasFlag_k4 x0 x1 x2 f0 f1)) else (bif (decide (flag = 6)) then (F_Frame_everyPair f0 f1 (fun x0 x1 x2 => F_Frame_hasFlag_k5 x0 x1 x2 f0 f1)) else (bif (decide (flag = 7)) then (F_Frame_everyWorld f0 f1 (fun x0 => F_Frame_hasFlag_k6 x0 (F_transitive f1))) else (bif (decide (flag = 8)) then (F_Frame_everyWorld f0 f1 (fun x0 => F_Frame_hasFlag_k7 x0 f0 f1 (F_inverse f1))) else (bif (decide (flag = 9)) then (F_Frame_everyPair f0 f1 (fun x0 x1 x2 => F_Frame_hasFlag_k8 x0 x1 x2 f0 f1 (F_inverse f1))) else (F_Frame_everyWorld f0 f1 (fun x0 => F_Frame_hasFlag_k9 x0 f0 f1)))))))))))
theorem cf_Frame_hasFlag (args : Array Value) (w : World) : (callFunc 187 args).run Try.prog w = .ok (.enter 187 args) w := by kernel_rfl
set_option maxRecDepth 100000 in
theorem c_Frame_hasFlag (f0 : Int) (f1A : Option Addr) (f1N f1C : Nat) (f1 : List Int) (flag : Int) (w : World) (f1R : RdS w 1 f1A f1N f1C f1) (hf : 0 ≤ f0 ∧ f0 ≤ 30) (hfl : (f1.length : Int) = f0) (hfm : ∀ m : Int, 0 ≤ m → m < (f1.length : Int) → 0 ≤ gI f1 m ∧ gI f1 m ≤ fullI f0) :
    Calls Try.prog 187 #[.agg #[.int .i64 f0, .slice f1A f1N f1C], .int .i64 flag] w (Ret fun v w' => v = .bool (F_Frame_hasFlag f0 f1 flag) ∧ Ext w w') := by
  obtain rfl : f1N = f1.length := f1R.len1.symm
  have f1Le := f1R.le
  have hS := St.nil w
  have hS1 := St.rd0 hS rfl f1R; clear hS
  refine enter (args := [.agg #[.int .i64 f0, .slice f1A f1.length f1C], .int .i64 flag]) Try.func187 rfl rfl ?_
  rw [Try.ntmps187]; intro a hE
  have hE := hE.sub (L' := [(0, .agg #[.int .i64 f0, .slice f1A f1.length f1C]), (1, .int .i64 flag)]) ⟨rfl, rfl, trivial⟩
  refine c_seq ?_
  refine c_reg ?_
  refine l_step hE rfl (l_box (v := .agg #[.int .i64 f0, .slice f1A f1.length f1C]) (cs := #[.int .i64 f0, .slice f1A f1.length f1C]) hS1 hE rfl rfl rfl ?_)
  intro b2 w3 hS6 he7 a4 hE5; clear hS1 hE
  refine q_step (v := .bool false) hE5 (y_assign rfl) rfl rfl rfl ?_; intro a8 hE9; clear hE5
  refine c_nil ?_
  have hE10 := hE9.sub (L' := [(1, .int .i64 flag), (2, .pointer (some ⟨b2, 0, none⟩))]) ⟨rfl, rfl, trivial⟩; clear hE9
  refine p_tn ?_
  refine c_seq ?_
  refine c_reg ?_
  refine q_step (v := .pointer (some ⟨b2, 1, none⟩)) hE10 (y_field rfl (fun _ => by kernel_rfl)) rfl rfl rfl ?_; intro a11 hE12; clear hE10
  refine q_step (v := .slice f1A f1.length f1C) hE12 (y_load (fun _ => by kernel_rfl) rfl (St.cell (i := 0) hS6 rfl rfl)) rfl rfl rfl ?_; intro a13 hE14; clear hE12
  refine l_step hE14 rfl (l_call (f := 188) (argv := [.slice f1A f1.length f1C]) hE14 (fun _ => cf_inverse _ _) rfl rfl (c_inverse f1A f1.length f1C f1 w3 (St.rdR (i := 1) hS6 rfl) (by omega) (fun m h0 h1 => by rw [hfl]; exact hfm m h0 h1)) ?_)
  rintro _ w16 ⟨b21, c22, rfl, ho23, he20⟩ a17 hE18; clear hE14
  have hf24 := inverse_len f1
  have hS19 := St.own hS6 he20 ho23; clear hS6
  refine l_step hE18 rfl (l_alloc (z := .slice none 0 0) (cs := #[.slice none 0 0]) hS19 hE18 (fun _ => by kernel_rfl) rfl rfl ?_)
  intro b25 w26 hS29 he30 a27 hE28; clear hS19 hE18
  refine l_step hE28 rfl (l_storeB (k := 0) (cs' := #[.slice b21 ((F_inverse f1).length) c22]) hS29 hE28 (fun _ => by kernel_rfl) rfl rfl rfl rfl rfl rfl rfl ?_)
  intro w32 hS35 a33 hE34; clear hS29 hE28
  refine c_nil ?_
  have hE37 := hE34.sub (L' := [(1, .int .i64 flag), (2, .pointer (some ⟨b2, 0, none⟩)), (5, .pointer (some ⟨b25, 0, none⟩))]) ⟨rfl, rfl, rfl, trivial⟩; clear hE34
  refine p_tn ?_
  refine c_seq ?_
  refine c_seq ?_
  refine c_reg ?_
  refine q_step (v := .int .i64 flag) hE37 (y_move rfl) rfl rfl rfl ?_; intro a38 hE39; clear hE37
  refine c_nil ?_
  have hE40 := hE39.sub (L' := [(2, .pointer (some ⟨b2, 0, none⟩)), (5, .pointer (some ⟨b25, 0, none⟩)), (10, .int .i64 flag)]) ⟨rfl, rfl, rfl, trivial⟩; clear hE39
  refine p_tn ?_
  refine wp_block ?_
  refine c_seq ?_
  refine c_reg ?_
  refine q_step (v := .bool (decide (flag = 0))) hE40 (y_eql rfl rfl) rfl rfl rfl ?_; intro a41 hE42; clear hE40
  refine q_step (v := .bool (decide (flag = 0))) hE42 (y_assign rfl) rfl rfl rfl ?_; intro a43 hE44; clear hE42
  refine c_nil ?_
  have hE45 := hE44.sub (L' := [(2, .pointer (some ⟨b2, 0, none⟩)), (5, .pointer (some ⟨b25, 0, none⟩)), (10, .int .i64 flag), (11, .bool (decide (flag = 0)))]) ⟨rfl, rfl, rfl, rfl, trivial⟩; clear hE44
  refine p_tn ?_
  refine c_cond hE45 rfl (fun ht46 => ?_) (fun ht46 => ?_)
  ·
   have hp47 := of_decide_eq_true ht46
   have hE48 := hE45; rw [ht46] at hE48; clear hE45
   refine c_seq ?_
   refine c_reg ?_
   refine q_step (v := .agg #[.int .i64 f0, .slice f1A f1.length f1C]) hE48 (y_loadS Try.underlying57 rfl (by kernel_rfl) rfl (St.row (i := 2) hS35 rfl)) rfl rfl rfl ?_; intro a49 hE50; clear hE48
   refine q_step (v := .func (.func 211) #[] #[.pointer (some ⟨b2, 0, none⟩)]) hE50 (y_makeFunc (vs := [.pointer (some ⟨b2, 0, none⟩)]) rfl) rfl rfl rfl ?_; intro a51 hE52; clear hE50
   refine l_step hE52 rfl (l_call (f := 210) (argv := [.agg #[.int .i64 f0, .slice f1A f1.length f1C], .func (.func 211) #[] #[.pointer (some ⟨b2, 0, none⟩)]]) hE52 (fun _ => cf_Frame_everyWorld _ _) rfl rfl (c_Frame_everyWorld f0 f1A f1.length f1C f1 211 [.pointer (some ⟨b2, 0, none⟩)] (fun x0 => F_Frame_hasFlag_k1 x0 f0 f1) (fun x => 0 ≤ x ∧ x < f0) w32 (St.rdR (i := 3) hS35 rfl) (fun _ _ => cf_Frame_hasFlag_k1 _ _) (fun x0 w' hx he => c_Frame_hasFlag_k1 x0 b2 f0 f1A f1.length f1C f1 w' (RdS.ext (St.rdR (i := 3) hS35 rfl) he) (St.row (i := 2) hS35 rfl w' he) (by omega) (by omega) hx) (by omega) (by omega) (fun m h0 h1 => ⟨h0, h1⟩)) ?_)
   rintro _ w54 ⟨rfl, he58⟩ a55 hE56; clear hE52
   have hS57 := St.go hS35 he58; clear hS35
   refine q_step (v := .bool (F_Frame_everyWorld f0 f1 (fun x0 => F_Frame_hasFlag_k1 x0 f0 f1))) hE56 (y_assign rfl) rfl rfl rfl ?_; intro a59 hE60; clear hE56
   refine c_nil ?_
   have hE61 := hE60.sub (L' := [(4, .bool (F_Frame_everyWorld f0 f1 (fun x0 => F_Frame_hasFlag_k1 x0 f0 f1)))]) ⟨rfl, trivial⟩; clear hE60
   refine p_tn ?_
   refine wp_ret ?_
   refine p_br ?_
   refine p_tr ?_
   have hF : F_Frame_hasFlag f0 f1 flag = F_Frame_everyWorld f0 f1 (fun x0 => F_Frame_hasFlag_k1 x0 f0 f1) := by unfold F_Frame_hasFlag; rw [ht46]; first | done | rfl
   refine c_ret1 hE61 rfl rfl ?_
   exact ⟨(by rw [hF]; first | done | (dsimp only; done) | rfl), hS57.ext⟩
  ·
   have hp62 := of_decide_eq_false ht46
   have hE63 := hE45; rw [ht46] at hE63; clear hE45
   refine c_seq ?_
   refine c_reg ?_
   refine q_step (v := .bool (decide (flag = 1))) hE63 (y_eql rfl rfl) rfl rfl rfl ?_; intro a64 hE65; clear hE63
   refine q_step (v := .bool (decide (flag = 1))) hE65 (y_assign rfl) rfl rfl rfl ?_; intro a66 hE67; clear hE65
   refine c_nil ?_
   have hE68 := hE67.sub (L' := [(2, .pointer (some ⟨b2, 0, none⟩)), (5, .pointer (some ⟨b25, 0, none⟩)), (10, .int .i64 flag), (16, .bool (decide (flag = 1)))]) ⟨rfl, rfl, rfl, rfl, trivial⟩; clear hE67
   refine p_tn ?_
   refine c_cond hE68 rfl (fun ht69 => ?_) (fun ht69 => ?_)
   ·
    have hp70 := of_decide_eq_true ht69
    have hE71 := hE68; rw [ht69] at hE71; clear hE68
    refine c_seq ?_
    refine c_reg ?_
    refine q_step (v := .agg #[.int .i64 f0, .slice f1A f1.length f1C]) hE71 (y_loadS Try.underlying57 rfl (by kernel_rfl) rfl (St.row (i := 2) hS35 rfl)) rfl rfl rfl ?_; intro a72 hE73; clear hE71
    refine q_step (v := .func (.func 212) #[] #[.pointer (some ⟨b2, 0, none⟩)]) hE73 (y_makeFunc (vs := [.pointer (some ⟨b2, 0, none⟩)]) rfl) rfl rfl rfl ?_; intro a74 hE75; clear hE73
    refine l_step hE75 rfl (l_call (f := 210) (argv := [.agg #[.int .i64 f0, .slice f1A f1.length f1C], .func (.func 212) #[] #[.pointer (some ⟨b2, 0, none⟩)]]) hE75 (fun _ => cf_Frame_everyWorld _ _) rfl rfl (c_Frame_everyWorld f0 f1A f1.length f1C f1 212 [.pointer (some ⟨b2, 0, none⟩)] (fun x0 => F_Frame_hasFlag_k2 x0 f0 f1) (fun x => 0 ≤ x ∧ x < f0) w32 (St.rdR (i := 3) hS35 rfl) (fun _ _ => cf_Frame_hasFlag_k2 _ _) (fun x0 w' hx he => Ret.ext (c_Frame_hasFlag_k2 x0 b2 f0 f1A f1.length f1C f1 w' (RdS.ext (St.rdR (i := 3) hS35 rfl) he) (St.row (i := 2) hS35 rfl w' he) (by omega) (by omega) hx)) (by omega) (by omega) (fun m h0 h1 => ⟨h0, h1⟩)) ?_)
    rintro _ w77 ⟨rfl, he81⟩ a78 hE79; clear hE75
    have hS80 := St.go hS35 he81; clear hS35
    refine q_step (v := .bool (F_Frame_everyWorld f0 f1 (fun x0 => F_Frame_hasFlag_k2 x0 f0 f1))) hE79 (y_assign rfl) rfl rfl rfl ?_; intro a82 hE83; clear hE79
    refine c_nil ?_
    have hE84 := hE83.sub (L' := [(4, .bool (F_Frame_everyWorld f0 f1 (fun x0 => F_Frame_hasFlag_k2 x0 f0 f1)))]) ⟨rfl, trivial⟩; clear hE83
    refine p_tn ?_
    refine wp_ret ?_
    refine p_br ?_
    refine p_tr ?_
    have hF : F_Frame_hasFlag f0 f1 flag = F_Frame_everyWorld f0 f1 (fun x0 => F_Frame_hasFlag_k2 x0 f0 f1) := by unfold F_Frame_hasFlag; rw [ht69, ht46]; first | done | rfl
    refine c_ret1 hE84 rfl rfl ?_
    exact ⟨(by rw [hF]; first | done | (dsimp only; done) | rfl), hS80.ext⟩
   ·
    have hp85 := of_decide_eq_false ht69
    have hE86 := hE68; rw [ht69] at hE86; clear hE68
    refine c_seq ?_
    refine c_reg ?_
    refine q_step (v := .bool (decide (flag = 2))) hE86 (y_eql rfl rfl) rfl rfl rfl ?_; intro a87 hE88; clear hE86
    refine q_step (v := .bool (decide (flag = 2))) hE88 (y_assign rfl) rfl rfl rfl ?_; intro a89 hE90; clear hE88
    refine c_nil ?_
    have hE91 := hE90.sub (L' := [(2, .pointer (some ⟨b2, 0, none⟩)), (5, .pointer (some ⟨b25, 0, none⟩)), (10, .int .i64 flag), (21, .bool (decide (flag = 2)))]) ⟨rfl, rfl, rfl, rfl, trivial⟩; clear hE90
    refine p_tn ?_
    refine c_cond hE91 rfl (fun ht92 => ?_) (fun ht92 => ?_)
    ·
     have hp93 := of_decide_eq_true ht92
     have hE94 := hE91; rw [ht92] at hE94; clear hE91
     refine c_seq ?_
     refine d_start (fun w w' => (fun w' => w'.cell? ⟨b2, 1, none⟩ = some (.slice f1A f1.length f1C) ∧ w'.cell? ⟨b2, 1, none⟩ = some (.slice f1A f1.length f1C) ∧ True) w → (fun w' => w'.cell? ⟨b2, 1, none⟩ = some (.slice f1A f1.length f1C) ∧ w'.cell? ⟨b2, 1, none⟩ = some (.slice f1A f1.length f1C) ∧ True) w') [1, 4] 7 (by kernel_rfl) rfl ?_
     intro w95 he96; have hS97 := St.go hS35 he96; clear hS35
     refine d_pure (fun _ h => h) (v := .pointer (some ⟨b2, 1, none⟩)) 0 rfl hE94 (y_field rfl (fun _ => by kernel_rfl)) rfl (by kernel_rfl) (by kernel_rfl) (by kernel_rfl) rfl rfl (fun _ _ _ h => h) ?_; intro a98 hE99; clear hE94
     refine d_take (fun _ h => h) (fun _ _ h k => h k) (v := .slice f1A f1.length f1C) 1 rfl hE99 (S := fun w' => w'.cell? ⟨b2, 1, none⟩ = some (.slice f1A f1.length f1C) ∧ w'.cell? ⟨b2, 1, none⟩ = some (.slice f1A f1.length f1C) ∧ True) ⟨(St.cell (i := 2) hS97 rfl rfl _ (Ext.refl _)), (St.cell (i := 2) hS97 rfl rfl _ (Ext.refl _)), trivial⟩ (y_load (fun _ => by kernel_rfl) rfl (fun _ h => h.1)) rfl rfl (by kernel_rfl) (by kernel_rfl) (by kernel_rfl) (by kernel_rfl) rfl rfl (fun _ _ _ h => h) ?_; intro a100 hE101; clear hE99
     refine d_pure (fun _ h => h) (v := .pointer (some ⟨b2, 1, none⟩)) 3 rfl hE101 (y_field rfl (fun _ => by kernel_rfl)) rfl (by kernel_rfl) (by kernel_rfl) (by kernel_rfl) rfl rfl (fun _ _ _ h => h) ?_; intro a102 hE103; clear hE101
     refine d_take (fun _ h => h) (fun _ _ h k => h k) (v := .slice f1A f1.length f1C) 4 rfl hE103 (S := fun w' => w'.cell? ⟨b2, 1, none⟩ = some (.slice f1A f1.length f1C) ∧ w'.cell? ⟨b2, 1, none⟩ = some (.slice f1A f1.length f1C) ∧ True) ⟨(St.cell (i := 2) hS97 rfl rfl _ (Ext.refl _)), (St.cell (i := 2) hS97 rfl rfl _ (Ext.refl _)), trivial⟩ (y_load (fun _ => by kernel_rfl) rfl (fun _ h => h.2.1)) rfl rfl (by kernel_rfl) (by kernel_rfl) (by kernel_rfl) (by kernel_rfl) rfl rfl (fun _ _ _ h => h) ?_; intro a104 hE105; clear hE103
     refine d_only 2 (by kernel_rfl) rfl hE105 rfl (l_call (f := 214) (argv := [.slice f1A f1.length f1C]) hE105 (fun _ => cf_transitive _ _) rfl rfl (c_transitive f1A f1.length f1C f1 w95 (St.rdR (i := 3) hS97 rfl) (by omega)) ?_)
     rintro _ w107 ⟨b112, c113, rfl, ho114, he111⟩ a108 hE109; clear hE105
     have hf115 := transitive_len f1
     have hS110 := St.own hS97 he111 ho114; clear hS97
     refine ⟨fun _ _ => ⟨(St.cell (i := 3) hS110 rfl rfl _ (Ext.refl _)), (St.cell (i := 3) hS110 rfl rfl _ (Ext.refl _)), trivial⟩, ?_⟩
     refine d_only 5 (by kernel_rfl) rfl hE109 rfl (l_call (f := 213) (argv := [.slice b112 ((F_transitive f1).length) c113, .slice f1A f1.length f1C]) hE109 (fun _ => cf_z_Equal _ _) rfl rfl (c_z_Equal b112 ((F_transitive f1).length) c113 (F_transitive f1) f1A f1.length f1C f1 w107 (St.rdO (i := 0) hS110 rfl) (St.rdR (i := 4) hS110 rfl)) ?_)
     rintro _ w117 ⟨rfl, he121⟩ a118 hE119; clear hE109
     have hS120 := St.go hS110 he121; clear hS110
     refine ⟨fun h => Bool.noConfusion (h.symm.trans (show exm _ _ _ = true by kernel_rfl)), ?_⟩
     refine d_pure (fun _ h => h) (v := .bool (F_z_Equal (F_transitive f1) f1)) 6 rfl hE119 (y_assign rfl) rfl (by kernel_rfl) (by kernel_rfl) (by kernel_rfl) rfl rfl (fun _ _ _ h => h) ?_; intro a122 hE123; clear hE119
     refine d_done (by kernel_rfl) ?_
     have hE124 := hE123.sub (L' := [(4, .bool (F_z_Equal (F_transitive f1) f1))]) ⟨rfl, trivial⟩; clear hE123
     refine p_tn ?_
     refine wp_ret ?_
     refine p_br ?_
     refine p_tr ?_
     have hF : F_Frame_hasFlag f0 f1 flag = F_z_Equal (F_transitive f1) f1 := by unfold F_Frame_hasFlag; rw [ht92, ht69, ht46]; first | done | rfl
     refine c_ret1 hE124 rfl rfl ?_
     exact ⟨(by rw [hF]; first | done | (dsimp only; done) | rfl), hS120.ext⟩
    ·
     have hp125 := of_decide_eq_false ht92
     have hE126 := hE91; rw [ht92] at hE126; clear hE91
     refine c_seq ?_
     refine c_reg ?_
     refine q_step (v := .bool (decide (flag = 3))) hE126 (y_eql rfl rfl) rfl rfl rfl ?_; intro a127 hE128; clear hE126
     refine q_step (v := .bool (decide (flag = 3))) hE128 (y_assign rfl) rfl rfl rfl ?_; intro a129 hE130; clear hE128
     refine c_nil ?_
     have hE131 := hE130.sub (L' := [(2, .pointer (some ⟨b2, 0, none⟩)), (5, .pointer (some ⟨b25, 0, none⟩)), (10, .int .i64 flag), (29, .bool (decide (flag = 3)))]) ⟨rfl, rfl, rfl, rfl, trivial⟩; clear hE130
     refine p_tn ?_
     refine c_cond hE131 rfl (fun ht132 => ?_) (fun ht132 => ?_)
     ·
      have hp133 := of_decide_eq_true ht132
      have hE134 := hE131; rw [ht132] at hE134; clear hE131
      refine c_seq ?_
      refine c_reg ?_
      refine q_step (v := .slice b21 ((F_inverse f1).length) c22) hE134 (y_load (fun _ => by kernel_rfl) rfl (St.cell (i := 0) hS35 rfl rfl)) rfl rfl rfl ?_; intro a135 hE136; clear hE134
      refine q_step (v := .pointer (some ⟨b2, 1, none⟩)) hE136 (y_field rfl (fun _ => by kernel_rfl)) rfl rfl rfl ?_; intro a137 hE138; clear hE136
      refine q_step (v := .slice f1A f1.length f1C) hE138 (y_load (fun _ => by kernel_rfl) rfl (St.cell (i := 2) hS35 rfl rfl)) rfl rfl rfl ?_; intro a139 hE140; clear hE138
      refine l_step hE140 rfl (l_call (f := 213) (argv := [.slice b21 ((F_inverse f1).length) c22, .slice f1A f1.length f1C]) hE140 (fun _ => cf_z_Equal _ _) rfl rfl (c_z_Equal b21 ((F_inverse f1).length) c22 (F_inverse f1) f1A f1.length f1C f1 w32 (St.rdO (i := 1) hS35 rfl) (St.rdR (i := 3) hS35 rfl)) ?_)
      rintro _ w142 ⟨rfl, he146⟩ a143 hE144; clear hE140
      have hS145 := St.go hS35 he146; clear hS35
      refine q_step (v := .bool (F_z_Equal (F_inverse f1) f1)) hE144 (y_assign rfl) rfl rfl rfl ?_; intro a147 hE148; clear hE144
      refine c_nil ?_
      have hE149 := hE148.sub (L' := [(4, .bool (F_z_Equal (F_inverse f1) f1))]) ⟨rfl, trivial⟩; clear hE148
      refine p_tn ?_
      refine wp_ret ?_
      refine p_br ?_
      refine p_tr ?_
      have hF : F_Frame_hasFlag f0 f1 flag = F_z_Equal (F_inverse f1) f1 := by unfold F_Frame_hasFlag; rw [ht132, ht92, ht69, ht46]; first | done | rfl
      refine c_ret1 hE149 rfl rfl ?_
      exact ⟨(by rw [hF]; first | done | (dsimp only; done) | rfl), hS145.ext⟩
     ·
      have hp150 := of_decide_eq_false ht132
      have hE151 := hE131; rw [ht132] at hE151; clear hE131
      refine c_seq ?_
      refine c_reg ?_
      refine q_step (v := .bool (decide (flag = 4))) hE151 (y_eql rfl rfl) rfl rfl rfl ?_; intro a152 hE153; clear hE151
      refine q_step (v := .bool (decide (flag = 4))) hE153 (y_assign rfl) rfl rfl rfl ?_; intro a154 hE155; clear hE153
      refine c_nil ?_
      have hE156 := hE155.sub (L' := [(2, .pointer (some ⟨b2, 0, none⟩)), (5, .pointer (some ⟨b25, 0, none⟩)), (10, .int .i64 flag), (35, .bool (decide (flag = 4)))]) ⟨rfl, rfl, rfl, rfl, trivial⟩; clear hE155
      refine p_tn ?_
      refine c_cond hE156 rfl (fun ht157 => ?_) (fun ht157 => ?_)
      ·
       have hp158 := of_decide_eq_true ht157
       have hE159 := hE156; rw [ht157] at hE159; clear hE156
       refine c_seq ?_
       refine c_reg ?_
       refine q_step (v := .agg #[.int .i64 f0, .slice f1A f1.length f1C]) hE159 (y_loadS Try.underlying57 rfl (by kernel_rfl) rfl (St.row (i := 2) hS35 rfl)) rfl rfl rfl ?_; intro a160 hE161; clear hE159
       refine q_step (v := .func (.func 216) #[] #[.pointer (some ⟨b2, 0, none⟩)]) hE161 (y_makeFunc (vs := [.pointer (some ⟨b2, 0, none⟩)]) rfl) rfl rfl rfl ?_; intro a162 hE163; clear hE161
       refine l_step hE163 rfl (l_call (f := 215) (argv := [.agg #[.int .i64 f0, .slice f1A f1.length f1C], .func (.func 216) #[] #[.pointer (some ⟨b2, 0, none⟩)]]) hE163 (fun _ => cf_Frame_everyPair _ _) rfl rfl (c_Frame_everyPair f0 f1A f1.length f1C f1 216 [.pointer (some ⟨b2, 0, none⟩)] (fun x0 x1 x2 => F_Frame_hasFlag_k3 x0 x1 x2 f0 f1) (fun x y z => (0 ≤ x ∧ x < f0) ∧ (0 ≤ y ∧ y < f0) ∧ 0 ≤ z ∧ z < f0) w32 (St.rdR (i := 3) hS35 rfl) (fun _ _ => cf_Frame_hasFlag_k3 _ _) (fun x0 x1 x2 w' hx he => c_Frame_hasFlag_k3 x0 x1 x2 b2 f0 f1A f1.length f1C f1 w' (RdS.ext (St.rdR (i := 3) hS35 rfl) he) (St.row (i := 2) hS35 rfl w' he) (by omega) (by omega) hx.2.1 hx.2.2) (by omega) (by omega) hfm (fun x y z a b c d e f => ⟨⟨a, b⟩, ⟨c, d⟩, e, f⟩)) ?_)
       rintro _ w165 ⟨rfl, he169⟩ a166 hE167; clear hE163
       have hS168 := St.go hS35 he169; clear hS35
       refine q_step (v := .bool (F_Frame_everyPair f0 f1 (fun x0 x1 x2 => F_Frame_hasFlag_k3 x0 x1 x2 f0 f1))) hE167 (y_assign rfl) rfl rfl rfl ?_; intro a170 hE171; clear hE167
       refine c_nil ?_
       have hE172 := hE171.sub (L' := [(4, .bool (F_Frame_everyPair f0 f1 (fun x0 x1 x2 => F_Frame_hasFlag_k3 x0 x1 x2 f0 f1)))]) ⟨rfl, trivial⟩; clear hE171
       refine p_tn ?_
       refine wp_ret ?_
       refine p_br ?_
       refine p_tr ?_
       have hF : F_Frame_hasFlag f0 f1 flag = F_Frame_everyPair f0 f1 (fun x0 x1 x2 => F_Frame_hasFlag_k3 x0 x1 x2 f0 f1) := by unfold F_Frame_hasFlag; rw [ht157, ht132, ht92, ht69, ht46]; first | done | rfl
       refine c_ret1 hE172 rfl rfl ?_
       exact ⟨(by rw [hF]; first | done | (dsimp only; done) | rfl), hS168.ext⟩
      ·
       have hp173 := of_decide_eq_false ht157
       have hE174 := hE156; rw [ht157] at hE174; clear hE156
       refine c_seq ?_
       refine c_reg ?_
       refine q_step (v := .bool (decide (flag = 5))) hE174 (y_eql rfl rfl) rfl rfl rfl ?_; intro a175 hE176; clear hE174
       refine q_step (v := .bool (decide (flag = 5))) hE176 (y_assign rfl) rfl rfl rfl ?_; intro a177 hE178; clear hE176
       refine c_nil ?_
       have hE179 := hE178.sub (L' := [(2, .pointer (some ⟨b2, 0, none⟩)), (5, .pointer (some ⟨b25, 0, none⟩)), (10, .int .i64 flag), (40, .bool (decide (flag = 5)))]) ⟨rfl, rfl, rfl, rfl, trivial⟩; clear hE178
       refine p_tn ?_
       refine c_cond hE179 rfl (fun ht180 => ?_) (fun ht180 => ?_)
       ·
        have hp181 := of_decide_eq_true ht180
        have hE182 := hE179; rw [ht180] at hE182; clear hE179
        refine c_seq ?_
        refine c_reg ?_
        refine q_step (v := .agg #[.int .i64 f0, .slice f1A f1.length f1C]) hE182 (y_loadS Try.underlying57 rfl (by kernel_rfl) rfl (St.row (i := 2) hS35 rfl)) rfl rfl rfl ?_; intro a183 hE184; clear hE182
        refine q_step (v := .func (.func 217) #[] #[.pointer (some ⟨b2, 0, none⟩)]) hE184 (y_makeFunc (vs := [.pointer (some ⟨b2, 0, none⟩)]) rfl) rfl rfl rfl ?_; intro a185 hE186; clear hE184
        refine l_step hE186 rfl (l_call (f := 215) (argv := [.agg #[.int .i64 f0, .slice f1A f1.length f1C], .func (.func 217) #[] #[.pointer (some ⟨b2, 0, none⟩)]]) hE186 (fun _ => cf_Frame_everyPair _ _) rfl rfl (c_Frame_everyPair f0 f1A f1.length f1C f1 217 [.pointer (some ⟨b2, 0, none⟩)] (fun x0 x1 x2 => F_Frame_hasFlag_k4 x0 x1 x2 f0 f1) (fun x y z => (0 ≤ x ∧ x < f0) ∧ (0 ≤ y ∧ y < f0) ∧ 0 ≤ z ∧ z < f0) w32 (St.rdR (i := 3) hS35 rfl) (fun _ _ => cf_Frame_hasFlag_k4 _ _) (fun x0 x1 x2 w' hx he => c_Frame_hasFlag_k4 x0 x1 x2 b2 f0 f1A f1.length f1C f1 w' (RdS.ext (St.rdR (i := 3) hS35 rfl) he) (St.row (i := 2) hS35 rfl w' he) (by omega) (by omega) hx.2.1 hx.2.2) (by omega) (by omega) hfm (fun x y z a b c d e f => ⟨⟨a, b⟩, ⟨c, d⟩, e, f⟩)) ?_)
        rintro _ w188 ⟨rfl, he192⟩ a189 hE190; clear hE186
        have hS191 := St.go hS35 he192; clear hS35
        refine q_step (v := .bool (F_Frame_everyPair f0 f1 (fun x0 x1 x2 => F_Frame_hasFlag_k4 x0 x1 x2 f0 f1))) hE190 (y_assign rfl) rfl rfl rfl ?_; intro a193 hE194; clear hE190
        refine c_nil ?_
        have hE195 := hE194.sub (L' := [(4, .bool (F_Frame_everyPair f0 f1 (fun x0 x1 x2 => F_Frame_hasFlag_k4 x0 x1 x2 f0 f1)))]) ⟨rfl, trivial⟩; clear hE194
        refine p_tn ?_
        refine wp_ret ?_
        refine p_br ?_
        refine p_tr ?_
        have hF : F_Frame_hasFlag f0 f1 flag = F_Frame_everyPair f0 f1 (fun x0 x1 x2 => F_Frame_hasFlag_k4 x0 x1 x2 f0 f1) := by unfold F_Frame_hasFlag; rw [ht180, ht157, ht132, ht92, ht69, ht46]; first | done | rfl
        refine c_ret1 hE195 rfl rfl ?_
        exact ⟨(by rw [hF]; first | done | (dsimp only; done) | rfl), hS191.ext⟩
       ·
        have hp196 := of_decide_eq_false ht180
        have hE197 := hE179; rw [ht180] at hE197; clear hE179
        refine c_seq ?_
        refine c_reg ?_
        refine q_step (v := .bool (decide (flag = 6))) hE197 (y_eql rfl rfl) rfl rfl rfl ?_; intro a198 hE199; clear hE197
        refine q_step (v := .bool (decide (flag = 6))) hE199 (y_assign rfl) rfl rfl rfl ?_; intro a200 hE201; clear hE199
        refine c_nil ?_
        have hE202 := hE201.sub (L' := [(2, .pointer (some ⟨b2, 0, none⟩)), (5, .pointer (some ⟨b25, 0, none⟩)), (10, .int .i64 flag), (45, .bool (decide (flag = 6)))]) ⟨rfl, rfl, rfl, rfl, trivial⟩; clear hE201
        refine p_tn ?_
        refine c_cond hE202 rfl (fun ht203 => ?_) (fun ht203 => ?_)
        ·
         have hp204 := of_decide_eq_true ht203
         have hE205 := hE202; rw [ht203] at hE205; clear hE202
         refine c_seq ?_
         refine c_reg ?_
         refine q_step (v := .agg #[.int .i64 f0, .slice f1A f1.length f1C]) hE205 (y_loadS Try.underlying57 rfl (by kernel_rfl) rfl (St.row (i := 2) hS35 rfl)) rfl rfl rfl ?_; intro a206 hE207; clear hE205
         refine q_step (v := .func (.func 218) #[] #[.pointer (some ⟨b2, 0, none⟩)]) hE207 (y_makeFunc (vs := [.pointer (some ⟨b2, 0, none⟩)]) rfl) rfl rfl rfl ?_; intro a208 hE209; clear hE207
         refine l_step hE209 rfl (l_call (f := 215) (argv := [.agg #[.int .i64 f0, .slice f1A f1.length f1C], .func (.func 218) #[] #[.pointer (some ⟨b2, 0, none⟩)]]) hE209 (fun _ => cf_Frame_everyPair _ _) rfl rfl (c_Frame_everyPair f0 f1A f1.length f1C f1 218 [.pointer (some ⟨b2, 0, none⟩)] (fun x0 x1 x2 => F_Frame_hasFlag_k5 x0 x1 x2 f0 f1) (fun x y z => (0 ≤ x ∧ x < f0) ∧ (0 ≤ y ∧ y < f0) ∧ 0 ≤ z ∧ z < f0) w32 (St.rdR (i := 3) hS35 rfl) (fun _ _ => cf_Frame_hasFlag_k5 _ _) (fun x0 x1 x2 w' hx he => c_Frame_hasFlag_k5 x0 x1 x2 b2 f0 f1A f1.length f1C f1 w' (RdS.ext (St.rdR (i := 3) hS35 rfl) he) (St.row (i := 2) hS35 rfl w' he) (by omega) (by omega) hx.2.1 hx.2.2) (by omega) (by omega) hfm (fun x y z a b c d e f => ⟨⟨a, b⟩, ⟨c, d⟩, e, f⟩)) ?_)
         rintro _ w211 ⟨rfl, he215⟩ a212 hE213; clear hE209
         have hS214 := St.go hS35 he215; clear hS35
         refine q_step (v := .bool (F_Frame_everyPair f0 f1 (fun x0 x1 x2 => F_Frame_hasFlag_k5 x0 x1 x2 f0 f1))) hE213 (y_assign rfl) rfl rfl rfl ?_; intro a216 hE217; clear hE213
         refine c_nil ?_
         have hE218 := hE217.sub (L' := [(4, .bool (F_Frame_everyPair f0 f1 (fun x0 x1 x2 => F_Frame_hasFlag_k5 x0 x1 x2 f0 f1)))]) ⟨rfl, trivial⟩; clear hE217
         refine p_tn ?_
         refine wp_ret ?_
         refine p_br ?_
         refine p_tr ?_
         have hF : F_Frame_hasFlag f0 f1 flag = F_Frame_everyPair f0 f1 (fun x0 x1 x2 => F_Frame_hasFlag_k5 x0 x1 x2 f0 f1) := by unfold F_Frame_hasFlag; rw [ht203, ht180, ht157, ht132, ht92, ht69, ht46]; first | done | rfl
         refine c_ret1 hE218 rfl rfl ?_
         exact ⟨(by rw [hF]; first | done | (dsimp only; done) | rfl), hS214.ext⟩
        ·
         have hp219 := of_decide_eq_false ht203
         have hE220 := hE202; rw [ht203] at hE220; clear hE202
         refine c_seq ?_
         refine c_reg ?_
         refine q_step (v := .bool (decide (flag = 7))) hE220 (y_eql rfl rfl) rfl rfl rfl ?_; intro a221 hE222; clear hE220
         refine q_step (v := .bool (decide (flag = 7))) hE222 (y_assign rfl) rfl rfl rfl ?_; intro a223 hE224; clear hE222
         refine c_nil ?_
         have hE225 := hE224.sub (L' := [(2, .pointer (some ⟨b2, 0, none⟩)), (5, .pointer (some ⟨b25, 0, none⟩)), (10, .int .i64 flag), (50, .bool (decide (flag = 7)))]) ⟨rfl, rfl, rfl, rfl, trivial⟩; clear hE224
         refine p_tn ?_
         refine c_cond hE225 rfl (fun ht226 => ?_) (fun ht226 => ?_)
         ·
          have hp227 := of_decide_eq_true ht226
          have hE228 := hE225; rw [ht226] at hE228; clear hE225
          refine c_seq ?_
          refine c_reg ?_
          refine q_step (v := .pointer (some ⟨b2, 1, none⟩)) hE228 (y_field rfl (fun _ => by kernel_rfl)) rfl rfl rfl ?_; intro a229 hE230; clear hE228
          refine q_step (v := .slice f1A f1.length f1C) hE230 (y_load (fun _ => by kernel_rfl) rfl (St.cell (i := 2) hS35 rfl rfl)) rfl rfl rfl ?_; intro a231 hE232; clear hE230
          refine l_step hE232 rfl (l_call (f := 214) (argv := [.slice f1A f1.length f1C]) hE232 (fun _ => cf_transitive _ _) rfl rfl (c_transitive f1A f1.length f1C f1 w32 (St.rdR (i := 3) hS35 rfl) (by omega)) ?_)
          rintro _ w234 ⟨b239, c240, rfl, ho241, he238⟩ a235 hE236; clear hE232
          have hf242 := transitive_len f1
          have hS237 := St.own hS35 he238 ho241; clear hS35
          refine l_step hE236 rfl (l_alloc (z := .slice none 0 0) (cs := #[.slice none 0 0]) hS237 hE236 (fun _ => by kernel_rfl) rfl rfl ?_)
          intro b243 w244 hS247 he248 a245 hE246; clear hS237 hE236
          refine l_step hE246 rfl (l_storeB (k := 0) (cs' := #[.slice b239 ((F_transitive f1).length) c240]) hS247 hE246 (fun _ => by kernel_rfl) rfl rfl rfl rfl rfl rfl rfl ?_)
          intro w250 hS253 a251 hE252; clear hS247 hE246
          refine c_nil ?_
          have hE255 := hE252.sub (L' := [(2, .pointer (some ⟨b2, 0, none⟩)), (6, .pointer (some ⟨b243, 0, none⟩))]) ⟨rfl, rfl, trivial⟩; clear hE252
          refine p_tn ?_
          refine c_seq ?_
          refine c_reg ?_
          refine q_step (v := .agg #[.int .i64 f0, .slice f1A f1.length f1C]) hE255 (y_loadS Try.underlying57 rfl (by kernel_rfl) rfl (St.row (i := 4) hS253 rfl)) rfl rfl rfl ?_; intro a256 hE257; clear hE255
          refine q_step (v := .func (.func 219) #[] #[.pointer (some ⟨b243, 0, none⟩)]) hE257 (y_makeFunc (vs := [.pointer (some ⟨b243, 0, none⟩)]) rfl) rfl rfl rfl ?_; intro a258 hE259; clear hE257
          refine l_step hE259 rfl (l_call (f := 210) (argv := [.agg #[.int .i64 f0, .slice f1A f1.length f1C], .func (.func 219) #[] #[.pointer (some ⟨b243, 0, none⟩)]]) hE259 (fun _ => cf_Frame_everyWorld _ _) rfl rfl (c_Frame_everyWorld f0 f1A f1.length f1C f1 219 [.pointer (some ⟨b243, 0, none⟩)] (fun x0 => F_Frame_hasFlag_k6 x0 (F_transitive f1)) (fun x => 0 ≤ x ∧ x < f0) w250 (St.rdR (i := 5) hS253 rfl) (fun _ _ => cf_Frame_hasFlag_k6 _ _) (fun x0 w' hx he => Ret.ext (c_Frame_hasFlag_k6 x0 b243 b239 ((F_transitive f1).length) c240 (F_transitive f1) w' (RdS.ext (St.rdO (i := 1) hS253 rfl) he) (St.row (i := 0) hS253 rfl w' he) (by rw [transitive_len]; omega))) (by omega) (by omega) (fun m h0 h1 => ⟨h0, h1⟩)) ?_)
          rintro _ w261 ⟨rfl, he265⟩ a262 hE263; clear hE259
          have hS264 := St.go hS253 he265; clear hS253
          refine q_step (v := .bool (F_Frame_everyWorld f0 f1 (fun x0 => F_Frame_hasFlag_k6 x0 (F_transitive f1)))) hE263 (y_assign rfl) rfl rfl rfl ?_; intro a266 hE267; clear hE263
          refine c_nil ?_
          have hE268 := hE267.sub (L' := [(4, .bool (F_Frame_everyWorld f0 f1 (fun x0 => F_Frame_hasFlag_k6 x0 (F_transitive f1))))]) ⟨rfl, trivial⟩; clear hE267
          refine p_tn ?_
          refine wp_ret ?_
          refine p_br ?_
          refine p_tr ?_
          have hF : F_Frame_hasFlag f0 f1 flag = F_Frame_everyWorld f0 f1 (fun x0 => F_Frame_hasFlag_k6 x0 (F_transitive f1)) := by unfold F_Frame_hasFlag; rw [ht226, ht203, ht180, ht157, ht132, ht92, ht69, ht46]; first | done | rfl
          refine c_ret1 hE268 rfl rfl ?_
          exact ⟨(by rw [hF]; first | done | (dsimp only; done) | rfl), hS264.ext⟩
         ·
          have hp269 := of_decide_eq_false ht226
          have hE270 := hE225; rw [ht226] at hE270; clear hE225
          refine c_seq ?_
          refine c_reg ?_
          refine q_step (v := .bool (decide (flag = 8))) hE270 (y_eql rfl rfl) rfl rfl rfl ?_; intro a271 hE272; clear hE270
          refine q_step (v := .bool (decide (flag = 8))) hE272 (y_assign rfl) rfl rfl rfl ?_; intro a273 hE274; clear hE272
          refine c_nil ?_
          have hE275 := hE274.sub (L' := [(2, .pointer (some ⟨b2, 0, none⟩)), (5, .pointer (some ⟨b25, 0, none⟩)), (10, .int .i64 flag), (58, .bool (decide (flag = 8)))]) ⟨rfl, rfl, rfl, rfl, trivial⟩; clear hE274
          refine p_tn ?_
          refine c_cond hE275 rfl (fun ht276 => ?_) (fun ht276 => ?_)
          ·
           have hp277 := of_decide_eq_true ht276
           have hE278 := hE275; rw [ht276] at hE278; clear hE275
           refine c_seq ?_
           refine c_reg ?_
           refine q_step (v := .agg #[.int .i64 f0, .slice f1A f1.length f1C]) hE278 (y_loadS Try.underlying57 rfl (by kernel_rfl) rfl (St.row (i := 2) hS35 rfl)) rfl rfl rfl ?_; intro a279 hE280; clear hE278
           refine q_step (v := .func (.func 220) #[] #[.pointer (some ⟨b2, 0, none⟩), .pointer (some ⟨b25, 0, none⟩)]) hE280 (y_makeFunc (vs := [.pointer (some ⟨b2, 0, none⟩), .pointer (some ⟨b25, 0, none⟩)]) rfl) rfl rfl rfl ?_; intro a281 hE282; clear hE280
           refine l_step hE282 rfl (l_call (f := 210) (argv := [.agg #[.int .i64 f0, .slice f1A f1.length f1C], .func (.func 220) #[] #[.pointer (some ⟨b2, 0, none⟩), .pointer (some ⟨b25, 0, none⟩)]]) hE282 (fun _ => cf_Frame_everyWorld _ _) rfl rfl (c_Frame_everyWorld f0 f1A f1.length f1C f1 220 [.pointer (some ⟨b2, 0, none⟩), .pointer (some ⟨b25, 0, none⟩)] (fun x0 => F_Frame_hasFlag_k7 x0 f0 f1 (F_inverse f1)) (fun x => 0 ≤ x ∧ x < f0) w32 (St.rdR (i := 3) hS35 rfl) (fun _ _ => cf_Frame_hasFlag_k7 _ _) (fun x0 w' hx he => c_Frame_hasFlag_k7 x0 b2 f0 f1A f1.length f1C f1 b25 b21 ((F_inverse f1).length) c22 (F_inverse f1) w' (RdS.ext (St.rdR (i := 3) hS35 rfl) he) (St.row (i := 2) hS35 rfl w' he) (RdS.ext (St.rdO (i := 1) hS35 rfl) he) (St.row (i := 0) hS35 rfl w' he) (by omega) (by omega) hx (by omega)) (by omega) (by omega) (fun m h0 h1 => ⟨h0, h1⟩)) ?_)
           rintro _ w284 ⟨rfl, he288⟩ a285 hE286; clear hE282
           have hS287 := St.go hS35 he288; clear hS35
           refine q_step (v := .bool (F_Frame_everyWorld f0 f1 (fun x0 => F_Frame_hasFlag_k7 x0 f0 f1 (F_inverse f1)))) hE286 (y_assign rfl) rfl rfl rfl ?_; intro a289 hE290; clear hE286
           refine c_nil ?_
           have hE291 := hE290.sub (L' := [(4, .bool (F_Frame_everyWorld f0 f1 (fun x0 => F_Frame_hasFlag_k7 x0 f0 f1 (F_inverse f1))))]) ⟨rfl, trivial⟩; clear hE290
           refine p_tn ?_
           refine wp_ret ?_
           refine p_br ?_
           refine p_tr ?_
           have hF : F_Frame_hasFlag f0 f1 flag = F_Frame_everyWorld f0 f1 (fun x0 => F_Frame_hasFlag_k7 x0 f0 f1 (F_inverse f1)) := by unfold F_Frame_hasFlag; rw [ht276, ht226, ht203, ht180, ht157, ht132, ht92, ht69, ht46]; first | done | rfl
           refine c_ret1 hE291 rfl rfl ?_
           exact ⟨(by rw [hF]; first | done | (dsimp only; done) | rfl), hS287.ext⟩
          ·
           have hp292 := of_decide_eq_false ht276
           have hE293 := hE275; rw [ht276] at hE293; clear hE275
           refine c_seq ?_
           refine c_reg ?_
           refine q_step (v := .bool (decide (flag = 9))) hE293 (y_eql rfl rfl) rfl rfl rfl ?_; intro a294 hE295; clear hE293
           refine q_step (v := .bool (decide (flag = 9))) hE295 (y_assign rfl) rfl rfl rfl ?_; intro a296 hE297; clear hE295
           refine c_nil ?_
           have hE298 := hE297.sub (L' := [(2, .pointer (some ⟨b2, 0, none⟩)), (5, .pointer (some ⟨b25, 0, none⟩)), (63, .bool (decide (flag = 9)))]) ⟨rfl, rfl, rfl, trivial⟩; clear hE297
           refine p_tn ?_
           refine c_cond hE298 rfl (fun ht299 => ?_) (fun ht299 => ?_)
           ·
            have hp300 := of_decide_eq_true ht299
            have hE301 := hE298; rw [ht299] at hE301; clear hE298
            refine c_seq ?_
            refine c_reg ?_
            refine q_step (v := .agg #[.int .i64 f0, .slice f1A f1.length f1C]) hE301 (y_loadS Try.underlying57 rfl (by kernel_rfl) rfl (St.row (i := 2) hS35 rfl)) rfl rfl rfl ?_; intro a302 hE303; clear hE301
            refine q_step (v := .func (.func 222) #[] #[.pointer (some ⟨b2, 0, none⟩), .pointer (some ⟨b25, 0, none⟩)]) hE303 (y_makeFunc (vs := [.pointer (some ⟨b2, 0, none⟩), .pointer (some ⟨b25, 0, none⟩)]) rfl) rfl rfl rfl ?_; intro a304 hE305; clear hE303
            refine l_step hE305 rfl (l_call (f := 215) (argv := [.agg #[.int .i64 f0, .slice f1A f1.length f1C], .func (.func 222) #[] #[.pointer (some ⟨b2, 0, none⟩), .pointer (some ⟨b25, 0, none⟩)]]) hE305 (fun _ => cf_Frame_everyPair _ _) rfl rfl (c_Frame_everyPair f0 f1A f1.length f1C f1 222 [.pointer (some ⟨b2, 0, none⟩), .pointer (some ⟨b25, 0, none⟩)] (fun x0 x1 x2 => F_Frame_hasFlag_k8 x0 x1 x2 f0 f1 (F_inverse f1)) (fun x y z => (0 ≤ x ∧ x < f0) ∧ (0 ≤ y ∧ y < f0) ∧ 0 ≤ z ∧ z < f0) w32 (St.rdR (i := 3) hS35 rfl) (fun _ _ => cf_Frame_hasFlag_k8 _ _) (fun x0 x1 x2 w' hx he => c_Frame_hasFlag_k8 x0 x1 x2 b2 f0 f1A f1.length f1C f1 b25 b21 ((F_inverse f1).length) c22 (F_inverse f1) w' (RdS.ext (St.rdR (i := 3) hS35 rfl) he) (St.row (i := 2) hS35 rfl w' he) (RdS.ext (St.rdO (i := 1) hS35 rfl) he) (St.row (i := 0) hS35 rfl w' he) (by omega) (by omega) hx.1 hx.2.1 (by omega)) (by omega) (by omega) hfm (fun x y z a b c d e f => ⟨⟨a, b⟩, ⟨c, d⟩, e, f⟩)) ?_)
            rintro _ w307 ⟨rfl, he311⟩ a308 hE309; clear hE305
            have hS310 := St.go hS35 he311; clear hS35
            refine q_step (v := .bool (F_Frame_everyPair f0 f1 (fun x0 x1 x2 => F_Frame_hasFlag_k8 x0 x1 x2 f0 f1 (F_inverse f1)))) hE309 (y_assign rfl) rfl rfl rfl ?_; intro a312 hE313; clear hE309
            refine c_nil ?_
            have hE314 := hE313.sub (L' := [(4, .bool (F_Frame_everyPair f0 f1 (fun x0 x1 x2 => F_Frame_hasFlag_k8 x0 x1 x2 f0 f1 (F_inverse f1))))]) ⟨rfl, trivial⟩; clear hE313
            refine p_tn ?_
            refine wp_ret ?_
            refine p_br ?_
            refine p_tr ?_
            have hF : F_Frame_hasFlag f0 f1 flag = F_Frame_everyPair f0 f1 (fun x0 x1 x2 => F_Frame_hasFlag_k8 x0 x1 x2 f0 f1 (F_inverse f1)) := by unfold F_Frame_hasFlag; rw [ht299, ht276, ht226, ht203, ht180, ht157, ht132, ht92, ht69, ht46]; first | done | rfl
            refine c_ret1 hE314 rfl rfl ?_
            exact ⟨(by rw [hF]; first | done | (dsimp only; done) | rfl), hS310.ext⟩
           ·
            have hp315 := of_decide_eq_false ht299
            have hE316 := hE298; rw [ht299] at hE316; clear hE298
            refine wp_skip ?_
            refine p_bn ?_
            refine p_tn ?_
            refine c_seq ?_
            refine c_reg ?_
            refine q_step (v := .agg #[.int .i64 f0, .slice f1A f1.length f1C]) hE316 (y_loadS Try.underlying57 rfl (by kernel_rfl) rfl (St.row (i := 2) hS35 rfl)) rfl rfl rfl ?_; intro a317 hE318; clear hE316
            refine q_step (v := .func (.func 223) #[] #[.pointer (some ⟨b2, 0, none⟩)]) hE318 (y_makeFunc (vs := [.pointer (some ⟨b2, 0, none⟩)]) rfl) rfl rfl rfl ?_; intro a319 hE320; clear hE318
            refine l_step hE320 rfl (l_call (f := 210) (argv := [.agg #[.int .i64 f0, .slice f1A f1.length f1C], .func (.func 223) #[] #[.pointer (some ⟨b2, 0, none⟩)]]) hE320 (fun _ => cf_Frame_everyWorld _ _) rfl rfl (c_Frame_everyWorld f0 f1A f1.length f1C f1 223 [.pointer (some ⟨b2, 0, none⟩)] (fun x0 => F_Frame_hasFlag_k9 x0 f0 f1) (fun x => 0 ≤ x ∧ x < f0) w32 (St.rdR (i := 3) hS35 rfl) (fun _ _ => cf_Frame_hasFlag_k9 _ _) (fun x0 w' hx he => Ret.ext (c_Frame_hasFlag_k9 x0 b2 f0 f1A f1.length f1C f1 w' (RdS.ext (St.rdR (i := 3) hS35 rfl) he) (St.row (i := 2) hS35 rfl w' he) (by omega) (by omega) hx)) (by omega) (by omega) (fun m h0 h1 => ⟨h0, h1⟩)) ?_)
            rintro _ w322 ⟨rfl, he326⟩ a323 hE324; clear hE320
            have hS325 := St.go hS35 he326; clear hS35
            refine q_step (v := .bool (F_Frame_everyWorld f0 f1 (fun x0 => F_Frame_hasFlag_k9 x0 f0 f1))) hE324 (y_assign rfl) rfl rfl rfl ?_; intro a327 hE328; clear hE324
            refine c_nil ?_
            have hE329 := hE328.sub (L' := [(4, .bool (F_Frame_everyWorld f0 f1 (fun x0 => F_Frame_hasFlag_k9 x0 f0 f1)))]) ⟨rfl, trivial⟩; clear hE328
            refine p_tn ?_
            refine wp_ret ?_
            have hF : F_Frame_hasFlag f0 f1 flag = F_Frame_everyWorld f0 f1 (fun x0 => F_Frame_hasFlag_k9 x0 f0 f1) := by unfold F_Frame_hasFlag; rw [ht299, ht276, ht226, ht203, ht180, ht157, ht132, ht92, ht69, ht46]; first | done | rfl
            refine c_ret1 hE329 rfl rfl ?_
            exact ⟨(by rw [hF]; first | done | (dsimp only; done) | rfl), hS325.ext⟩
theorem inverse_bits {n : Nat} (hn : n ≤ 30) {a : List Int} (ha : Rl n a) : Rl n (F_inverse a) ∧ ∀ i j, i < n → rb (F_inverse a) i j = (decide (j < n) && rb a j i) := by
  have hl := ha.1
  obtain ⟨r1, r2⟩ := l01Inverse_rows a
  rw [inverse_eq hn ha]
  have key : ∀ i : Nat, i < n → Mk n (gI (F_l01Inverse a) (i : Int)) ∧ ∀ j, tb (gI (F_l01Inverse a) (i : Int)) j = (decide (j < n) && F_l01Bit (gI a (j : Int)) (i : Int)) := fun i hi => by
    rw [r2 i (by omega), hl]
    exact pow_fold (n := n) (by omega) (fun j => F_l01Bit (gI a (j : Int)) (i : Int))
  refine ⟨⟨by omega, fun i hi => (key i hi).1⟩, fun i j hi => ?_⟩
  unfold rb
  rw [(key i hi).2 j]
  by_cases hj : j < n
  · congr 1
    exact tb_has (n := n) (by omega) (ha.2 j hj) (by omega)
  · rw [decide_eq_false hj]; rfl
end Go.Proofs.Ytkilkfhjfobcdaa
