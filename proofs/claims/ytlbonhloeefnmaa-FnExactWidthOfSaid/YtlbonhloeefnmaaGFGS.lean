/- GFGS: models and contracts, printed by wip/gen/gen.py -/
import Derived.Test.YtlbonhloeefnmaaGFG
set_option linter.unusedVariables false
set_option linter.unusedSimpArgs false
namespace Go.Proofs.Ytlbonhloeefnmaa
open Go.RowKit

def F_l05Flag_L3b (f0 : Int) (f1 : List Int) (flag : Int) (x7 : Int) (y8L2 : Int) (rec : Int → Except (Bool) (Int)) (z9L3 : Int) : Except (Bool) (Int) :=
  bif (decide (z9L3 < f0)) then (bif (!(F_l01Bit (gI f1 x7) z9L3)) then (rec (z9L3 + 1)) else (bif (bif (decide (flag = 5)) then ((decide ((andI (gI f1 y8L2) (gI f1 z9L3)) = 0)) || ((decide (flag = 6)) && ((!(F_l01Bit (gI f1 y8L2) z9L3)) && (!(F_l01Bit (gI f1 z9L3) y8L2))))) else ((decide (flag = 6)) && ((!(F_l01Bit (gI f1 y8L2) z9L3)) && (!(F_l01Bit (gI f1 z9L3) y8L2))))) then (.error false) else (rec (z9L3 + 1)))) else (.ok z9L3)
def F_l05Flag_L3 (f0 : Int) (f1 : List Int) (flag : Int) (x7 : Int) (y8L2 : Int) : Nat → Int → Except (Bool) (Int)
  | 0, z9L3 => .ok z9L3
  | r + 1, z9L3 => F_l05Flag_L3b f0 f1 flag x7 y8L2 (F_l05Flag_L3 f0 f1 flag x7 y8L2 r) z9L3
def F_l05Flag_L2b (f0 : Int) (f1 : List Int) (flag : Int) (x7 : Int) (rec : Int → Except (Bool) (Int)) (y8L2 : Int) : Except (Bool) (Int) :=
  bif (decide (y8L2 < f0)) then (bif (!(F_l01Bit (gI f1 x7) y8L2)) then (rec (y8L2 + 1)) else (bif (bif (decide (flag = 3)) then (!(F_l01Bit (gI f1 y8L2) x7)) else (bif (decide (flag = 4)) then (!decide ((anI (gI f1 x7) (gI f1 y8L2)) = 0)) else (bif (decide (flag = 8)) then ((!decide (x7 = y8L2)) && (F_l01Bit (gI f1 y8L2) x7)) else ((decide (flag = 9)) && (decide ((andI (gI f1 x7) (gI (F_l01Inverse f1) y8L2)) = 0)))))) then (.error false) else (bif (isOk (F_l05Flag_L3 f0 f1 flag x7 y8L2 (Int.toNat (f0 - 0) + 1) 0)) then (rec (y8L2 + 1)) else (.error (errD (F_l05Flag_L3 f0 f1 flag x7 y8L2 (Int.toNat (f0 - 0) + 1) 0)))))) else (.ok y8L2)
def F_l05Flag_L2 (f0 : Int) (f1 : List Int) (flag : Int) (x7 : Int) : Nat → Int → Except (Bool) (Int)
  | 0, y8L2 => .ok y8L2
  | r + 1, y8L2 => F_l05Flag_L2b f0 f1 flag x7 (F_l05Flag_L2 f0 f1 flag x7 r) y8L2
def F_l05Flag_L1b (f0 : Int) (f1 : List Int) (flag : Int) (rec : Int → Except (Bool) (Int)) (x7 : Int) : Except (Bool) (Int) :=
  bif (decide (x7 < f0)) then (bif (bif (decide (flag = 0)) then (!(F_l01Bit (gI f1 x7) x7)) else (bif (decide (flag = 1)) then (decide ((gI f1 x7) = 0)) else (bif (decide (flag = 2)) then (!decide ((anI (F_l01Image f1 (gI f1 x7)) (gI f1 x7)) = 0)) else (bif (decide (flag = 7)) then (F_l01Bit (gI (F_l01Closure f1) x7) x7) else ((decide (flag = 10)) && (decide (1 < (F_l01Bits (gI f1 x7))))))))) then (.error false) else (bif (isOk (F_l05Flag_L2 f0 f1 flag x7 (Int.toNat (f0 - 0) + 1) 0)) then (rec (x7 + 1)) else (.error (errD (F_l05Flag_L2 f0 f1 flag x7 (Int.toNat (f0 - 0) + 1) 0))))) else (.ok x7)
def F_l05Flag_L1 (f0 : Int) (f1 : List Int) (flag : Int) : Nat → Int → Except (Bool) (Int)
  | 0, x7 => .ok x7
  | r + 1, x7 => F_l05Flag_L1b f0 f1 flag (F_l05Flag_L1 f0 f1 flag r) x7
def F_l05Flag (f0 : Int) (f1 : List Int) (flag : Int) : Bool :=
  bif (isOk (F_l05Flag_L1 f0 f1 flag (Int.toNat (f0 - 0) + 1) 0)) then true else (errD (F_l05Flag_L1 f0 f1 flag (Int.toNat (f0 - 0) + 1) 0))
theorem cf_l05Flag (args : Array Value) (w : World) : (callFunc 171 args).run Try.prog w = .ok (.enter 171 args) w := by kernel_rfl
set_option maxRecDepth 100000 in
theorem c_l05Flag (f0 : Int) (f1A : Option Addr) (f1N f1C : Nat) (f1 : List Int) (flag : Int) (w : World) (f1R : RdS w 1 f1A f1N f1C f1) (hf : 0 ≤ f0 ∧ f0 ≤ 8) (hfl : (f1.length : Int) = f0) (hfm : ∀ m : Int, 0 ≤ m → m < (f1.length : Int) → 0 ≤ gI f1 m ∧ gI f1 m ≤ fullI f0) :
    Calls Try.prog 171 #[.agg #[.int .i64 f0, .slice f1A f1N f1C], .int .i64 flag] w (Ret fun v w' => v = .bool (F_l05Flag f0 f1 flag) ∧ Ext w w') := by
  obtain rfl : f1N = f1.length := f1R.len1.symm
  have f1Le := f1R.le
  have hf8 := fullI_bd (n := f0) (by omega) (by omega)
  have hS := St.nil w
  have hS1 := St.rd0 hS rfl f1R; clear hS
  refine enter (args := [.agg #[.int .i64 f0, .slice f1A f1.length f1C], .int .i64 flag]) Try.func171 rfl rfl ?_
  rw [Try.ntmps171]; intro a hE
  have hE := hE.sub (L' := [(0, .agg #[.int .i64 f0, .slice f1A f1.length f1C]), (1, .int .i64 flag)]) ⟨rfl, rfl, trivial⟩
  refine c_seq ?_
  refine c_reg ?_
  refine l_step hE rfl (l_box (v := .agg #[.int .i64 f0, .slice f1A f1.length f1C]) (cs := #[.int .i64 f0, .slice f1A f1.length f1C]) hS1 hE rfl rfl rfl ?_)
  intro b2 w3 hS6 he7 a4 hE5; clear hS1 hE
  refine q_step (v := .bool false) hE5 (y_assign rfl) rfl rfl rfl ?_; intro a8 hE9; clear hE5
  refine c_nil ?_
  have hE10 := hE9.sub (L' := [(1, .int .i64 flag), (2, .pointer (some ⟨b2, 0, none⟩))]) ⟨rfl, rfl, trivial⟩; clear hE9
  refine p_tn ?_
  refine c_seq ?_
  refine d_start (fun w w' => (fun w' => w'.cell? ⟨b2, 0, none⟩ = some (.int .i64 f0) ∧ w'.cell? ⟨b2, 1, none⟩ = some (.slice f1A f1.length f1C) ∧ True) w → (fun w' => w'.cell? ⟨b2, 0, none⟩ = some (.int .i64 f0) ∧ w'.cell? ⟨b2, 1, none⟩ = some (.slice f1A f1.length f1C) ∧ True) w') [1, 3] 6 (by kernel_rfl) rfl ?_
  intro w11 he12; have hS13 := St.go hS6 he12; clear hS6
  refine d_pure (fun _ h => h) (v := .pointer (some ⟨b2, 0, none⟩)) 0 rfl hE10 (y_field rfl (fun _ => by kernel_rfl)) rfl (by kernel_rfl) (by kernel_rfl) (by kernel_rfl) rfl rfl (fun _ _ _ h => h) ?_; intro a14 hE15; clear hE10
  refine d_take (fun _ h => h) (fun _ _ h k => h k) (v := .int .i64 f0) 1 rfl hE15 (S := fun w' => w'.cell? ⟨b2, 0, none⟩ = some (.int .i64 f0) ∧ w'.cell? ⟨b2, 1, none⟩ = some (.slice f1A f1.length f1C) ∧ True) ⟨(St.cell (i := 0) hS13 rfl rfl _ (Ext.refl _)), (St.cell (i := 0) hS13 rfl rfl _ (Ext.refl _)), trivial⟩ (y_load (fun _ => by kernel_rfl) rfl (fun _ h => h.1)) rfl rfl (by kernel_rfl) (by kernel_rfl) (by kernel_rfl) (by kernel_rfl) rfl rfl (fun _ _ _ h => h) ?_; intro a16 hE17; clear hE15
  refine d_pure (fun _ h => h) (v := .pointer (some ⟨b2, 1, none⟩)) 2 rfl hE17 (y_field rfl (fun _ => by kernel_rfl)) rfl (by kernel_rfl) (by kernel_rfl) (by kernel_rfl) rfl rfl (fun _ _ _ h => h) ?_; intro a18 hE19; clear hE17
  refine d_take (fun _ h => h) (fun _ _ h k => h k) (v := .slice f1A f1.length f1C) 3 rfl hE19 (S := fun w' => w'.cell? ⟨b2, 0, none⟩ = some (.int .i64 f0) ∧ w'.cell? ⟨b2, 1, none⟩ = some (.slice f1A f1.length f1C) ∧ True) ⟨(St.cell (i := 0) hS13 rfl rfl _ (Ext.refl _)), (St.cell (i := 0) hS13 rfl rfl _ (Ext.refl _)), trivial⟩ (y_load (fun _ => by kernel_rfl) rfl (fun _ h => h.2.1)) rfl rfl (by kernel_rfl) (by kernel_rfl) (by kernel_rfl) (by kernel_rfl) rfl rfl (fun _ _ _ h => h) ?_; intro a20 hE21; clear hE19
  refine d_pure (fun _ h => h) (v := .int .i64 f0) 4 rfl hE21 (y_assign rfl) rfl (by kernel_rfl) (by kernel_rfl) (by kernel_rfl) rfl rfl (fun _ _ _ h => h) ?_; intro a22 hE23; clear hE21
  refine d_pure (fun _ h => h) (v := .slice f1A f1.length f1C) 5 rfl hE23 (y_assign rfl) rfl (by kernel_rfl) (by kernel_rfl) (by kernel_rfl) rfl rfl (fun _ _ _ h => h) ?_; intro a24 hE25; clear hE23
  refine d_done (by kernel_rfl) ?_
  have hE26 := hE25.sub (L' := [(1, .int .i64 flag), (5, .int .i64 f0), (6, .slice f1A f1.length f1C)]) ⟨rfl, rfl, rfl, trivial⟩; clear hE25
  refine p_tn ?_
  refine c_seq ?_
  refine c_seq ?_
  refine c_reg ?_
  refine q_step (v := .int .i64 0) hE26 (y_assign rfl) rfl rfl rfl ?_; intro a27 hE28; clear hE26
  refine c_nil ?_
  have hE29 := hE28.sub (L' := [(1, .int .i64 flag), (5, .int .i64 f0), (6, .slice f1A f1.length f1C), (7, .int .i64 0)]) ⟨rfl, rfl, rfl, rfl, trivial⟩; clear hE28
  refine p_tn ?_
  refine c_cut1 (fun a' w' => isOk (F_l05Flag_L1 f0 f1 flag (Int.toNat (f0 - 0) + 1) 0) = true ∧ (0 ≤ (okD (F_l05Flag_L1 f0 f1 flag (Int.toNat (f0 - 0) + 1) 0))) ∧ E a' 175 [(1, .int .i64 flag), (5, .int .i64 f0), (6, .slice f1A f1.length f1C), (7, .int .i64 (okD (F_l05Flag_L1 f0 f1 flag (Int.toNat (f0 - 0) + 1) 0)))] ∧ St w w' [.blk b2 #[.int .i64 f0, .slice f1A f1.length f1C] 30, .rd 1 f1A f1.length f1C f1]) ?_ ?_
  ·
   refine wp_block ?_
   refine c_loop (fun r a' w' => ∃ x7 : Int, F_l05Flag_L1 f0 f1 flag r x7 = F_l05Flag_L1 f0 f1 flag (Int.toNat (f0 - 0) + 1) 0 ∧ Int.toNat (f0 - x7) < r ∧ (0 ≤ x7) ∧ E a' 175 [(1, .int .i64 flag), (5, .int .i64 f0), (6, .slice f1A f1.length f1C), (7, .int .i64 x7)] ∧ St w w' [.blk b2 #[.int .i64 f0, .slice f1A f1.length f1C] 30, .rd 1 f1A f1.length f1C f1]) (r := (Int.toNat (f0 - 0) + 1)) ?_ ?_
   · exact ⟨0, rfl, Nat.lt_succ_self _, (by first | omega | (simp only [sS_len, sL_len]; omega) | (simp only [List.length_replicate, sI_len]; omega) | (simp only [List.length_append, List.length_cons, List.length_nil, sI_len, cond_true, cond_false]; omega) | (simp only [List.length_append, List.length_cons, List.length_nil, sI_len, cond_eq_ite, apply_ite List.length]; split <;> simp only [List.length_append, List.length_cons, List.length_nil, sI_len] <;> omega) | grind), (hE29.sub (L' := [(1, .int .i64 flag), (5, .int .i64 f0), (6, .slice f1A f1.length f1C), (7, .int .i64 0)]) ⟨rfl, rfl, rfl, rfl, trivial⟩), (St.pick (Γ' := [.blk b2 #[.int .i64 f0, .slice f1A f1.length f1C] 30, .rd 1 f1A f1.length f1C f1]) hS13 [0, 1] (by decide) rfl)⟩
   ·
    clear hE29 hS13
    rintro r38 a31 w32 ⟨x7, hT35, hr36, hi37, hE33, hS34⟩
    obtain ⟨r38, rfl⟩ : ∃ r', r38 = r' + 1 := ⟨r38 - 1, by omega⟩
    refine c_seq ?_
    refine c_seq ?_
    refine c_reg ?_
    refine q_step (v := .int .i64 x7) hE33 (y_move rfl) rfl rfl rfl ?_; intro a39 hE40; clear hE33
    refine q_step (v := .int .i64 f0) hE40 (y_move rfl) rfl rfl rfl ?_; intro a41 hE42; clear hE40
    refine q_step (v := .bool (decide (x7 < f0))) hE42 (y_lss rfl rfl) rfl rfl rfl ?_; intro a43 hE44; clear hE42
    refine c_nil ?_
    have hE45 := hE44.sub (L' := [(1, .int .i64 flag), (5, .int .i64 f0), (6, .slice f1A f1.length f1C), (7, .int .i64 x7), (16, .bool (decide (x7 < f0)))]) ⟨rfl, rfl, rfl, rfl, rfl, trivial⟩; clear hE44
    refine p_tn ?_
    refine c_cond hE45 rfl (fun ht46 => ?_) (fun ht46 => ?_)
    ·
     have hp47 := of_decide_eq_true ht46
     have hE48 := hE45; rw [ht46] at hE48; clear hE45
     have hx1 := hfm x7 (by omega) (by omega)
     refine wp_skip ?_
     refine p_tn ?_
     refine c_seq ?_
     refine wp_block ?_
     refine c_cut (fun a' w' => (bif (decide (flag = 0)) then (!(F_l01Bit (gI f1 x7) x7)) else (bif (decide (flag = 1)) then (decide ((gI f1 x7) = 0)) else (bif (decide (flag = 2)) then (!decide ((anI (F_l01Image f1 (gI f1 x7)) (gI f1 x7)) = 0)) else (bif (decide (flag = 7)) then (F_l01Bit (gI (F_l01Closure f1) x7) x7) else ((decide (flag = 10)) && (decide (1 < (F_l01Bits (gI f1 x7))))))))) = false ∧ E a' 175 [(1, .int .i64 flag), (5, .int .i64 f0), (6, .slice f1A f1.length f1C), (7, .int .i64 x7)] ∧ St w w' [.rd 1 f1A f1.length f1C f1, .blk b2 #[.int .i64 f0, .slice f1A f1.length f1C] 30]) ?_ ?_
     ·
      refine c_seq ?_
      refine c_reg ?_
      refine q_step (v := .int .i64 flag) hE48 (y_move rfl) rfl rfl rfl ?_; intro a49 hE50; clear hE48
      refine c_nil ?_
      have hE51 := hE50.sub (L' := [(1, .int .i64 flag), (5, .int .i64 f0), (6, .slice f1A f1.length f1C), (7, .int .i64 x7), (19, .int .i64 flag)]) ⟨rfl, rfl, rfl, rfl, rfl, trivial⟩; clear hE50
      refine p_tn ?_
      refine wp_block ?_
      refine c_seq ?_
      refine c_reg ?_
      refine q_step (v := .bool (decide (flag = 0))) hE51 (y_eql rfl rfl) rfl rfl rfl ?_; intro a52 hE53; clear hE51
      refine q_step (v := .bool (decide (flag = 0))) hE53 (y_assign rfl) rfl rfl rfl ?_; intro a54 hE55; clear hE53
      refine c_nil ?_
      have hE56 := hE55.sub (L' := [(1, .int .i64 flag), (5, .int .i64 f0), (6, .slice f1A f1.length f1C), (7, .int .i64 x7), (19, .int .i64 flag), (20, .bool (decide (flag = 0)))]) ⟨rfl, rfl, rfl, rfl, rfl, rfl, trivial⟩; clear hE55
      refine p_tn ?_
      refine c_cond hE56 rfl (fun ht57 => ?_) (fun ht57 => ?_)
      ·
       have hp58 := of_decide_eq_true ht57
       have hE59 := hE56; rw [ht57] at hE59; clear hE56
       refine c_seq ?_
       refine c_reg ?_
       refine q_step (v := .slice f1A f1.length f1C) hE59 (y_move rfl) rfl rfl rfl ?_; intro a60 hE61; clear hE59
       refine q_step (v := .int .i64 x7) hE61 (y_move rfl) rfl rfl rfl ?_; intro a62 hE63; clear hE61
       refine q_step (v := .pointer (some (adr f1A (Int.toNat x7)))) hE63 (y_idx (by kernel_rfl) (fun _ => by kernel_rfl) rfl rfl (RdS.isS (m := x7) (St.rdR (i := 1) hS34 rfl) (by omega) (by omega)) (by omega) (by omega) (Nat.mul_one _).symm) rfl rfl rfl ?_; intro a64 hE65; clear hE63
       refine q_step (v := .int .i64 (gI f1 x7)) hE65 (y_load (fun _ => by kernel_rfl) rfl (RdS.elt (St.rdR (i := 1) hS34 rfl) (by omega) (by omega))) rfl rfl rfl ?_; intro a66 hE67; clear hE65
       refine q_step (v := .int .i64 x7) hE67 (y_move rfl) rfl rfl rfl ?_; intro a68 hE69; clear hE67
       refine l_step hE69 rfl (l_call (f := 144) (argv := [.int .i64 (gI f1 x7), .int .i64 x7]) hE69 (fun _ => cf_l01Bit _ _) rfl rfl (c_l01Bit (gI f1 x7) x7 w32 (by omega) (by omega)) ?_)
       rintro _ _ ⟨rfl, rfl⟩ a72 hE73; clear hE69
       refine q_step (v := .bool (!(F_l01Bit (gI f1 x7) x7))) hE73 (y_not rfl) rfl rfl rfl ?_; intro a76 hE77; clear hE73
       refine c_nil ?_
       have hE78 := hE77.sub (L' := [(1, .int .i64 flag), (5, .int .i64 f0), (6, .slice f1A f1.length f1C), (7, .int .i64 x7), (28, .bool (!(F_l01Bit (gI f1 x7) x7)))]) ⟨rfl, rfl, rfl, rfl, rfl, trivial⟩; clear hE77
       refine p_tn ?_
       refine c_cond hE78 rfl (fun ht79 => ?_) (fun ht79 => ?_)
       ·
        have ht80 := bn_t ht79
        have hE81 := hE78; rw [ht79] at hE81; clear hE78
        refine c_seq ?_
        refine c_reg ?_
        refine q_step (v := .bool false) hE81 (y_assign rfl) rfl rfl rfl ?_; intro a82 hE83; clear hE81
        refine c_nil ?_
        have hE84 := hE83.sub (L' := [(4, .bool false)]) ⟨rfl, trivial⟩; clear hE83
        refine p_tn ?_
        refine wp_ret ?_
        refine p_br ?_
        refine p_tr ?_
        have hR85 : (bif (decide (flag = 0)) then (!(F_l01Bit (gI f1 x7) x7)) else (bif (decide (flag = 1)) then (decide ((gI f1 x7) = 0)) else (bif (decide (flag = 2)) then (!decide ((anI (F_l01Image f1 (gI f1 x7)) (gI f1 x7)) = 0)) else (bif (decide (flag = 7)) then (F_l01Bit (gI (F_l01Closure f1) x7) x7) else ((decide (flag = 10)) && (decide (1 < (F_l01Bits (gI f1 x7))))))))) = true := (by simp only [ht57, ht79, Bool.not_true, Bool.not_false, Bool.and_true, Bool.true_and, Bool.and_false, Bool.false_and, Bool.or_true, Bool.true_or, Bool.or_false, Bool.false_or, cond_true, cond_false])
        refine p_br ?_
        refine p_tr ?_
        have hX86 : F_l05Flag_L1 f0 f1 flag (Int.toNat (f0 - 0) + 1) 0 = .error false := hT35.symm.trans (show F_l05Flag_L1b f0 f1 flag (F_l05Flag_L1 f0 f1 flag r38) x7 = .error false by unfold F_l05Flag_L1b; rw [hR85, ht46]; first | done | rfl)
        refine p_tr (p_br (p_tr ?_))
        refine p_tr ?_
        have hF : F_l05Flag f0 f1 flag = false := by unfold F_l05Flag; rw [hX86]; first | done | rfl
        refine c_ret1 hE84 rfl rfl ?_
        exact ⟨(by rw [hF]; first | done | (dsimp only; done) | rfl), hS34.ext⟩
       ·
        have ht87 := bn_f ht79
        have hE88 := hE78; rw [ht79] at hE88; clear hE78
        refine wp_skip ?_
        refine p_bn ?_
        refine p_tn ?_
        have hE89 := hE88.sub (L' := [(1, .int .i64 flag), (5, .int .i64 f0), (6, .slice f1A f1.length f1C), (7, .int .i64 x7)]) ⟨rfl, rfl, rfl, rfl, trivial⟩
        have hS90 := (St.pick (Γ' := [.rd 1 f1A f1.length f1C f1, .blk b2 #[.int .i64 f0, .slice f1A f1.length f1C] 30]) hS34 [1, 0] (by decide) rfl)
        exact ⟨(by simp only [ht57, ht79, Bool.not_true, Bool.not_false, Bool.and_true, Bool.true_and, Bool.and_false, Bool.false_and, Bool.or_true, Bool.true_or, Bool.or_false, Bool.false_or, cond_true, cond_false]), hE89, hS90⟩
      ·
       have hp91 := of_decide_eq_false ht57
       have hE92 := hE56; rw [ht57] at hE92; clear hE56
       refine c_seq ?_
       refine c_reg ?_
       refine q_step (v := .bool (decide (flag = 1))) hE92 (y_eql rfl rfl) rfl rfl rfl ?_; intro a93 hE94; clear hE92
       refine q_step (v := .bool (decide (flag = 1))) hE94 (y_assign rfl) rfl rfl rfl ?_; intro a95 hE96; clear hE94
       refine c_nil ?_
       have hE97 := hE96.sub (L' := [(1, .int .i64 flag), (5, .int .i64 f0), (6, .slice f1A f1.length f1C), (7, .int .i64 x7), (19, .int .i64 flag), (29, .bool (decide (flag = 1)))]) ⟨rfl, rfl, rfl, rfl, rfl, rfl, trivial⟩; clear hE96
       refine p_tn ?_
       refine c_cond hE97 rfl (fun ht98 => ?_) (fun ht98 => ?_)
       ·
        have hp99 := of_decide_eq_true ht98
        have hE100 := hE97; rw [ht98] at hE100; clear hE97
        refine c_seq ?_
        refine c_reg ?_
        refine q_step (v := .slice f1A f1.length f1C) hE100 (y_move rfl) rfl rfl rfl ?_; intro a101 hE102; clear hE100
        refine q_step (v := .int .i64 x7) hE102 (y_move rfl) rfl rfl rfl ?_; intro a103 hE104; clear hE102
        refine q_step (v := .pointer (some (adr f1A (Int.toNat x7)))) hE104 (y_idx (by kernel_rfl) (fun _ => by kernel_rfl) rfl rfl (RdS.isS (m := x7) (St.rdR (i := 1) hS34 rfl) (by omega) (by omega)) (by omega) (by omega) (Nat.mul_one _).symm) rfl rfl rfl ?_; intro a105 hE106; clear hE104
        refine q_step (v := .int .i64 (gI f1 x7)) hE106 (y_load (fun _ => by kernel_rfl) rfl (RdS.elt (St.rdR (i := 1) hS34 rfl) (by omega) (by omega))) rfl rfl rfl ?_; intro a107 hE108; clear hE106
        refine q_step (v := .bool (decide ((gI f1 x7) = 0))) hE108 (y_eql rfl rfl) rfl rfl rfl ?_; intro a109 hE110; clear hE108
        refine c_nil ?_
        have hE111 := hE110.sub (L' := [(1, .int .i64 flag), (5, .int .i64 f0), (6, .slice f1A f1.length f1C), (7, .int .i64 x7), (35, .bool (decide ((gI f1 x7) = 0)))]) ⟨rfl, rfl, rfl, rfl, rfl, trivial⟩; clear hE110
        refine p_tn ?_
        refine c_cond hE111 rfl (fun ht112 => ?_) (fun ht112 => ?_)
        ·
         have hp113 := of_decide_eq_true ht112
         have hE114 := hE111; rw [ht112] at hE114; clear hE111
         refine c_seq ?_
         refine c_reg ?_
         refine q_step (v := .bool false) hE114 (y_assign rfl) rfl rfl rfl ?_; intro a115 hE116; clear hE114
         refine c_nil ?_
         have hE117 := hE116.sub (L' := [(4, .bool false)]) ⟨rfl, trivial⟩; clear hE116
         refine p_tn ?_
         refine wp_ret ?_
         refine p_br ?_
         refine p_tr ?_
         have hR118 : (bif (decide (flag = 0)) then (!(F_l01Bit (gI f1 x7) x7)) else (bif (decide (flag = 1)) then (decide ((gI f1 x7) = 0)) else (bif (decide (flag = 2)) then (!decide ((anI (F_l01Image f1 (gI f1 x7)) (gI f1 x7)) = 0)) else (bif (decide (flag = 7)) then (F_l01Bit (gI (F_l01Closure f1) x7) x7) else ((decide (flag = 10)) && (decide (1 < (F_l01Bits (gI f1 x7))))))))) = true := (by simp only [ht57, ht98, ht112, Bool.not_true, Bool.not_false, Bool.and_true, Bool.true_and, Bool.and_false, Bool.false_and, Bool.or_true, Bool.true_or, Bool.or_false, Bool.false_or, cond_true, cond_false])
         refine p_br ?_
         refine p_tr ?_
         have hX119 : F_l05Flag_L1 f0 f1 flag (Int.toNat (f0 - 0) + 1) 0 = .error false := hT35.symm.trans (show F_l05Flag_L1b f0 f1 flag (F_l05Flag_L1 f0 f1 flag r38) x7 = .error false by unfold F_l05Flag_L1b; rw [hR118, ht46]; first | done | rfl)
         refine p_tr (p_br (p_tr ?_))
         refine p_tr ?_
         have hF : F_l05Flag f0 f1 flag = false := by unfold F_l05Flag; rw [hX119]; first | done | rfl
         refine c_ret1 hE117 rfl rfl ?_
         exact ⟨(by rw [hF]; first | done | (dsimp only; done) | rfl), hS34.ext⟩
        ·
         have hp120 := of_decide_eq_false ht112
         have hE121 := hE111; rw [ht112] at hE121; clear hE111
         refine wp_skip ?_
         refine p_bn ?_
         refine p_tn ?_
         have hE122 := hE121.sub (L' := [(1, .int .i64 flag), (5, .int .i64 f0), (6, .slice f1A f1.length f1C), (7, .int .i64 x7)]) ⟨rfl, rfl, rfl, rfl, trivial⟩
         have hS123 := (St.pick (Γ' := [.rd 1 f1A f1.length f1C f1, .blk b2 #[.int .i64 f0, .slice f1A f1.length f1C] 30]) hS34 [1, 0] (by decide) rfl)
         exact ⟨(by simp only [ht57, ht98, ht112, Bool.not_true, Bool.not_false, Bool.and_true, Bool.true_and, Bool.and_false, Bool.false_and, Bool.or_true, Bool.true_or, Bool.or_false, Bool.false_or, cond_true, cond_false]), hE122, hS123⟩
       ·
        have hp124 := of_decide_eq_false ht98
        have hE125 := hE97; rw [ht98] at hE125; clear hE97
        refine c_seq ?_
        refine c_reg ?_
        refine q_step (v := .bool (decide (flag = 2))) hE125 (y_eql rfl rfl) rfl rfl rfl ?_; intro a126 hE127; clear hE125
        refine q_step (v := .bool (decide (flag = 2))) hE127 (y_assign rfl) rfl rfl rfl ?_; intro a128 hE129; clear hE127
        refine c_nil ?_
        have hE130 := hE129.sub (L' := [(1, .int .i64 flag), (5, .int .i64 f0), (6, .slice f1A f1.length f1C), (7, .int .i64 x7), (19, .int .i64 flag), (36, .bool (decide (flag = 2)))]) ⟨rfl, rfl, rfl, rfl, rfl, rfl, trivial⟩; clear hE129
        refine p_tn ?_
        refine c_cond hE130 rfl (fun ht131 => ?_) (fun ht131 => ?_)
        ·
         have hp132 := of_decide_eq_true ht131
         have hE133 := hE130; rw [ht131] at hE133; clear hE130
         refine c_seq ?_
         refine d_start (fun w w' => (fun w' => w'.cell? (adr f1A (Int.toNat x7)) = some (.int .i64 (gI f1 x7)) ∧ w'.cell? (adr f1A (Int.toNat x7)) = some (.int .i64 (gI f1 x7)) ∧ True) w → (fun w' => w'.cell? (adr f1A (Int.toNat x7)) = some (.int .i64 (gI f1 x7)) ∧ w'.cell? (adr f1A (Int.toNat x7)) = some (.int .i64 (gI f1 x7)) ∧ True) w') [4, 9] 12 (by kernel_rfl) rfl ?_
         intro w134 he135; have hS136 := St.go hS34 he135; clear hS34
         refine d_pure (fun _ h => h) (v := .slice f1A f1.length f1C) 0 rfl hE133 (y_move rfl) rfl (by kernel_rfl) (by kernel_rfl) (by kernel_rfl) rfl rfl (fun _ _ _ h => h) ?_; intro a137 hE138; clear hE133
         refine d_pure (fun _ h => h) (v := .slice f1A f1.length f1C) 1 rfl hE138 (y_move rfl) rfl (by kernel_rfl) (by kernel_rfl) (by kernel_rfl) rfl rfl (fun _ _ _ h => h) ?_; intro a139 hE140; clear hE138
         refine d_pure (fun _ h => h) (v := .int .i64 x7) 2 rfl hE140 (y_move rfl) rfl (by kernel_rfl) (by kernel_rfl) (by kernel_rfl) rfl rfl (fun _ _ _ h => h) ?_; intro a141 hE142; clear hE140
         refine d_pure (fun _ h => h) (v := .pointer (some (adr f1A (Int.toNat x7)))) 3 rfl hE142 (y_idx (by kernel_rfl) (fun _ => by kernel_rfl) rfl rfl (RdS.isS (m := x7) (St.rdR (i := 1) hS136 rfl) (by omega) (by omega)) (by omega) (by omega) (Nat.mul_one _).symm) rfl (by kernel_rfl) (by kernel_rfl) (by kernel_rfl) rfl rfl (fun _ _ _ h => h) ?_; intro a143 hE144; clear hE142
         refine d_take (fun _ h => h) (fun _ _ h k => h k) (v := .int .i64 (gI f1 x7)) 4 rfl hE144 (S := fun w' => w'.cell? (adr f1A (Int.toNat x7)) = some (.int .i64 (gI f1 x7)) ∧ w'.cell? (adr f1A (Int.toNat x7)) = some (.int .i64 (gI f1 x7)) ∧ True) ⟨(RdS.elt (St.rdR (i := 1) hS136 rfl) (by omega) (by omega) _ (Ext.refl _)), (RdS.elt (St.rdR (i := 1) hS136 rfl) (by omega) (by omega) _ (Ext.refl _)), trivial⟩ (y_load (fun _ => by kernel_rfl) rfl (fun _ h => h.1)) rfl rfl (by kernel_rfl) (by kernel_rfl) (by kernel_rfl) (by kernel_rfl) rfl rfl (fun _ _ _ h => h) ?_; intro a145 hE146; clear hE144
         refine d_pure (fun _ h => h) (v := .slice f1A f1.length f1C) 6 rfl hE146 (y_move rfl) rfl (by kernel_rfl) (by kernel_rfl) (by kernel_rfl) rfl rfl (fun _ _ _ h => h) ?_; intro a147 hE148; clear hE146
         refine d_pure (fun _ h => h) (v := .int .i64 x7) 7 rfl hE148 (y_move rfl) rfl (by kernel_rfl) (by kernel_rfl) (by kernel_rfl) rfl rfl (fun _ _ _ h => h) ?_; intro a149 hE150; clear hE148
         refine d_pure (fun _ h => h) (v := .pointer (some (adr f1A (Int.toNat x7)))) 8 rfl hE150 (y_idx (by kernel_rfl) (fun _ => by kernel_rfl) rfl rfl (RdS.isS (m := x7) (St.rdR (i := 1) hS136 rfl) (by omega) (by omega)) (by omega) (by omega) (Nat.mul_one _).symm) rfl (by kernel_rfl) (by kernel_rfl) (by kernel_rfl) rfl rfl (fun _ _ _ h => h) ?_; intro a151 hE152; clear hE150
         refine d_take (fun _ h => h) (fun _ _ h k => h k) (v := .int .i64 (gI f1 x7)) 9 rfl hE152 (S := fun w' => w'.cell? (adr f1A (Int.toNat x7)) = some (.int .i64 (gI f1 x7)) ∧ w'.cell? (adr f1A (Int.toNat x7)) = some (.int .i64 (gI f1 x7)) ∧ True) ⟨(RdS.elt (St.rdR (i := 1) hS136 rfl) (by omega) (by omega) _ (Ext.refl _)), (RdS.elt (St.rdR (i := 1) hS136 rfl) (by omega) (by omega) _ (Ext.refl _)), trivial⟩ (y_load (fun _ => by kernel_rfl) rfl (fun _ h => h.2.1)) rfl rfl (by kernel_rfl) (by kernel_rfl) (by kernel_rfl) (by kernel_rfl) rfl rfl (fun _ _ _ h => h) ?_; intro a153 hE154; clear hE152
         refine d_only 5 (by kernel_rfl) rfl hE154 rfl (l_call (f := 121) (argv := [.slice f1A f1.length f1C, .int .i64 (gI f1 x7)]) hE154 (fun _ => cf_l01Image _ _) rfl rfl (c_l01Image f1A f1.length f1C f1 (gI f1 x7) w134 (St.rdR (i := 1) hS136 rfl) (by omega)) ?_)
         rintro _ w156 ⟨rfl, he160⟩ a157 hE158; clear hE154
         have hS159 := St.go hS136 he160; clear hS136
         refine ⟨fun _ _ => ⟨(RdS.elt (St.rdR (i := 1) hS159 rfl) (by omega) (by omega) _ (Ext.refl _)), (RdS.elt (St.rdR (i := 1) hS159 rfl) (by omega) (by omega) _ (Ext.refl _)), trivial⟩, ?_⟩
         refine d_pure (fun _ h => h) (v := .int .i64 (anI (F_l01Image f1 (gI f1 x7)) (gI f1 x7))) 10 rfl hE158 (y_andNot rfl rfl) rfl (by kernel_rfl) (by kernel_rfl) (by kernel_rfl) rfl rfl (fun _ _ _ h => h) ?_; intro a161 hE162; clear hE158
         refine d_pure (fun _ h => h) (v := .bool (!decide ((anI (F_l01Image f1 (gI f1 x7)) (gI f1 x7)) = 0))) 11 rfl hE162 (y_neq rfl rfl) rfl (by kernel_rfl) (by kernel_rfl) (by kernel_rfl) rfl rfl (fun _ _ _ h => h) ?_; intro a163 hE164; clear hE162
         refine d_done (by kernel_rfl) ?_
         have hE165 := hE164.sub (L' := [(1, .int .i64 flag), (5, .int .i64 f0), (6, .slice f1A f1.length f1C), (7, .int .i64 x7), (49, .bool (!decide ((anI (F_l01Image f1 (gI f1 x7)) (gI f1 x7)) = 0)))]) ⟨rfl, rfl, rfl, rfl, rfl, trivial⟩; clear hE164
         refine p_tn ?_
         refine c_cond hE165 rfl (fun ht166 => ?_) (fun ht166 => ?_)
         ·
          have ht167 := bn_t ht166
          have hp168 := of_decide_eq_false ht167
          have hE169 := hE165; rw [ht166] at hE169; clear hE165
          refine c_seq ?_
          refine c_reg ?_
          refine q_step (v := .bool false) hE169 (y_assign rfl) rfl rfl rfl ?_; intro a170 hE171; clear hE169
          refine c_nil ?_
          have hE172 := hE171.sub (L' := [(4, .bool false)]) ⟨rfl, trivial⟩; clear hE171
          refine p_tn ?_
          refine wp_ret ?_
          refine p_br ?_
          refine p_tr ?_
          have hR173 : (bif (decide (flag = 0)) then (!(F_l01Bit (gI f1 x7) x7)) else (bif (decide (flag = 1)) then (decide ((gI f1 x7) = 0)) else (bif (decide (flag = 2)) then (!decide ((anI (F_l01Image f1 (gI f1 x7)) (gI f1 x7)) = 0)) else (bif (decide (flag = 7)) then (F_l01Bit (gI (F_l01Closure f1) x7) x7) else ((decide (flag = 10)) && (decide (1 < (F_l01Bits (gI f1 x7))))))))) = true := (by simp only [ht57, ht98, ht131, ht166, Bool.not_true, Bool.not_false, Bool.and_true, Bool.true_and, Bool.and_false, Bool.false_and, Bool.or_true, Bool.true_or, Bool.or_false, Bool.false_or, cond_true, cond_false])
          refine p_br ?_
          refine p_tr ?_
          have hX174 : F_l05Flag_L1 f0 f1 flag (Int.toNat (f0 - 0) + 1) 0 = .error false := hT35.symm.trans (show F_l05Flag_L1b f0 f1 flag (F_l05Flag_L1 f0 f1 flag r38) x7 = .error false by unfold F_l05Flag_L1b; rw [hR173, ht46]; first | done | rfl)
          refine p_tr (p_br (p_tr ?_))
          refine p_tr ?_
          have hF : F_l05Flag f0 f1 flag = false := by unfold F_l05Flag; rw [hX174]; first | done | rfl
          refine c_ret1 hE172 rfl rfl ?_
          exact ⟨(by rw [hF]; first | done | (dsimp only; done) | rfl), hS159.ext⟩
         ·
          have ht175 := bn_f ht166
          have hp176 := of_decide_eq_true ht175
          have hE177 := hE165; rw [ht166] at hE177; clear hE165
          refine wp_skip ?_
          refine p_bn ?_
          refine p_tn ?_
          have hE178 := hE177.sub (L' := [(1, .int .i64 flag), (5, .int .i64 f0), (6, .slice f1A f1.length f1C), (7, .int .i64 x7)]) ⟨rfl, rfl, rfl, rfl, trivial⟩
          have hS179 := (St.pick (Γ' := [.rd 1 f1A f1.length f1C f1, .blk b2 #[.int .i64 f0, .slice f1A f1.length f1C] 30]) hS159 [1, 0] (by decide) rfl)
          exact ⟨(by simp only [ht57, ht98, ht131, ht166, Bool.not_true, Bool.not_false, Bool.and_true, Bool.true_and, Bool.and_false, Bool.false_and, Bool.or_true, Bool.true_or, Bool.or_false, Bool.false_or, cond_true, cond_false]), hE178, hS179⟩
        ·
         have hp180 := of_decide_eq_false ht131
         have hE181 := hE130; rw [ht131] at hE181; clear hE130
         refine c_seq ?_
         refine c_reg ?_
         refine q_step (v := .bool (decide (flag = 7))) hE181 (y_eql rfl rfl) rfl rfl rfl ?_; intro a182 hE183; clear hE181
         refine q_step (v := .bool (decide (flag = 7))) hE183 (y_assign rfl) rfl rfl rfl ?_; intro a184 hE185; clear hE183
         refine c_nil ?_
         have hE186 := hE185.sub (L' := [(1, .int .i64 flag), (5, .int .i64 f0), (6, .slice f1A f1.length f1C), (7, .int .i64 x7), (19, .int .i64 flag), (50, .bool (decide (flag = 7)))]) ⟨rfl, rfl, rfl, rfl, rfl, rfl, trivial⟩; clear hE185
         refine p_tn ?_
         refine c_cond hE186 rfl (fun ht187 => ?_) (fun ht187 => ?_)
         ·
          have hp188 := of_decide_eq_true ht187
          have hE189 := hE186; rw [ht187] at hE189; clear hE186
          refine c_seq ?_
          refine c_reg ?_
          refine q_step (v := .slice f1A f1.length f1C) hE189 (y_move rfl) rfl rfl rfl ?_; intro a190 hE191; clear hE189
          refine l_step hE191 rfl (l_call (f := 142) (argv := [.slice f1A f1.length f1C]) hE191 (fun _ => cf_l01Closure _ _) rfl rfl (c_l01Closure f1A f1.length f1C f1 w32 (St.rdR (i := 1) hS34 rfl) (by omega)) ?_)
          rintro _ w193 ⟨b198, c199, rfl, ho200, he197⟩ a194 hE195; clear hE191
          have hf201 := l01Closure_len f1
          have hS196 := St.own hS34 he197 ho200; clear hS34
          refine q_step (v := .int .i64 x7) hE195 (y_move rfl) rfl rfl rfl ?_; intro a202 hE203; clear hE195
          refine q_step (v := .pointer (some (adr b198 (Int.toNat x7)))) hE203 (y_idx (by kernel_rfl) (fun _ => by kernel_rfl) rfl rfl (RdS.isS (m := x7) (St.rdO (i := 0) hS196 rfl) (by omega) (by omega)) (by omega) (by omega) (Nat.mul_one _).symm) rfl rfl rfl ?_; intro a204 hE205; clear hE203
          refine q_step (v := .int .i64 (gI (F_l01Closure f1) x7)) hE205 (y_load (fun _ => by kernel_rfl) rfl (RdS.elt (St.rdO (i := 0) hS196 rfl) (by omega) (by omega))) rfl rfl rfl ?_; intro a206 hE207; clear hE205
          refine q_step (v := .int .i64 x7) hE207 (y_move rfl) rfl rfl rfl ?_; intro a208 hE209; clear hE207
          refine l_step hE209 rfl (l_call (f := 144) (argv := [.int .i64 (gI (F_l01Closure f1) x7), .int .i64 x7]) hE209 (fun _ => cf_l01Bit _ _) rfl rfl (c_l01Bit (gI (F_l01Closure f1) x7) x7 w193 (by omega) (by omega)) ?_)
          rintro _ _ ⟨rfl, rfl⟩ a212 hE213; clear hE209
          refine c_nil ?_
          have hE216 := hE213.sub (L' := [(1, .int .i64 flag), (5, .int .i64 f0), (6, .slice f1A f1.length f1C), (7, .int .i64 x7), (58, .bool (F_l01Bit (gI (F_l01Closure f1) x7) x7))]) ⟨rfl, rfl, rfl, rfl, rfl, trivial⟩; clear hE213
          refine p_tn ?_
          refine c_cond hE216 rfl (fun ht217 => ?_) (fun ht217 => ?_)
          ·
           have hE218 := hE216; rw [ht217] at hE218; clear hE216
           refine c_seq ?_
           refine c_reg ?_
           refine q_step (v := .bool false) hE218 (y_assign rfl) rfl rfl rfl ?_; intro a219 hE220; clear hE218
           refine c_nil ?_
           have hE221 := hE220.sub (L' := [(4, .bool false)]) ⟨rfl, trivial⟩; clear hE220
           refine p_tn ?_
           refine wp_ret ?_
           refine p_br ?_
           refine p_tr ?_
           have hR222 : (bif (decide (flag = 0)) then (!(F_l01Bit (gI f1 x7) x7)) else (bif (decide (flag = 1)) then (decide ((gI f1 x7) = 0)) else (bif (decide (flag = 2)) then (!decide ((anI (F_l01Image f1 (gI f1 x7)) (gI f1 x7)) = 0)) else (bif (decide (flag = 7)) then (F_l01Bit (gI (F_l01Closure f1) x7) x7) else ((decide (flag = 10)) && (decide (1 < (F_l01Bits (gI f1 x7))))))))) = true := (by simp only [ht57, ht98, ht131, ht187, ht217, Bool.not_true, Bool.not_false, Bool.and_true, Bool.true_and, Bool.and_false, Bool.false_and, Bool.or_true, Bool.true_or, Bool.or_false, Bool.false_or, cond_true, cond_false])
           refine p_br ?_
           refine p_tr ?_
           have hX223 : F_l05Flag_L1 f0 f1 flag (Int.toNat (f0 - 0) + 1) 0 = .error false := hT35.symm.trans (show F_l05Flag_L1b f0 f1 flag (F_l05Flag_L1 f0 f1 flag r38) x7 = .error false by unfold F_l05Flag_L1b; rw [hR222, ht46]; first | done | rfl)
           refine p_tr (p_br (p_tr ?_))
           refine p_tr ?_
           have hF : F_l05Flag f0 f1 flag = false := by unfold F_l05Flag; rw [hX223]; first | done | rfl
           refine c_ret1 hE221 rfl rfl ?_
           exact ⟨(by rw [hF]; first | done | (dsimp only; done) | rfl), hS196.ext⟩
          ·
           have hE224 := hE216; rw [ht217] at hE224; clear hE216
           refine wp_skip ?_
           refine p_bn ?_
           refine p_tn ?_
           have hE225 := hE224.sub (L' := [(1, .int .i64 flag), (5, .int .i64 f0), (6, .slice f1A f1.length f1C), (7, .int .i64 x7)]) ⟨rfl, rfl, rfl, rfl, trivial⟩
           have hS226 := (St.pick (Γ' := [.rd 1 f1A f1.length f1C f1, .blk b2 #[.int .i64 f0, .slice f1A f1.length f1C] 30]) hS196 [2, 1] (by decide) rfl)
           exact ⟨(by simp only [ht57, ht98, ht131, ht187, ht217, Bool.not_true, Bool.not_false, Bool.and_true, Bool.true_and, Bool.and_false, Bool.false_and, Bool.or_true, Bool.true_or, Bool.or_false, Bool.false_or, cond_true, cond_false]), hE225, hS226⟩
         ·
          have hp227 := of_decide_eq_false ht187
          have hE228 := hE186; rw [ht187] at hE228; clear hE186
          refine c_seq ?_
          refine c_reg ?_
          refine q_step (v := .bool (decide (flag = 10))) hE228 (y_eql rfl rfl) rfl rfl rfl ?_; intro a229 hE230; clear hE228
          refine q_step (v := .bool (decide (flag = 10))) hE230 (y_assign rfl) rfl rfl rfl ?_; intro a231 hE232; clear hE230
          refine c_nil ?_
          have hE233 := hE232.sub (L' := [(1, .int .i64 flag), (5, .int .i64 f0), (6, .slice f1A f1.length f1C), (7, .int .i64 x7), (59, .bool (decide (flag = 10)))]) ⟨rfl, rfl, rfl, rfl, rfl, trivial⟩; clear hE232
          refine p_tn ?_
          refine c_cond hE233 rfl (fun ht234 => ?_) (fun ht234 => ?_)
          ·
           have hp235 := of_decide_eq_true ht234
           have hE236 := hE233; rw [ht234] at hE236; clear hE233
           refine c_seq ?_
           refine c_reg ?_
           refine q_step (v := .slice f1A f1.length f1C) hE236 (y_move rfl) rfl rfl rfl ?_; intro a237 hE238; clear hE236
           refine q_step (v := .int .i64 x7) hE238 (y_move rfl) rfl rfl rfl ?_; intro a239 hE240; clear hE238
           refine q_step (v := .pointer (some (adr f1A (Int.toNat x7)))) hE240 (y_idx (by kernel_rfl) (fun _ => by kernel_rfl) rfl rfl (RdS.isS (m := x7) (St.rdR (i := 1) hS34 rfl) (by omega) (by omega)) (by omega) (by omega) (Nat.mul_one _).symm) rfl rfl rfl ?_; intro a241 hE242; clear hE240
           refine q_step (v := .int .i64 (gI f1 x7)) hE242 (y_load (fun _ => by kernel_rfl) rfl (RdS.elt (St.rdR (i := 1) hS34 rfl) (by omega) (by omega))) rfl rfl rfl ?_; intro a243 hE244; clear hE242
           refine l_step hE244 rfl (l_call (f := 173) (argv := [.int .i64 (gI f1 x7)]) hE244 (fun _ => cf_l01Bits _ _) rfl rfl (c_l01Bits (gI f1 x7) w32 (by omega) (by omega)) ?_)
           rintro _ w246 ⟨rfl, he250⟩ a247 hE248; clear hE244
           have hS249 := St.go hS34 he250; clear hS34
           refine q_step (v := .bool (decide (1 < (F_l01Bits (gI f1 x7))))) hE248 (y_gtr rfl rfl) rfl rfl rfl ?_; intro a251 hE252; clear hE248
           refine c_nil ?_
           have hE253 := hE252.sub (L' := [(1, .int .i64 flag), (5, .int .i64 f0), (6, .slice f1A f1.length f1C), (7, .int .i64 x7), (66, .bool (decide (1 < (F_l01Bits (gI f1 x7)))))]) ⟨rfl, rfl, rfl, rfl, rfl, trivial⟩; clear hE252
           refine p_tn ?_
           refine c_cond hE253 rfl (fun ht254 => ?_) (fun ht254 => ?_)
           ·
            have hp255 := of_decide_eq_true ht254
            have hE256 := hE253; rw [ht254] at hE256; clear hE253
            refine c_seq ?_
            refine c_reg ?_
            refine q_step (v := .bool false) hE256 (y_assign rfl) rfl rfl rfl ?_; intro a257 hE258; clear hE256
            refine c_nil ?_
            have hE259 := hE258.sub (L' := [(4, .bool false)]) ⟨rfl, trivial⟩; clear hE258
            refine p_tn ?_
            refine wp_ret ?_
            refine p_br ?_
            refine p_tr ?_
            have hR260 : (bif (decide (flag = 0)) then (!(F_l01Bit (gI f1 x7) x7)) else (bif (decide (flag = 1)) then (decide ((gI f1 x7) = 0)) else (bif (decide (flag = 2)) then (!decide ((anI (F_l01Image f1 (gI f1 x7)) (gI f1 x7)) = 0)) else (bif (decide (flag = 7)) then (F_l01Bit (gI (F_l01Closure f1) x7) x7) else ((decide (flag = 10)) && (decide (1 < (F_l01Bits (gI f1 x7))))))))) = true := (by simp only [ht57, ht98, ht131, ht187, ht234, ht254, Bool.not_true, Bool.not_false, Bool.and_true, Bool.true_and, Bool.and_false, Bool.false_and, Bool.or_true, Bool.true_or, Bool.or_false, Bool.false_or, cond_true, cond_false])
            refine p_br ?_
            refine p_tr ?_
            have hX261 : F_l05Flag_L1 f0 f1 flag (Int.toNat (f0 - 0) + 1) 0 = .error false := hT35.symm.trans (show F_l05Flag_L1b f0 f1 flag (F_l05Flag_L1 f0 f1 flag r38) x7 = .error false by unfold F_l05Flag_L1b; rw [hR260, ht46]; first | done | rfl)
            refine p_tr (p_br (p_tr ?_))
            refine p_tr ?_
            have hF : F_l05Flag f0 f1 flag = false := by unfold F_l05Flag; rw [hX261]; first | done | rfl
            refine c_ret1 hE259 rfl rfl ?_
            exact ⟨(by rw [hF]; first | done | (dsimp only; done) | rfl), hS249.ext⟩
           ·
            have hp262 := of_decide_eq_false ht254
            have hE263 := hE253; rw [ht254] at hE263; clear hE253
            refine wp_skip ?_
            refine p_bn ?_
            refine p_tn ?_
            have hE264 := hE263.sub (L' := [(1, .int .i64 flag), (5, .int .i64 f0), (6, .slice f1A f1.length f1C), (7, .int .i64 x7)]) ⟨rfl, rfl, rfl, rfl, trivial⟩
            have hS265 := (St.pick (Γ' := [.rd 1 f1A f1.length f1C f1, .blk b2 #[.int .i64 f0, .slice f1A f1.length f1C] 30]) hS249 [1, 0] (by decide) rfl)
            exact ⟨(by simp only [ht57, ht98, ht131, ht187, ht234, ht254, Bool.not_true, Bool.not_false, Bool.and_true, Bool.true_and, Bool.and_false, Bool.false_and, Bool.or_true, Bool.true_or, Bool.or_false, Bool.false_or, cond_true, cond_false]), hE264, hS265⟩
          ·
           have hp266 := of_decide_eq_false ht234
           have hE267 := hE233; rw [ht234] at hE267; clear hE233
           refine wp_skip ?_
           refine p_bn ?_
           refine p_tn ?_
           have hE268 := hE267.sub (L' := [(1, .int .i64 flag), (5, .int .i64 f0), (6, .slice f1A f1.length f1C), (7, .int .i64 x7)]) ⟨rfl, rfl, rfl, rfl, trivial⟩
           have hS269 := (St.pick (Γ' := [.rd 1 f1A f1.length f1C f1, .blk b2 #[.int .i64 f0, .slice f1A f1.length f1C] 30]) hS34 [1, 0] (by decide) rfl)
           exact ⟨(by simp only [ht57, ht98, ht131, ht187, ht234, Bool.not_true, Bool.not_false, Bool.and_true, Bool.true_and, Bool.and_false, Bool.false_and, Bool.or_true, Bool.true_or, Bool.or_false, Bool.false_or, cond_true, cond_false]), hE268, hS269⟩
     ·
      rintro a270 w271 ⟨hR274, hE272, hS273⟩; clear hE48 hS34
      refine c_seq ?_
      refine c_reg ?_
      refine q_step (v := .int .i64 0) hE272 (y_assign rfl) rfl rfl rfl ?_; intro a275 hE276; clear hE272
      refine c_nil ?_
      have hE277 := hE276.sub (L' := [(1, .int .i64 flag), (5, .int .i64 f0), (6, .slice f1A f1.length f1C), (7, .int .i64 x7), (8, .int .i64 0)]) ⟨rfl, rfl, rfl, rfl, rfl, trivial⟩; clear hE276
      refine p_tn ?_
      refine c_cut1 (fun a' w' => isOk (F_l05Flag_L2 f0 f1 flag x7 (Int.toNat (f0 - 0) + 1) 0) = true ∧ (0 ≤ (okD (F_l05Flag_L2 f0 f1 flag x7 (Int.toNat (f0 - 0) + 1) 0))) ∧ E a' 175 [(1, .int .i64 flag), (5, .int .i64 f0), (6, .slice f1A f1.length f1C), (7, .int .i64 x7), (8, .int .i64 (okD (F_l05Flag_L2 f0 f1 flag x7 (Int.toNat (f0 - 0) + 1) 0)))] ∧ St w w' [.rd 1 f1A f1.length f1C f1, .blk b2 #[.int .i64 f0, .slice f1A f1.length f1C] 30]) ?_ ?_
      ·
       refine wp_block ?_
       refine c_loop (fun r a' w' => ∃ y8L2 : Int, F_l05Flag_L2 f0 f1 flag x7 r y8L2 = F_l05Flag_L2 f0 f1 flag x7 (Int.toNat (f0 - 0) + 1) 0 ∧ Int.toNat (f0 - y8L2) < r ∧ (0 ≤ y8L2) ∧ E a' 175 [(1, .int .i64 flag), (5, .int .i64 f0), (6, .slice f1A f1.length f1C), (7, .int .i64 x7), (8, .int .i64 y8L2)] ∧ St w w' [.rd 1 f1A f1.length f1C f1, .blk b2 #[.int .i64 f0, .slice f1A f1.length f1C] 30]) (r := (Int.toNat (f0 - 0) + 1)) ?_ ?_
       · exact ⟨0, rfl, Nat.lt_succ_self _, (by first | omega | (simp only [sS_len, sL_len]; omega) | (simp only [List.length_replicate, sI_len]; omega) | (simp only [List.length_append, List.length_cons, List.length_nil, sI_len, cond_true, cond_false]; omega) | (simp only [List.length_append, List.length_cons, List.length_nil, sI_len, cond_eq_ite, apply_ite List.length]; split <;> simp only [List.length_append, List.length_cons, List.length_nil, sI_len] <;> omega) | grind), (hE277.sub (L' := [(1, .int .i64 flag), (5, .int .i64 f0), (6, .slice f1A f1.length f1C), (7, .int .i64 x7), (8, .int .i64 0)]) ⟨rfl, rfl, rfl, rfl, rfl, trivial⟩), (St.pick (Γ' := [.rd 1 f1A f1.length f1C f1, .blk b2 #[.int .i64 f0, .slice f1A f1.length f1C] 30]) hS273 [0, 1] (by decide) rfl)⟩
       ·
        clear hE277 hS273
        rintro r286 a279 w280 ⟨y8L2, hT283, hr284, hi285, hE281, hS282⟩
        obtain ⟨r286, rfl⟩ : ∃ r', r286 = r' + 1 := ⟨r286 - 1, by omega⟩
        refine c_seq ?_
        refine c_seq ?_
        refine c_reg ?_
        refine q_step (v := .int .i64 y8L2) hE281 (y_move rfl) rfl rfl rfl ?_; intro a287 hE288; clear hE281
        refine q_step (v := .int .i64 f0) hE288 (y_move rfl) rfl rfl rfl ?_; intro a289 hE290; clear hE288
        refine q_step (v := .bool (decide (y8L2 < f0))) hE290 (y_lss rfl rfl) rfl rfl rfl ?_; intro a291 hE292; clear hE290
        refine c_nil ?_
        have hE293 := hE292.sub (L' := [(1, .int .i64 flag), (5, .int .i64 f0), (6, .slice f1A f1.length f1C), (7, .int .i64 x7), (8, .int .i64 y8L2), (69, .bool (decide (y8L2 < f0)))]) ⟨rfl, rfl, rfl, rfl, rfl, rfl, trivial⟩; clear hE292
        refine p_tn ?_
        refine c_cond hE293 rfl (fun ht294 => ?_) (fun ht294 => ?_)
        ·
         have hp295 := of_decide_eq_true ht294
         have hE296 := hE293; rw [ht294] at hE296; clear hE293
         refine wp_skip ?_
         refine p_tn ?_
         refine c_seq ?_
         refine wp_block ?_
         refine c_seq ?_
         refine c_seq ?_
         refine c_reg ?_
         refine q_step (v := .slice f1A f1.length f1C) hE296 (y_move rfl) rfl rfl rfl ?_; intro a297 hE298; clear hE296
         refine q_step (v := .int .i64 x7) hE298 (y_move rfl) rfl rfl rfl ?_; intro a299 hE300; clear hE298
         refine q_step (v := .pointer (some (adr f1A (Int.toNat x7)))) hE300 (y_idx (by kernel_rfl) (fun _ => by kernel_rfl) rfl rfl (RdS.isS (m := x7) (St.rdR (i := 0) hS282 rfl) (by omega) (by omega)) (by omega) (by omega) (Nat.mul_one _).symm) rfl rfl rfl ?_; intro a301 hE302; clear hE300
         refine q_step (v := .int .i64 (gI f1 x7)) hE302 (y_load (fun _ => by kernel_rfl) rfl (RdS.elt (St.rdR (i := 0) hS282 rfl) (by omega) (by omega))) rfl rfl rfl ?_; intro a303 hE304; clear hE302
         refine q_step (v := .int .i64 y8L2) hE304 (y_move rfl) rfl rfl rfl ?_; intro a305 hE306; clear hE304
         refine l_step hE306 rfl (l_call (f := 144) (argv := [.int .i64 (gI f1 x7), .int .i64 y8L2]) hE306 (fun _ => cf_l01Bit _ _) rfl rfl (c_l01Bit (gI f1 x7) y8L2 w280 (by omega) (by omega)) ?_)
         rintro _ _ ⟨rfl, rfl⟩ a309 hE310; clear hE306
         refine q_step (v := .bool (!(F_l01Bit (gI f1 x7) y8L2))) hE310 (y_not rfl) rfl rfl rfl ?_; intro a313 hE314; clear hE310
         refine c_nil ?_
         have hE315 := hE314.sub (L' := [(1, .int .i64 flag), (5, .int .i64 f0), (6, .slice f1A f1.length f1C), (7, .int .i64 x7), (8, .int .i64 y8L2), (78, .bool (!(F_l01Bit (gI f1 x7) y8L2)))]) ⟨rfl, rfl, rfl, rfl, rfl, rfl, trivial⟩; clear hE314
         refine p_tn ?_
         refine c_cond hE315 rfl (fun ht316 => ?_) (fun ht316 => ?_)
         ·
          have ht317 := bn_t ht316
          have hE318 := hE315; rw [ht316] at hE318; clear hE315
          refine wp_exit ?_
          refine p_te ?_
          refine p_be ?_
          refine p_tn ?_
          refine c_reg ?_
          refine q_step (v := .int .i64 y8L2) hE318 (y_move rfl) rfl rfl rfl ?_; intro a319 hE320; clear hE318
          refine q_step (v := .int .i64 (y8L2 + 1)) hE320 (y_add rfl rfl ⟨(by omega), (by omega)⟩) rfl rfl rfl ?_; intro a321 hE322; clear hE320
          refine q_step (v := .int .i64 (y8L2 + 1)) hE322 (y_assign rfl) rfl rfl rfl ?_; intro a323 hE324; clear hE322
          refine c_nil ?_
          have hE325 := hE324.sub (L' := [(1, .int .i64 flag), (5, .int .i64 f0), (6, .slice f1A f1.length f1C), (7, .int .i64 x7), (8, .int .i64 (y8L2 + 1))]) ⟨rfl, rfl, rfl, rfl, rfl, trivial⟩; clear hE324
          refine p_tn ⟨r286, Nat.lt_succ_self _, y8L2 + 1, (hT283.symm.trans (show F_l05Flag_L2b f0 f1 flag x7 (F_l05Flag_L2 f0 f1 flag x7 r286) y8L2 = F_l05Flag_L2 f0 f1 flag x7 r286 (y8L2 + 1) by unfold F_l05Flag_L2b; rw [ht316, ht294]; first | done | rfl)).symm, (by omega), (by first | omega | (simp only [sS_len, sL_len]; omega) | (simp only [List.length_replicate, sI_len]; omega) | (simp only [List.length_append, List.length_cons, List.length_nil, sI_len, cond_true, cond_false]; omega) | (simp only [List.length_append, List.length_cons, List.length_nil, sI_len, cond_eq_ite, apply_ite List.length]; split <;> simp only [List.length_append, List.length_cons, List.length_nil, sI_len] <;> omega) | grind), (hE325.sub (L' := [(1, .int .i64 flag), (5, .int .i64 f0), (6, .slice f1A f1.length f1C), (7, .int .i64 x7), (8, .int .i64 (y8L2 + 1))]) ⟨rfl, rfl, rfl, rfl, rfl, trivial⟩), (St.pick (Γ' := [.rd 1 f1A f1.length f1C f1, .blk b2 #[.int .i64 f0, .slice f1A f1.length f1C] 30]) hS282 [0, 1] (by decide) rfl)⟩
         ·
          have ht326 := bn_f ht316
          have hE327 := hE315; rw [ht316] at hE327; clear hE315
          refine wp_skip ?_
          refine p_tn ?_
          refine c_cut (fun a' w' => (bif (decide (flag = 3)) then (!(F_l01Bit (gI f1 y8L2) x7)) else (bif (decide (flag = 4)) then (!decide ((anI (gI f1 x7) (gI f1 y8L2)) = 0)) else (bif (decide (flag = 8)) then ((!decide (x7 = y8L2)) && (F_l01Bit (gI f1 y8L2) x7)) else ((decide (flag = 9)) && (decide ((andI (gI f1 x7) (gI (F_l01Inverse f1) y8L2)) = 0)))))) = false ∧ E a' 175 [(1, .int .i64 flag), (5, .int .i64 f0), (6, .slice f1A f1.length f1C), (7, .int .i64 x7), (8, .int .i64 y8L2)] ∧ St w w' [.rd 1 f1A f1.length f1C f1, .blk b2 #[.int .i64 f0, .slice f1A f1.length f1C] 30]) ?_ ?_
          ·
           refine c_seq ?_
           refine c_reg ?_
           refine q_step (v := .int .i64 flag) hE327 (y_move rfl) rfl rfl rfl ?_; intro a328 hE329; clear hE327
           refine c_nil ?_
           have hE330 := hE329.sub (L' := [(1, .int .i64 flag), (5, .int .i64 f0), (6, .slice f1A f1.length f1C), (7, .int .i64 x7), (8, .int .i64 y8L2), (79, .int .i64 flag)]) ⟨rfl, rfl, rfl, rfl, rfl, rfl, trivial⟩; clear hE329
           refine p_tn ?_
           refine wp_block ?_
           refine c_seq ?_
           refine c_reg ?_
           refine q_step (v := .bool (decide (flag = 3))) hE330 (y_eql rfl rfl) rfl rfl rfl ?_; intro a331 hE332; clear hE330
           refine q_step (v := .bool (decide (flag = 3))) hE332 (y_assign rfl) rfl rfl rfl ?_; intro a333 hE334; clear hE332
           refine c_nil ?_
           have hE335 := hE334.sub (L' := [(1, .int .i64 flag), (5, .int .i64 f0), (6, .slice f1A f1.length f1C), (7, .int .i64 x7), (8, .int .i64 y8L2), (79, .int .i64 flag), (80, .bool (decide (flag = 3)))]) ⟨rfl, rfl, rfl, rfl, rfl, rfl, rfl, trivial⟩; clear hE334
           refine p_tn ?_
           refine c_cond hE335 rfl (fun ht336 => ?_) (fun ht336 => ?_)
           ·
            have hp337 := of_decide_eq_true ht336
            have hE338 := hE335; rw [ht336] at hE338; clear hE335
            refine c_seq ?_
            refine c_reg ?_
            refine q_step (v := .slice f1A f1.length f1C) hE338 (y_move rfl) rfl rfl rfl ?_; intro a339 hE340; clear hE338
            refine q_step (v := .int .i64 y8L2) hE340 (y_move rfl) rfl rfl rfl ?_; intro a341 hE342; clear hE340
            refine q_step (v := .pointer (some (adr f1A (Int.toNat y8L2)))) hE342 (y_idx (by kernel_rfl) (fun _ => by kernel_rfl) rfl rfl (RdS.isS (m := y8L2) (St.rdR (i := 0) hS282 rfl) (by omega) (by omega)) (by omega) (by omega) (Nat.mul_one _).symm) rfl rfl rfl ?_; intro a343 hE344; clear hE342
            refine q_step (v := .int .i64 (gI f1 y8L2)) hE344 (y_load (fun _ => by kernel_rfl) rfl (RdS.elt (St.rdR (i := 0) hS282 rfl) (by omega) (by omega))) rfl rfl rfl ?_; intro a345 hE346; clear hE344
            refine q_step (v := .int .i64 x7) hE346 (y_move rfl) rfl rfl rfl ?_; intro a347 hE348; clear hE346
            refine l_step hE348 rfl (l_call (f := 144) (argv := [.int .i64 (gI f1 y8L2), .int .i64 x7]) hE348 (fun _ => cf_l01Bit _ _) rfl rfl (c_l01Bit (gI f1 y8L2) x7 w280 (by omega) (by omega)) ?_)
            rintro _ _ ⟨rfl, rfl⟩ a351 hE352; clear hE348
            refine q_step (v := .bool (!(F_l01Bit (gI f1 y8L2) x7))) hE352 (y_not rfl) rfl rfl rfl ?_; intro a355 hE356; clear hE352
            refine c_nil ?_
            have hE357 := hE356.sub (L' := [(1, .int .i64 flag), (5, .int .i64 f0), (6, .slice f1A f1.length f1C), (7, .int .i64 x7), (8, .int .i64 y8L2), (88, .bool (!(F_l01Bit (gI f1 y8L2) x7)))]) ⟨rfl, rfl, rfl, rfl, rfl, rfl, trivial⟩; clear hE356
            refine p_tn ?_
            refine c_cond hE357 rfl (fun ht358 => ?_) (fun ht358 => ?_)
            ·
             have ht359 := bn_t ht358
             have hE360 := hE357; rw [ht358] at hE360; clear hE357
             refine c_seq ?_
             refine c_reg ?_
             refine q_step (v := .bool false) hE360 (y_assign rfl) rfl rfl rfl ?_; intro a361 hE362; clear hE360
             refine c_nil ?_
             have hE363 := hE362.sub (L' := [(4, .bool false)]) ⟨rfl, trivial⟩; clear hE362
             refine p_tn ?_
             refine wp_ret ?_
             refine p_br ?_
             refine p_tr ?_
             have hR364 : (bif (decide (flag = 3)) then (!(F_l01Bit (gI f1 y8L2) x7)) else (bif (decide (flag = 4)) then (!decide ((anI (gI f1 x7) (gI f1 y8L2)) = 0)) else (bif (decide (flag = 8)) then ((!decide (x7 = y8L2)) && (F_l01Bit (gI f1 y8L2) x7)) else ((decide (flag = 9)) && (decide ((andI (gI f1 x7) (gI (F_l01Inverse f1) y8L2)) = 0)))))) = true := (by simp only [ht336, ht358, Bool.not_true, Bool.not_false, Bool.and_true, Bool.true_and, Bool.and_false, Bool.false_and, Bool.or_true, Bool.true_or, Bool.or_false, Bool.false_or, cond_true, cond_false])
             refine p_br ?_
             refine p_tr ?_
             have hX365 : F_l05Flag_L2 f0 f1 flag x7 (Int.toNat (f0 - 0) + 1) 0 = .error false := hT283.symm.trans (show F_l05Flag_L2b f0 f1 flag x7 (F_l05Flag_L2 f0 f1 flag x7 r286) y8L2 = .error false by unfold F_l05Flag_L2b; rw [hR364, ht316, ht294]; first | done | rfl)
             refine p_tr (p_br (p_tr ?_))
             refine p_br ?_
             refine p_tr ?_
             have hX366 : F_l05Flag_L1 f0 f1 flag (Int.toNat (f0 - 0) + 1) 0 = .error false := hT35.symm.trans (show F_l05Flag_L1b f0 f1 flag (F_l05Flag_L1 f0 f1 flag r38) x7 = .error false by unfold F_l05Flag_L1b; rw [hX365, hR274, ht46]; first | done | rfl)
             refine p_tr (p_br (p_tr ?_))
             refine p_tr ?_
             have hF : F_l05Flag f0 f1 flag = false := by unfold F_l05Flag; rw [hX366]; first | done | rfl
             refine c_ret1 hE363 rfl rfl ?_
             exact ⟨(by rw [hF]; first | done | (dsimp only; done) | rfl), hS282.ext⟩
            ·
             have ht367 := bn_f ht358
             have hE368 := hE357; rw [ht358] at hE368; clear hE357
             refine wp_skip ?_
             refine p_bn ?_
             refine p_tn ?_
             have hE369 := hE368.sub (L' := [(1, .int .i64 flag), (5, .int .i64 f0), (6, .slice f1A f1.length f1C), (7, .int .i64 x7), (8, .int .i64 y8L2)]) ⟨rfl, rfl, rfl, rfl, rfl, trivial⟩
             have hS370 := (St.pick (Γ' := [.rd 1 f1A f1.length f1C f1, .blk b2 #[.int .i64 f0, .slice f1A f1.length f1C] 30]) hS282 [0, 1] (by decide) rfl)
             exact ⟨(by simp only [ht336, ht358, Bool.not_true, Bool.not_false, Bool.and_true, Bool.true_and, Bool.and_false, Bool.false_and, Bool.or_true, Bool.true_or, Bool.or_false, Bool.false_or, cond_true, cond_false]), hE369, hS370⟩
           ·
            have hp371 := of_decide_eq_false ht336
            have hE372 := hE335; rw [ht336] at hE372; clear hE335
            refine c_seq ?_
            refine c_reg ?_
            refine q_step (v := .bool (decide (flag = 4))) hE372 (y_eql rfl rfl) rfl rfl rfl ?_; intro a373 hE374; clear hE372
            refine q_step (v := .bool (decide (flag = 4))) hE374 (y_assign rfl) rfl rfl rfl ?_; intro a375 hE376; clear hE374
            refine c_nil ?_
            have hE377 := hE376.sub (L' := [(1, .int .i64 flag), (5, .int .i64 f0), (6, .slice f1A f1.length f1C), (7, .int .i64 x7), (8, .int .i64 y8L2), (79, .int .i64 flag), (89, .bool (decide (flag = 4)))]) ⟨rfl, rfl, rfl, rfl, rfl, rfl, rfl, trivial⟩; clear hE376
            refine p_tn ?_
            refine c_cond hE377 rfl (fun ht378 => ?_) (fun ht378 => ?_)
            ·
             have hp379 := of_decide_eq_true ht378
             have hE380 := hE377; rw [ht378] at hE380; clear hE377
             refine c_seq ?_
             refine d_start (fun w w' => (fun w' => w'.cell? (adr f1A (Int.toNat x7)) = some (.int .i64 (gI f1 x7)) ∧ w'.cell? (adr f1A (Int.toNat y8L2)) = some (.int .i64 (gI f1 y8L2)) ∧ True) w → (fun w' => w'.cell? (adr f1A (Int.toNat x7)) = some (.int .i64 (gI f1 x7)) ∧ w'.cell? (adr f1A (Int.toNat y8L2)) = some (.int .i64 (gI f1 y8L2)) ∧ True) w') [3, 7] 10 (by kernel_rfl) rfl ?_
             intro w381 he382; have hS383 := St.go hS282 he382; clear hS282
             refine d_pure (fun _ h => h) (v := .slice f1A f1.length f1C) 0 rfl hE380 (y_move rfl) rfl (by kernel_rfl) (by kernel_rfl) (by kernel_rfl) rfl rfl (fun _ _ _ h => h) ?_; intro a384 hE385; clear hE380
             refine d_pure (fun _ h => h) (v := .int .i64 x7) 1 rfl hE385 (y_move rfl) rfl (by kernel_rfl) (by kernel_rfl) (by kernel_rfl) rfl rfl (fun _ _ _ h => h) ?_; intro a386 hE387; clear hE385
             refine d_pure (fun _ h => h) (v := .pointer (some (adr f1A (Int.toNat x7)))) 2 rfl hE387 (y_idx (by kernel_rfl) (fun _ => by kernel_rfl) rfl rfl (RdS.isS (m := x7) (St.rdR (i := 0) hS383 rfl) (by omega) (by omega)) (by omega) (by omega) (Nat.mul_one _).symm) rfl (by kernel_rfl) (by kernel_rfl) (by kernel_rfl) rfl rfl (fun _ _ _ h => h) ?_; intro a388 hE389; clear hE387
             refine d_take (fun _ h => h) (fun _ _ h k => h k) (v := .int .i64 (gI f1 x7)) 3 rfl hE389 (S := fun w' => w'.cell? (adr f1A (Int.toNat x7)) = some (.int .i64 (gI f1 x7)) ∧ w'.cell? (adr f1A (Int.toNat y8L2)) = some (.int .i64 (gI f1 y8L2)) ∧ True) ⟨(RdS.elt (St.rdR (i := 0) hS383 rfl) (by omega) (by omega) _ (Ext.refl _)), (RdS.elt (St.rdR (i := 0) hS383 rfl) (by omega) (by omega) _ (Ext.refl _)), trivial⟩ (y_load (fun _ => by kernel_rfl) rfl (fun _ h => h.1)) rfl rfl (by kernel_rfl) (by kernel_rfl) (by kernel_rfl) (by kernel_rfl) rfl rfl (fun _ _ _ h => h) ?_; intro a390 hE391; clear hE389
             refine d_pure (fun _ h => h) (v := .slice f1A f1.length f1C) 4 rfl hE391 (y_move rfl) rfl (by kernel_rfl) (by kernel_rfl) (by kernel_rfl) rfl rfl (fun _ _ _ h => h) ?_; intro a392 hE393; clear hE391
             refine d_pure (fun _ h => h) (v := .int .i64 y8L2) 5 rfl hE393 (y_move rfl) rfl (by kernel_rfl) (by kernel_rfl) (by kernel_rfl) rfl rfl (fun _ _ _ h => h) ?_; intro a394 hE395; clear hE393
             refine d_pure (fun _ h => h) (v := .pointer (some (adr f1A (Int.toNat y8L2)))) 6 rfl hE395 (y_idx (by kernel_rfl) (fun _ => by kernel_rfl) rfl rfl (RdS.isS (m := y8L2) (St.rdR (i := 0) hS383 rfl) (by omega) (by omega)) (by omega) (by omega) (Nat.mul_one _).symm) rfl (by kernel_rfl) (by kernel_rfl) (by kernel_rfl) rfl rfl (fun _ _ _ h => h) ?_; intro a396 hE397; clear hE395
             refine d_take (fun _ h => h) (fun _ _ h k => h k) (v := .int .i64 (gI f1 y8L2)) 7 rfl hE397 (S := fun w' => w'.cell? (adr f1A (Int.toNat x7)) = some (.int .i64 (gI f1 x7)) ∧ w'.cell? (adr f1A (Int.toNat y8L2)) = some (.int .i64 (gI f1 y8L2)) ∧ True) ⟨(RdS.elt (St.rdR (i := 0) hS383 rfl) (by omega) (by omega) _ (Ext.refl _)), (RdS.elt (St.rdR (i := 0) hS383 rfl) (by omega) (by omega) _ (Ext.refl _)), trivial⟩ (y_load (fun _ => by kernel_rfl) rfl (fun _ h => h.2.1)) rfl rfl (by kernel_rfl) (by kernel_rfl) (by kernel_rfl) (by kernel_rfl) rfl rfl (fun _ _ _ h => h) ?_; intro a398 hE399; clear hE397
             refine d_pure (fun _ h => h) (v := .int .i64 (anI (gI f1 x7) (gI f1 y8L2))) 8 rfl hE399 (y_andNot rfl rfl) rfl (by kernel_rfl) (by kernel_rfl) (by kernel_rfl) rfl rfl (fun _ _ _ h => h) ?_; intro a400 hE401; clear hE399
             refine d_pure (fun _ h => h) (v := .bool (!decide ((anI (gI f1 x7) (gI f1 y8L2)) = 0))) 9 rfl hE401 (y_neq rfl rfl) rfl (by kernel_rfl) (by kernel_rfl) (by kernel_rfl) rfl rfl (fun _ _ _ h => h) ?_; intro a402 hE403; clear hE401
             refine d_done (by kernel_rfl) ?_
             have hE404 := hE403.sub (L' := [(1, .int .i64 flag), (5, .int .i64 f0), (6, .slice f1A f1.length f1C), (7, .int .i64 x7), (8, .int .i64 y8L2), (100, .bool (!decide ((anI (gI f1 x7) (gI f1 y8L2)) = 0)))]) ⟨rfl, rfl, rfl, rfl, rfl, rfl, trivial⟩; clear hE403
             refine p_tn ?_
             refine c_cond hE404 rfl (fun ht405 => ?_) (fun ht405 => ?_)
             ·
              have ht406 := bn_t ht405
              have hp407 := of_decide_eq_false ht406
              have hE408 := hE404; rw [ht405] at hE408; clear hE404
              refine c_seq ?_
              refine c_reg ?_
              refine q_step (v := .bool false) hE408 (y_assign rfl) rfl rfl rfl ?_; intro a409 hE410; clear hE408
              refine c_nil ?_
              have hE411 := hE410.sub (L' := [(4, .bool false)]) ⟨rfl, trivial⟩; clear hE410
              refine p_tn ?_
              refine wp_ret ?_
              refine p_br ?_
              refine p_tr ?_
              have hR412 : (bif (decide (flag = 3)) then (!(F_l01Bit (gI f1 y8L2) x7)) else (bif (decide (flag = 4)) then (!decide ((anI (gI f1 x7) (gI f1 y8L2)) = 0)) else (bif (decide (flag = 8)) then ((!decide (x7 = y8L2)) && (F_l01Bit (gI f1 y8L2) x7)) else ((decide (flag = 9)) && (decide ((andI (gI f1 x7) (gI (F_l01Inverse f1) y8L2)) = 0)))))) = true := (by simp only [ht336, ht378, ht405, Bool.not_true, Bool.not_false, Bool.and_true, Bool.true_and, Bool.and_false, Bool.false_and, Bool.or_true, Bool.true_or, Bool.or_false, Bool.false_or, cond_true, cond_false])
              refine p_br ?_
              refine p_tr ?_
              have hX413 : F_l05Flag_L2 f0 f1 flag x7 (Int.toNat (f0 - 0) + 1) 0 = .error false := hT283.symm.trans (show F_l05Flag_L2b f0 f1 flag x7 (F_l05Flag_L2 f0 f1 flag x7 r286) y8L2 = .error false by unfold F_l05Flag_L2b; rw [hR412, ht316, ht294]; first | done | rfl)
              refine p_tr (p_br (p_tr ?_))
              refine p_br ?_
              refine p_tr ?_
              have hX414 : F_l05Flag_L1 f0 f1 flag (Int.toNat (f0 - 0) + 1) 0 = .error false := hT35.symm.trans (show F_l05Flag_L1b f0 f1 flag (F_l05Flag_L1 f0 f1 flag r38) x7 = .error false by unfold F_l05Flag_L1b; rw [hX413, hR274, ht46]; first | done | rfl)
              refine p_tr (p_br (p_tr ?_))
              refine p_tr ?_
              have hF : F_l05Flag f0 f1 flag = false := by unfold F_l05Flag; rw [hX414]; first | done | rfl
              refine c_ret1 hE411 rfl rfl ?_
              exact ⟨(by rw [hF]; first | done | (dsimp only; done) | rfl), hS383.ext⟩
             ·
              have ht415 := bn_f ht405
              have hp416 := of_decide_eq_true ht415
              have hE417 := hE404; rw [ht405] at hE417; clear hE404
              refine wp_skip ?_
              refine p_bn ?_
              refine p_tn ?_
              have hE418 := hE417.sub (L' := [(1, .int .i64 flag), (5, .int .i64 f0), (6, .slice f1A f1.length f1C), (7, .int .i64 x7), (8, .int .i64 y8L2)]) ⟨rfl, rfl, rfl, rfl, rfl, trivial⟩
              have hS419 := (St.pick (Γ' := [.rd 1 f1A f1.length f1C f1, .blk b2 #[.int .i64 f0, .slice f1A f1.length f1C] 30]) hS383 [0, 1] (by decide) rfl)
              exact ⟨(by simp only [ht336, ht378, ht405, Bool.not_true, Bool.not_false, Bool.and_true, Bool.true_and, Bool.and_false, Bool.false_and, Bool.or_true, Bool.true_or, Bool.or_false, Bool.false_or, cond_true, cond_false]), hE418, hS419⟩
            ·
             have hp420 := of_decide_eq_false ht378
             have hE421 := hE377; rw [ht378] at hE421; clear hE377
             refine c_seq ?_
             refine c_reg ?_
             refine q_step (v := .bool (decide (flag = 8))) hE421 (y_eql rfl rfl) rfl rfl rfl ?_; intro a422 hE423; clear hE421
             refine q_step (v := .bool (decide (flag = 8))) hE423 (y_assign rfl) rfl rfl rfl ?_; intro a424 hE425; clear hE423
             refine c_nil ?_
             have hE426 := hE425.sub (L' := [(1, .int .i64 flag), (5, .int .i64 f0), (6, .slice f1A f1.length f1C), (7, .int .i64 x7), (8, .int .i64 y8L2), (79, .int .i64 flag), (101, .bool (decide (flag = 8)))]) ⟨rfl, rfl, rfl, rfl, rfl, rfl, rfl, trivial⟩; clear hE425
             refine p_tn ?_
             refine c_cond hE426 rfl (fun ht427 => ?_) (fun ht427 => ?_)
             ·
              have hp428 := of_decide_eq_true ht427
              have hE429 := hE426; rw [ht427] at hE429; clear hE426
              refine c_cut (fun a' w' => E a' 175 [(1, .int .i64 flag), (5, .int .i64 f0), (6, .slice f1A f1.length f1C), (7, .int .i64 x7), (8, .int .i64 y8L2), (113, .bool ((!decide (x7 = y8L2)) && (F_l01Bit (gI f1 y8L2) x7)))] ∧ St w w' [.rd 1 f1A f1.length f1C f1, .blk b2 #[.int .i64 f0, .slice f1A f1.length f1C] 30]) ?_ ?_
              ·
               refine c_reg ?_
               refine q_step (v := .int .i64 x7) hE429 (y_move rfl) rfl rfl rfl ?_; intro a430 hE431; clear hE429
               refine q_step (v := .int .i64 y8L2) hE431 (y_move rfl) rfl rfl rfl ?_; intro a432 hE433; clear hE431
               refine q_step (v := .bool (!decide (x7 = y8L2))) hE433 (y_neq rfl rfl) rfl rfl rfl ?_; intro a434 hE435; clear hE433
               refine q_step (v := .bool (!decide (x7 = y8L2))) hE435 (y_move rfl) rfl rfl rfl ?_; intro a436 hE437; clear hE435
               rcases Bool.eq_false_or_eq_true (!decide (x7 = y8L2)) with hb438 | hb438
               ·
                have hE439 := hE437; (try rw [hb438] at hE439); clear hE437
                have ht440 := bn_t hb438
                have hp441 := of_decide_eq_false ht440
                refine q_step (v := .slice f1A f1.length f1C) hE439 (y_move rfl) rfl rfl rfl ?_; intro a442 hE443; clear hE439
                refine q_step (v := .int .i64 y8L2) hE443 (y_move rfl) rfl rfl rfl ?_; intro a444 hE445; clear hE443
                refine q_step (v := .pointer (some (adr f1A (Int.toNat y8L2)))) hE445 (y_idx (by kernel_rfl) (fun _ => by kernel_rfl) rfl rfl (RdS.isS (m := y8L2) (St.rdR (i := 0) hS282 rfl) (by omega) (by omega)) (by omega) (by omega) (Nat.mul_one _).symm) rfl rfl rfl ?_; intro a446 hE447; clear hE445
                refine q_step (v := .int .i64 (gI f1 y8L2)) hE447 (y_load (fun _ => by kernel_rfl) rfl (RdS.elt (St.rdR (i := 0) hS282 rfl) (by omega) (by omega))) rfl rfl rfl ?_; intro a448 hE449; clear hE447
                refine q_step (v := .int .i64 x7) hE449 (y_move rfl) rfl rfl rfl ?_; intro a450 hE451; clear hE449
                refine l_step hE451 rfl (l_call (f := 144) (argv := [.int .i64 (gI f1 y8L2), .int .i64 x7]) hE451 (fun _ => cf_l01Bit _ _) rfl rfl (c_l01Bit (gI f1 y8L2) x7 w280 (by omega) (by omega)) ?_)
                rintro _ _ ⟨rfl, rfl⟩ a454 hE455; clear hE451
                refine q_step (v := .bool (F_l01Bit (gI f1 y8L2) x7)) hE455 (y_pick (b := true) rfl rfl) rfl rfl rfl ?_; intro a458 hE459; clear hE455
                refine c_nil ?_
                have hE460 := hE459.sub (L' := [(1, .int .i64 flag), (5, .int .i64 f0), (6, .slice f1A f1.length f1C), (7, .int .i64 x7), (8, .int .i64 y8L2), (113, .bool (F_l01Bit (gI f1 y8L2) x7))]) ⟨rfl, rfl, rfl, rfl, rfl, rfl, trivial⟩; clear hE459
                refine p_tn ?_
                have hE461 := hE460.sub (L' := [(1, .int .i64 flag), (5, .int .i64 f0), (6, .slice f1A f1.length f1C), (7, .int .i64 x7), (8, .int .i64 y8L2), (113, .bool (F_l01Bit (gI f1 y8L2) x7))]) ⟨rfl, rfl, rfl, rfl, rfl, rfl, trivial⟩
                have hS462 := (St.pick (Γ' := [.rd 1 f1A f1.length f1C f1, .blk b2 #[.int .i64 f0, .slice f1A f1.length f1C] 30]) hS282 [0, 1] (by decide) rfl)
                exact ⟨(by rw [hb438]; exact hE461), hS462⟩
               ·
                have hE463 := hE437; (try rw [hb438] at hE463); clear hE437
                have ht464 := bn_f hb438
                have hp465 := of_decide_eq_true ht464
                refine q_skip hE463 rfl rfl rfl ?_; intro a466 hE467; clear hE463
                refine q_skip hE467 rfl rfl rfl ?_; intro a468 hE469; clear hE467
                refine q_skip hE469 rfl rfl rfl ?_; intro a470 hE471; clear hE469
                refine q_skip hE471 rfl rfl rfl ?_; intro a472 hE473; clear hE471
                refine q_skip hE473 rfl rfl rfl ?_; intro a474 hE475; clear hE473
                refine q_skip hE475 rfl rfl rfl ?_; intro a476 hE477; clear hE475
                refine q_step (v := .bool false) hE477 (y_pick (b := false) rfl rfl) rfl rfl rfl ?_; intro a478 hE479; clear hE477
                refine c_nil ?_
                have hE480 := hE479.sub (L' := [(1, .int .i64 flag), (5, .int .i64 f0), (6, .slice f1A f1.length f1C), (7, .int .i64 x7), (8, .int .i64 y8L2), (113, .bool false)]) ⟨rfl, rfl, rfl, rfl, rfl, rfl, trivial⟩; clear hE479
                refine p_tn ?_
                have hE481 := hE480.sub (L' := [(1, .int .i64 flag), (5, .int .i64 f0), (6, .slice f1A f1.length f1C), (7, .int .i64 x7), (8, .int .i64 y8L2), (113, .bool false)]) ⟨rfl, rfl, rfl, rfl, rfl, rfl, trivial⟩
                have hS482 := (St.pick (Γ' := [.rd 1 f1A f1.length f1C f1, .blk b2 #[.int .i64 f0, .slice f1A f1.length f1C] 30]) hS282 [0, 1] (by decide) rfl)
                exact ⟨(by rw [hb438]; exact hE481), hS482⟩
              ·
               rintro a483 w484 ⟨hE485, hS486⟩; clear hE429 hS282
               refine c_cond hE485 rfl (fun ht488 => ?_) (fun ht488 => ?_)
               ·
                obtain ⟨ht489, ht490⟩ := band_t ht488
                have ht491 := bn_t ht489
                have hp492 := of_decide_eq_false ht491
                have hE493 := hE485; rw [ht488] at hE493; clear hE485
                refine c_seq ?_
                refine c_reg ?_
                refine q_step (v := .bool false) hE493 (y_assign rfl) rfl rfl rfl ?_; intro a494 hE495; clear hE493
                refine c_nil ?_
                have hE496 := hE495.sub (L' := [(4, .bool false)]) ⟨rfl, trivial⟩; clear hE495
                refine p_tn ?_
                refine wp_ret ?_
                refine p_br ?_
                refine p_tr ?_
                have hR497 : (bif (decide (flag = 3)) then (!(F_l01Bit (gI f1 y8L2) x7)) else (bif (decide (flag = 4)) then (!decide ((anI (gI f1 x7) (gI f1 y8L2)) = 0)) else (bif (decide (flag = 8)) then ((!decide (x7 = y8L2)) && (F_l01Bit (gI f1 y8L2) x7)) else ((decide (flag = 9)) && (decide ((andI (gI f1 x7) (gI (F_l01Inverse f1) y8L2)) = 0)))))) = true := (by simp only [ht336, ht378, ht427, ht488, Bool.not_true, Bool.not_false, Bool.and_true, Bool.true_and, Bool.and_false, Bool.false_and, Bool.or_true, Bool.true_or, Bool.or_false, Bool.false_or, cond_true, cond_false])
                refine p_br ?_
                refine p_tr ?_
                have hX498 : F_l05Flag_L2 f0 f1 flag x7 (Int.toNat (f0 - 0) + 1) 0 = .error false := hT283.symm.trans (show F_l05Flag_L2b f0 f1 flag x7 (F_l05Flag_L2 f0 f1 flag x7 r286) y8L2 = .error false by unfold F_l05Flag_L2b; rw [hR497, ht316, ht294]; first | done | rfl)
                refine p_tr (p_br (p_tr ?_))
                refine p_br ?_
                refine p_tr ?_
                have hX499 : F_l05Flag_L1 f0 f1 flag (Int.toNat (f0 - 0) + 1) 0 = .error false := hT35.symm.trans (show F_l05Flag_L1b f0 f1 flag (F_l05Flag_L1 f0 f1 flag r38) x7 = .error false by unfold F_l05Flag_L1b; rw [hX498, hR274, ht46]; first | done | rfl)
                refine p_tr (p_br (p_tr ?_))
                refine p_tr ?_
                have hF : F_l05Flag f0 f1 flag = false := by unfold F_l05Flag; rw [hX499]; first | done | rfl
                refine c_ret1 hE496 rfl rfl ?_
                exact ⟨(by rw [hF]; first | done | (dsimp only; done) | rfl), hS486.ext⟩
               ·
                have hE500 := hE485; rw [ht488] at hE500; clear hE485
                refine wp_skip ?_
                refine p_bn ?_
                refine p_tn ?_
                have hE501 := hE500.sub (L' := [(1, .int .i64 flag), (5, .int .i64 f0), (6, .slice f1A f1.length f1C), (7, .int .i64 x7), (8, .int .i64 y8L2)]) ⟨rfl, rfl, rfl, rfl, rfl, trivial⟩
                have hS502 := (St.pick (Γ' := [.rd 1 f1A f1.length f1C f1, .blk b2 #[.int .i64 f0, .slice f1A f1.length f1C] 30]) hS486 [0, 1] (by decide) rfl)
                exact ⟨(by simp only [ht336, ht378, ht427, ht488, Bool.not_true, Bool.not_false, Bool.and_true, Bool.true_and, Bool.and_false, Bool.false_and, Bool.or_true, Bool.true_or, Bool.or_false, Bool.false_or, cond_true, cond_false]), hE501, hS502⟩
             ·
              have hp503 := of_decide_eq_false ht427
              have hE504 := hE426; rw [ht427] at hE504; clear hE426
              refine c_seq ?_
              refine c_reg ?_
              refine q_step (v := .bool (decide (flag = 9))) hE504 (y_eql rfl rfl) rfl rfl rfl ?_; intro a505 hE506; clear hE504
              refine q_step (v := .bool (decide (flag = 9))) hE506 (y_assign rfl) rfl rfl rfl ?_; intro a507 hE508; clear hE506
              refine c_nil ?_
              have hE509 := hE508.sub (L' := [(1, .int .i64 flag), (5, .int .i64 f0), (6, .slice f1A f1.length f1C), (7, .int .i64 x7), (8, .int .i64 y8L2), (114, .bool (decide (flag = 9)))]) ⟨rfl, rfl, rfl, rfl, rfl, rfl, trivial⟩; clear hE508
              refine p_tn ?_
              refine c_cond hE509 rfl (fun ht510 => ?_) (fun ht510 => ?_)
              ·
               have hp511 := of_decide_eq_true ht510
               have hE512 := hE509; rw [ht510] at hE512; clear hE509
               refine c_seq ?_
               refine d_start (Ext) [3, 8] 11 (by kernel_rfl) rfl ?_
               intro w513 he514; have hS515 := St.go hS282 he514; clear hS282
               refine d_pure Ext.refl (v := .slice f1A f1.length f1C) 0 rfl hE512 (y_move rfl) rfl (by kernel_rfl) (by kernel_rfl) (by kernel_rfl) rfl rfl (fun _ _ _ h => h) ?_; intro a516 hE517; clear hE512
               refine d_pure Ext.refl (v := .int .i64 x7) 1 rfl hE517 (y_move rfl) rfl (by kernel_rfl) (by kernel_rfl) (by kernel_rfl) rfl rfl (fun _ _ _ h => h) ?_; intro a518 hE519; clear hE517
               refine d_pure Ext.refl (v := .pointer (some (adr f1A (Int.toNat x7)))) 2 rfl hE519 (y_idx (by kernel_rfl) (fun _ => by kernel_rfl) rfl rfl (RdS.isS (m := x7) (St.rdR (i := 0) hS515 rfl) (by omega) (by omega)) (by omega) (by omega) (Nat.mul_one _).symm) rfl (by kernel_rfl) (by kernel_rfl) (by kernel_rfl) rfl rfl (fun _ _ _ h => h) ?_; intro a520 hE521; clear hE519
               refine d_take Ext.refl (fun _ _ h k => k.trans h) (v := .int .i64 (gI f1 x7)) 3 rfl hE521 (S := fun w' => Ext w513 w') (Ext.refl _) (y_load (fun _ => by kernel_rfl) rfl (RdS.elt (St.rdR (i := 0) hS515 rfl) (by omega) (by omega))) rfl rfl (by kernel_rfl) (by kernel_rfl) (by kernel_rfl) (by kernel_rfl) rfl rfl (fun _ _ _ h => h) ?_; intro a522 hE523; clear hE521
               refine d_pure Ext.refl (v := .slice f1A f1.length f1C) 4 rfl hE523 (y_move rfl) rfl (by kernel_rfl) (by kernel_rfl) (by kernel_rfl) rfl rfl (fun _ _ _ h => h) ?_; intro a524 hE525; clear hE523
               refine d_pure Ext.refl (v := .int .i64 y8L2) 6 rfl hE525 (y_move rfl) rfl (by kernel_rfl) (by kernel_rfl) (by kernel_rfl) rfl rfl (fun _ _ _ h => h) ?_; intro a526 hE527; clear hE525
               refine d_only 5 (by kernel_rfl) rfl hE527 rfl (l_call (f := 143) (argv := [.slice f1A f1.length f1C]) hE527 (fun _ => cf_l01Inverse _ _) rfl rfl (c_l01Inverse f1A f1.length f1C f1 w513 (St.rdR (i := 0) hS515 rfl) (by omega)) ?_)
               rintro _ w529 ⟨b534, c535, rfl, ho536, he533⟩ a530 hE531; clear hE527
               have hf537 := l01Inverse_len f1
               have hS532 := St.own hS515 he533 ho536; clear hS515
               refine ⟨fun _ => he533, ?_⟩
               refine d_pure Ext.refl (v := .pointer (some (adr b534 (Int.toNat y8L2)))) 7 rfl hE531 (y_idx (by kernel_rfl) (fun _ => by kernel_rfl) rfl rfl (RdS.isS (m := y8L2) (St.rdO (i := 0) hS532 rfl) (by omega) (by omega)) (by omega) (by omega) (Nat.mul_one _).symm) rfl (by kernel_rfl) (by kernel_rfl) (by kernel_rfl) rfl rfl (fun _ _ _ h => h) ?_; intro a538 hE539; clear hE531
               refine d_take Ext.refl (fun _ _ h k => k.trans h) (v := .int .i64 (gI (F_l01Inverse f1) y8L2)) 8 rfl hE539 (S := fun w' => Ext w529 w') (Ext.refl _) (y_load (fun _ => by kernel_rfl) rfl (RdS.elt (St.rdO (i := 0) hS532 rfl) (by omega) (by omega))) rfl rfl (by kernel_rfl) (by kernel_rfl) (by kernel_rfl) (by kernel_rfl) rfl rfl (fun _ _ _ h => h) ?_; intro a540 hE541; clear hE539
               refine d_pure Ext.refl (v := .int .i64 (andI (gI f1 x7) (gI (F_l01Inverse f1) y8L2))) 9 rfl hE541 (y_and rfl rfl) rfl (by kernel_rfl) (by kernel_rfl) (by kernel_rfl) rfl rfl (fun _ _ _ h => h) ?_; intro a542 hE543; clear hE541
               refine d_pure Ext.refl (v := .bool (decide ((andI (gI f1 x7) (gI (F_l01Inverse f1) y8L2)) = 0))) 10 rfl hE543 (y_eql rfl rfl) rfl (by kernel_rfl) (by kernel_rfl) (by kernel_rfl) rfl rfl (fun _ _ _ h => h) ?_; intro a544 hE545; clear hE543
               refine d_done (by kernel_rfl) ?_
               have hE546 := hE545.sub (L' := [(1, .int .i64 flag), (5, .int .i64 f0), (6, .slice f1A f1.length f1C), (7, .int .i64 x7), (8, .int .i64 y8L2), (126, .bool (decide ((andI (gI f1 x7) (gI (F_l01Inverse f1) y8L2)) = 0)))]) ⟨rfl, rfl, rfl, rfl, rfl, rfl, trivial⟩; clear hE545
               refine p_tn ?_
               refine c_cond hE546 rfl (fun ht547 => ?_) (fun ht547 => ?_)
               ·
                have hp548 := of_decide_eq_true ht547
                have hE549 := hE546; rw [ht547] at hE549; clear hE546
                refine c_seq ?_
                refine c_reg ?_
                refine q_step (v := .bool false) hE549 (y_assign rfl) rfl rfl rfl ?_; intro a550 hE551; clear hE549
                refine c_nil ?_
                have hE552 := hE551.sub (L' := [(4, .bool false)]) ⟨rfl, trivial⟩; clear hE551
                refine p_tn ?_
                refine wp_ret ?_
                refine p_br ?_
                refine p_tr ?_
                have hR553 : (bif (decide (flag = 3)) then (!(F_l01Bit (gI f1 y8L2) x7)) else (bif (decide (flag = 4)) then (!decide ((anI (gI f1 x7) (gI f1 y8L2)) = 0)) else (bif (decide (flag = 8)) then ((!decide (x7 = y8L2)) && (F_l01Bit (gI f1 y8L2) x7)) else ((decide (flag = 9)) && (decide ((andI (gI f1 x7) (gI (F_l01Inverse f1) y8L2)) = 0)))))) = true := (by simp only [ht336, ht378, ht427, ht510, ht547, Bool.not_true, Bool.not_false, Bool.and_true, Bool.true_and, Bool.and_false, Bool.false_and, Bool.or_true, Bool.true_or, Bool.or_false, Bool.false_or, cond_true, cond_false])
                refine p_br ?_
                refine p_tr ?_
                have hX554 : F_l05Flag_L2 f0 f1 flag x7 (Int.toNat (f0 - 0) + 1) 0 = .error false := hT283.symm.trans (show F_l05Flag_L2b f0 f1 flag x7 (F_l05Flag_L2 f0 f1 flag x7 r286) y8L2 = .error false by unfold F_l05Flag_L2b; rw [hR553, ht316, ht294]; first | done | rfl)
                refine p_tr (p_br (p_tr ?_))
                refine p_br ?_
                refine p_tr ?_
                have hX555 : F_l05Flag_L1 f0 f1 flag (Int.toNat (f0 - 0) + 1) 0 = .error false := hT35.symm.trans (show F_l05Flag_L1b f0 f1 flag (F_l05Flag_L1 f0 f1 flag r38) x7 = .error false by unfold F_l05Flag_L1b; rw [hX554, hR274, ht46]; first | done | rfl)
                refine p_tr (p_br (p_tr ?_))
                refine p_tr ?_
                have hF : F_l05Flag f0 f1 flag = false := by unfold F_l05Flag; rw [hX555]; first | done | rfl
                refine c_ret1 hE552 rfl rfl ?_
                exact ⟨(by rw [hF]; first | done | (dsimp only; done) | rfl), hS532.ext⟩
               ·
                have hp556 := of_decide_eq_false ht547
                have hE557 := hE546; rw [ht547] at hE557; clear hE546
                refine wp_skip ?_
                refine p_bn ?_
                refine p_tn ?_
                have hE558 := hE557.sub (L' := [(1, .int .i64 flag), (5, .int .i64 f0), (6, .slice f1A f1.length f1C), (7, .int .i64 x7), (8, .int .i64 y8L2)]) ⟨rfl, rfl, rfl, rfl, rfl, trivial⟩
                have hS559 := (St.pick (Γ' := [.rd 1 f1A f1.length f1C f1, .blk b2 #[.int .i64 f0, .slice f1A f1.length f1C] 30]) hS532 [1, 2] (by decide) rfl)
                exact ⟨(by simp only [ht336, ht378, ht427, ht510, ht547, Bool.not_true, Bool.not_false, Bool.and_true, Bool.true_and, Bool.and_false, Bool.false_and, Bool.or_true, Bool.true_or, Bool.or_false, Bool.false_or, cond_true, cond_false]), hE558, hS559⟩
              ·
               have hp560 := of_decide_eq_false ht510
               have hE561 := hE509; rw [ht510] at hE561; clear hE509
               refine wp_skip ?_
               refine p_bn ?_
               refine p_tn ?_
               have hE562 := hE561.sub (L' := [(1, .int .i64 flag), (5, .int .i64 f0), (6, .slice f1A f1.length f1C), (7, .int .i64 x7), (8, .int .i64 y8L2)]) ⟨rfl, rfl, rfl, rfl, rfl, trivial⟩
               have hS563 := (St.pick (Γ' := [.rd 1 f1A f1.length f1C f1, .blk b2 #[.int .i64 f0, .slice f1A f1.length f1C] 30]) hS282 [0, 1] (by decide) rfl)
               exact ⟨(by simp only [ht336, ht378, ht427, ht510, Bool.not_true, Bool.not_false, Bool.and_true, Bool.true_and, Bool.and_false, Bool.false_and, Bool.or_true, Bool.true_or, Bool.or_false, Bool.false_or, cond_true, cond_false]), hE562, hS563⟩
          ·
           rintro a564 w565 ⟨hR568, hE566, hS567⟩; clear hE327 hS282
           refine c_seq ?_
           refine c_reg ?_
           refine q_step (v := .int .i64 0) hE566 (y_assign rfl) rfl rfl rfl ?_; intro a569 hE570; clear hE566
           refine c_nil ?_
           have hE571 := hE570.sub (L' := [(1, .int .i64 flag), (5, .int .i64 f0), (6, .slice f1A f1.length f1C), (7, .int .i64 x7), (8, .int .i64 y8L2), (9, .int .i64 0)]) ⟨rfl, rfl, rfl, rfl, rfl, rfl, trivial⟩; clear hE570
           refine p_tn ?_
           refine c_cut1 (fun a' w' => isOk (F_l05Flag_L3 f0 f1 flag x7 y8L2 (Int.toNat (f0 - 0) + 1) 0) = true ∧ (0 ≤ (okD (F_l05Flag_L3 f0 f1 flag x7 y8L2 (Int.toNat (f0 - 0) + 1) 0))) ∧ E a' 175 [(1, .int .i64 flag), (5, .int .i64 f0), (6, .slice f1A f1.length f1C), (7, .int .i64 x7), (8, .int .i64 y8L2), (9, .int .i64 (okD (F_l05Flag_L3 f0 f1 flag x7 y8L2 (Int.toNat (f0 - 0) + 1) 0)))] ∧ St w w' [.rd 1 f1A f1.length f1C f1, .blk b2 #[.int .i64 f0, .slice f1A f1.length f1C] 30]) ?_ ?_
           ·
            refine wp_block ?_
            refine c_loop (fun r a' w' => ∃ z9L3 : Int, F_l05Flag_L3 f0 f1 flag x7 y8L2 r z9L3 = F_l05Flag_L3 f0 f1 flag x7 y8L2 (Int.toNat (f0 - 0) + 1) 0 ∧ Int.toNat (f0 - z9L3) < r ∧ (0 ≤ z9L3) ∧ E a' 175 [(1, .int .i64 flag), (5, .int .i64 f0), (6, .slice f1A f1.length f1C), (7, .int .i64 x7), (8, .int .i64 y8L2), (9, .int .i64 z9L3)] ∧ St w w' [.rd 1 f1A f1.length f1C f1, .blk b2 #[.int .i64 f0, .slice f1A f1.length f1C] 30]) (r := (Int.toNat (f0 - 0) + 1)) ?_ ?_
            · exact ⟨0, rfl, Nat.lt_succ_self _, (by first | omega | (simp only [sS_len, sL_len]; omega) | (simp only [List.length_replicate, sI_len]; omega) | (simp only [List.length_append, List.length_cons, List.length_nil, sI_len, cond_true, cond_false]; omega) | (simp only [List.length_append, List.length_cons, List.length_nil, sI_len, cond_eq_ite, apply_ite List.length]; split <;> simp only [List.length_append, List.length_cons, List.length_nil, sI_len] <;> omega) | grind), (hE571.sub (L' := [(1, .int .i64 flag), (5, .int .i64 f0), (6, .slice f1A f1.length f1C), (7, .int .i64 x7), (8, .int .i64 y8L2), (9, .int .i64 0)]) ⟨rfl, rfl, rfl, rfl, rfl, rfl, trivial⟩), (St.pick (Γ' := [.rd 1 f1A f1.length f1C f1, .blk b2 #[.int .i64 f0, .slice f1A f1.length f1C] 30]) hS567 [0, 1] (by decide) rfl)⟩
            ·
             clear hE571 hS567
             rintro r580 a573 w574 ⟨z9L3, hT577, hr578, hi579, hE575, hS576⟩
             obtain ⟨r580, rfl⟩ : ∃ r', r580 = r' + 1 := ⟨r580 - 1, by omega⟩
             refine c_seq ?_
             refine c_seq ?_
             refine c_reg ?_
             refine q_step (v := .int .i64 z9L3) hE575 (y_move rfl) rfl rfl rfl ?_; intro a581 hE582; clear hE575
             refine q_step (v := .int .i64 f0) hE582 (y_move rfl) rfl rfl rfl ?_; intro a583 hE584; clear hE582
             refine q_step (v := .bool (decide (z9L3 < f0))) hE584 (y_lss rfl rfl) rfl rfl rfl ?_; intro a585 hE586; clear hE584
             refine c_nil ?_
             have hE587 := hE586.sub (L' := [(1, .int .i64 flag), (5, .int .i64 f0), (6, .slice f1A f1.length f1C), (7, .int .i64 x7), (8, .int .i64 y8L2), (9, .int .i64 z9L3), (129, .bool (decide (z9L3 < f0)))]) ⟨rfl, rfl, rfl, rfl, rfl, rfl, rfl, trivial⟩; clear hE586
             refine p_tn ?_
             refine c_cond hE587 rfl (fun ht588 => ?_) (fun ht588 => ?_)
             ·
              have hp589 := of_decide_eq_true ht588
              have hE590 := hE587; rw [ht588] at hE590; clear hE587
              refine wp_skip ?_
              refine p_tn ?_
              refine c_seq ?_
              refine wp_block ?_
              refine c_seq ?_
              refine c_seq ?_
              refine c_reg ?_
              refine q_step (v := .slice f1A f1.length f1C) hE590 (y_move rfl) rfl rfl rfl ?_; intro a591 hE592; clear hE590
              refine q_step (v := .int .i64 x7) hE592 (y_move rfl) rfl rfl rfl ?_; intro a593 hE594; clear hE592
              refine q_step (v := .pointer (some (adr f1A (Int.toNat x7)))) hE594 (y_idx (by kernel_rfl) (fun _ => by kernel_rfl) rfl rfl (RdS.isS (m := x7) (St.rdR (i := 0) hS576 rfl) (by omega) (by omega)) (by omega) (by omega) (Nat.mul_one _).symm) rfl rfl rfl ?_; intro a595 hE596; clear hE594
              refine q_step (v := .int .i64 (gI f1 x7)) hE596 (y_load (fun _ => by kernel_rfl) rfl (RdS.elt (St.rdR (i := 0) hS576 rfl) (by omega) (by omega))) rfl rfl rfl ?_; intro a597 hE598; clear hE596
              refine q_step (v := .int .i64 z9L3) hE598 (y_move rfl) rfl rfl rfl ?_; intro a599 hE600; clear hE598
              refine l_step hE600 rfl (l_call (f := 144) (argv := [.int .i64 (gI f1 x7), .int .i64 z9L3]) hE600 (fun _ => cf_l01Bit _ _) rfl rfl (c_l01Bit (gI f1 x7) z9L3 w574 (by omega) (by omega)) ?_)
              rintro _ _ ⟨rfl, rfl⟩ a603 hE604; clear hE600
              refine q_step (v := .bool (!(F_l01Bit (gI f1 x7) z9L3))) hE604 (y_not rfl) rfl rfl rfl ?_; intro a607 hE608; clear hE604
              refine c_nil ?_
              have hE609 := hE608.sub (L' := [(1, .int .i64 flag), (5, .int .i64 f0), (6, .slice f1A f1.length f1C), (7, .int .i64 x7), (8, .int .i64 y8L2), (9, .int .i64 z9L3), (138, .bool (!(F_l01Bit (gI f1 x7) z9L3)))]) ⟨rfl, rfl, rfl, rfl, rfl, rfl, rfl, trivial⟩; clear hE608
              refine p_tn ?_
              refine c_cond hE609 rfl (fun ht610 => ?_) (fun ht610 => ?_)
              ·
               have ht611 := bn_t ht610
               have hE612 := hE609; rw [ht610] at hE612; clear hE609
               refine wp_exit ?_
               refine p_te ?_
               refine p_be ?_
               refine p_tn ?_
               refine c_reg ?_
               refine q_step (v := .int .i64 z9L3) hE612 (y_move rfl) rfl rfl rfl ?_; intro a613 hE614; clear hE612
               refine q_step (v := .int .i64 (z9L3 + 1)) hE614 (y_add rfl rfl ⟨(by omega), (by omega)⟩) rfl rfl rfl ?_; intro a615 hE616; clear hE614
               refine q_step (v := .int .i64 (z9L3 + 1)) hE616 (y_assign rfl) rfl rfl rfl ?_; intro a617 hE618; clear hE616
               refine c_nil ?_
               have hE619 := hE618.sub (L' := [(1, .int .i64 flag), (5, .int .i64 f0), (6, .slice f1A f1.length f1C), (7, .int .i64 x7), (8, .int .i64 y8L2), (9, .int .i64 (z9L3 + 1))]) ⟨rfl, rfl, rfl, rfl, rfl, rfl, trivial⟩; clear hE618
               refine p_tn ⟨r580, Nat.lt_succ_self _, z9L3 + 1, (hT577.symm.trans (show F_l05Flag_L3b f0 f1 flag x7 y8L2 (F_l05Flag_L3 f0 f1 flag x7 y8L2 r580) z9L3 = F_l05Flag_L3 f0 f1 flag x7 y8L2 r580 (z9L3 + 1) by unfold F_l05Flag_L3b; rw [ht610, ht588]; first | done | rfl)).symm, (by omega), (by first | omega | (simp only [sS_len, sL_len]; omega) | (simp only [List.length_replicate, sI_len]; omega) | (simp only [List.length_append, List.length_cons, List.length_nil, sI_len, cond_true, cond_false]; omega) | (simp only [List.length_append, List.length_cons, List.length_nil, sI_len, cond_eq_ite, apply_ite List.length]; split <;> simp only [List.length_append, List.length_cons, List.length_nil, sI_len] <;> omega) | grind), (hE619.sub (L' := [(1, .int .i64 flag), (5, .int .i64 f0), (6, .slice f1A f1.length f1C), (7, .int .i64 x7), (8, .int .i64 y8L2), (9, .int .i64 (z9L3 + 1))]) ⟨rfl, rfl, rfl, rfl, rfl, rfl, trivial⟩), (St.pick (Γ' := [.rd 1 f1A f1.length f1C f1, .blk b2 #[.int .i64 f0, .slice f1A f1.length f1C] 30]) hS576 [0, 1] (by decide) rfl)⟩
              ·
               have ht620 := bn_f ht610
               have hE621 := hE609; rw [ht610] at hE621; clear hE609
               refine wp_skip ?_
               refine p_tn ?_
               refine c_cut (fun a' w' => E a' 175 [(1, .int .i64 flag), (5, .int .i64 f0), (6, .slice f1A f1.length f1C), (7, .int .i64 x7), (8, .int .i64 y8L2), (9, .int .i64 z9L3), (174, .bool (bif (decide (flag = 5)) then ((decide ((andI (gI f1 y8L2) (gI f1 z9L3)) = 0)) || ((decide (flag = 6)) && ((!(F_l01Bit (gI f1 y8L2) z9L3)) && (!(F_l01Bit (gI f1 z9L3) y8L2))))) else ((decide (flag = 6)) && ((!(F_l01Bit (gI f1 y8L2) z9L3)) && (!(F_l01Bit (gI f1 z9L3) y8L2))))))] ∧ St w w' [.rd 1 f1A f1.length f1C f1, .blk b2 #[.int .i64 f0, .slice f1A f1.length f1C] 30]) ?_ ?_
               ·
                refine d_start (fun w w' => (fun w' => w'.cell? (adr f1A (Int.toNat y8L2)) = some (.int .i64 (gI f1 y8L2)) ∧ w'.cell? (adr f1A (Int.toNat z9L3)) = some (.int .i64 (gI f1 z9L3)) ∧ w'.cell? (adr f1A (Int.toNat y8L2)) = some (.int .i64 (gI f1 y8L2)) ∧ w'.cell? (adr f1A (Int.toNat z9L3)) = some (.int .i64 (gI f1 z9L3)) ∧ True) w → (fun w' => w'.cell? (adr f1A (Int.toNat y8L2)) = some (.int .i64 (gI f1 y8L2)) ∧ w'.cell? (adr f1A (Int.toNat z9L3)) = some (.int .i64 (gI f1 z9L3)) ∧ w'.cell? (adr f1A (Int.toNat y8L2)) = some (.int .i64 (gI f1 y8L2)) ∧ w'.cell? (adr f1A (Int.toNat z9L3)) = some (.int .i64 (gI f1 z9L3)) ∧ True) w') [6, 10, 21, 30] 36 (by kernel_rfl) rfl ?_
                intro w622 he623; have hS624 := St.go hS576 he623; clear hS576
                refine d_pure (fun _ h => h) (v := .int .i64 flag) 0 rfl hE621 (y_move rfl) rfl (by kernel_rfl) (by kernel_rfl) (by kernel_rfl) rfl rfl (fun _ _ _ h => h) ?_; intro a625 hE626; clear hE621
                refine d_pure (fun _ h => h) (v := .bool (decide (flag = 5))) 1 rfl hE626 (y_eql rfl rfl) rfl (by kernel_rfl) (by kernel_rfl) (by kernel_rfl) rfl rfl (fun _ _ _ h => h) ?_; intro a627 hE628; clear hE626
                refine d_pure (fun _ h => h) (v := .bool (decide (flag = 5))) 2 rfl hE628 (y_move rfl) rfl (by kernel_rfl) (by kernel_rfl) (by kernel_rfl) rfl rfl (fun _ _ _ h => h) ?_; intro a629 hE630; clear hE628
                rcases Bool.eq_false_or_eq_true (decide (flag = 5)) with hb631 | hb631
                ·
                 have hE632 := hE630; (try rw [hb631] at hE632); clear hE630
                 have hp633 := of_decide_eq_true hb631
                 refine d_pure (fun _ h => h) (v := .slice f1A f1.length f1C) 3 rfl hE632 (y_move rfl) rfl (by kernel_rfl) (by kernel_rfl) (by kernel_rfl) rfl rfl (fun _ _ _ h => h) ?_; intro a634 hE635; clear hE632
                 refine d_pure (fun _ h => h) (v := .int .i64 y8L2) 4 rfl hE635 (y_move rfl) rfl (by kernel_rfl) (by kernel_rfl) (by kernel_rfl) rfl rfl (fun _ _ _ h => h) ?_; intro a636 hE637; clear hE635
                 refine d_pure (fun _ h => h) (v := .pointer (some (adr f1A (Int.toNat y8L2)))) 5 rfl hE637 (y_idx (by kernel_rfl) (fun _ => by kernel_rfl) rfl rfl (RdS.isS (m := y8L2) (St.rdR (i := 0) hS624 rfl) (by omega) (by omega)) (by omega) (by omega) (Nat.mul_one _).symm) rfl (by kernel_rfl) (by kernel_rfl) (by kernel_rfl) rfl rfl (fun _ _ _ h => h) ?_; intro a638 hE639; clear hE637
                 refine d_take (fun _ h => h) (fun _ _ h k => h k) (v := .int .i64 (gI f1 y8L2)) 6 rfl hE639 (S := fun w' => w'.cell? (adr f1A (Int.toNat y8L2)) = some (.int .i64 (gI f1 y8L2)) ∧ w'.cell? (adr f1A (Int.toNat z9L3)) = some (.int .i64 (gI f1 z9L3)) ∧ w'.cell? (adr f1A (Int.toNat y8L2)) = some (.int .i64 (gI f1 y8L2)) ∧ w'.cell? (adr f1A (Int.toNat z9L3)) = some (.int .i64 (gI f1 z9L3)) ∧ True) ⟨(RdS.elt (St.rdR (i := 0) hS624 rfl) (by omega) (by omega) _ (Ext.refl _)), (RdS.elt (St.rdR (i := 0) hS624 rfl) (by omega) (by omega) _ (Ext.refl _)), (RdS.elt (St.rdR (i := 0) hS624 rfl) (by omega) (by omega) _ (Ext.refl _)), (RdS.elt (St.rdR (i := 0) hS624 rfl) (by omega) (by omega) _ (Ext.refl _)), trivial⟩ (y_load (fun _ => by kernel_rfl) rfl (fun _ h => h.1)) rfl rfl (by kernel_rfl) (by kernel_rfl) (by kernel_rfl) (by kernel_rfl) rfl rfl (fun _ _ _ h => h) ?_; intro a640 hE641; clear hE639
                 refine d_pure (fun _ h => h) (v := .slice f1A f1.length f1C) 7 rfl hE641 (y_move rfl) rfl (by kernel_rfl) (by kernel_rfl) (by kernel_rfl) rfl rfl (fun _ _ _ h => h) ?_; intro a642 hE643; clear hE641
                 refine d_pure (fun _ h => h) (v := .int .i64 z9L3) 8 rfl hE643 (y_move rfl) rfl (by kernel_rfl) (by kernel_rfl) (by kernel_rfl) rfl rfl (fun _ _ _ h => h) ?_; intro a644 hE645; clear hE643
                 refine d_pure (fun _ h => h) (v := .pointer (some (adr f1A (Int.toNat z9L3)))) 9 rfl hE645 (y_idx (by kernel_rfl) (fun _ => by kernel_rfl) rfl rfl (RdS.isS (m := z9L3) (St.rdR (i := 0) hS624 rfl) (by omega) (by omega)) (by omega) (by omega) (Nat.mul_one _).symm) rfl (by kernel_rfl) (by kernel_rfl) (by kernel_rfl) rfl rfl (fun _ _ _ h => h) ?_; intro a646 hE647; clear hE645
                 refine d_take (fun _ h => h) (fun _ _ h k => h k) (v := .int .i64 (gI f1 z9L3)) 10 rfl hE647 (S := fun w' => w'.cell? (adr f1A (Int.toNat y8L2)) = some (.int .i64 (gI f1 y8L2)) ∧ w'.cell? (adr f1A (Int.toNat z9L3)) = some (.int .i64 (gI f1 z9L3)) ∧ w'.cell? (adr f1A (Int.toNat y8L2)) = some (.int .i64 (gI f1 y8L2)) ∧ w'.cell? (adr f1A (Int.toNat z9L3)) = some (.int .i64 (gI f1 z9L3)) ∧ True) ⟨(RdS.elt (St.rdR (i := 0) hS624 rfl) (by omega) (by omega) _ (Ext.refl _)), (RdS.elt (St.rdR (i := 0) hS624 rfl) (by omega) (by omega) _ (Ext.refl _)), (RdS.elt (St.rdR (i := 0) hS624 rfl) (by omega) (by omega) _ (Ext.refl _)), (RdS.elt (St.rdR (i := 0) hS624 rfl) (by omega) (by omega) _ (Ext.refl _)), trivial⟩ (y_load (fun _ => by kernel_rfl) rfl (fun _ h => h.2.1)) rfl rfl (by kernel_rfl) (by kernel_rfl) (by kernel_rfl) (by kernel_rfl) rfl rfl (fun _ _ _ h => h) ?_; intro a648 hE649; clear hE647
                 refine d_pure (fun _ h => h) (v := .int .i64 (andI (gI f1 y8L2) (gI f1 z9L3))) 11 rfl hE649 (y_and rfl rfl) rfl (by kernel_rfl) (by kernel_rfl) (by kernel_rfl) rfl rfl (fun _ _ _ h => h) ?_; intro a650 hE651; clear hE649
                 refine d_pure (fun _ h => h) (v := .bool (decide ((andI (gI f1 y8L2) (gI f1 z9L3)) = 0))) 12 rfl hE651 (y_eql rfl rfl) rfl (by kernel_rfl) (by kernel_rfl) (by kernel_rfl) rfl rfl (fun _ _ _ h => h) ?_; intro a652 hE653; clear hE651
                 refine d_pure (fun _ h => h) (v := .bool (decide ((andI (gI f1 y8L2) (gI f1 z9L3)) = 0))) 13 rfl hE653 (y_pick (b := true) rfl rfl) rfl (by kernel_rfl) (by kernel_rfl) (by kernel_rfl) rfl rfl (fun _ _ _ h => h) ?_; intro a654 hE655; clear hE653
                 refine d_pure (fun _ h => h) (v := .bool (decide ((andI (gI f1 y8L2) (gI f1 z9L3)) = 0))) 14 rfl hE655 (y_move rfl) rfl (by kernel_rfl) (by kernel_rfl) (by kernel_rfl) rfl rfl (fun _ _ _ h => h) ?_; intro a656 hE657; clear hE655
                 rcases Bool.eq_false_or_eq_true (decide ((andI (gI f1 y8L2) (gI f1 z9L3)) = 0)) with hb658 | hb658
                 ·
                  have hE659 := hE657; (try rw [hb658] at hE659); clear hE657
                  have hp660 := of_decide_eq_true hb658
                  refine d_skip (fun _ h => h) 15 rfl hE659 rfl (by kernel_rfl) (by kernel_rfl) (by kernel_rfl) rfl rfl (fun _ _ _ h => h) ?_; intro a661 hE662; clear hE659
                  refine d_skip (fun _ h => h) 16 rfl hE662 rfl (by kernel_rfl) (by kernel_rfl) (by kernel_rfl) rfl rfl (fun _ _ _ h => h) ?_; intro a663 hE664; clear hE662
                  refine d_skip (fun _ h => h) 17 rfl hE664 rfl (by kernel_rfl) (by kernel_rfl) (by kernel_rfl) rfl rfl (fun _ _ _ h => h) ?_; intro a665 hE666; clear hE664
                  refine d_skip (fun _ h => h) 18 rfl hE666 rfl (by kernel_rfl) (by kernel_rfl) (by kernel_rfl) rfl rfl (fun _ _ _ h => h) ?_; intro a667 hE668; clear hE666
                  refine d_skip (fun _ h => h) 19 rfl hE668 rfl (by kernel_rfl) (by kernel_rfl) (by kernel_rfl) rfl rfl (fun _ _ _ h => h) ?_; intro a669 hE670; clear hE668
                  refine d_skip (fun _ h => h) 20 rfl hE670 rfl (by kernel_rfl) (by kernel_rfl) (by kernel_rfl) rfl rfl (fun _ _ _ h => h) ?_; intro a671 hE672; clear hE670
                  refine d_skip (fun _ h => h) 21 rfl hE672 rfl (by kernel_rfl) (by kernel_rfl) (by kernel_rfl) rfl rfl (fun _ _ _ h => h) ?_; intro a673 hE674; clear hE672
                  refine d_skip (fun _ h => h) 22 rfl hE674 rfl (by kernel_rfl) (by kernel_rfl) (by kernel_rfl) rfl rfl (fun _ _ _ h => h) ?_; intro a675 hE676; clear hE674
                  refine d_skip (fun _ h => h) 23 rfl hE676 rfl (by kernel_rfl) (by kernel_rfl) (by kernel_rfl) rfl rfl (fun _ _ _ h => h) ?_; intro a677 hE678; clear hE676
                  refine d_skip (fun _ h => h) 24 rfl hE678 rfl (by kernel_rfl) (by kernel_rfl) (by kernel_rfl) rfl rfl (fun _ _ _ h => h) ?_; intro a679 hE680; clear hE678
                  refine d_skip (fun _ h => h) 25 rfl hE680 rfl (by kernel_rfl) (by kernel_rfl) (by kernel_rfl) rfl rfl (fun _ _ _ h => h) ?_; intro a681 hE682; clear hE680
                  refine d_skip (fun _ h => h) 26 rfl hE682 rfl (by kernel_rfl) (by kernel_rfl) (by kernel_rfl) rfl rfl (fun _ _ _ h => h) ?_; intro a683 hE684; clear hE682
                  refine d_skip (fun _ h => h) 27 rfl hE684 rfl (by kernel_rfl) (by kernel_rfl) (by kernel_rfl) rfl rfl (fun _ _ _ h => h) ?_; intro a685 hE686; clear hE684
                  refine d_skip (fun _ h => h) 28 rfl hE686 rfl (by kernel_rfl) (by kernel_rfl) (by kernel_rfl) rfl rfl (fun _ _ _ h => h) ?_; intro a687 hE688; clear hE686
                  refine d_skip (fun _ h => h) 29 rfl hE688 rfl (by kernel_rfl) (by kernel_rfl) (by kernel_rfl) rfl rfl (fun _ _ _ h => h) ?_; intro a689 hE690; clear hE688
                  refine d_skip (fun _ h => h) 30 rfl hE690 rfl (by kernel_rfl) (by kernel_rfl) (by kernel_rfl) rfl rfl (fun _ _ _ h => h) ?_; intro a691 hE692; clear hE690
                  refine d_skip (fun _ h => h) 31 rfl hE692 rfl (by kernel_rfl) (by kernel_rfl) (by kernel_rfl) rfl rfl (fun _ _ _ h => h) ?_; intro a693 hE694; clear hE692
                  refine d_skip (fun _ h => h) 32 rfl hE694 rfl (by kernel_rfl) (by kernel_rfl) (by kernel_rfl) rfl rfl (fun _ _ _ h => h) ?_; intro a695 hE696; clear hE694
                  refine d_skip (fun _ h => h) 33 rfl hE696 rfl (by kernel_rfl) (by kernel_rfl) (by kernel_rfl) rfl rfl (fun _ _ _ h => h) ?_; intro a697 hE698; clear hE696
                  refine d_skip (fun _ h => h) 34 rfl hE698 rfl (by kernel_rfl) (by kernel_rfl) (by kernel_rfl) rfl rfl (fun _ _ _ h => h) ?_; intro a699 hE700; clear hE698
                  refine d_pure (fun _ h => h) (v := .bool true) 35 rfl hE700 (y_pick (b := true) rfl rfl) rfl (by kernel_rfl) (by kernel_rfl) (by kernel_rfl) rfl rfl (fun _ _ _ h => h) ?_; intro a701 hE702; clear hE700
                  refine d_done (by kernel_rfl) ?_
                  have hE703 := hE702.sub (L' := [(1, .int .i64 flag), (5, .int .i64 f0), (6, .slice f1A f1.length f1C), (7, .int .i64 x7), (8, .int .i64 y8L2), (9, .int .i64 z9L3), (174, .bool true)]) ⟨rfl, rfl, rfl, rfl, rfl, rfl, rfl, trivial⟩; clear hE702
                  refine p_tn ?_
                  have hE704 := hE703.sub (L' := [(1, .int .i64 flag), (5, .int .i64 f0), (6, .slice f1A f1.length f1C), (7, .int .i64 x7), (8, .int .i64 y8L2), (9, .int .i64 z9L3), (174, .bool true)]) ⟨rfl, rfl, rfl, rfl, rfl, rfl, rfl, trivial⟩
                  have hS705 := (St.pick (Γ' := [.rd 1 f1A f1.length f1C f1, .blk b2 #[.int .i64 f0, .slice f1A f1.length f1C] 30]) hS624 [0, 1] (by decide) rfl)
                  exact ⟨(by rw [hb658, hb631]; exact hE704), hS705⟩
                 ·
                  have hE706 := hE657; (try rw [hb658] at hE706); clear hE657
                  have hp707 := of_decide_eq_false hb658
                  refine d_pure (fun _ h => h) (v := .int .i64 flag) 15 rfl hE706 (y_move rfl) rfl (by kernel_rfl) (by kernel_rfl) (by kernel_rfl) rfl rfl (fun _ _ _ h => h) ?_; intro a708 hE709; clear hE706
                  refine d_pure (fun _ h => h) (v := .bool (decide (flag = 6))) 16 rfl hE709 (y_eql rfl rfl) rfl (by kernel_rfl) (by kernel_rfl) (by kernel_rfl) rfl rfl (fun _ _ _ h => h) ?_; intro a710 hE711; clear hE709
                  refine d_pure (fun _ h => h) (v := .bool (decide (flag = 6))) 17 rfl hE711 (y_move rfl) rfl (by kernel_rfl) (by kernel_rfl) (by kernel_rfl) rfl rfl (fun _ _ _ h => h) ?_; intro a712 hE713; clear hE711
                  rcases Bool.eq_false_or_eq_true (decide (flag = 6)) with hb714 | hb714
                  ·
                   have hE715 := hE713; (try rw [hb714] at hE715); clear hE713
                   have hp716 := of_decide_eq_true hb714
                   refine d_pure (fun _ h => h) (v := .slice f1A f1.length f1C) 18 rfl hE715 (y_move rfl) rfl (by kernel_rfl) (by kernel_rfl) (by kernel_rfl) rfl rfl (fun _ _ _ h => h) ?_; intro a717 hE718; clear hE715
                   refine d_pure (fun _ h => h) (v := .int .i64 y8L2) 19 rfl hE718 (y_move rfl) rfl (by kernel_rfl) (by kernel_rfl) (by kernel_rfl) rfl rfl (fun _ _ _ h => h) ?_; intro a719 hE720; clear hE718
                   refine d_pure (fun _ h => h) (v := .pointer (some (adr f1A (Int.toNat y8L2)))) 20 rfl hE720 (y_idx (by kernel_rfl) (fun _ => by kernel_rfl) rfl rfl (RdS.isS (m := y8L2) (St.rdR (i := 0) hS624 rfl) (by omega) (by omega)) (by omega) (by omega) (Nat.mul_one _).symm) rfl (by kernel_rfl) (by kernel_rfl) (by kernel_rfl) rfl rfl (fun _ _ _ h => h) ?_; intro a721 hE722; clear hE720
                   refine d_take (fun _ h => h) (fun _ _ h k => h k) (v := .int .i64 (gI f1 y8L2)) 21 rfl hE722 (S := fun w' => w'.cell? (adr f1A (Int.toNat y8L2)) = some (.int .i64 (gI f1 y8L2)) ∧ w'.cell? (adr f1A (Int.toNat z9L3)) = some (.int .i64 (gI f1 z9L3)) ∧ w'.cell? (adr f1A (Int.toNat y8L2)) = some (.int .i64 (gI f1 y8L2)) ∧ w'.cell? (adr f1A (Int.toNat z9L3)) = some (.int .i64 (gI f1 z9L3)) ∧ True) ⟨(RdS.elt (St.rdR (i := 0) hS624 rfl) (by omega) (by omega) _ (Ext.refl _)), (RdS.elt (St.rdR (i := 0) hS624 rfl) (by omega) (by omega) _ (Ext.refl _)), (RdS.elt (St.rdR (i := 0) hS624 rfl) (by omega) (by omega) _ (Ext.refl _)), (RdS.elt (St.rdR (i := 0) hS624 rfl) (by omega) (by omega) _ (Ext.refl _)), trivial⟩ (y_load (fun _ => by kernel_rfl) rfl (fun _ h => h.2.2.1)) rfl rfl (by kernel_rfl) (by kernel_rfl) (by kernel_rfl) (by kernel_rfl) rfl rfl (fun _ _ _ h => h) ?_; intro a723 hE724; clear hE722
                   refine d_pure (fun _ h => h) (v := .int .i64 z9L3) 22 rfl hE724 (y_move rfl) rfl (by kernel_rfl) (by kernel_rfl) (by kernel_rfl) rfl rfl (fun _ _ _ h => h) ?_; intro a725 hE726; clear hE724
                   refine d_only 23 (by kernel_rfl) rfl hE726 rfl (l_call (f := 144) (argv := [.int .i64 (gI f1 y8L2), .int .i64 z9L3]) hE726 (fun _ => cf_l01Bit _ _) rfl rfl (c_l01Bit (gI f1 y8L2) z9L3 w622 (by omega) (by omega)) ?_)
                   rintro _ _ ⟨rfl, rfl⟩ a729 hE730; clear hE726
                   refine ⟨fun _ _ => ⟨(RdS.elt (St.rdR (i := 0) hS624 rfl) (by omega) (by omega) _ (Ext.refl _)), (RdS.elt (St.rdR (i := 0) hS624 rfl) (by omega) (by omega) _ (Ext.refl _)), (RdS.elt (St.rdR (i := 0) hS624 rfl) (by omega) (by omega) _ (Ext.refl _)), (RdS.elt (St.rdR (i := 0) hS624 rfl) (by omega) (by omega) _ (Ext.refl _)), trivial⟩, ?_⟩
                   refine d_pure (fun _ h => h) (v := .bool (!(F_l01Bit (gI f1 y8L2) z9L3))) 24 rfl hE730 (y_not rfl) rfl (by kernel_rfl) (by kernel_rfl) (by kernel_rfl) rfl rfl (fun _ _ _ h => h) ?_; intro a733 hE734; clear hE730
                   refine d_pure (fun _ h => h) (v := .bool (!(F_l01Bit (gI f1 y8L2) z9L3))) 25 rfl hE734 (y_pick (b := true) rfl rfl) rfl (by kernel_rfl) (by kernel_rfl) (by kernel_rfl) rfl rfl (fun _ _ _ h => h) ?_; intro a735 hE736; clear hE734
                   refine d_pure (fun _ h => h) (v := .bool (!(F_l01Bit (gI f1 y8L2) z9L3))) 26 rfl hE736 (y_move rfl) rfl (by kernel_rfl) (by kernel_rfl) (by kernel_rfl) rfl rfl (fun _ _ _ h => h) ?_; intro a737 hE738; clear hE736
                   rcases Bool.eq_false_or_eq_true (!(F_l01Bit (gI f1 y8L2) z9L3)) with hb739 | hb739
                   ·
                    have hE740 := hE738; (try rw [hb739] at hE740); clear hE738
                    have ht741 := bn_t hb739
                    refine d_pure (fun _ h => h) (v := .slice f1A f1.length f1C) 27 rfl hE740 (y_move rfl) rfl (by kernel_rfl) (by kernel_rfl) (by kernel_rfl) rfl rfl (fun _ _ _ h => h) ?_; intro a742 hE743; clear hE740
                    refine d_pure (fun _ h => h) (v := .int .i64 z9L3) 28 rfl hE743 (y_move rfl) rfl (by kernel_rfl) (by kernel_rfl) (by kernel_rfl) rfl rfl (fun _ _ _ h => h) ?_; intro a744 hE745; clear hE743
                    refine d_pure (fun _ h => h) (v := .pointer (some (adr f1A (Int.toNat z9L3)))) 29 rfl hE745 (y_idx (by kernel_rfl) (fun _ => by kernel_rfl) rfl rfl (RdS.isS (m := z9L3) (St.rdR (i := 0) hS624 rfl) (by omega) (by omega)) (by omega) (by omega) (Nat.mul_one _).symm) rfl (by kernel_rfl) (by kernel_rfl) (by kernel_rfl) rfl rfl (fun _ _ _ h => h) ?_; intro a746 hE747; clear hE745
                    refine d_take (fun _ h => h) (fun _ _ h k => h k) (v := .int .i64 (gI f1 z9L3)) 30 rfl hE747 (S := fun w' => w'.cell? (adr f1A (Int.toNat y8L2)) = some (.int .i64 (gI f1 y8L2)) ∧ w'.cell? (adr f1A (Int.toNat z9L3)) = some (.int .i64 (gI f1 z9L3)) ∧ w'.cell? (adr f1A (Int.toNat y8L2)) = some (.int .i64 (gI f1 y8L2)) ∧ w'.cell? (adr f1A (Int.toNat z9L3)) = some (.int .i64 (gI f1 z9L3)) ∧ True) ⟨(RdS.elt (St.rdR (i := 0) hS624 rfl) (by omega) (by omega) _ (Ext.refl _)), (RdS.elt (St.rdR (i := 0) hS624 rfl) (by omega) (by omega) _ (Ext.refl _)), (RdS.elt (St.rdR (i := 0) hS624 rfl) (by omega) (by omega) _ (Ext.refl _)), (RdS.elt (St.rdR (i := 0) hS624 rfl) (by omega) (by omega) _ (Ext.refl _)), trivial⟩ (y_load (fun _ => by kernel_rfl) rfl (fun _ h => h.2.2.2.1)) rfl rfl (by kernel_rfl) (by kernel_rfl) (by kernel_rfl) (by kernel_rfl) rfl rfl (fun _ _ _ h => h) ?_; intro a748 hE749; clear hE747
                    refine d_pure (fun _ h => h) (v := .int .i64 y8L2) 31 rfl hE749 (y_move rfl) rfl (by kernel_rfl) (by kernel_rfl) (by kernel_rfl) rfl rfl (fun _ _ _ h => h) ?_; intro a750 hE751; clear hE749
                    refine d_only 32 (by kernel_rfl) rfl hE751 rfl (l_call (f := 144) (argv := [.int .i64 (gI f1 z9L3), .int .i64 y8L2]) hE751 (fun _ => cf_l01Bit _ _) rfl rfl (c_l01Bit (gI f1 z9L3) y8L2 w622 (by omega) (by omega)) ?_)
                    rintro _ _ ⟨rfl, rfl⟩ a754 hE755; clear hE751
                    refine ⟨fun h => Bool.noConfusion (h.symm.trans (show exm _ _ _ = true by kernel_rfl)), ?_⟩
                    refine d_pure (fun _ h => h) (v := .bool (!(F_l01Bit (gI f1 z9L3) y8L2))) 33 rfl hE755 (y_not rfl) rfl (by kernel_rfl) (by kernel_rfl) (by kernel_rfl) rfl rfl (fun _ _ _ h => h) ?_; intro a758 hE759; clear hE755
                    refine d_pure (fun _ h => h) (v := .bool (!(F_l01Bit (gI f1 z9L3) y8L2))) 34 rfl hE759 (y_pick (b := true) rfl rfl) rfl (by kernel_rfl) (by kernel_rfl) (by kernel_rfl) rfl rfl (fun _ _ _ h => h) ?_; intro a760 hE761; clear hE759
                    refine d_pure (fun _ h => h) (v := .bool (!(F_l01Bit (gI f1 z9L3) y8L2))) 35 rfl hE761 (y_pick (b := false) rfl rfl) rfl (by kernel_rfl) (by kernel_rfl) (by kernel_rfl) rfl rfl (fun _ _ _ h => h) ?_; intro a762 hE763; clear hE761
                    refine d_done (by kernel_rfl) ?_
                    have hE764 := hE763.sub (L' := [(1, .int .i64 flag), (5, .int .i64 f0), (6, .slice f1A f1.length f1C), (7, .int .i64 x7), (8, .int .i64 y8L2), (9, .int .i64 z9L3), (174, .bool (!(F_l01Bit (gI f1 z9L3) y8L2)))]) ⟨rfl, rfl, rfl, rfl, rfl, rfl, rfl, trivial⟩; clear hE763
                    refine p_tn ?_
                    have hE765 := hE764.sub (L' := [(1, .int .i64 flag), (5, .int .i64 f0), (6, .slice f1A f1.length f1C), (7, .int .i64 x7), (8, .int .i64 y8L2), (9, .int .i64 z9L3), (174, .bool (!(F_l01Bit (gI f1 z9L3) y8L2)))]) ⟨rfl, rfl, rfl, rfl, rfl, rfl, rfl, trivial⟩
                    have hS766 := (St.pick (Γ' := [.rd 1 f1A f1.length f1C f1, .blk b2 #[.int .i64 f0, .slice f1A f1.length f1C] 30]) hS624 [0, 1] (by decide) rfl)
                    exact ⟨(by rw [hb739, hb714, hb658, hb631]; exact hE765), hS766⟩
                   ·
                    have hE767 := hE738; (try rw [hb739] at hE767); clear hE738
                    have ht768 := bn_f hb739
                    refine d_skip (fun _ h => h) 27 rfl hE767 rfl (by kernel_rfl) (by kernel_rfl) (by kernel_rfl) rfl rfl (fun _ _ _ h => h) ?_; intro a769 hE770; clear hE767
                    refine d_skip (fun _ h => h) 28 rfl hE770 rfl (by kernel_rfl) (by kernel_rfl) (by kernel_rfl) rfl rfl (fun _ _ _ h => h) ?_; intro a771 hE772; clear hE770
                    refine d_skip (fun _ h => h) 29 rfl hE772 rfl (by kernel_rfl) (by kernel_rfl) (by kernel_rfl) rfl rfl (fun _ _ _ h => h) ?_; intro a773 hE774; clear hE772
                    refine d_skip (fun _ h => h) 30 rfl hE774 rfl (by kernel_rfl) (by kernel_rfl) (by kernel_rfl) rfl rfl (fun _ _ _ h => h) ?_; intro a775 hE776; clear hE774
                    refine d_skip (fun _ h => h) 31 rfl hE776 rfl (by kernel_rfl) (by kernel_rfl) (by kernel_rfl) rfl rfl (fun _ _ _ h => h) ?_; intro a777 hE778; clear hE776
                    refine d_skip (fun _ h => h) 32 rfl hE778 rfl (by kernel_rfl) (by kernel_rfl) (by kernel_rfl) rfl rfl (fun _ _ _ h => h) ?_; intro a779 hE780; clear hE778
                    refine d_skip (fun _ h => h) 33 rfl hE780 rfl (by kernel_rfl) (by kernel_rfl) (by kernel_rfl) rfl rfl (fun _ _ _ h => h) ?_; intro a781 hE782; clear hE780
                    refine d_pure (fun _ h => h) (v := .bool false) 34 rfl hE782 (y_pick (b := false) rfl rfl) rfl (by kernel_rfl) (by kernel_rfl) (by kernel_rfl) rfl rfl (fun _ _ _ h => h) ?_; intro a783 hE784; clear hE782
                    refine d_pure (fun _ h => h) (v := .bool false) 35 rfl hE784 (y_pick (b := false) rfl rfl) rfl (by kernel_rfl) (by kernel_rfl) (by kernel_rfl) rfl rfl (fun _ _ _ h => h) ?_; intro a785 hE786; clear hE784
                    refine d_done (by kernel_rfl) ?_
                    have hE787 := hE786.sub (L' := [(1, .int .i64 flag), (5, .int .i64 f0), (6, .slice f1A f1.length f1C), (7, .int .i64 x7), (8, .int .i64 y8L2), (9, .int .i64 z9L3), (174, .bool false)]) ⟨rfl, rfl, rfl, rfl, rfl, rfl, rfl, trivial⟩; clear hE786
                    refine p_tn ?_
                    have hE788 := hE787.sub (L' := [(1, .int .i64 flag), (5, .int .i64 f0), (6, .slice f1A f1.length f1C), (7, .int .i64 x7), (8, .int .i64 y8L2), (9, .int .i64 z9L3), (174, .bool false)]) ⟨rfl, rfl, rfl, rfl, rfl, rfl, rfl, trivial⟩
                    have hS789 := (St.pick (Γ' := [.rd 1 f1A f1.length f1C f1, .blk b2 #[.int .i64 f0, .slice f1A f1.length f1C] 30]) hS624 [0, 1] (by decide) rfl)
                    exact ⟨(by rw [hb739, hb714, hb658, hb631]; exact hE788), hS789⟩
                  ·
                   have hE790 := hE713; (try rw [hb714] at hE790); clear hE713
                   have hp791 := of_decide_eq_false hb714
                   refine d_skip (fun _ h => h) 18 rfl hE790 rfl (by kernel_rfl) (by kernel_rfl) (by kernel_rfl) rfl rfl (fun _ _ _ h => h) ?_; intro a792 hE793; clear hE790
                   refine d_skip (fun _ h => h) 19 rfl hE793 rfl (by kernel_rfl) (by kernel_rfl) (by kernel_rfl) rfl rfl (fun _ _ _ h => h) ?_; intro a794 hE795; clear hE793
                   refine d_skip (fun _ h => h) 20 rfl hE795 rfl (by kernel_rfl) (by kernel_rfl) (by kernel_rfl) rfl rfl (fun _ _ _ h => h) ?_; intro a796 hE797; clear hE795
                   refine d_skip (fun _ h => h) 21 rfl hE797 rfl (by kernel_rfl) (by kernel_rfl) (by kernel_rfl) rfl rfl (fun _ _ _ h => h) ?_; intro a798 hE799; clear hE797
                   refine d_skip (fun _ h => h) 22 rfl hE799 rfl (by kernel_rfl) (by kernel_rfl) (by kernel_rfl) rfl rfl (fun _ _ _ h => h) ?_; intro a800 hE801; clear hE799
                   refine d_skip (fun _ h => h) 23 rfl hE801 rfl (by kernel_rfl) (by kernel_rfl) (by kernel_rfl) rfl rfl (fun _ _ _ h => h) ?_; intro a802 hE803; clear hE801
                   refine d_skip (fun _ h => h) 24 rfl hE803 rfl (by kernel_rfl) (by kernel_rfl) (by kernel_rfl) rfl rfl (fun _ _ _ h => h) ?_; intro a804 hE805; clear hE803
                   refine d_pure (fun _ h => h) (v := .bool false) 25 rfl hE805 (y_pick (b := false) rfl rfl) rfl (by kernel_rfl) (by kernel_rfl) (by kernel_rfl) rfl rfl (fun _ _ _ h => h) ?_; intro a806 hE807; clear hE805
                   refine d_pure (fun _ h => h) (v := .bool false) 26 rfl hE807 (y_move rfl) rfl (by kernel_rfl) (by kernel_rfl) (by kernel_rfl) rfl rfl (fun _ _ _ h => h) ?_; intro a808 hE809; clear hE807
                   refine d_skip (fun _ h => h) 27 rfl hE809 rfl (by kernel_rfl) (by kernel_rfl) (by kernel_rfl) rfl rfl (fun _ _ _ h => h) ?_; intro a810 hE811; clear hE809
                   refine d_skip (fun _ h => h) 28 rfl hE811 rfl (by kernel_rfl) (by kernel_rfl) (by kernel_rfl) rfl rfl (fun _ _ _ h => h) ?_; intro a812 hE813; clear hE811
                   refine d_skip (fun _ h => h) 29 rfl hE813 rfl (by kernel_rfl) (by kernel_rfl) (by kernel_rfl) rfl rfl (fun _ _ _ h => h) ?_; intro a814 hE815; clear hE813
                   refine d_skip (fun _ h => h) 30 rfl hE815 rfl (by kernel_rfl) (by kernel_rfl) (by kernel_rfl) rfl rfl (fun _ _ _ h => h) ?_; intro a816 hE817; clear hE815
                   refine d_skip (fun _ h => h) 31 rfl hE817 rfl (by kernel_rfl) (by kernel_rfl) (by kernel_rfl) rfl rfl (fun _ _ _ h => h) ?_; intro a818 hE819; clear hE817
                   refine d_skip (fun _ h => h) 32 rfl hE819 rfl (by kernel_rfl) (by kernel_rfl) (by kernel_rfl) rfl rfl (fun _ _ _ h => h) ?_; intro a820 hE821; clear hE819
                   refine d_skip (fun _ h => h) 33 rfl hE821 rfl (by kernel_rfl) (by kernel_rfl) (by kernel_rfl) rfl rfl (fun _ _ _ h => h) ?_; intro a822 hE823; clear hE821
                   refine d_pure (fun _ h => h) (v := .bool false) 34 rfl hE823 (y_pick (b := false) rfl rfl) rfl (by kernel_rfl) (by kernel_rfl) (by kernel_rfl) rfl rfl (fun _ _ _ h => h) ?_; intro a824 hE825; clear hE823
                   refine d_pure (fun _ h => h) (v := .bool false) 35 rfl hE825 (y_pick (b := false) rfl rfl) rfl (by kernel_rfl) (by kernel_rfl) (by kernel_rfl) rfl rfl (fun _ _ _ h => h) ?_; intro a826 hE827; clear hE825
                   refine d_done (by kernel_rfl) ?_
                   have hE828 := hE827.sub (L' := [(1, .int .i64 flag), (5, .int .i64 f0), (6, .slice f1A f1.length f1C), (7, .int .i64 x7), (8, .int .i64 y8L2), (9, .int .i64 z9L3), (174, .bool false)]) ⟨rfl, rfl, rfl, rfl, rfl, rfl, rfl, trivial⟩; clear hE827
                   refine p_tn ?_
                   have hE829 := hE828.sub (L' := [(1, .int .i64 flag), (5, .int .i64 f0), (6, .slice f1A f1.length f1C), (7, .int .i64 x7), (8, .int .i64 y8L2), (9, .int .i64 z9L3), (174, .bool false)]) ⟨rfl, rfl, rfl, rfl, rfl, rfl, rfl, trivial⟩
                   have hS830 := (St.pick (Γ' := [.rd 1 f1A f1.length f1C f1, .blk b2 #[.int .i64 f0, .slice f1A f1.length f1C] 30]) hS624 [0, 1] (by decide) rfl)
                   exact ⟨(by rw [hb714, hb658, hb631]; exact hE829), hS830⟩
                ·
                 have hE831 := hE630; (try rw [hb631] at hE831); clear hE630
                 have hp832 := of_decide_eq_false hb631
                 refine d_skip (fun _ h => h) 3 rfl hE831 rfl (by kernel_rfl) (by kernel_rfl) (by kernel_rfl) rfl rfl (fun _ _ _ h => h) ?_; intro a833 hE834; clear hE831
                 refine d_skip (fun _ h => h) 4 rfl hE834 rfl (by kernel_rfl) (by kernel_rfl) (by kernel_rfl) rfl rfl (fun _ _ _ h => h) ?_; intro a835 hE836; clear hE834
                 refine d_skip (fun _ h => h) 5 rfl hE836 rfl (by kernel_rfl) (by kernel_rfl) (by kernel_rfl) rfl rfl (fun _ _ _ h => h) ?_; intro a837 hE838; clear hE836
                 refine d_skip (fun _ h => h) 6 rfl hE838 rfl (by kernel_rfl) (by kernel_rfl) (by kernel_rfl) rfl rfl (fun _ _ _ h => h) ?_; intro a839 hE840; clear hE838
                 refine d_skip (fun _ h => h) 7 rfl hE840 rfl (by kernel_rfl) (by kernel_rfl) (by kernel_rfl) rfl rfl (fun _ _ _ h => h) ?_; intro a841 hE842; clear hE840
                 refine d_skip (fun _ h => h) 8 rfl hE842 rfl (by kernel_rfl) (by kernel_rfl) (by kernel_rfl) rfl rfl (fun _ _ _ h => h) ?_; intro a843 hE844; clear hE842
                 refine d_skip (fun _ h => h) 9 rfl hE844 rfl (by kernel_rfl) (by kernel_rfl) (by kernel_rfl) rfl rfl (fun _ _ _ h => h) ?_; intro a845 hE846; clear hE844
                 refine d_skip (fun _ h => h) 10 rfl hE846 rfl (by kernel_rfl) (by kernel_rfl) (by kernel_rfl) rfl rfl (fun _ _ _ h => h) ?_; intro a847 hE848; clear hE846
                 refine d_skip (fun _ h => h) 11 rfl hE848 rfl (by kernel_rfl) (by kernel_rfl) (by kernel_rfl) rfl rfl (fun _ _ _ h => h) ?_; intro a849 hE850; clear hE848
                 refine d_skip (fun _ h => h) 12 rfl hE850 rfl (by kernel_rfl) (by kernel_rfl) (by kernel_rfl) rfl rfl (fun _ _ _ h => h) ?_; intro a851 hE852; clear hE850
                 refine d_pure (fun _ h => h) (v := .bool false) 13 rfl hE852 (y_pick (b := false) rfl rfl) rfl (by kernel_rfl) (by kernel_rfl) (by kernel_rfl) rfl rfl (fun _ _ _ h => h) ?_; intro a853 hE854; clear hE852
                 refine d_pure (fun _ h => h) (v := .bool false) 14 rfl hE854 (y_move rfl) rfl (by kernel_rfl) (by kernel_rfl) (by kernel_rfl) rfl rfl (fun _ _ _ h => h) ?_; intro a855 hE856; clear hE854
                 refine d_pure (fun _ h => h) (v := .int .i64 flag) 15 rfl hE856 (y_move rfl) rfl (by kernel_rfl) (by kernel_rfl) (by kernel_rfl) rfl rfl (fun _ _ _ h => h) ?_; intro a857 hE858; clear hE856
                 refine d_pure (fun _ h => h) (v := .bool (decide (flag = 6))) 16 rfl hE858 (y_eql rfl rfl) rfl (by kernel_rfl) (by kernel_rfl) (by kernel_rfl) rfl rfl (fun _ _ _ h => h) ?_; intro a859 hE860; clear hE858
                 refine d_pure (fun _ h => h) (v := .bool (decide (flag = 6))) 17 rfl hE860 (y_move rfl) rfl (by kernel_rfl) (by kernel_rfl) (by kernel_rfl) rfl rfl (fun _ _ _ h => h) ?_; intro a861 hE862; clear hE860
                 rcases Bool.eq_false_or_eq_true (decide (flag = 6)) with hb863 | hb863
                 ·
                  have hE864 := hE862; (try rw [hb863] at hE864); clear hE862
                  have hp865 := of_decide_eq_true hb863
                  refine d_pure (fun _ h => h) (v := .slice f1A f1.length f1C) 18 rfl hE864 (y_move rfl) rfl (by kernel_rfl) (by kernel_rfl) (by kernel_rfl) rfl rfl (fun _ _ _ h => h) ?_; intro a866 hE867; clear hE864
                  refine d_pure (fun _ h => h) (v := .int .i64 y8L2) 19 rfl hE867 (y_move rfl) rfl (by kernel_rfl) (by kernel_rfl) (by kernel_rfl) rfl rfl (fun _ _ _ h => h) ?_; intro a868 hE869; clear hE867
                  refine d_pure (fun _ h => h) (v := .pointer (some (adr f1A (Int.toNat y8L2)))) 20 rfl hE869 (y_idx (by kernel_rfl) (fun _ => by kernel_rfl) rfl rfl (RdS.isS (m := y8L2) (St.rdR (i := 0) hS624 rfl) (by omega) (by omega)) (by omega) (by omega) (Nat.mul_one _).symm) rfl (by kernel_rfl) (by kernel_rfl) (by kernel_rfl) rfl rfl (fun _ _ _ h => h) ?_; intro a870 hE871; clear hE869
                  refine d_take (fun _ h => h) (fun _ _ h k => h k) (v := .int .i64 (gI f1 y8L2)) 21 rfl hE871 (S := fun w' => w'.cell? (adr f1A (Int.toNat y8L2)) = some (.int .i64 (gI f1 y8L2)) ∧ w'.cell? (adr f1A (Int.toNat z9L3)) = some (.int .i64 (gI f1 z9L3)) ∧ w'.cell? (adr f1A (Int.toNat y8L2)) = some (.int .i64 (gI f1 y8L2)) ∧ w'.cell? (adr f1A (Int.toNat z9L3)) = some (.int .i64 (gI f1 z9L3)) ∧ True) ⟨(RdS.elt (St.rdR (i := 0) hS624 rfl) (by omega) (by omega) _ (Ext.refl _)), (RdS.elt (St.rdR (i := 0) hS624 rfl) (by omega) (by omega) _ (Ext.refl _)), (RdS.elt (St.rdR (i := 0) hS624 rfl) (by omega) (by omega) _ (Ext.refl _)), (RdS.elt (St.rdR (i := 0) hS624 rfl) (by omega) (by omega) _ (Ext.refl _)), trivial⟩ (y_load (fun _ => by kernel_rfl) rfl (fun _ h => h.2.2.1)) rfl rfl (by kernel_rfl) (by kernel_rfl) (by kernel_rfl) (by kernel_rfl) rfl rfl (fun _ _ _ h => h) ?_; intro a872 hE873; clear hE871
                  refine d_pure (fun _ h => h) (v := .int .i64 z9L3) 22 rfl hE873 (y_move rfl) rfl (by kernel_rfl) (by kernel_rfl) (by kernel_rfl) rfl rfl (fun _ _ _ h => h) ?_; intro a874 hE875; clear hE873
                  refine d_only 23 (by kernel_rfl) rfl hE875 rfl (l_call (f := 144) (argv := [.int .i64 (gI f1 y8L2), .int .i64 z9L3]) hE875 (fun _ => cf_l01Bit _ _) rfl rfl (c_l01Bit (gI f1 y8L2) z9L3 w622 (by omega) (by omega)) ?_)
                  rintro _ _ ⟨rfl, rfl⟩ a878 hE879; clear hE875
                  refine ⟨fun _ _ => ⟨(RdS.elt (St.rdR (i := 0) hS624 rfl) (by omega) (by omega) _ (Ext.refl _)), (RdS.elt (St.rdR (i := 0) hS624 rfl) (by omega) (by omega) _ (Ext.refl _)), (RdS.elt (St.rdR (i := 0) hS624 rfl) (by omega) (by omega) _ (Ext.refl _)), (RdS.elt (St.rdR (i := 0) hS624 rfl) (by omega) (by omega) _ (Ext.refl _)), trivial⟩, ?_⟩
                  refine d_pure (fun _ h => h) (v := .bool (!(F_l01Bit (gI f1 y8L2) z9L3))) 24 rfl hE879 (y_not rfl) rfl (by kernel_rfl) (by kernel_rfl) (by kernel_rfl) rfl rfl (fun _ _ _ h => h) ?_; intro a882 hE883; clear hE879
                  refine d_pure (fun _ h => h) (v := .bool (!(F_l01Bit (gI f1 y8L2) z9L3))) 25 rfl hE883 (y_pick (b := true) rfl rfl) rfl (by kernel_rfl) (by kernel_rfl) (by kernel_rfl) rfl rfl (fun _ _ _ h => h) ?_; intro a884 hE885; clear hE883
                  refine d_pure (fun _ h => h) (v := .bool (!(F_l01Bit (gI f1 y8L2) z9L3))) 26 rfl hE885 (y_move rfl) rfl (by kernel_rfl) (by kernel_rfl) (by kernel_rfl) rfl rfl (fun _ _ _ h => h) ?_; intro a886 hE887; clear hE885
                  rcases Bool.eq_false_or_eq_true (!(F_l01Bit (gI f1 y8L2) z9L3)) with hb888 | hb888
                  ·
                   have hE889 := hE887; (try rw [hb888] at hE889); clear hE887
                   have ht890 := bn_t hb888
                   refine d_pure (fun _ h => h) (v := .slice f1A f1.length f1C) 27 rfl hE889 (y_move rfl) rfl (by kernel_rfl) (by kernel_rfl) (by kernel_rfl) rfl rfl (fun _ _ _ h => h) ?_; intro a891 hE892; clear hE889
                   refine d_pure (fun _ h => h) (v := .int .i64 z9L3) 28 rfl hE892 (y_move rfl) rfl (by kernel_rfl) (by kernel_rfl) (by kernel_rfl) rfl rfl (fun _ _ _ h => h) ?_; intro a893 hE894; clear hE892
                   refine d_pure (fun _ h => h) (v := .pointer (some (adr f1A (Int.toNat z9L3)))) 29 rfl hE894 (y_idx (by kernel_rfl) (fun _ => by kernel_rfl) rfl rfl (RdS.isS (m := z9L3) (St.rdR (i := 0) hS624 rfl) (by omega) (by omega)) (by omega) (by omega) (Nat.mul_one _).symm) rfl (by kernel_rfl) (by kernel_rfl) (by kernel_rfl) rfl rfl (fun _ _ _ h => h) ?_; intro a895 hE896; clear hE894
                   refine d_take (fun _ h => h) (fun _ _ h k => h k) (v := .int .i64 (gI f1 z9L3)) 30 rfl hE896 (S := fun w' => w'.cell? (adr f1A (Int.toNat y8L2)) = some (.int .i64 (gI f1 y8L2)) ∧ w'.cell? (adr f1A (Int.toNat z9L3)) = some (.int .i64 (gI f1 z9L3)) ∧ w'.cell? (adr f1A (Int.toNat y8L2)) = some (.int .i64 (gI f1 y8L2)) ∧ w'.cell? (adr f1A (Int.toNat z9L3)) = some (.int .i64 (gI f1 z9L3)) ∧ True) ⟨(RdS.elt (St.rdR (i := 0) hS624 rfl) (by omega) (by omega) _ (Ext.refl _)), (RdS.elt (St.rdR (i := 0) hS624 rfl) (by omega) (by omega) _ (Ext.refl _)), (RdS.elt (St.rdR (i := 0) hS624 rfl) (by omega) (by omega) _ (Ext.refl _)), (RdS.elt (St.rdR (i := 0) hS624 rfl) (by omega) (by omega) _ (Ext.refl _)), trivial⟩ (y_load (fun _ => by kernel_rfl) rfl (fun _ h => h.2.2.2.1)) rfl rfl (by kernel_rfl) (by kernel_rfl) (by kernel_rfl) (by kernel_rfl) rfl rfl (fun _ _ _ h => h) ?_; intro a897 hE898; clear hE896
                   refine d_pure (fun _ h => h) (v := .int .i64 y8L2) 31 rfl hE898 (y_move rfl) rfl (by kernel_rfl) (by kernel_rfl) (by kernel_rfl) rfl rfl (fun _ _ _ h => h) ?_; intro a899 hE900; clear hE898
                   refine d_only 32 (by kernel_rfl) rfl hE900 rfl (l_call (f := 144) (argv := [.int .i64 (gI f1 z9L3), .int .i64 y8L2]) hE900 (fun _ => cf_l01Bit _ _) rfl rfl (c_l01Bit (gI f1 z9L3) y8L2 w622 (by omega) (by omega)) ?_)
                   rintro _ _ ⟨rfl, rfl⟩ a903 hE904; clear hE900
                   refine ⟨fun h => Bool.noConfusion (h.symm.trans (show exm _ _ _ = true by kernel_rfl)), ?_⟩
                   refine d_pure (fun _ h => h) (v := .bool (!(F_l01Bit (gI f1 z9L3) y8L2))) 33 rfl hE904 (y_not rfl) rfl (by kernel_rfl) (by kernel_rfl) (by kernel_rfl) rfl rfl (fun _ _ _ h => h) ?_; intro a907 hE908; clear hE904
                   refine d_pure (fun _ h => h) (v := .bool (!(F_l01Bit (gI f1 z9L3) y8L2))) 34 rfl hE908 (y_pick (b := true) rfl rfl) rfl (by kernel_rfl) (by kernel_rfl) (by kernel_rfl) rfl rfl (fun _ _ _ h => h) ?_; intro a909 hE910; clear hE908
                   refine d_pure (fun _ h => h) (v := .bool (!(F_l01Bit (gI f1 z9L3) y8L2))) 35 rfl hE910 (y_pick (b := false) rfl rfl) rfl (by kernel_rfl) (by kernel_rfl) (by kernel_rfl) rfl rfl (fun _ _ _ h => h) ?_; intro a911 hE912; clear hE910
                   refine d_done (by kernel_rfl) ?_
                   have hE913 := hE912.sub (L' := [(1, .int .i64 flag), (5, .int .i64 f0), (6, .slice f1A f1.length f1C), (7, .int .i64 x7), (8, .int .i64 y8L2), (9, .int .i64 z9L3), (174, .bool (!(F_l01Bit (gI f1 z9L3) y8L2)))]) ⟨rfl, rfl, rfl, rfl, rfl, rfl, rfl, trivial⟩; clear hE912
                   refine p_tn ?_
                   have hE914 := hE913.sub (L' := [(1, .int .i64 flag), (5, .int .i64 f0), (6, .slice f1A f1.length f1C), (7, .int .i64 x7), (8, .int .i64 y8L2), (9, .int .i64 z9L3), (174, .bool (!(F_l01Bit (gI f1 z9L3) y8L2)))]) ⟨rfl, rfl, rfl, rfl, rfl, rfl, rfl, trivial⟩
                   have hS915 := (St.pick (Γ' := [.rd 1 f1A f1.length f1C f1, .blk b2 #[.int .i64 f0, .slice f1A f1.length f1C] 30]) hS624 [0, 1] (by decide) rfl)
                   exact ⟨(by rw [hb888, hb863, hb631]; exact hE914), hS915⟩
                  ·
                   have hE916 := hE887; (try rw [hb888] at hE916); clear hE887
                   have ht917 := bn_f hb888
                   refine d_skip (fun _ h => h) 27 rfl hE916 rfl (by kernel_rfl) (by kernel_rfl) (by kernel_rfl) rfl rfl (fun _ _ _ h => h) ?_; intro a918 hE919; clear hE916
                   refine d_skip (fun _ h => h) 28 rfl hE919 rfl (by kernel_rfl) (by kernel_rfl) (by kernel_rfl) rfl rfl (fun _ _ _ h => h) ?_; intro a920 hE921; clear hE919
                   refine d_skip (fun _ h => h) 29 rfl hE921 rfl (by kernel_rfl) (by kernel_rfl) (by kernel_rfl) rfl rfl (fun _ _ _ h => h) ?_; intro a922 hE923; clear hE921
                   refine d_skip (fun _ h => h) 30 rfl hE923 rfl (by kernel_rfl) (by kernel_rfl) (by kernel_rfl) rfl rfl (fun _ _ _ h => h) ?_; intro a924 hE925; clear hE923
                   refine d_skip (fun _ h => h) 31 rfl hE925 rfl (by kernel_rfl) (by kernel_rfl) (by kernel_rfl) rfl rfl (fun _ _ _ h => h) ?_; intro a926 hE927; clear hE925
                   refine d_skip (fun _ h => h) 32 rfl hE927 rfl (by kernel_rfl) (by kernel_rfl) (by kernel_rfl) rfl rfl (fun _ _ _ h => h) ?_; intro a928 hE929; clear hE927
                   refine d_skip (fun _ h => h) 33 rfl hE929 rfl (by kernel_rfl) (by kernel_rfl) (by kernel_rfl) rfl rfl (fun _ _ _ h => h) ?_; intro a930 hE931; clear hE929
                   refine d_pure (fun _ h => h) (v := .bool false) 34 rfl hE931 (y_pick (b := false) rfl rfl) rfl (by kernel_rfl) (by kernel_rfl) (by kernel_rfl) rfl rfl (fun _ _ _ h => h) ?_; intro a932 hE933; clear hE931
                   refine d_pure (fun _ h => h) (v := .bool false) 35 rfl hE933 (y_pick (b := false) rfl rfl) rfl (by kernel_rfl) (by kernel_rfl) (by kernel_rfl) rfl rfl (fun _ _ _ h => h) ?_; intro a934 hE935; clear hE933
                   refine d_done (by kernel_rfl) ?_
                   have hE936 := hE935.sub (L' := [(1, .int .i64 flag), (5, .int .i64 f0), (6, .slice f1A f1.length f1C), (7, .int .i64 x7), (8, .int .i64 y8L2), (9, .int .i64 z9L3), (174, .bool false)]) ⟨rfl, rfl, rfl, rfl, rfl, rfl, rfl, trivial⟩; clear hE935
                   refine p_tn ?_
                   have hE937 := hE936.sub (L' := [(1, .int .i64 flag), (5, .int .i64 f0), (6, .slice f1A f1.length f1C), (7, .int .i64 x7), (8, .int .i64 y8L2), (9, .int .i64 z9L3), (174, .bool false)]) ⟨rfl, rfl, rfl, rfl, rfl, rfl, rfl, trivial⟩
                   have hS938 := (St.pick (Γ' := [.rd 1 f1A f1.length f1C f1, .blk b2 #[.int .i64 f0, .slice f1A f1.length f1C] 30]) hS624 [0, 1] (by decide) rfl)
                   exact ⟨(by rw [hb888, hb863, hb631]; exact hE937), hS938⟩
                 ·
                  have hE939 := hE862; (try rw [hb863] at hE939); clear hE862
                  have hp940 := of_decide_eq_false hb863
                  refine d_skip (fun _ h => h) 18 rfl hE939 rfl (by kernel_rfl) (by kernel_rfl) (by kernel_rfl) rfl rfl (fun _ _ _ h => h) ?_; intro a941 hE942; clear hE939
                  refine d_skip (fun _ h => h) 19 rfl hE942 rfl (by kernel_rfl) (by kernel_rfl) (by kernel_rfl) rfl rfl (fun _ _ _ h => h) ?_; intro a943 hE944; clear hE942
                  refine d_skip (fun _ h => h) 20 rfl hE944 rfl (by kernel_rfl) (by kernel_rfl) (by kernel_rfl) rfl rfl (fun _ _ _ h => h) ?_; intro a945 hE946; clear hE944
                  refine d_skip (fun _ h => h) 21 rfl hE946 rfl (by kernel_rfl) (by kernel_rfl) (by kernel_rfl) rfl rfl (fun _ _ _ h => h) ?_; intro a947 hE948; clear hE946
                  refine d_skip (fun _ h => h) 22 rfl hE948 rfl (by kernel_rfl) (by kernel_rfl) (by kernel_rfl) rfl rfl (fun _ _ _ h => h) ?_; intro a949 hE950; clear hE948
                  refine d_skip (fun _ h => h) 23 rfl hE950 rfl (by kernel_rfl) (by kernel_rfl) (by kernel_rfl) rfl rfl (fun _ _ _ h => h) ?_; intro a951 hE952; clear hE950
                  refine d_skip (fun _ h => h) 24 rfl hE952 rfl (by kernel_rfl) (by kernel_rfl) (by kernel_rfl) rfl rfl (fun _ _ _ h => h) ?_; intro a953 hE954; clear hE952
                  refine d_pure (fun _ h => h) (v := .bool false) 25 rfl hE954 (y_pick (b := false) rfl rfl) rfl (by kernel_rfl) (by kernel_rfl) (by kernel_rfl) rfl rfl (fun _ _ _ h => h) ?_; intro a955 hE956; clear hE954
                  refine d_pure (fun _ h => h) (v := .bool false) 26 rfl hE956 (y_move rfl) rfl (by kernel_rfl) (by kernel_rfl) (by kernel_rfl) rfl rfl (fun _ _ _ h => h) ?_; intro a957 hE958; clear hE956
                  refine d_skip (fun _ h => h) 27 rfl hE958 rfl (by kernel_rfl) (by kernel_rfl) (by kernel_rfl) rfl rfl (fun _ _ _ h => h) ?_; intro a959 hE960; clear hE958
                  refine d_skip (fun _ h => h) 28 rfl hE960 rfl (by kernel_rfl) (by kernel_rfl) (by kernel_rfl) rfl rfl (fun _ _ _ h => h) ?_; intro a961 hE962; clear hE960
                  refine d_skip (fun _ h => h) 29 rfl hE962 rfl (by kernel_rfl) (by kernel_rfl) (by kernel_rfl) rfl rfl (fun _ _ _ h => h) ?_; intro a963 hE964; clear hE962
                  refine d_skip (fun _ h => h) 30 rfl hE964 rfl (by kernel_rfl) (by kernel_rfl) (by kernel_rfl) rfl rfl (fun _ _ _ h => h) ?_; intro a965 hE966; clear hE964
                  refine d_skip (fun _ h => h) 31 rfl hE966 rfl (by kernel_rfl) (by kernel_rfl) (by kernel_rfl) rfl rfl (fun _ _ _ h => h) ?_; intro a967 hE968; clear hE966
                  refine d_skip (fun _ h => h) 32 rfl hE968 rfl (by kernel_rfl) (by kernel_rfl) (by kernel_rfl) rfl rfl (fun _ _ _ h => h) ?_; intro a969 hE970; clear hE968
                  refine d_skip (fun _ h => h) 33 rfl hE970 rfl (by kernel_rfl) (by kernel_rfl) (by kernel_rfl) rfl rfl (fun _ _ _ h => h) ?_; intro a971 hE972; clear hE970
                  refine d_pure (fun _ h => h) (v := .bool false) 34 rfl hE972 (y_pick (b := false) rfl rfl) rfl (by kernel_rfl) (by kernel_rfl) (by kernel_rfl) rfl rfl (fun _ _ _ h => h) ?_; intro a973 hE974; clear hE972
                  refine d_pure (fun _ h => h) (v := .bool false) 35 rfl hE974 (y_pick (b := false) rfl rfl) rfl (by kernel_rfl) (by kernel_rfl) (by kernel_rfl) rfl rfl (fun _ _ _ h => h) ?_; intro a975 hE976; clear hE974
                  refine d_done (by kernel_rfl) ?_
                  have hE977 := hE976.sub (L' := [(1, .int .i64 flag), (5, .int .i64 f0), (6, .slice f1A f1.length f1C), (7, .int .i64 x7), (8, .int .i64 y8L2), (9, .int .i64 z9L3), (174, .bool false)]) ⟨rfl, rfl, rfl, rfl, rfl, rfl, rfl, trivial⟩; clear hE976
                  refine p_tn ?_
                  have hE978 := hE977.sub (L' := [(1, .int .i64 flag), (5, .int .i64 f0), (6, .slice f1A f1.length f1C), (7, .int .i64 x7), (8, .int .i64 y8L2), (9, .int .i64 z9L3), (174, .bool false)]) ⟨rfl, rfl, rfl, rfl, rfl, rfl, rfl, trivial⟩
                  have hS979 := (St.pick (Γ' := [.rd 1 f1A f1.length f1C f1, .blk b2 #[.int .i64 f0, .slice f1A f1.length f1C] 30]) hS624 [0, 1] (by decide) rfl)
                  exact ⟨(by rw [hb863, hb631]; exact hE978), hS979⟩
               ·
                rintro a980 w981 ⟨hE982, hS983⟩; clear hE621 hS576
                refine c_cond hE982 rfl (fun ht985 => ?_) (fun ht985 => ?_)
                ·
                 have hE986 := hE982; rw [ht985] at hE986; clear hE982
                 refine c_seq ?_
                 refine c_reg ?_
                 refine q_step (v := .bool false) hE986 (y_assign rfl) rfl rfl rfl ?_; intro a987 hE988; clear hE986
                 refine c_nil ?_
                 have hE989 := hE988.sub (L' := [(4, .bool false)]) ⟨rfl, trivial⟩; clear hE988
                 refine p_tn ?_
                 refine wp_ret ?_
                 refine p_br ?_
                 refine p_tr ?_
                 have hX990 : F_l05Flag_L3 f0 f1 flag x7 y8L2 (Int.toNat (f0 - 0) + 1) 0 = .error false := hT577.symm.trans (show F_l05Flag_L3b f0 f1 flag x7 y8L2 (F_l05Flag_L3 f0 f1 flag x7 y8L2 r580) z9L3 = .error false by unfold F_l05Flag_L3b; rw [ht985, ht610, ht588]; first | done | rfl)
                 refine p_tr (p_br (p_tr ?_))
                 refine p_br ?_
                 refine p_tr ?_
                 have hX991 : F_l05Flag_L2 f0 f1 flag x7 (Int.toNat (f0 - 0) + 1) 0 = .error false := hT283.symm.trans (show F_l05Flag_L2b f0 f1 flag x7 (F_l05Flag_L2 f0 f1 flag x7 r286) y8L2 = .error false by unfold F_l05Flag_L2b; rw [hX990, hR568, ht316, ht294]; first | done | rfl)
                 refine p_tr (p_br (p_tr ?_))
                 refine p_br ?_
                 refine p_tr ?_
                 have hX992 : F_l05Flag_L1 f0 f1 flag (Int.toNat (f0 - 0) + 1) 0 = .error false := hT35.symm.trans (show F_l05Flag_L1b f0 f1 flag (F_l05Flag_L1 f0 f1 flag r38) x7 = .error false by unfold F_l05Flag_L1b; rw [hX991, hR274, ht46]; first | done | rfl)
                 refine p_tr (p_br (p_tr ?_))
                 refine p_tr ?_
                 have hF : F_l05Flag f0 f1 flag = false := by unfold F_l05Flag; rw [hX992]; first | done | rfl
                 refine c_ret1 hE989 rfl rfl ?_
                 exact ⟨(by rw [hF]; first | done | (dsimp only; done) | rfl), hS983.ext⟩
                ·
                 have hE993 := hE982; rw [ht985] at hE993; clear hE982
                 refine wp_skip ?_
                 refine p_bn ?_
                 refine p_tn ?_
                 refine c_reg ?_
                 refine q_step (v := .int .i64 z9L3) hE993 (y_move rfl) rfl rfl rfl ?_; intro a994 hE995; clear hE993
                 refine q_step (v := .int .i64 (z9L3 + 1)) hE995 (y_add rfl rfl ⟨(by omega), (by omega)⟩) rfl rfl rfl ?_; intro a996 hE997; clear hE995
                 refine q_step (v := .int .i64 (z9L3 + 1)) hE997 (y_assign rfl) rfl rfl rfl ?_; intro a998 hE999; clear hE997
                 refine c_nil ?_
                 have hE1000 := hE999.sub (L' := [(1, .int .i64 flag), (5, .int .i64 f0), (6, .slice f1A f1.length f1C), (7, .int .i64 x7), (8, .int .i64 y8L2), (9, .int .i64 (z9L3 + 1))]) ⟨rfl, rfl, rfl, rfl, rfl, rfl, trivial⟩; clear hE999
                 refine p_tn ⟨r580, Nat.lt_succ_self _, z9L3 + 1, (hT577.symm.trans (show F_l05Flag_L3b f0 f1 flag x7 y8L2 (F_l05Flag_L3 f0 f1 flag x7 y8L2 r580) z9L3 = F_l05Flag_L3 f0 f1 flag x7 y8L2 r580 (z9L3 + 1) by unfold F_l05Flag_L3b; rw [ht985, ht610, ht588]; first | done | rfl)).symm, (by omega), (by first | omega | (simp only [sS_len, sL_len]; omega) | (simp only [List.length_replicate, sI_len]; omega) | (simp only [List.length_append, List.length_cons, List.length_nil, sI_len, cond_true, cond_false]; omega) | (simp only [List.length_append, List.length_cons, List.length_nil, sI_len, cond_eq_ite, apply_ite List.length]; split <;> simp only [List.length_append, List.length_cons, List.length_nil, sI_len] <;> omega) | grind), (hE1000.sub (L' := [(1, .int .i64 flag), (5, .int .i64 f0), (6, .slice f1A f1.length f1C), (7, .int .i64 x7), (8, .int .i64 y8L2), (9, .int .i64 (z9L3 + 1))]) ⟨rfl, rfl, rfl, rfl, rfl, rfl, trivial⟩), (St.pick (Γ' := [.rd 1 f1A f1.length f1C f1, .blk b2 #[.int .i64 f0, .slice f1A f1.length f1C] 30]) hS983 [0, 1] (by decide) rfl)⟩
             ·
              have hp1001 := of_decide_eq_false ht588
              have hE1002 := hE587; rw [ht588] at hE1002; clear hE587
              refine wp_exit ?_
              refine p_te ?_
              have hX1003 : F_l05Flag_L3 f0 f1 flag x7 y8L2 (Int.toNat (f0 - 0) + 1) 0 = .ok z9L3 := hT577.symm.trans (show F_l05Flag_L3b f0 f1 flag x7 y8L2 (F_l05Flag_L3 f0 f1 flag x7 y8L2 r580) z9L3 = .ok z9L3 by unfold F_l05Flag_L3b; rw [ht588]; first | done | rfl)
              refine p_te (p_be (p_tn ?_))
              exact ⟨(by rw [hX1003]; rfl), (by rw [hX1003]; exact (show 0 ≤ z9L3 from (by first | omega | (simp only [sS_len, sL_len]; omega) | (simp only [List.length_replicate, sI_len]; omega) | (simp only [List.length_append, List.length_cons, List.length_nil, sI_len, cond_true, cond_false]; omega) | (simp only [List.length_append, List.length_cons, List.length_nil, sI_len, cond_eq_ite, apply_ite List.length]; split <;> simp only [List.length_append, List.length_cons, List.length_nil, sI_len] <;> omega) | grind))), (by rw [hX1003]; exact (hE1002.sub (L' := [(1, .int .i64 flag), (5, .int .i64 f0), (6, .slice f1A f1.length f1C), (7, .int .i64 x7), (8, .int .i64 y8L2), (9, .int .i64 z9L3)]) ⟨rfl, rfl, rfl, rfl, rfl, rfl, trivial⟩)), (St.pick (Γ' := [.rd 1 f1A f1.length f1C f1, .blk b2 #[.int .i64 f0, .slice f1A f1.length f1C] 30]) hS576 [0, 1] (by decide) rfl)⟩
           ·
            rintro a1004 w1005 ⟨hO1008, hi1009, hE1006, hS1007⟩; clear hE571 hS567
            refine p_bn ?_
            refine p_tn ?_
            refine c_reg ?_
            refine q_step (v := .int .i64 y8L2) hE1006 (y_move rfl) rfl rfl rfl ?_; intro a1010 hE1011; clear hE1006
            refine q_step (v := .int .i64 (y8L2 + 1)) hE1011 (y_add rfl rfl ⟨(by omega), (by omega)⟩) rfl rfl rfl ?_; intro a1012 hE1013; clear hE1011
            refine q_step (v := .int .i64 (y8L2 + 1)) hE1013 (y_assign rfl) rfl rfl rfl ?_; intro a1014 hE1015; clear hE1013
            refine c_nil ?_
            have hE1016 := hE1015.sub (L' := [(1, .int .i64 flag), (5, .int .i64 f0), (6, .slice f1A f1.length f1C), (7, .int .i64 x7), (8, .int .i64 (y8L2 + 1))]) ⟨rfl, rfl, rfl, rfl, rfl, trivial⟩; clear hE1015
            refine p_tn ⟨r286, Nat.lt_succ_self _, y8L2 + 1, (hT283.symm.trans (show F_l05Flag_L2b f0 f1 flag x7 (F_l05Flag_L2 f0 f1 flag x7 r286) y8L2 = F_l05Flag_L2 f0 f1 flag x7 r286 (y8L2 + 1) by unfold F_l05Flag_L2b; rw [hO1008, hR568, ht316, ht294]; first | done | rfl)).symm, (by omega), (by first | omega | (simp only [sS_len, sL_len]; omega) | (simp only [List.length_replicate, sI_len]; omega) | (simp only [List.length_append, List.length_cons, List.length_nil, sI_len, cond_true, cond_false]; omega) | (simp only [List.length_append, List.length_cons, List.length_nil, sI_len, cond_eq_ite, apply_ite List.length]; split <;> simp only [List.length_append, List.length_cons, List.length_nil, sI_len] <;> omega) | grind), (hE1016.sub (L' := [(1, .int .i64 flag), (5, .int .i64 f0), (6, .slice f1A f1.length f1C), (7, .int .i64 x7), (8, .int .i64 (y8L2 + 1))]) ⟨rfl, rfl, rfl, rfl, rfl, trivial⟩), (St.pick (Γ' := [.rd 1 f1A f1.length f1C f1, .blk b2 #[.int .i64 f0, .slice f1A f1.length f1C] 30]) hS1007 [0, 1] (by decide) rfl)⟩
        ·
         have hp1017 := of_decide_eq_false ht294
         have hE1018 := hE293; rw [ht294] at hE1018; clear hE293
         refine wp_exit ?_
         refine p_te ?_
         have hX1019 : F_l05Flag_L2 f0 f1 flag x7 (Int.toNat (f0 - 0) + 1) 0 = .ok y8L2 := hT283.symm.trans (show F_l05Flag_L2b f0 f1 flag x7 (F_l05Flag_L2 f0 f1 flag x7 r286) y8L2 = .ok y8L2 by unfold F_l05Flag_L2b; rw [ht294]; first | done | rfl)
         refine p_te (p_be (p_tn ?_))
         exact ⟨(by rw [hX1019]; rfl), (by rw [hX1019]; exact (show 0 ≤ y8L2 from (by first | omega | (simp only [sS_len, sL_len]; omega) | (simp only [List.length_replicate, sI_len]; omega) | (simp only [List.length_append, List.length_cons, List.length_nil, sI_len, cond_true, cond_false]; omega) | (simp only [List.length_append, List.length_cons, List.length_nil, sI_len, cond_eq_ite, apply_ite List.length]; split <;> simp only [List.length_append, List.length_cons, List.length_nil, sI_len] <;> omega) | grind))), (by rw [hX1019]; exact (hE1018.sub (L' := [(1, .int .i64 flag), (5, .int .i64 f0), (6, .slice f1A f1.length f1C), (7, .int .i64 x7), (8, .int .i64 y8L2)]) ⟨rfl, rfl, rfl, rfl, rfl, trivial⟩)), (St.pick (Γ' := [.rd 1 f1A f1.length f1C f1, .blk b2 #[.int .i64 f0, .slice f1A f1.length f1C] 30]) hS282 [0, 1] (by decide) rfl)⟩
      ·
       rintro a1020 w1021 ⟨hO1024, hi1025, hE1022, hS1023⟩; clear hE277 hS273
       refine p_bn ?_
       refine p_tn ?_
       refine c_reg ?_
       refine q_step (v := .int .i64 x7) hE1022 (y_move rfl) rfl rfl rfl ?_; intro a1026 hE1027; clear hE1022
       refine q_step (v := .int .i64 (x7 + 1)) hE1027 (y_add rfl rfl ⟨(by omega), (by omega)⟩) rfl rfl rfl ?_; intro a1028 hE1029; clear hE1027
       refine q_step (v := .int .i64 (x7 + 1)) hE1029 (y_assign rfl) rfl rfl rfl ?_; intro a1030 hE1031; clear hE1029
       refine c_nil ?_
       have hE1032 := hE1031.sub (L' := [(1, .int .i64 flag), (5, .int .i64 f0), (6, .slice f1A f1.length f1C), (7, .int .i64 (x7 + 1))]) ⟨rfl, rfl, rfl, rfl, trivial⟩; clear hE1031
       refine p_tn ⟨r38, Nat.lt_succ_self _, x7 + 1, (hT35.symm.trans (show F_l05Flag_L1b f0 f1 flag (F_l05Flag_L1 f0 f1 flag r38) x7 = F_l05Flag_L1 f0 f1 flag r38 (x7 + 1) by unfold F_l05Flag_L1b; rw [hO1024, hR274, ht46]; first | done | rfl)).symm, (by omega), (by first | omega | (simp only [sS_len, sL_len]; omega) | (simp only [List.length_replicate, sI_len]; omega) | (simp only [List.length_append, List.length_cons, List.length_nil, sI_len, cond_true, cond_false]; omega) | (simp only [List.length_append, List.length_cons, List.length_nil, sI_len, cond_eq_ite, apply_ite List.length]; split <;> simp only [List.length_append, List.length_cons, List.length_nil, sI_len] <;> omega) | grind), (hE1032.sub (L' := [(1, .int .i64 flag), (5, .int .i64 f0), (6, .slice f1A f1.length f1C), (7, .int .i64 (x7 + 1))]) ⟨rfl, rfl, rfl, rfl, trivial⟩), (St.pick (Γ' := [.blk b2 #[.int .i64 f0, .slice f1A f1.length f1C] 30, .rd 1 f1A f1.length f1C f1]) hS1023 [1, 0] (by decide) rfl)⟩
    ·
     have hp1033 := of_decide_eq_false ht46
     have hE1034 := hE45; rw [ht46] at hE1034; clear hE45
     refine wp_exit ?_
     refine p_te ?_
     have hX1035 : F_l05Flag_L1 f0 f1 flag (Int.toNat (f0 - 0) + 1) 0 = .ok x7 := hT35.symm.trans (show F_l05Flag_L1b f0 f1 flag (F_l05Flag_L1 f0 f1 flag r38) x7 = .ok x7 by unfold F_l05Flag_L1b; rw [ht46]; first | done | rfl)
     refine p_te (p_be (p_tn ?_))
     exact ⟨(by rw [hX1035]; rfl), (by rw [hX1035]; exact (show 0 ≤ x7 from (by first | omega | (simp only [sS_len, sL_len]; omega) | (simp only [List.length_replicate, sI_len]; omega) | (simp only [List.length_append, List.length_cons, List.length_nil, sI_len, cond_true, cond_false]; omega) | (simp only [List.length_append, List.length_cons, List.length_nil, sI_len, cond_eq_ite, apply_ite List.length]; split <;> simp only [List.length_append, List.length_cons, List.length_nil, sI_len] <;> omega) | grind))), (by rw [hX1035]; exact (hE1034.sub (L' := [(1, .int .i64 flag), (5, .int .i64 f0), (6, .slice f1A f1.length f1C), (7, .int .i64 x7)]) ⟨rfl, rfl, rfl, rfl, trivial⟩)), (St.pick (Γ' := [.blk b2 #[.int .i64 f0, .slice f1A f1.length f1C] 30, .rd 1 f1A f1.length f1C f1]) hS34 [0, 1] (by decide) rfl)⟩
  ·
   rintro a1036 w1037 ⟨hO1040, hi1041, hE1038, hS1039⟩; clear hE29 hS13
   refine p_tn ?_
   refine c_seq ?_
   refine c_reg ?_
   refine q_step (v := .bool true) hE1038 (y_assign rfl) rfl rfl rfl ?_; intro a1042 hE1043; clear hE1038
   refine c_nil ?_
   have hE1044 := hE1043.sub (L' := [(4, .bool true)]) ⟨rfl, trivial⟩; clear hE1043
   refine p_tn ?_
   refine wp_ret ?_
   have hF : F_l05Flag f0 f1 flag = true := by unfold F_l05Flag; rw [hO1040]; first | done | rfl
   refine c_ret1 hE1044 rfl rfl ?_
   exact ⟨(by rw [hF]; first | done | (dsimp only; done) | rfl), hS1039.ext⟩

def fc1 (f1 : List Int) (flag x : Int) : Bool := (bif (decide (flag = 0)) then (!(F_l01Bit (gI f1 x) x)) else (bif (decide (flag = 1)) then (decide ((gI f1 x) = 0)) else (bif (decide (flag = 2)) then (!decide ((anI (F_l01Image f1 (gI f1 x)) (gI f1 x)) = 0)) else (bif (decide (flag = 7)) then (F_l01Bit (gI (F_l01Closure f1) x) x) else ((decide (flag = 10)) && (decide (1 < (F_l01Bits (gI f1 x)))))))))
def fc2 (f1 : List Int) (flag x y : Int) : Bool := (bif (decide (flag = 3)) then (!(F_l01Bit (gI f1 y) x)) else (bif (decide (flag = 4)) then (!decide ((anI (gI f1 x) (gI f1 y)) = 0)) else (bif (decide (flag = 8)) then ((!decide (x = y)) && (F_l01Bit (gI f1 y) x)) else ((decide (flag = 9)) && (decide ((andI (gI f1 x) (gI (F_l01Inverse f1) y)) = 0))))))
def fc3 (f1 : List Int) (flag y z : Int) : Bool := (bif (decide (flag = 5)) then ((decide ((andI (gI f1 y) (gI f1 z)) = 0)) || ((decide (flag = 6)) && ((!(F_l01Bit (gI f1 y) z)) && (!(F_l01Bit (gI f1 z) y))))) else ((decide (flag = 6)) && ((!(F_l01Bit (gI f1 y) z)) && (!(F_l01Bit (gI f1 z) y)))))
theorem l05Flag_form {f0 : Int} {f1 : List Int} (h0 : 0 ≤ f0) (flag : Int) : F_l05Flag f0 f1 flag = (List.range f0.toNat).all fun (x : Nat) => !(fc1 f1 flag (x : Int) || !(List.range f0.toNat).all fun (y : Nat) => !(F_l01Bit (gI f1 (x : Int)) (y : Int) && (fc2 f1 flag (x : Int) (y : Int) || !(List.range f0.toNat).all fun (z : Nat) => !(F_l01Bit (gI f1 (x : Int)) (z : Int) && fc3 f1 flag (y : Int) (z : Int))))) := by
  unfold F_l05Flag
  have l3 : ∀ x y : Int, F_l05Flag_L3 f0 f1 flag x y (Int.toNat (f0 - 0) + 1) 0 = bif (List.range f0.toNat).all (fun (z : Nat) => !(F_l01Bit (gI f1 x) (z : Int) && fc3 f1 flag y (z : Int))) then .ok f0 else .error false := fun x y =>
    allE (F_l05Flag_L3 f0 f1 flag x y) false f0 (fun z => F_l01Bit (gI f1 x) z && fc3 f1 flag y z) h0 (fun r i _ _ => by
      show F_l05Flag_L3b f0 f1 flag x y _ i = _
      unfold F_l05Flag_L3b fc3
      cases F_l01Bit (gI f1 x) i
      · rfl
      · rw [Bool.true_and, Bool.not_true, cond_false])
  have l2 : ∀ x : Int, F_l05Flag_L2 f0 f1 flag x (Int.toNat (f0 - 0) + 1) 0 = bif (List.range f0.toNat).all (fun (y : Nat) => !(F_l01Bit (gI f1 x) (y : Int) && (fc2 f1 flag x (y : Int) || !(List.range f0.toNat).all fun (z : Nat) => !(F_l01Bit (gI f1 x) (z : Int) && fc3 f1 flag (y : Int) (z : Int))))) then .ok f0 else .error false := fun x =>
    allE (F_l05Flag_L2 f0 f1 flag x) false f0 (fun y => F_l01Bit (gI f1 x) y && (fc2 f1 flag x y || !(List.range f0.toNat).all fun (z : Nat) => !(F_l01Bit (gI f1 x) (z : Int) && fc3 f1 flag y (z : Int)))) h0 (fun r i _ _ => by
      show F_l05Flag_L2b f0 f1 flag x _ i = _
      unfold F_l05Flag_L2b
      rw [l3 x i, isOk_bif]
      change (bif decide (i < f0) then (bif !(F_l01Bit (gI f1 x) i) then _ else (bif fc2 f1 flag x i then _ else _)) else _) = _
      cases F_l01Bit (gI f1 x) i
      · rfl
      · rw [Bool.true_and, Bool.not_true, cond_false]
        cases fc2 f1 flag x i
        · rw [Bool.false_or, cond_false]
          cases (List.range f0.toNat).all (fun (z : Nat) => !(F_l01Bit (gI f1 x) (z : Int) && fc3 f1 flag i (z : Int))) <;> rfl
        · rfl)
  rw [allE (F_l05Flag_L1 f0 f1 flag) false f0 (fun x => fc1 f1 flag x || !(List.range f0.toNat).all (fun (y : Nat) => !(F_l01Bit (gI f1 x) (y : Int) && (fc2 f1 flag x (y : Int) || !(List.range f0.toNat).all fun (z : Nat) => !(F_l01Bit (gI f1 x) (z : Int) && fc3 f1 flag (y : Int) (z : Int)))))) h0 (fun r i _ _ => by
      show F_l05Flag_L1b f0 f1 flag _ i = _
      unfold F_l05Flag_L1b
      rw [l2 i, isOk_bif]
      change (bif decide (i < f0) then (bif fc1 f1 flag i then _ else _) else _) = _
      cases fc1 f1 flag i
      · rw [Bool.false_or, cond_false]
        cases (List.range f0.toNat).all (fun (y : Nat) => !(F_l01Bit (gI f1 i) (y : Int) && (fc2 f1 flag i (y : Int) || !(List.range f0.toNat).all fun (z : Nat) => !(F_l01Bit (gI f1 i) (z : Int) && fc3 f1 flag (y : Int) (z : Int))))) <;> rfl
      · rfl), isOk_bif, errD_bif, bif_tf]
theorem l05Flag_iff {n : Nat} (hn : n ≤ 8) {f0 : Int} {f1 : List Int} (h0 : f0 = (n : Int)) (hR : Rl n f1) (flag : Int) : F_l05Flag f0 f1 flag = true ↔ ∀ x : Nat, x < n → fc1 f1 flag (x : Int) = false ∧ ∀ y : Nat, y < n → rb f1 x y = true → fc2 f1 flag (x : Int) (y : Int) = false ∧ ∀ z : Nat, z < n → rb f1 x z = true → fc3 f1 flag (y : Int) (z : Int) = false := by
  subst h0
  rw [l05Flag_form (by omega), Int.toNat_natCast, List.all_eq_true]
  have hb : ∀ x y : Nat, x < n → y < n → F_l01Bit (gI f1 (x : Int)) (y : Int) = rb f1 x y := fun x y hx hy => tb_has (n := n) (by omega) (hR.2 x hx) (by omega)
  constructor
  · intro h x hx
    have h1 := h x (List.mem_range.2 hx)
    rw [Bool.not_eq_true', Bool.or_eq_false_iff, Bool.not_eq_false', List.all_eq_true] at h1
    refine ⟨h1.1, fun y hy hxy => ?_⟩
    have h2 := h1.2 y (List.mem_range.2 hy)
    rw [hb x y hx hy, hxy, Bool.true_and, Bool.not_eq_true', Bool.or_eq_false_iff, Bool.not_eq_false', List.all_eq_true] at h2
    refine ⟨h2.1, fun z hz hxz => ?_⟩
    have h3 := h2.2 z (List.mem_range.2 hz)
    rwa [hb x z hx hz, hxz, Bool.true_and, Bool.not_eq_true'] at h3
  · intro h x hx
    have hx := List.mem_range.1 hx
    obtain ⟨h1, h2⟩ := h x hx
    rw [Bool.not_eq_true', Bool.or_eq_false_iff, Bool.not_eq_false', List.all_eq_true]
    refine ⟨h1, fun y hy => ?_⟩
    have hy := List.mem_range.1 hy
    rw [hb x y hx hy]
    cases hxy : rb f1 x y
    · rfl
    · obtain ⟨h3, h4⟩ := h2 y hy hxy
      rw [Bool.true_and, Bool.not_eq_true', Bool.or_eq_false_iff, Bool.not_eq_false', List.all_eq_true]
      refine ⟨h3, fun z hz => ?_⟩
      have hz := List.mem_range.1 hz
      rw [hb x z hx hz]
      cases hxz : rb f1 x z
      · rfl
      · rw [Bool.true_and, Bool.not_eq_true']; exact h4 z hz hxz
theorem bits_all : ((List.range 256).all fun (u : Nat) => decide (F_l01Bits (u : Int) = F_countMembers (u : Int))) = true := by decide +kernel
theorem l01Bits_eq {u : Int} (h0 : 0 ≤ u) (h1 : u ≤ 255) : F_l01Bits u = F_countMembers u := by
  have := List.all_eq_true.1 bits_all u.toNat (List.mem_range.2 (by omega))
  rw [show ((u.toNat : Nat) : Int) = u by omega] at this
  exact of_decide_eq_true this
theorem everyPair_iff {n : Nat} (hn : n ≤ 8) {f0 : Int} {f1 : List Int} (hR : Rl n f1) (holds : Int → Int → Int → Bool) : F_Frame_everyPair f0 f1 holds = true ↔ ∀ x y z : Nat, x < n → y < n → z < n → rb f1 x y = true → rb f1 x z = true → holds (x : Int) (y : Int) (z : Int) = true := by
  rw [everyPair_eq hn hR, List.all_eq_true]
  constructor
  · intro h x y z hx hy hz hxy hxz
    have h1 := h x (List.mem_range.2 hx)
    rw [List.all_eq_true] at h1
    have h2 := h1 y (List.mem_range.2 hy)
    unfold rb at hxy hxz
    rw [hxy, Bool.not_true, Bool.false_or, List.all_eq_true] at h2
    have h3 := h2 z (List.mem_range.2 hz)
    rwa [hxz, Bool.not_true, Bool.false_or] at h3
  · intro h x hx
    have hx := List.mem_range.1 hx
    rw [List.all_eq_true]
    intro y hy
    have hy := List.mem_range.1 hy
    cases hxy : tb (gI f1 (x : Int)) y
    · rfl
    · rw [Bool.not_true, Bool.false_or, List.all_eq_true]
      intro z hz
      have hz := List.mem_range.1 hz
      cases hxz : tb (gI f1 (x : Int)) z
      · rfl
      · rw [Bool.not_true, Bool.false_or]; exact h x y z hx hy hz hxy hxz
theorem everyWorld_iff {n : Nat} {f0 : Int} {f1 : List Int} (h0 : f0 = (n : Int)) (holds : Int → Bool) : F_Frame_everyWorld f0 f1 holds = true ↔ ∀ x : Nat, x < n → holds (x : Int) = true := by
  subst h0
  rw [everyWorld_eq (by omega), Int.toNat_natCast, List.all_eq_true]
  exact ⟨fun h x hx => h x (List.mem_range.2 hx), fun h x hx => h x (List.mem_range.1 hx)⟩
theorem flag_iff1 {n : Nat} (hn : n ≤ 8) {f0 : Int} {f1 : List Int} (h0 : f0 = (n : Int)) (hR : Rl n f1) {flag : Int} (h2 : ∀ x y, fc2 f1 flag x y = false) (h3 : ∀ y z, fc3 f1 flag y z = false) : F_l05Flag f0 f1 flag = true ↔ ∀ x : Nat, x < n → fc1 f1 flag (x : Int) = false :=
  (l05Flag_iff hn h0 hR flag).trans ⟨fun h x hx => (h x hx).1, fun h x hx => ⟨h x hx, fun _ _ _ => ⟨h2 _ _, fun _ _ _ => h3 _ _⟩⟩⟩
theorem flag_iff2 {n : Nat} (hn : n ≤ 8) {f0 : Int} {f1 : List Int} (h0 : f0 = (n : Int)) (hR : Rl n f1) {flag : Int} (h1 : ∀ x, fc1 f1 flag x = false) (h3 : ∀ y z, fc3 f1 flag y z = false) : F_l05Flag f0 f1 flag = true ↔ ∀ x y : Nat, x < n → y < n → rb f1 x y = true → fc2 f1 flag (x : Int) (y : Int) = false :=
  (l05Flag_iff hn h0 hR flag).trans ⟨fun h x y hx hy hxy => ((h x hx).2 y hy hxy).1, fun h x hx => ⟨h1 _, fun y hy hxy => ⟨h x y hx hy hxy, fun _ _ _ => h3 _ _⟩⟩⟩
theorem flag_iff3 {n : Nat} (hn : n ≤ 8) {f0 : Int} {f1 : List Int} (h0 : f0 = (n : Int)) (hR : Rl n f1) {flag : Int} (h1 : ∀ x, fc1 f1 flag x = false) (h2 : ∀ x y, fc2 f1 flag x y = false) : F_l05Flag f0 f1 flag = true ↔ ∀ x y z : Nat, x < n → y < n → z < n → rb f1 x y = true → rb f1 x z = true → fc3 f1 flag (y : Int) (z : Int) = false :=
  (l05Flag_iff hn h0 hR flag).trans ⟨fun h x y z hx hy hz hxy hxz => ((h x hx).2 y hy hxy).2 z hz hxz, fun h x hx => ⟨h1 _, fun y hy hxy => ⟨h2 _ _, fun z hz hxz => h x y z hx hy hz hxy hxz⟩⟩⟩
section
variable {n : Nat} (hn : n ≤ 8) {f0 : Int} {f1 : List Int} (h0 : f0 = (n : Int)) (hR : Rl n f1)
include hn h0 hR
theorem flag0 : F_Frame_hasFlag f0 f1 0 = F_l05Flag f0 f1 0 := by
  rw [Bool.eq_iff_iff, flag_iff1 hn h0 hR (fun _ _ => rfl) (fun _ _ => rfl), show F_Frame_hasFlag f0 f1 0 = F_Frame_everyWorld f0 f1 (fun x0 => F_Frame_hasFlag_k1 x0 f0 f1) from rfl, everyWorld_iff h0]
  refine forall_congr' fun x => forall_congr' fun hx => ?_
  rw [show fc1 f1 0 (x : Int) = !(F_has (gI f1 (x : Int)) (x : Int)) from rfl, Bool.not_eq_false']
  exact Iff.rfl
theorem flag1 : F_Frame_hasFlag f0 f1 1 = F_l05Flag f0 f1 1 := by
  rw [Bool.eq_iff_iff, flag_iff1 hn h0 hR (fun _ _ => rfl) (fun _ _ => rfl), show F_Frame_hasFlag f0 f1 1 = F_Frame_everyWorld f0 f1 (fun x0 => F_Frame_hasFlag_k2 x0 f0 f1) from rfl, everyWorld_iff h0]
  refine forall_congr' fun x => forall_congr' fun hx => ?_
  rw [show fc1 f1 1 (x : Int) = decide (gI f1 (x : Int) = 0) from rfl]
  show (!decide (gI f1 (x : Int) = 0)) = true ↔ _
  rw [Bool.not_eq_true']
theorem flag2 : F_Frame_hasFlag f0 f1 2 = F_l05Flag f0 f1 2 := by
  rw [Bool.eq_iff_iff, flag_iff1 hn h0 hR (fun _ _ => rfl) (fun _ _ => rfl), show F_Frame_hasFlag f0 f1 2 = F_z_Equal (F_transitive f1) f1 from rfl, z_Equal_eq, decide_eq_true_iff]
  have T := transitive_tc (n := n) (by omega) hR
  have him : ∀ x : Nat, x < n → (fc1 f1 2 (x : Int) = false ↔ ∀ i j, rb f1 x i = true → rb f1 i j = true → rb f1 x j = true) := fun x hx => by
    have hm := hR.2 x hx
    obtain ⟨i1, i2⟩ := l01Image_bits (n := n) (by omega) hR hm
    rw [show fc1 f1 2 (x : Int) = !decide (anI (F_l01Image f1 (gI f1 (x : Int))) (gI f1 (x : Int)) = 0) from rfl, Bool.not_eq_false', decide_eq_true_iff, Mk.anz (by omega) i1 hm]
    exact ⟨fun h i j hi hj => h j ((i2 j).2 ⟨i, hi, hj⟩), fun h j hj => by obtain ⟨i, hi, hij⟩ := (i2 j).1 hj; exact h i j hi hij⟩
  constructor
  · intro e x hx
    rw [him x hx]
    intro i j hi hj
    rw [e] at T
    exact T.tra x i j hx hi hj
  · intro h
    refine rl_ext T.rel hR fun i j hi => ?_
    rw [Bool.eq_iff_iff]
    refine ⟨fun hij => (transitive_least (n := n) (by omega) hR (fun i j => i < n ∧ rb f1 i j = true) (fun i k j h1 h2 => ⟨h1.1, (him i h1.1).1 (h i h1.1) k j h1.2 h2.2⟩) (fun i j hi hij => ⟨hi, hij⟩) i j hi hij).2, T.sup i j hi⟩
theorem flag3 : F_Frame_hasFlag f0 f1 3 = F_l05Flag f0 f1 3 := by
  rw [Bool.eq_iff_iff, flag_iff2 hn h0 hR (fun _ => rfl) (fun _ _ => rfl), show F_Frame_hasFlag f0 f1 3 = F_z_Equal (F_inverse f1) f1 from rfl, z_Equal_eq, decide_eq_true_iff]
  obtain ⟨v1, v2⟩ := inverse_bits hn hR
  have hb : ∀ x y : Nat, x < n → y < n → (fc2 f1 3 (x : Int) (y : Int) = false ↔ rb f1 y x = true) := fun x y hx hy => by
    rw [show fc2 f1 3 (x : Int) (y : Int) = !(F_has (gI f1 (y : Int)) (x : Int)) from rfl, tb_has (n := n) (by omega) (hR.2 y hy) (by omega), Bool.not_eq_false']
    exact Iff.rfl
  constructor
  · intro e x y hx hy hxy
    rw [hb x y hx hy]
    have := v2 y x hy
    rw [e, decide_eq_true hx, Bool.true_and] at this
    rw [this]; exact hxy
  · intro h
    refine rl_ext v1 hR fun i j hi => ?_
    rw [v2 i j hi, Bool.eq_iff_iff, Bool.and_eq_true, decide_eq_true_iff]
    exact ⟨fun ⟨hj, hji⟩ => (hb j i hj hi).1 (h j i hj hi hji), fun hij => ⟨tb_lt (hR.2 i hi) hij, (hb i j hi (tb_lt (hR.2 i hi) hij)).1 (h i j hi (tb_lt (hR.2 i hi) hij) hij)⟩⟩
theorem flag4 : F_Frame_hasFlag f0 f1 4 = F_l05Flag f0 f1 4 := by
  rw [Bool.eq_iff_iff, flag_iff2 hn h0 hR (fun _ => rfl) (fun _ _ => rfl), show F_Frame_hasFlag f0 f1 4 = F_Frame_everyPair f0 f1 (fun x0 x1 x2 => F_Frame_hasFlag_k3 x0 x1 x2 f0 f1) from rfl, everyPair_iff hn hR]
  have hs : ∀ y z : Nat, y < n → z < n → F_has (gI f1 (y : Int)) (z : Int) = rb f1 y z := fun y z hy hz => tb_has (n := n) (by omega) (hR.2 y hy) (by omega)
  have hb : ∀ x y : Nat, x < n → y < n → (fc2 f1 4 (x : Int) (y : Int) = false ↔ ∀ z, rb f1 x z = true → rb f1 y z = true) := fun x y hx hy => by
    rw [show fc2 f1 4 (x : Int) (y : Int) = !decide (anI (gI f1 (x : Int)) (gI f1 (y : Int)) = 0) from rfl, Bool.not_eq_false', decide_eq_true_iff, Mk.anz (n := n) (by omega) (hR.2 x hx) (hR.2 y hy)]
    exact Iff.rfl
  constructor
  · intro h x y hx hy hxy
    rw [hb x y hx hy]
    intro z hxz
    have hz := tb_lt (hR.2 x hx) hxz
    have := h x y z hx hy hz hxy hxz
    rw [← hs y z hy hz]; exact this
  · intro h x y z hx hy hz hxy hxz
    show F_has (gI f1 (y : Int)) (z : Int) = true
    rw [hs y z hy hz]
    exact (hb x y hx hy).1 (h x y hx hy hxy) z hxz
theorem flag5 : F_Frame_hasFlag f0 f1 5 = F_l05Flag f0 f1 5 := by
  rw [Bool.eq_iff_iff, flag_iff3 hn h0 hR (fun _ => rfl) (fun _ _ => rfl), show F_Frame_hasFlag f0 f1 5 = F_Frame_everyPair f0 f1 (fun x0 x1 x2 => F_Frame_hasFlag_k4 x0 x1 x2 f0 f1) from rfl, everyPair_iff hn hR]
  refine forall_congr' fun x => forall_congr' fun y => forall_congr' fun z => forall_congr' fun hx => forall_congr' fun hy => forall_congr' fun hz => forall_congr' fun hxy => forall_congr' fun hxz => ?_
  rw [show fc3 f1 5 (y : Int) (z : Int) = (decide (andI (gI f1 (y : Int)) (gI f1 (z : Int)) = 0) || false) from rfl, Bool.or_false]
  show (!decide (andI (gI f1 (y : Int)) (gI f1 (z : Int)) = 0)) = true ↔ _
  rw [Bool.not_eq_true']
theorem flag6 : F_Frame_hasFlag f0 f1 6 = F_l05Flag f0 f1 6 := by
  rw [Bool.eq_iff_iff, flag_iff3 hn h0 hR (fun _ => rfl) (fun _ _ => rfl), show F_Frame_hasFlag f0 f1 6 = F_Frame_everyPair f0 f1 (fun x0 x1 x2 => F_Frame_hasFlag_k5 x0 x1 x2 f0 f1) from rfl, everyPair_iff hn hR]
  refine forall_congr' fun x => forall_congr' fun y => forall_congr' fun z => forall_congr' fun hx => forall_congr' fun hy => forall_congr' fun hz => forall_congr' fun hxy => forall_congr' fun hxz => ?_
  rw [show fc3 f1 6 (y : Int) (z : Int) = ((!(F_has (gI f1 (y : Int)) (z : Int))) && (!(F_has (gI f1 (z : Int)) (y : Int)))) from rfl]
  show (F_has (gI f1 (y : Int)) (z : Int) || F_has (gI f1 (z : Int)) (y : Int)) = true ↔ _
  cases F_has (gI f1 (y : Int)) (z : Int) <;> cases F_has (gI f1 (z : Int)) (y : Int) <;> simp
theorem flag7 : F_Frame_hasFlag f0 f1 7 = F_l05Flag f0 f1 7 := by
  rw [Bool.eq_iff_iff, flag_iff1 hn h0 hR (fun _ _ => rfl) (fun _ _ => rfl), show F_Frame_hasFlag f0 f1 7 = F_Frame_everyWorld f0 f1 (fun x0 => F_Frame_hasFlag_k6 x0 (F_transitive f1)) from rfl, everyWorld_iff h0]
  refine forall_congr' fun x => forall_congr' fun hx => ?_
  rw [show fc1 f1 7 (x : Int) = F_has (gI (F_l01Closure f1) (x : Int)) (x : Int) from rfl, l01Closure_eq]
  show (!(F_has (gI (F_transitive f1) (x : Int)) (x : Int))) = true ↔ _
  rw [Bool.not_eq_true']
theorem flag8 : F_Frame_hasFlag f0 f1 8 = F_l05Flag f0 f1 8 := by
  rw [Bool.eq_iff_iff, flag_iff2 hn h0 hR (fun _ => rfl) (fun _ _ => rfl), show F_Frame_hasFlag f0 f1 8 = F_Frame_everyWorld f0 f1 (fun x0 => F_Frame_hasFlag_k7 x0 f0 f1 (F_inverse f1)) from rfl, everyWorld_iff h0]
  obtain ⟨v1, v2⟩ := inverse_bits hn hR
  have hk : ∀ x : Nat, x < n → (F_Frame_hasFlag_k7 (x : Int) f0 f1 (F_inverse f1) = true ↔ ∀ y, rb f1 x y = true → rb f1 y x = true → x = y) := fun x hx => by
    obtain ⟨a1, a2, _⟩ := Mk.and (n := n) (by omega) (hR.2 x hx) (v1.2 x hx)
    unfold F_Frame_hasFlag_k7
    rw [pow_shl (by omega) (by omega), within_bits (n := n) (by omega) a1 (Mk.pow hx)]
    constructor
    · intro h y hxy hyx
      have hy := tb_lt (hR.2 x hx) hxy
      have h1 := h y (by
        rw [a2 y]
        have := v2 x y hx
        unfold rb at this hxy
        rw [hxy, this, decide_eq_true hy]; exact hyx)
      rw [tb_pow] at h1; exact of_decide_eq_true h1
    · intro h y hy
      rw [a2 y, Bool.and_eq_true] at hy
      have h1 := v2 x y hx
      unfold rb at h1
      rw [h1, Bool.and_eq_true] at hy
      rw [tb_pow, decide_eq_true_iff]
      exact h y hy.1 hy.2.2
  have hb : ∀ x y : Nat, x < n → y < n → (fc2 f1 8 (x : Int) (y : Int) = false ↔ (rb f1 y x = true → x = y)) := fun x y hx hy => by
    rw [show fc2 f1 8 (x : Int) (y : Int) = ((!decide ((x : Int) = (y : Int))) && (F_has (gI f1 (y : Int)) (x : Int))) from rfl, tb_has (n := n) (by omega) (hR.2 y hy) (by omega)]
    show ((!decide ((x : Int) = (y : Int))) && rb f1 y x) = false ↔ _
    by_cases e : x = y
    · subst e; simp
    · rw [decide_eq_false (by omega)]
      cases rb f1 y x <;> simp [e]
  constructor
  · intro h x y hx hy hxy
    rw [hb x y hx hy]
    exact (hk x hx).1 (h x hx) y hxy
  · intro h x hx
    rw [hk x hx]
    intro y hxy hyx
    have hy := tb_lt (hR.2 x hx) hxy
    exact (hb x y hx hy).1 (h x y hx hy hxy) hyx
theorem flag9 : F_Frame_hasFlag f0 f1 9 = F_l05Flag f0 f1 9 := by
  rw [Bool.eq_iff_iff, flag_iff2 hn h0 hR (fun _ => rfl) (fun _ _ => rfl), show F_Frame_hasFlag f0 f1 9 = F_Frame_everyPair f0 f1 (fun x0 x1 x2 => F_Frame_hasFlag_k8 x0 x1 x2 f0 f1 (F_inverse f1)) from rfl, everyPair_iff hn hR]
  have hb : ∀ x y : Nat, (fc2 f1 9 (x : Int) (y : Int) = false ↔ (!decide (andI (gI f1 (x : Int)) (gI (F_inverse f1) (y : Int)) = 0)) = true) := fun x y => by
    rw [show fc2 f1 9 (x : Int) (y : Int) = decide (andI (gI f1 (x : Int)) (gI (F_l01Inverse f1) (y : Int)) = 0) from rfl, inverse_eq hn hR, Bool.not_eq_true']
  constructor
  · intro h x y hx hy hxy
    rw [hb x y]
    exact h x y y hx hy hy hxy hxy
  · intro h x y z hx hy hz hxy hxz
    exact (hb x y).1 (h x y hx hy hxy)
theorem flag10 : F_Frame_hasFlag f0 f1 10 = F_l05Flag f0 f1 10 := by
  rw [Bool.eq_iff_iff, flag_iff1 hn h0 hR (fun _ _ => rfl) (fun _ _ => rfl), show F_Frame_hasFlag f0 f1 10 = F_Frame_everyWorld f0 f1 (fun x0 => F_Frame_hasFlag_k9 x0 f0 f1) from rfl, everyWorld_iff h0]
  refine forall_congr' fun x => forall_congr' fun hx => ?_
  have hm := hR.2 x hx
  have hlt : (gI f1 (x : Int)).toNat < 256 := Nat.lt_of_lt_of_le hm.lt (Nat.pow_le_pow_right (by decide) hn : 2 ^ n ≤ 2 ^ 8)
  rw [show fc1 f1 10 (x : Int) = decide (1 < F_l01Bits (gI f1 (x : Int))) from rfl, l01Bits_eq hm.1 (by have := hm.1; omega)]
  show decide (F_countMembers (gI f1 (x : Int)) ≤ 1) = true ↔ _
  rw [decide_eq_true_iff, decide_eq_false_iff_not]
  omega
theorem hasFlag_eq {flag : Int} (hf0 : 0 ≤ flag) (hf10 : flag ≤ 10) : F_Frame_hasFlag f0 f1 flag = F_l05Flag f0 f1 flag := by
  have h : flag = 0 ∨ flag = 1 ∨ flag = 2 ∨ flag = 3 ∨ flag = 4 ∨ flag = 5 ∨ flag = 6 ∨ flag = 7 ∨ flag = 8 ∨ flag = 9 ∨ flag = 10 := by omega
  rcases h with rfl | rfl | rfl | rfl | rfl | rfl | rfl | rfl | rfl | rfl | rfl
  · exact flag0 hn h0 hR
  · exact flag1 hn h0 hR
  · exact flag2 hn h0 hR
  · exact flag3 hn h0 hR
  · exact flag4 hn h0 hR
  · exact flag5 hn h0 hR
  · exact flag6 hn h0 hR
  · exact flag7 hn h0 hR
  · exact flag8 hn h0 hR
  · exact flag9 hn h0 hR
  · exact flag10 hn h0 hR
end

end Go.Proofs.Ytlbonhloeefnmaa
