/- GL: models and contracts, printed by wip/gen/gen.py -/
import Derived.Test.YtkilkfhjfobcdaaKCHGQ
set_option linter.unusedVariables false
set_option linter.unusedSimpArgs false
namespace Go.Proofs.Ytkilkfhjfobcdaa
open Go.RowKit
def F_Frame_everyWorld_L1b (f0 : Int) (holds : Int → Bool) (rec : Int → Except (Bool) (Int)) (t8 : Int) : Except (Bool) (Int) :=
  bif (decide (t8 < f0)) then (bif (!(holds t8)) then (.error false) else (rec (t8 + 1))) else (.ok t8)
def F_Frame_everyWorld_L1 (f0 : Int) (holds : Int → Bool) : Nat → Int → Except (Bool) (Int)
  | 0, t8 => .ok t8
  | r + 1, t8 => F_Frame_everyWorld_L1b f0 holds (F_Frame_everyWorld_L1 f0 holds r) t8
def F_Frame_everyWorld (f0 : Int) (f1 : List Int) (holds : Int → Bool) : Bool :=
  bif (isOk (F_Frame_everyWorld_L1 f0 holds (Int.toNat (f0 - 0) + 1) 0)) then true else (errD (F_Frame_everyWorld_L1 f0 holds (Int.toNat (f0 - 0) + 1) 0))
theorem cf_Frame_everyWorld (args : Array Value) (w : World) : (callFunc 210 args).run Try.prog w = .ok (.enter 210 args) w := by kernel_rfl
set_option maxRecDepth 100000 in
theorem c_Frame_everyWorld (f0 : Int) (f1A : Option Addr) (f1N f1C : Nat) (f1 : List Int) (holdsF : FuncId) (holdsC : List Value) (holds : Int → Bool) (holdsD : Int → Prop) (w : World) (f1R : RdS w 1 f1A f1N f1C f1) (holdsE : ∀ args w, (callFunc holdsF args).run Try.prog w = .ok (.enter holdsF args) w) (holdsH : ∀ (x0 : Int) (w' : World), holdsD x0 → Ext w w' → Calls Try.prog holdsF (([.int .i64 x0] ++ holdsC : List Value).toArray) w' (Ret fun v w'' => v = .bool (holds x0) ∧ Ext w' w'')) (h0 : 0 ≤ f0) (h1 : f0 ≤ 30) (holdsDom : ∀ m : Int, 0 ≤ m → m < f0 → holdsD m) :
    Calls Try.prog 210 #[.agg #[.int .i64 f0, .slice f1A f1N f1C], .func (.func holdsF) #[] holdsC.toArray] w (Ret fun v w' => v = .bool (F_Frame_everyWorld f0 f1 holds) ∧ Ext w w') := by
  obtain rfl : f1N = f1.length := f1R.len1.symm
  have f1Le := f1R.le
  have hS := St.nil w
  have hS1 := St.rd0 hS rfl f1R; clear hS
  refine enter (args := [.agg #[.int .i64 f0, .slice f1A f1.length f1C], .func (.func holdsF) #[] holdsC.toArray]) Try.func210 rfl rfl ?_
  rw [Try.ntmps210]; intro a hE
  have hE := hE.sub (L' := [(0, .agg #[.int .i64 f0, .slice f1A f1.length f1C]), (1, .func (.func holdsF) #[] holdsC.toArray)]) ⟨rfl, rfl, trivial⟩
  refine c_seq ?_
  refine c_reg ?_
  refine l_step hE rfl (l_box (v := .agg #[.int .i64 f0, .slice f1A f1.length f1C]) (cs := #[.int .i64 f0, .slice f1A f1.length f1C]) hS1 hE rfl rfl rfl ?_)
  intro b2 w3 hS6 he7 a4 hE5; clear hS1 hE
  refine q_step (v := .bool false) hE5 (y_assign rfl) rfl rfl rfl ?_; intro a8 hE9; clear hE5
  refine c_nil ?_
  have hE10 := hE9.sub (L' := [(1, .func (.func holdsF) #[] holdsC.toArray), (2, .pointer (some ⟨b2, 0, none⟩))]) ⟨rfl, rfl, trivial⟩; clear hE9
  refine p_tn ?_
  refine c_seq ?_
  refine c_seq ?_
  refine c_reg ?_
  refine q_step (v := .pointer (some ⟨b2, 0, none⟩)) hE10 (y_field rfl (fun _ => by kernel_rfl)) rfl rfl rfl ?_; intro a11 hE12; clear hE10
  refine q_step (v := .int .i64 f0) hE12 (y_load (fun _ => by kernel_rfl) rfl (St.cell (i := 0) hS6 rfl rfl)) rfl rfl rfl ?_; intro a13 hE14; clear hE12
  refine q_step (v := .int .i64 0) hE14 (y_move rfl) rfl rfl rfl ?_; intro a15 hE16; clear hE14
  refine c_nil ?_
  have hE17 := hE16.sub (L' := [(1, .func (.func holdsF) #[] holdsC.toArray), (7, .int .i64 f0), (8, .int .i64 0)]) ⟨rfl, rfl, rfl, trivial⟩; clear hE16
  refine p_tn ?_
  refine c_cut1 (fun a' w' => isOk (F_Frame_everyWorld_L1 f0 holds (Int.toNat (f0 - 0) + 1) 0) = true ∧ (0 ≤ (okD (F_Frame_everyWorld_L1 f0 holds (Int.toNat (f0 - 0) + 1) 0))) ∧ E a' 16 [(1, .func (.func holdsF) #[] holdsC.toArray), (7, .int .i64 f0), (8, .int .i64 (okD (F_Frame_everyWorld_L1 f0 holds (Int.toNat (f0 - 0) + 1) 0)))] ∧ St w w' [.blk b2 #[.int .i64 f0, .slice f1A f1.length f1C] 57, .rd 1 f1A f1.length f1C f1]) ?_ ?_
  ·
   refine wp_block ?_
   refine c_loop (fun r a' w' => ∃ t8 : Int, F_Frame_everyWorld_L1 f0 holds r t8 = F_Frame_everyWorld_L1 f0 holds (Int.toNat (f0 - 0) + 1) 0 ∧ Int.toNat (f0 - t8) < r ∧ (0 ≤ t8) ∧ E a' 16 [(1, .func (.func holdsF) #[] holdsC.toArray), (7, .int .i64 f0), (8, .int .i64 t8)] ∧ St w w' [.blk b2 #[.int .i64 f0, .slice f1A f1.length f1C] 57, .rd 1 f1A f1.length f1C f1]) (r := (Int.toNat (f0 - 0) + 1)) ?_ ?_
   · exact ⟨0, rfl, Nat.lt_succ_self _, (by first | omega | (simp only [sS_len, sL_len]; omega) | (simp only [List.length_replicate, sI_len]; omega) | (simp only [List.length_append, List.length_cons, List.length_nil, sI_len, cond_true, cond_false]; omega) | (simp only [List.length_append, List.length_cons, List.length_nil, sI_len, cond_eq_ite, apply_ite List.length]; split <;> simp only [List.length_append, List.length_cons, List.length_nil, sI_len] <;> omega) | grind), (hE17.sub (L' := [(1, .func (.func holdsF) #[] holdsC.toArray), (7, .int .i64 f0), (8, .int .i64 0)]) ⟨rfl, rfl, rfl, trivial⟩), (St.pick (Γ' := [.blk b2 #[.int .i64 f0, .slice f1A f1.length f1C] 57, .rd 1 f1A f1.length f1C f1]) hS6 [0, 1] (by decide) rfl)⟩
   ·
    clear hE17 hS6
    rintro r26 a19 w20 ⟨t8, hT23, hr24, hi25, hE21, hS22⟩
    obtain ⟨r26, rfl⟩ : ∃ r', r26 = r' + 1 := ⟨r26 - 1, by omega⟩
    refine c_seq ?_
    refine c_reg ?_
    refine q_step (v := .bool (decide (t8 < f0))) hE21 (y_lss rfl rfl) rfl rfl rfl ?_; intro a27 hE28; clear hE21
    refine c_nil ?_
    have hE29 := hE28.sub (L' := [(1, .func (.func holdsF) #[] holdsC.toArray), (7, .int .i64 f0), (8, .int .i64 t8), (9, .bool (decide (t8 < f0)))]) ⟨rfl, rfl, rfl, rfl, trivial⟩; clear hE28
    refine p_tn ?_
    refine c_seq ?_
    refine c_cond hE29 rfl (fun ht30 => ?_) (fun ht30 => ?_)
    ·
     have hp31 := of_decide_eq_true ht30
     have hE32 := hE29; rw [ht30] at hE32; clear hE29
     refine wp_skip ?_
     refine p_tn ?_
     refine c_seq ?_
     refine wp_block ?_
     refine c_seq ?_
     refine c_reg ?_
     refine q_step (v := .int .i64 t8) hE32 (y_move rfl) rfl rfl rfl ?_; intro a33 hE34; clear hE32
     refine q_step (v := .int .i64 t8) hE34 (y_assign rfl) rfl rfl rfl ?_; intro a35 hE36; clear hE34
     refine c_nil ?_
     have hE37 := hE36.sub (L' := [(1, .func (.func holdsF) #[] holdsC.toArray), (5, .int .i64 t8), (7, .int .i64 f0), (8, .int .i64 t8)]) ⟨rfl, rfl, rfl, rfl, trivial⟩; clear hE36
     refine p_tn ?_
     refine c_seq ?_
     refine c_reg ?_
     refine q_step (v := .func (.func holdsF) #[] holdsC.toArray) hE37 (y_move rfl) rfl rfl rfl ?_; intro a38 hE39; clear hE37
     refine q_step (v := .int .i64 t8) hE39 (y_move rfl) rfl rfl rfl ?_; intro a40 hE41; clear hE39
     refine l_step hE41 rfl (l_callv (f := holdsF) (caps := holdsC) (argv := [.int .i64 t8]) hE41 rfl (fun _ => holdsE _ _) rfl rfl (holdsH t8 w20 (holdsDom t8 (by omega) (by omega)) hS22.ext) ?_)
     rintro _ w43 ⟨rfl, he47⟩ a44 hE45; clear hE41
     have hS46 := St.go hS22 he47; clear hS22
     refine q_step (v := .bool (!(holds t8))) hE45 (y_not rfl) rfl rfl rfl ?_; intro a48 hE49; clear hE45
     refine c_nil ?_
     have hE50 := hE49.sub (L' := [(1, .func (.func holdsF) #[] holdsC.toArray), (7, .int .i64 f0), (8, .int .i64 t8), (14, .bool (!(holds t8)))]) ⟨rfl, rfl, rfl, rfl, trivial⟩; clear hE49
     refine p_tn ?_
     refine c_cond hE50 rfl (fun ht51 => ?_) (fun ht51 => ?_)
     ·
      have ht52 := bn_t ht51
      have hE53 := hE50; rw [ht51] at hE53; clear hE50
      refine c_seq ?_
      refine c_reg ?_
      refine q_step (v := .bool false) hE53 (y_assign rfl) rfl rfl rfl ?_; intro a54 hE55; clear hE53
      refine c_nil ?_
      have hE56 := hE55.sub (L' := [(4, .bool false)]) ⟨rfl, trivial⟩; clear hE55
      refine p_tn ?_
      refine wp_ret ?_
      refine p_br ?_
      refine p_tr ?_
      have hX57 : F_Frame_everyWorld_L1 f0 holds (Int.toNat (f0 - 0) + 1) 0 = .error false := hT23.symm.trans (show F_Frame_everyWorld_L1b f0 holds (F_Frame_everyWorld_L1 f0 holds r26) t8 = .error false by unfold F_Frame_everyWorld_L1b; rw [ht51, ht30]; first | done | rfl)
      refine p_tr (p_br (p_tr ?_))
      refine p_tr ?_
      have hF : F_Frame_everyWorld f0 f1 holds = false := by unfold F_Frame_everyWorld; rw [hX57]; first | done | rfl
      refine c_ret1 hE56 rfl rfl ?_
      exact ⟨(by rw [hF]; first | done | (dsimp only; done) | rfl), hS46.ext⟩
     ·
      have ht58 := bn_f ht51
      have hE59 := hE50; rw [ht51] at hE59; clear hE50
      refine wp_skip ?_
      refine p_bn ?_
      refine p_tn ?_
      refine c_reg ?_
      refine q_step (v := .int .i64 (t8 + 1)) hE59 (y_add rfl rfl ⟨(by omega), (by omega)⟩) rfl rfl rfl ?_; intro a60 hE61; clear hE59
      refine q_step (v := .int .i64 (t8 + 1)) hE61 (y_move rfl) rfl rfl rfl ?_; intro a62 hE63; clear hE61
      refine c_nil ?_
      have hE64 := hE63.sub (L' := [(1, .func (.func holdsF) #[] holdsC.toArray), (7, .int .i64 f0), (8, .int .i64 (t8 + 1))]) ⟨rfl, rfl, rfl, trivial⟩; clear hE63
      refine p_tn ⟨r26, Nat.lt_succ_self _, t8 + 1, (hT23.symm.trans (show F_Frame_everyWorld_L1b f0 holds (F_Frame_everyWorld_L1 f0 holds r26) t8 = F_Frame_everyWorld_L1 f0 holds r26 (t8 + 1) by unfold F_Frame_everyWorld_L1b; rw [ht51, ht30]; first | done | rfl)).symm, (by omega), (by first | omega | (simp only [sS_len, sL_len]; omega) | (simp only [List.length_replicate, sI_len]; omega) | (simp only [List.length_append, List.length_cons, List.length_nil, sI_len, cond_true, cond_false]; omega) | (simp only [List.length_append, List.length_cons, List.length_nil, sI_len, cond_eq_ite, apply_ite List.length]; split <;> simp only [List.length_append, List.length_cons, List.length_nil, sI_len] <;> omega) | grind), (hE64.sub (L' := [(1, .func (.func holdsF) #[] holdsC.toArray), (7, .int .i64 f0), (8, .int .i64 (t8 + 1))]) ⟨rfl, rfl, rfl, trivial⟩), (St.pick (Γ' := [.blk b2 #[.int .i64 f0, .slice f1A f1.length f1C] 57, .rd 1 f1A f1.length f1C f1]) hS46 [0, 1] (by decide) rfl)⟩
    ·
     have hp65 := of_decide_eq_false ht30
     have hE66 := hE29; rw [ht30] at hE66; clear hE29
     refine wp_exit ?_
     refine p_te ?_
     have hX67 : F_Frame_everyWorld_L1 f0 holds (Int.toNat (f0 - 0) + 1) 0 = .ok t8 := hT23.symm.trans (show F_Frame_everyWorld_L1b f0 holds (F_Frame_everyWorld_L1 f0 holds r26) t8 = .ok t8 by unfold F_Frame_everyWorld_L1b; rw [ht30]; first | done | rfl)
     refine p_te (p_be (p_tn ?_))
     exact ⟨(by rw [hX67]; rfl), (by rw [hX67]; exact (show 0 ≤ t8 from (by first | omega | (simp only [sS_len, sL_len]; omega) | (simp only [List.length_replicate, sI_len]; omega) | (simp only [List.length_append, List.length_cons, List.length_nil, sI_len, cond_true, cond_false]; omega) | (simp only [List.length_append, List.length_cons, List.length_nil, sI_len, cond_eq_ite, apply_ite List.length]; split <;> simp only [List.length_append, List.length_cons, List.length_nil, sI_len] <;> omega) | grind))), (by rw [hX67]; exact (hE66.sub (L' := [(1, .func (.func holdsF) #[] holdsC.toArray), (7, .int .i64 f0), (8, .int .i64 t8)]) ⟨rfl, rfl, rfl, trivial⟩)), (St.pick (Γ' := [.blk b2 #[.int .i64 f0, .slice f1A f1.length f1C] 57, .rd 1 f1A f1.length f1C f1]) hS22 [0, 1] (by decide) rfl)⟩
  ·
   rintro a68 w69 ⟨hO72, hi73, hE70, hS71⟩; clear hE17 hS6
   refine p_tn ?_
   refine c_seq ?_
   refine c_reg ?_
   refine q_step (v := .bool true) hE70 (y_assign rfl) rfl rfl rfl ?_; intro a74 hE75; clear hE70
   refine c_nil ?_
   have hE76 := hE75.sub (L' := [(4, .bool true)]) ⟨rfl, trivial⟩; clear hE75
   refine p_tn ?_
   refine wp_ret ?_
   have hF : F_Frame_everyWorld f0 f1 holds = true := by unfold F_Frame_everyWorld; rw [hO72]; first | done | rfl
   refine c_ret1 hE76 rfl rfl ?_
   exact ⟨(by rw [hF]; first | done | (dsimp only; done) | rfl), hS71.ext⟩
end Go.Proofs.Ytkilkfhjfobcdaa
