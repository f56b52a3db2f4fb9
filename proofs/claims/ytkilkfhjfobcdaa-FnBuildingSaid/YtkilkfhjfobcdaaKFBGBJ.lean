/- GBJ: models and contracts, printed by wip/gen/gen.py -/
import Derived.Test.YtkilkfhjfobcdaaKFBGRF
import Derived.Test.YtkilkfhjfobcdaaKFBGNP
import Derived.Test.YtkilkfhjfobcdaaKFBDel
set_option linter.unusedVariables false
set_option linter.unusedSimpArgs false
namespace Go.Proofs.Ytkilkfhjfobcdaa
open Go.RowKit
def F_areFormulas_k1 (ap : List Int) : Bool :=
  (!(F_isFormula ap))
theorem cf_areFormulas_k1 (args : Array Value) (w : World) : (callFunc 147 args).run Try.prog w = .ok (.enter 147 args) w := by kernel_rfl
set_option maxRecDepth 100000 in
theorem c_areFormulas_k1 (apA : Option Addr) (apN apC : Nat) (ap : List Int) (w : World) (apR : RdS w 2 apA apN apC ap) (hl : ap.length ≤ 4194304) :
    Calls Try.prog 147 #[.slice apA apN apC] w (Ret fun v w' => v = .bool (F_areFormulas_k1 ap) ∧ Ext w w') := by
  obtain rfl : apN = ap.length / 2 := (apR.lenD (by decide)).symm
  have apEv := apR.ev (by decide)
  have apLe := apR.le
  have hS := St.nil w
  have hS1 := St.rd0 hS rfl apR; clear hS
  refine enter (args := [.slice apA ((ap).length / 2 : Nat) apC]) Try.func147 rfl rfl ?_
  rw [Try.ntmps147]; intro a hE
  have hE := hE.sub (L' := [(0, .slice apA ((ap).length / 2 : Nat) apC)]) ⟨rfl, trivial⟩
  refine c_seq ?_
  refine c_reg ?_
  refine q_step (v := .bool false) hE (y_assign rfl) rfl rfl rfl ?_; intro a2 hE3; clear hE
  refine c_nil ?_
  have hE4 := hE3.sub (L' := [(0, .slice apA ((ap).length / 2 : Nat) apC)]) ⟨rfl, trivial⟩; clear hE3
  refine p_tn ?_
  refine c_seq ?_
  refine c_reg ?_
  refine q_step (v := .slice apA ((ap).length / 2 : Nat) apC) hE4 (y_move rfl) rfl rfl rfl ?_; intro a5 hE6; clear hE4
  refine l_step hE6 rfl (l_call (f := 74) (argv := [.slice apA ((ap).length / 2 : Nat) apC]) hE6 (fun _ => cf_isFormula _ _) rfl rfl (c_isFormula apA ((ap).length / 2 : Nat) apC ap w (St.rdR (i := 0) hS1 rfl) (by omega)) ?_)
  rintro _ w8 ⟨rfl, he12⟩ a9 hE10; clear hE6
  have hS11 := St.go hS1 he12; clear hS1
  refine q_step (v := .bool (!(F_isFormula ap))) hE10 (y_not rfl) rfl rfl rfl ?_; intro a13 hE14; clear hE10
  refine q_step (v := .bool (!(F_isFormula ap))) hE14 (y_assign rfl) rfl rfl rfl ?_; intro a15 hE16; clear hE14
  refine c_nil ?_
  have hE17 := hE16.sub (L' := [(2, .bool (!(F_isFormula ap)))]) ⟨rfl, trivial⟩; clear hE16
  refine p_tn ?_
  refine wp_ret ?_
  have hF : F_areFormulas_k1 ap = (!(F_isFormula ap)) := by unfold F_areFormulas_k1; rfl
  refine c_ret1 hE17 rfl rfl ?_
  exact ⟨(by rw [hF]; first | done | (dsimp only; done) | rfl), hS11.ext⟩
def F_z_IndexFuncNodeS_L1b (sp : List (List Int)) (fp : List Int → Bool) (rec : Int → Except (Int) (Int)) (t8 : Int) : Except (Int) (Int) :=
  bif (decide (t8 < ((sp).length : Int))) then (bif (fp (gL sp t8)) then (.error t8) else (rec (t8 + 1))) else (.ok t8)
def F_z_IndexFuncNodeS_L1 (sp : List (List Int)) (fp : List Int → Bool) : Nat → Int → Except (Int) (Int)
  | 0, t8 => .ok t8
  | r + 1, t8 => F_z_IndexFuncNodeS_L1b sp fp (F_z_IndexFuncNodeS_L1 sp fp r) t8
def F_z_IndexFuncNodeS (sp : List (List Int)) (fp : List Int → Bool) : Int :=
  bif (isOk (F_z_IndexFuncNodeS_L1 sp fp (Int.toNat (((sp).length : Int) - 0) + 1) 0)) then (-1) else (errD (F_z_IndexFuncNodeS_L1 sp fp (Int.toNat (((sp).length : Int) - 0) + 1) 0))
theorem cf_z_IndexFuncNodeS (args : Array Value) (w : World) : (callFunc 199 args).run Try.prog w = .ok (.enter 199 args) w := by kernel_rfl
set_option maxRecDepth 100000 in
theorem c_z_IndexFuncNodeS (spA : Option Addr) (spN spC : Nat) (spQ : List Hd) (sp : List (List Int)) (fpF : FuncId) (fpC : List Value) (fp : List Int → Bool) (fpD : List Int → Prop) (w : World) (spR : RdN w 2 spA spN spC spQ sp) (fpE : ∀ args w, (callFunc fpF args).run Try.prog w = .ok (.enter fpF args) w) (fpH : ∀ (x0A : Option Addr) (x0N x0C : Nat) (x0 : List Int) (w' : World), fpD x0 → Ext w w' → RdS w' 2 x0A x0N x0C x0 → Calls Try.prog fpF (([.slice x0A x0N x0C] ++ fpC : List Value).toArray) w' (Ret fun v w'' => v = .bool (fp x0) ∧ Ext w' w'')) (fpDom : ∀ m : Int, 0 ≤ m → m < (sp.length : Int) → fpD (gL sp m)) :
    Calls Try.prog 199 #[.slice spA spN spC, .func (.func fpF) #[] fpC.toArray] w (Ret fun v w' => v = .int .i64 (F_z_IndexFuncNodeS sp fp) ∧ Ext w w') := by
  obtain rfl : spN = sp.length := spR.len
  have spLe := spR.le
  have hS := St.nil w
  have hS1 := St.rdn0 hS rfl spR; clear hS
  refine enter (args := [.slice spA ((sp).length) spC, .func (.func fpF) #[] fpC.toArray]) Try.func199 rfl rfl ?_
  rw [Try.ntmps199]; intro a hE
  have hE := hE.sub (L' := [(0, .slice spA ((sp).length) spC), (1, .func (.func fpF) #[] fpC.toArray)]) ⟨rfl, rfl, trivial⟩
  refine c_seq ?_
  refine c_reg ?_
  refine q_step (v := .int .i64 0) hE (y_assign rfl) rfl rfl rfl ?_; intro a2 hE3; clear hE
  refine c_nil ?_
  have hE4 := hE3.sub (L' := [(0, .slice spA ((sp).length) spC), (1, .func (.func fpF) #[] fpC.toArray)]) ⟨rfl, rfl, trivial⟩; clear hE3
  refine p_tn ?_
  refine c_seq ?_
  refine c_seq ?_
  refine c_reg ?_
  refine q_step (v := .slice spA ((sp).length) spC) hE4 (y_move rfl) rfl rfl rfl ?_; intro a5 hE6; clear hE4
  refine q_step (v := .int .i64 ((sp).length : Int)) hE6 (y_len (e := 32) (by kernel_rfl) rfl) rfl rfl rfl ?_; intro a7 hE8; clear hE6
  refine q_step (v := .int .i64 0) hE8 (y_move rfl) rfl rfl rfl ?_; intro a9 hE10; clear hE8
  refine c_nil ?_
  have hE11 := hE10.sub (L' := [(0, .slice spA ((sp).length) spC), (1, .func (.func fpF) #[] fpC.toArray), (7, .int .i64 ((sp).length : Int)), (8, .int .i64 0)]) ⟨rfl, rfl, rfl, rfl, trivial⟩; clear hE10
  refine p_tn ?_
  refine c_cut1 (fun a' w' => isOk (F_z_IndexFuncNodeS_L1 sp fp (Int.toNat (((sp).length : Int) - 0) + 1) 0) = true ∧ (0 ≤ (okD (F_z_IndexFuncNodeS_L1 sp fp (Int.toNat (((sp).length : Int) - 0) + 1) 0))) ∧ ((okD (F_z_IndexFuncNodeS_L1 sp fp (Int.toNat (((sp).length : Int) - 0) + 1) 0)) ≤ ((sp).length : Int)) ∧ E a' 19 [(0, .slice spA ((sp).length) spC), (1, .func (.func fpF) #[] fpC.toArray), (7, .int .i64 ((sp).length : Int)), (8, .int .i64 (okD (F_z_IndexFuncNodeS_L1 sp fp (Int.toNat (((sp).length : Int) - 0) + 1) 0)))] ∧ St w w' [.rdn 2 spA ((sp).length) spC spQ sp]) ?_ ?_
  ·
   refine wp_block ?_
   refine c_loop (fun r a' w' => ∃ t8 : Int, F_z_IndexFuncNodeS_L1 sp fp r t8 = F_z_IndexFuncNodeS_L1 sp fp (Int.toNat (((sp).length : Int) - 0) + 1) 0 ∧ Int.toNat (((sp).length : Int) - t8) < r ∧ (0 ≤ t8) ∧ (t8 ≤ ((sp).length : Int)) ∧ E a' 19 [(0, .slice spA ((sp).length) spC), (1, .func (.func fpF) #[] fpC.toArray), (7, .int .i64 ((sp).length : Int)), (8, .int .i64 t8)] ∧ St w w' [.rdn 2 spA ((sp).length) spC spQ sp]) (r := (Int.toNat (((sp).length : Int) - 0) + 1)) ?_ ?_
   · exact ⟨0, rfl, Nat.lt_succ_self _, (by first | omega | (simp only [sS_len, sL_len]; omega) | (simp only [List.length_replicate, sI_len]; omega) | (simp only [List.length_append, List.length_cons, List.length_nil, sI_len, cond_true, cond_false]; omega) | (simp only [List.length_append, List.length_cons, List.length_nil, sI_len, cond_eq_ite, apply_ite List.length]; split <;> simp only [List.length_append, List.length_cons, List.length_nil, sI_len] <;> omega) | grind), (by first | omega | (simp only [sS_len, sL_len]; omega) | (simp only [List.length_replicate, sI_len]; omega) | (simp only [List.length_append, List.length_cons, List.length_nil, sI_len, cond_true, cond_false]; omega) | (simp only [List.length_append, List.length_cons, List.length_nil, sI_len, cond_eq_ite, apply_ite List.length]; split <;> simp only [List.length_append, List.length_cons, List.length_nil, sI_len] <;> omega) | grind), (hE11.sub (L' := [(0, .slice spA ((sp).length) spC), (1, .func (.func fpF) #[] fpC.toArray), (7, .int .i64 ((sp).length : Int)), (8, .int .i64 0)]) ⟨rfl, rfl, rfl, rfl, trivial⟩), (St.pick (Γ' := [.rdn 2 spA ((sp).length) spC spQ sp]) hS1 [0] (by decide) rfl)⟩
   ·
    clear hE11 hS1
    rintro r21 a13 w14 ⟨t8, hT17, hr18, hi19, hi20, hE15, hS16⟩
    obtain ⟨r21, rfl⟩ : ∃ r', r21 = r' + 1 := ⟨r21 - 1, by omega⟩
    refine c_seq ?_
    refine c_reg ?_
    refine q_step (v := .bool (decide (t8 < ((sp).length : Int)))) hE15 (y_lss rfl rfl) rfl rfl rfl ?_; intro a22 hE23; clear hE15
    refine c_nil ?_
    have hE24 := hE23.sub (L' := [(0, .slice spA ((sp).length) spC), (1, .func (.func fpF) #[] fpC.toArray), (7, .int .i64 ((sp).length : Int)), (8, .int .i64 t8), (9, .bool (decide (t8 < ((sp).length : Int))))]) ⟨rfl, rfl, rfl, rfl, rfl, trivial⟩; clear hE23
    refine p_tn ?_
    refine c_seq ?_
    refine c_cond hE24 rfl (fun ht25 => ?_) (fun ht25 => ?_)
    ·
     have hp26 := of_decide_eq_true ht25
     have hE27 := hE24; rw [ht25] at hE27; clear hE24
     refine wp_skip ?_
     refine p_tn ?_
     refine c_seq ?_
     refine wp_block ?_
     refine c_seq ?_
     refine c_reg ?_
     refine q_step (v := .int .i64 t8) hE27 (y_move rfl) rfl rfl rfl ?_; intro a28 hE29; clear hE27
     refine q_step (v := .int .i64 t8) hE29 (y_assign rfl) rfl rfl rfl ?_; intro a30 hE31; clear hE29
     refine c_nil ?_
     have hE32 := hE31.sub (L' := [(0, .slice spA ((sp).length) spC), (1, .func (.func fpF) #[] fpC.toArray), (5, .int .i64 t8), (7, .int .i64 ((sp).length : Int)), (8, .int .i64 t8)]) ⟨rfl, rfl, rfl, rfl, rfl, trivial⟩; clear hE31
     refine p_tn ?_
     refine c_seq ?_
     refine c_reg ?_
     refine q_step (v := .func (.func fpF) #[] fpC.toArray) hE32 (y_move rfl) rfl rfl rfl ?_; intro a33 hE34; clear hE32
     refine q_step (v := .slice spA ((sp).length) spC) hE34 (y_move rfl) rfl rfl rfl ?_; intro a35 hE36; clear hE34
     refine q_step (v := .int .i64 t8) hE36 (y_move rfl) rfl rfl rfl ?_; intro a37 hE38; clear hE36
     refine q_step (v := .pointer (some (adr spA (Int.toNat t8)))) hE38 (y_idx (by kernel_rfl) (fun _ => by kernel_rfl) rfl rfl (RdN.isS (m := t8) (St.rdNr (i := 0) hS16 rfl) (by omega) (by omega)) (by omega) (by omega) (Nat.mul_one _).symm) rfl rfl rfl ?_; intro a39 hE40; clear hE38
     have hv41 : (0 : Int) ≤ t8 ∧ t8 < (((sp).length) : Int) := ⟨(by omega), (by omega)⟩
     refine q_step (v := .slice (hdA spQ t8) ((gL sp t8).length / 2 : Nat) (hdC spQ t8)) hE40 (y_load (fun _ => by kernel_rfl) rfl (RdN.eltD (St.rdNr (i := 0) hS16 rfl) (by decide) (by omega) (by omega))) rfl rfl rfl ?_; intro a43 hE44; clear hE40
     refine l_step hE44 rfl (l_callv (f := fpF) (caps := fpC) (argv := [.slice (hdA spQ t8) ((gL sp t8).length / 2 : Nat) (hdC spQ t8)]) hE44 rfl (fun _ => fpE _ _) rfl rfl (fpH (hdA spQ t8) ((gL sp t8).length / 2 : Nat) (hdC spQ t8) (gL sp t8) w14 (fpDom t8 (by omega) (by omega)) hS16.ext (RdN.rowD (St.rdNr (i := 0) hS16 rfl) (by decide) hv41.1 hv41.2)) ?_)
     rintro _ w46 ⟨rfl, he50⟩ a47 hE48; clear hE44
     have hS49 := St.go hS16 he50; clear hS16
     refine c_nil ?_
     have hE51 := hE48.sub (L' := [(0, .slice spA ((sp).length) spC), (1, .func (.func fpF) #[] fpC.toArray), (5, .int .i64 t8), (7, .int .i64 ((sp).length : Int)), (8, .int .i64 t8), (16, .bool (fp (gL sp t8)))]) ⟨rfl, rfl, rfl, rfl, rfl, rfl, trivial⟩; clear hE48
     refine p_tn ?_
     refine c_cond hE51 rfl (fun ht52 => ?_) (fun ht52 => ?_)
     ·
      have hE53 := hE51; rw [ht52] at hE53; clear hE51
      refine c_seq ?_
      refine c_reg ?_
      refine q_step (v := .int .i64 t8) hE53 (y_move rfl) rfl rfl rfl ?_; intro a54 hE55; clear hE53
      refine q_step (v := .int .i64 t8) hE55 (y_assign rfl) rfl rfl rfl ?_; intro a56 hE57; clear hE55
      refine c_nil ?_
      have hE58 := hE57.sub (L' := [(4, .int .i64 t8)]) ⟨rfl, trivial⟩; clear hE57
      refine p_tn ?_
      refine wp_ret ?_
      refine p_br ?_
      refine p_tr ?_
      have hX59 : F_z_IndexFuncNodeS_L1 sp fp (Int.toNat (((sp).length : Int) - 0) + 1) 0 = .error t8 := hT17.symm.trans (show F_z_IndexFuncNodeS_L1b sp fp (F_z_IndexFuncNodeS_L1 sp fp r21) t8 = .error t8 by unfold F_z_IndexFuncNodeS_L1b; rw [ht52, ht25]; first | done | rfl)
      refine p_tr (p_br (p_tr ?_))
      refine p_tr ?_
      have hF : F_z_IndexFuncNodeS sp fp = t8 := by unfold F_z_IndexFuncNodeS; rw [hX59]; first | done | rfl
      refine c_ret1 hE58 rfl rfl ?_
      exact ⟨(by rw [hF]; first | done | (dsimp only; done) | rfl), hS49.ext⟩
     ·
      have hE60 := hE51; rw [ht52] at hE60; clear hE51
      refine wp_skip ?_
      refine p_bn ?_
      refine p_tn ?_
      refine c_reg ?_
      refine q_step (v := .int .i64 (t8 + 1)) hE60 (y_add rfl rfl ⟨(by omega), (by omega)⟩) rfl rfl rfl ?_; intro a61 hE62; clear hE60
      refine q_step (v := .int .i64 (t8 + 1)) hE62 (y_move rfl) rfl rfl rfl ?_; intro a63 hE64; clear hE62
      refine c_nil ?_
      have hE65 := hE64.sub (L' := [(0, .slice spA ((sp).length) spC), (1, .func (.func fpF) #[] fpC.toArray), (7, .int .i64 ((sp).length : Int)), (8, .int .i64 (t8 + 1))]) ⟨rfl, rfl, rfl, rfl, trivial⟩; clear hE64
      refine p_tn ⟨r21, Nat.lt_succ_self _, t8 + 1, (hT17.symm.trans (show F_z_IndexFuncNodeS_L1b sp fp (F_z_IndexFuncNodeS_L1 sp fp r21) t8 = F_z_IndexFuncNodeS_L1 sp fp r21 (t8 + 1) by unfold F_z_IndexFuncNodeS_L1b; rw [ht52, ht25]; first | done | rfl)).symm, (by omega), (by first | omega | (simp only [sS_len, sL_len]; omega) | (simp only [List.length_replicate, sI_len]; omega) | (simp only [List.length_append, List.length_cons, List.length_nil, sI_len, cond_true, cond_false]; omega) | (simp only [List.length_append, List.length_cons, List.length_nil, sI_len, cond_eq_ite, apply_ite List.length]; split <;> simp only [List.length_append, List.length_cons, List.length_nil, sI_len] <;> omega) | grind), (by first | omega | (simp only [sS_len, sL_len]; omega) | (simp only [List.length_replicate, sI_len]; omega) | (simp only [List.length_append, List.length_cons, List.length_nil, sI_len, cond_true, cond_false]; omega) | (simp only [List.length_append, List.length_cons, List.length_nil, sI_len, cond_eq_ite, apply_ite List.length]; split <;> simp only [List.length_append, List.length_cons, List.length_nil, sI_len] <;> omega) | grind), (hE65.sub (L' := [(0, .slice spA ((sp).length) spC), (1, .func (.func fpF) #[] fpC.toArray), (7, .int .i64 ((sp).length : Int)), (8, .int .i64 (t8 + 1))]) ⟨rfl, rfl, rfl, rfl, trivial⟩), (St.pick (Γ' := [.rdn 2 spA ((sp).length) spC spQ sp]) hS49 [0] (by decide) rfl)⟩
    ·
     have hp66 := of_decide_eq_false ht25
     have hE67 := hE24; rw [ht25] at hE67; clear hE24
     refine wp_exit ?_
     refine p_te ?_
     have hX68 : F_z_IndexFuncNodeS_L1 sp fp (Int.toNat (((sp).length : Int) - 0) + 1) 0 = .ok t8 := hT17.symm.trans (show F_z_IndexFuncNodeS_L1b sp fp (F_z_IndexFuncNodeS_L1 sp fp r21) t8 = .ok t8 by unfold F_z_IndexFuncNodeS_L1b; rw [ht25]; first | done | rfl)
     refine p_te (p_be (p_tn ?_))
     exact ⟨(by rw [hX68]; rfl), (by rw [hX68]; exact (show 0 ≤ t8 from (by first | omega | (simp only [sS_len, sL_len]; omega) | (simp only [List.length_replicate, sI_len]; omega) | (simp only [List.length_append, List.length_cons, List.length_nil, sI_len, cond_true, cond_false]; omega) | (simp only [List.length_append, List.length_cons, List.length_nil, sI_len, cond_eq_ite, apply_ite List.length]; split <;> simp only [List.length_append, List.length_cons, List.length_nil, sI_len] <;> omega) | grind))), (by rw [hX68]; exact (show t8 ≤ ((sp).length : Int) from (by first | omega | (simp only [sS_len, sL_len]; omega) | (simp only [List.length_replicate, sI_len]; omega) | (simp only [List.length_append, List.length_cons, List.length_nil, sI_len, cond_true, cond_false]; omega) | (simp only [List.length_append, List.length_cons, List.length_nil, sI_len, cond_eq_ite, apply_ite List.length]; split <;> simp only [List.length_append, List.length_cons, List.length_nil, sI_len] <;> omega) | grind))), (by rw [hX68]; exact (hE67.sub (L' := [(0, .slice spA ((sp).length) spC), (1, .func (.func fpF) #[] fpC.toArray), (7, .int .i64 ((sp).length : Int)), (8, .int .i64 t8)]) ⟨rfl, rfl, rfl, rfl, trivial⟩)), (St.pick (Γ' := [.rdn 2 spA ((sp).length) spC spQ sp]) hS16 [0] (by decide) rfl)⟩
  ·
   rintro a69 w70 ⟨hO73, hi74, hi75, hE71, hS72⟩; clear hE11 hS1
   refine p_tn ?_
   refine c_seq ?_
   refine c_reg ?_
   refine q_step (v := .int .i64 (-1)) hE71 (y_assign rfl) rfl rfl rfl ?_; intro a76 hE77; clear hE71
   refine c_nil ?_
   have hE78 := hE77.sub (L' := [(4, .int .i64 (-1))]) ⟨rfl, trivial⟩; clear hE77
   refine p_tn ?_
   refine wp_ret ?_
   have hF : F_z_IndexFuncNodeS sp fp = -1 := by unfold F_z_IndexFuncNodeS; rw [hO73]; first | done | rfl
   refine c_ret1 hE78 rfl rfl ?_
   exact ⟨(by rw [hF]; first | done | (dsimp only; done) | rfl), hS72.ext⟩
def F_z_ContainsFuncNodeS (sp : List (List Int)) (fp : List Int → Bool) : Bool :=
  decide (0 ≤ (F_z_IndexFuncNodeS sp fp))
theorem cf_z_ContainsFuncNodeS (args : Array Value) (w : World) : (callFunc 146 args).run Try.prog w = .ok (.enter 146 args) w := by kernel_rfl
set_option maxRecDepth 100000 in
theorem c_z_ContainsFuncNodeS (spA : Option Addr) (spN spC : Nat) (spQ : List Hd) (sp : List (List Int)) (fpF : FuncId) (fpC : List Value) (fp : List Int → Bool) (fpD : List Int → Prop) (w : World) (spR : RdN w 2 spA spN spC spQ sp) (fpE : ∀ args w, (callFunc fpF args).run Try.prog w = .ok (.enter fpF args) w) (fpH : ∀ (x0A : Option Addr) (x0N x0C : Nat) (x0 : List Int) (w' : World), fpD x0 → Ext w w' → RdS w' 2 x0A x0N x0C x0 → Calls Try.prog fpF (([.slice x0A x0N x0C] ++ fpC : List Value).toArray) w' (Ret fun v w'' => v = .bool (fp x0) ∧ Ext w' w'')) (fpDom : ∀ m : Int, 0 ≤ m → m < (sp.length : Int) → fpD (gL sp m)) :
    Calls Try.prog 146 #[.slice spA spN spC, .func (.func fpF) #[] fpC.toArray] w (Ret fun v w' => v = .bool (F_z_ContainsFuncNodeS sp fp) ∧ Ext w w') := by
  obtain rfl : spN = sp.length := spR.len
  have spLe := spR.le
  have hS := St.nil w
  have hS1 := St.rdn0 hS rfl spR; clear hS
  refine enter (args := [.slice spA ((sp).length) spC, .func (.func fpF) #[] fpC.toArray]) Try.func146 rfl rfl ?_
  rw [Try.ntmps146]; intro a hE
  have hE := hE.sub (L' := [(0, .slice spA ((sp).length) spC), (1, .func (.func fpF) #[] fpC.toArray)]) ⟨rfl, rfl, trivial⟩
  refine c_seq ?_
  refine c_reg ?_
  refine q_step (v := .bool false) hE (y_assign rfl) rfl rfl rfl ?_; intro a2 hE3; clear hE
  refine c_nil ?_
  have hE4 := hE3.sub (L' := [(0, .slice spA ((sp).length) spC), (1, .func (.func fpF) #[] fpC.toArray)]) ⟨rfl, rfl, trivial⟩; clear hE3
  refine p_tn ?_
  refine c_seq ?_
  refine c_reg ?_
  refine q_step (v := .slice spA ((sp).length) spC) hE4 (y_move rfl) rfl rfl rfl ?_; intro a5 hE6; clear hE4
  refine q_step (v := .func (.func fpF) #[] fpC.toArray) hE6 (y_move rfl) rfl rfl rfl ?_; intro a7 hE8; clear hE6
  refine l_step hE8 rfl (l_call (f := 199) (argv := [.slice spA ((sp).length) spC, .func (.func fpF) #[] fpC.toArray]) hE8 (fun _ => cf_z_IndexFuncNodeS _ _) rfl rfl (c_z_IndexFuncNodeS spA ((sp).length) spC spQ sp fpF fpC fp fpD w (St.rdNr (i := 0) hS1 rfl) fpE (fun x0A x0N x0C x0 w' hx he r0 => fpH x0A x0N x0C x0 w' hx (hS1.ext.trans he) r0) fpDom) ?_)
  rintro _ w10 ⟨rfl, he14⟩ a11 hE12; clear hE8
  have hS13 := St.go hS1 he14; clear hS1
  refine q_step (v := .bool (decide (0 ≤ (F_z_IndexFuncNodeS sp fp)))) hE12 (y_geq rfl rfl) rfl rfl rfl ?_; intro a15 hE16; clear hE12
  refine q_step (v := .bool (decide (0 ≤ (F_z_IndexFuncNodeS sp fp)))) hE16 (y_assign rfl) rfl rfl rfl ?_; intro a17 hE18; clear hE16
  refine c_nil ?_
  have hE19 := hE18.sub (L' := [(4, .bool (decide (0 ≤ (F_z_IndexFuncNodeS sp fp))))]) ⟨rfl, trivial⟩; clear hE18
  refine p_tn ?_
  refine wp_ret ?_
  have hF : F_z_ContainsFuncNodeS sp fp = decide (0 ≤ (F_z_IndexFuncNodeS sp fp)) := by unfold F_z_ContainsFuncNodeS; rfl
  refine c_ret1 hE19 rfl rfl ?_
  exact ⟨(by rw [hF]; first | done | (dsimp only; done) | rfl), hS13.ext⟩
def F_areFormulas (list : List (List Int)) : Bool :=
  (!(F_z_ContainsFuncNodeS list (fun x0 => F_areFormulas_k1 x0)))
theorem cf_areFormulas (args : Array Value) (w : World) : (callFunc 86 args).run Try.prog w = .ok (.enter 86 args) w := by kernel_rfl
set_option maxRecDepth 100000 in
theorem c_areFormulas (listA : Option Addr) (listN listC : Nat) (listQ : List Hd) (list : List (List Int)) (w : World) (listR : RdN w 2 listA listN listC listQ list) (hl : list.length ≤ 1000) (hx : ∀ m : Int, 0 ≤ m → m < (list.length : Int) → (gL list m).length ≤ 4194304) :
    Calls Try.prog 86 #[.slice listA listN listC] w (Ret fun v w' => v = .bool (F_areFormulas list) ∧ Ext w w') := by
  obtain rfl : listN = list.length := listR.len
  have listLe := listR.le
  have hS := St.nil w
  have hS1 := St.rdn0 hS rfl listR; clear hS
  refine enter (args := [.slice listA ((list).length) listC]) Try.func86 rfl rfl ?_
  rw [Try.ntmps86]; intro a hE
  have hE := hE.sub (L' := [(0, .slice listA ((list).length) listC)]) ⟨rfl, trivial⟩
  refine c_seq ?_
  refine c_reg ?_
  refine q_step (v := .bool false) hE (y_assign rfl) rfl rfl rfl ?_; intro a2 hE3; clear hE
  refine c_nil ?_
  have hE4 := hE3.sub (L' := [(0, .slice listA ((list).length) listC)]) ⟨rfl, trivial⟩; clear hE3
  refine p_tn ?_
  refine c_seq ?_
  refine c_reg ?_
  refine q_step (v := .slice listA ((list).length) listC) hE4 (y_move rfl) rfl rfl rfl ?_; intro a5 hE6; clear hE4
  refine l_step hE6 rfl (l_call (f := 146) (argv := [.slice listA ((list).length) listC, .func (.func 147) #[] #[]]) hE6 (fun _ => cf_z_ContainsFuncNodeS _ _) rfl rfl (c_z_ContainsFuncNodeS listA ((list).length) listC listQ list 147 [] (fun x0 => F_areFormulas_k1 x0) (fun x => x.length ≤ 4194304) w (St.rdNr (i := 0) hS1 rfl) (fun _ _ => cf_areFormulas_k1 _ _) (fun x0A x0N x0C x0 w' hx he r0 => c_areFormulas_k1 x0A x0N x0C x0 w' r0 hx) hx) ?_)
  rintro _ w8 ⟨rfl, he12⟩ a9 hE10; clear hE6
  have hS11 := St.go hS1 he12; clear hS1
  refine q_step (v := .bool (!(F_z_ContainsFuncNodeS list (fun x0 => F_areFormulas_k1 x0)))) hE10 (y_not rfl) rfl rfl rfl ?_; intro a13 hE14; clear hE10
  refine q_step (v := .bool (!(F_z_ContainsFuncNodeS list (fun x0 => F_areFormulas_k1 x0)))) hE14 (y_assign rfl) rfl rfl rfl ?_; intro a15 hE16; clear hE14
  refine c_nil ?_
  have hE17 := hE16.sub (L' := [(2, .bool (!(F_z_ContainsFuncNodeS list (fun x0 => F_areFormulas_k1 x0))))]) ⟨rfl, trivial⟩; clear hE16
  refine p_tn ?_
  refine wp_ret ?_
  have hF : F_areFormulas list = (!(F_z_ContainsFuncNodeS list (fun x0 => F_areFormulas_k1 x0))) := by unfold F_areFormulas; rfl
  refine c_ret1 hE17 rfl rfl ?_
  exact ⟨(by rw [hF]; first | done | (dsimp only; done) | rfl), hS11.ext⟩
theorem containsS_key (sp : List (List Int)) (fp : List Int → Bool) : ∀ (k : Nat) (i : Int), 0 ≤ i → (sp.length : Int) - i = (k : Int) →
    decide (0 ≤ (bif isOk (F_z_IndexFuncNodeS_L1 sp fp (k + 1) i) then (-1 : Int) else errD (F_z_IndexFuncNodeS_L1 sp fp (k + 1) i))) = (List.range k).any fun j => fp (gL sp (i + (j : Int))) := by
  intro k
  induction k with
  | zero =>
    intro i h0 h
    have e : F_z_IndexFuncNodeS_L1 sp fp (0 + 1) i = .ok i := by
      show F_z_IndexFuncNodeS_L1b sp fp _ i = _
      unfold F_z_IndexFuncNodeS_L1b; rw [decide_eq_false (by omega)]; rfl
    rw [e]; rfl
  | succ k ih =>
    intro i h0 h
    have e : F_z_IndexFuncNodeS_L1 sp fp (k + 1 + 1) i = bif fp (gL sp i) then .error i else F_z_IndexFuncNodeS_L1 sp fp (k + 1) (i + 1) := by
      show F_z_IndexFuncNodeS_L1b sp fp _ i = _
      unfold F_z_IndexFuncNodeS_L1b; rw [decide_eq_true (by omega)]; rfl
    rw [e, List.range_succ_eq_map, List.any_cons, List.any_map]
    cases hp : fp (gL sp i)
    · simp only [cond_false]
      rw [ih (i + 1) (by omega) (by omega)]
      simp only [Int.natCast_zero, Int.add_zero, hp, Bool.false_or, Function.comp_def]
      congr 1; funext j; congr 2; rw [Int.natCast_succ]; omega
    · simp [isOk, errD, hp, h0]
theorem areFormulas2 (a b : List Int) : F_areFormulas [a, b] = (F_l02Is a && F_l02Is b) := by
  unfold F_areFormulas F_z_ContainsFuncNodeS F_z_IndexFuncNodeS
  rw [show Int.toNat ((([a, b] : List (List Int)).length : Int) - 0) = 2 from rfl, containsS_key [a, b] _ 2 0 (by omega) rfl]
  have e : ((List.range 2).any fun j => F_areFormulas_k1 (gL [a, b] (0 + (j : Int)))) = (F_areFormulas_k1 a || (F_areFormulas_k1 b || false)) := rfl
  rw [e]
  unfold F_areFormulas_k1
  rw [isFormula_eq, isFormula_eq]
  cases F_l02Is a <;> cases F_l02Is b <;> rfl
theorem areFormulas2_t {a b : List Int} (h : F_areFormulas [a, b] = true) : ((a.length / 2 : Nat) : Int) ≤ 40 ∧ ((b.length / 2 : Nat) : Int) ≤ 40 ∧ F_l02Is a = true ∧ F_l02Is b = true := by
  rw [areFormulas2, Bool.and_eq_true] at h
  exact ⟨(l02Is_t h.1).1, (l02Is_t h.2).1, h.1, h.2⟩
def F_JoinFormulas (kind : Int) (ap : List Int) (bp : List Int) : (List Int) × (Int) :=
  bif (!(F_areFormulas ([ap, bp]))) then ([], 1) else (bif (!decide ((F_partsOf kind) = 2)) then ([], 2) else (bif (decide (40 < (((F_join kind ap bp).length / 2 : Nat) : Int))) then ([], 3) else (F_join kind ap bp, 0)))
theorem cf_JoinFormulas (args : Array Value) (w : World) : (callFunc 61 args).run Try.prog w = .ok (.enter 61 args) w := by kernel_rfl
set_option maxRecDepth 100000 in
theorem c_JoinFormulas (kind : Int) (apA : Option Addr) (apN apC : Nat) (ap : List Int) (bpA : Option Addr) (bpN bpC : Nat) (bp : List Int) (w : World) (apR : RdS w 2 apA apN apC ap) (bpR : RdS w 2 bpA bpN bpC bp) (hl : ap.length ≤ 4194304) (hl2 : bp.length ≤ 4194304) :
    Calls Try.prog 61 #[.int .i64 kind, .slice apA apN apC, .slice bpA bpN bpC] w (Ret fun v w' => ∃ b1 : Option Addr, ∃ c1 : Nat, v = .tuple #[.slice b1 (((F_JoinFormulas kind ap bp).1).length / 2 : Nat) c1, .int .i64 ((F_JoinFormulas kind ap bp).2)] ∧ OwnS w' w.heap.size 94 2 b1 (((F_JoinFormulas kind ap bp).1).length / 2 : Nat) c1 ((F_JoinFormulas kind ap bp).1) ∧ Ext w w') := by
  obtain rfl : apN = ap.length / 2 := (apR.lenD (by decide)).symm
  have apEv := apR.ev (by decide)
  have apLe := apR.le
  obtain rfl : bpN = bp.length / 2 := (bpR.lenD (by decide)).symm
  have bpEv := bpR.ev (by decide)
  have bpLe := bpR.le
  have hS := St.nil w
  have hS1 := St.rd0 hS rfl apR; clear hS
  have hS2 := St.rd0 hS1 rfl bpR; clear hS1
  refine enter (args := [.int .i64 kind, .slice apA ((ap).length / 2 : Nat) apC, .slice bpA ((bp).length / 2 : Nat) bpC]) Try.func61 rfl rfl ?_
  rw [Try.ntmps61]; intro a hE
  have hE := hE.sub (L' := [(0, .int .i64 kind), (1, .slice apA ((ap).length / 2 : Nat) apC), (2, .slice bpA ((bp).length / 2 : Nat) bpC)]) ⟨rfl, rfl, rfl, trivial⟩
  refine c_seq ?_
  refine c_reg ?_
  refine q_step (v := .slice none 0 0) hE (y_assign rfl) rfl rfl rfl ?_; intro a3 hE4; clear hE
  refine q_step (v := .int .i64 0) hE4 (y_assign rfl) rfl rfl rfl ?_; intro a5 hE6; clear hE4
  refine c_nil ?_
  have hE7 := hE6.sub (L' := [(0, .int .i64 kind), (1, .slice apA ((ap).length / 2 : Nat) apC), (2, .slice bpA ((bp).length / 2 : Nat) bpC)]) ⟨rfl, rfl, rfl, trivial⟩; clear hE6
  refine p_tn ?_
  refine c_seq ?_
  refine wp_block ?_
  refine c_seq ?_
  refine c_reg ?_
  refine q_step (v := .slice apA ((ap).length / 2 : Nat) apC) hE7 (y_move rfl) rfl rfl rfl ?_; intro a8 hE9; clear hE7
  refine q_step (v := .slice bpA ((bp).length / 2 : Nat) bpC) hE9 (y_move rfl) rfl rfl rfl ?_; intro a10 hE11; clear hE9
  refine l_step hE11 rfl (l_litN (e := 32) (s := 2) (rows := [(⟨apA, ((ap).length / 2 : Nat), apC⟩, ap), (⟨bpA, ((bp).length / 2 : Nat), bpC⟩, bp)]) (hs := [⟨apA, ((ap).length / 2 : Nat), apC⟩, ⟨bpA, ((bp).length / 2 : Nat), bpC⟩]) (xss := [ap, bp]) (vs := [.slice apA ((ap).length / 2 : Nat) apC, .slice bpA ((bp).length / 2 : Nat) bpC]) hS2 hE11 rfl rfl rfl rfl (fun _ => by kernel_rfl) ⟨⟨(St.rdR (i := 1) hS2 rfl), (St.robR (i := 1) hS2 rfl)⟩, ⟨(St.rdR (i := 0) hS2 rfl), (St.robR (i := 0) hS2 rfl)⟩, trivial⟩ rfl rfl rfl ?_)
  intro b12 w13 hS16 he17 a14 hE15; clear hS2 hE11
  refine l_step hE15 rfl (l_call (f := 86) (argv := [.slice (some ⟨b12, 0, none⟩) 2 2]) hE15 (fun _ => cf_areFormulas _ _) rfl rfl (c_areFormulas (some ⟨b12, 0, none⟩) 2 2 ([⟨apA, ((ap).length / 2 : Nat), apC⟩, ⟨bpA, ((bp).length / 2 : Nat), bpC⟩]) ([ap, bp]) w13 (St.rdNo (i := 0) hS16 rfl) (by simp) (rows_le2 (by omega) (by omega))) ?_)
  rintro _ w19 ⟨rfl, he23⟩ a20 hE21; clear hE15
  have hS22 := St.go hS16 he23; clear hS16
  refine q_step (v := .bool (!(F_areFormulas ([ap, bp])))) hE21 (y_not rfl) rfl rfl rfl ?_; intro a24 hE25; clear hE21
  refine q_step (v := .bool (!(F_areFormulas ([ap, bp])))) hE25 (y_assign rfl) rfl rfl rfl ?_; intro a26 hE27; clear hE25
  refine c_nil ?_
  have hE28 := hE27.sub (L' := [(0, .int .i64 kind), (1, .slice apA ((ap).length / 2 : Nat) apC), (2, .slice bpA ((bp).length / 2 : Nat) bpC), (8, .bool (!(F_areFormulas ([ap, bp]))))]) ⟨rfl, rfl, rfl, rfl, trivial⟩; clear hE27
  refine p_tn ?_
  refine c_cond hE28 rfl (fun ht29 => ?_) (fun ht29 => ?_)
  ·
   have ht30 := bn_t ht29
   have hE31 := hE28; rw [ht29] at hE31; clear hE28
   refine c_seq ?_
   refine c_reg ?_
   refine q_step (v := .slice none 0 0) hE31 (y_assign rfl) rfl rfl rfl ?_; intro a32 hE33; clear hE31
   refine q_step (v := .int .i64 1) hE33 (y_assign rfl) rfl rfl rfl ?_; intro a34 hE35; clear hE33
   refine c_nil ?_
   have hE36 := hE35.sub (L' := [(6, .slice none 0 0), (7, .int .i64 1)]) ⟨rfl, rfl, trivial⟩; clear hE35
   refine p_tn ?_
   refine wp_ret ?_
   refine p_br ?_
   refine p_tr ?_
   have hF : F_JoinFormulas kind ap bp = ([], 1) := by unfold F_JoinFormulas; rw [ht29]; first | done | rfl
   refine c_ret2 hE36 rfl rfl rfl ?_
   exact ⟨none, 0, (by rw [hF]; first | done | (dsimp only; done) | rfl), (by rw [hF]; (try dsimp only); exact OwnS.nilS _ _ _ _), hS22.ext⟩
  ·
   have ht37 := bn_f ht29
   have hp38 := areFormulas2_t ht37
   have hE39 := hE28; rw [ht29] at hE39; clear hE28
   refine c_seq ?_
   refine c_reg ?_
   refine q_step (v := .int .i64 kind) hE39 (y_move rfl) rfl rfl rfl ?_; intro a40 hE41; clear hE39
   refine l_step hE41 rfl (l_call (f := 126) (argv := [.int .i64 kind]) hE41 (fun _ => cf_partsOf _ _) rfl rfl (c_partsOf kind w19) ?_)
   rintro _ _ ⟨rfl, rfl⟩ a44 hE45; clear hE41
   have hf48 := partsOf_bd kind
   refine q_step (v := .bool (!decide ((F_partsOf kind) = 2))) hE45 (y_neq rfl rfl) rfl rfl rfl ?_; intro a49 hE50; clear hE45
   refine q_step (v := .bool (!decide ((F_partsOf kind) = 2))) hE50 (y_assign rfl) rfl rfl rfl ?_; intro a51 hE52; clear hE50
   refine c_nil ?_
   have hE53 := hE52.sub (L' := [(0, .int .i64 kind), (1, .slice apA ((ap).length / 2 : Nat) apC), (2, .slice bpA ((bp).length / 2 : Nat) bpC), (14, .bool (!decide ((F_partsOf kind) = 2)))]) ⟨rfl, rfl, rfl, rfl, trivial⟩; clear hE52
   refine p_tn ?_
   refine c_cond hE53 rfl (fun ht54 => ?_) (fun ht54 => ?_)
   ·
    have ht55 := bn_t ht54
    have hp56 := of_decide_eq_false ht55
    have hE57 := hE53; rw [ht54] at hE57; clear hE53
    refine c_seq ?_
    refine c_reg ?_
    refine q_step (v := .slice none 0 0) hE57 (y_assign rfl) rfl rfl rfl ?_; intro a58 hE59; clear hE57
    refine q_step (v := .int .i64 2) hE59 (y_assign rfl) rfl rfl rfl ?_; intro a60 hE61; clear hE59
    refine c_nil ?_
    have hE62 := hE61.sub (L' := [(6, .slice none 0 0), (7, .int .i64 2)]) ⟨rfl, rfl, trivial⟩; clear hE61
    refine p_tn ?_
    refine wp_ret ?_
    refine p_br ?_
    refine p_tr ?_
    have hF : F_JoinFormulas kind ap bp = ([], 2) := by unfold F_JoinFormulas; rw [ht54, ht29]; first | done | rfl
    refine c_ret2 hE62 rfl rfl rfl ?_
    exact ⟨none, 0, (by rw [hF]; first | done | (dsimp only; done) | rfl), (by rw [hF]; (try dsimp only); exact OwnS.nilS _ _ _ _), hS22.ext⟩
   ·
    have ht63 := bn_f ht54
    have hp64 := of_decide_eq_true ht63
    have hE65 := hE53; rw [ht54] at hE65; clear hE53
    refine wp_skip ?_
    refine p_bn ?_
    refine p_tn ?_
    refine c_seq ?_
    refine c_reg ?_
    refine q_step (v := .int .i64 kind) hE65 (y_move rfl) rfl rfl rfl ?_; intro a66 hE67; clear hE65
    refine q_step (v := .slice apA ((ap).length / 2 : Nat) apC) hE67 (y_move rfl) rfl rfl rfl ?_; intro a68 hE69; clear hE67
    refine q_step (v := .slice bpA ((bp).length / 2 : Nat) bpC) hE69 (y_move rfl) rfl rfl rfl ?_; intro a70 hE71; clear hE69
    refine l_step hE71 rfl (l_call (f := 127) (argv := [.int .i64 kind, .slice apA ((ap).length / 2 : Nat) apC, .slice bpA ((bp).length / 2 : Nat) bpC]) hE71 (fun _ => cf_join _ _) rfl rfl (c_join kind apA ((ap).length / 2 : Nat) apC ap bpA ((bp).length / 2 : Nat) bpC bp w19 (St.rdR (i := 2) hS22 rfl) (St.rdR (i := 1) hS22 rfl) (by omega) (by omega)) ?_)
    rintro _ w73 ⟨b78, c79, rfl, ho80, he77⟩ a74 hE75; clear hE71
    have hf81 := join_len kind ap bp
    have hS76 := St.own hS22 he77 ho80; clear hS22
    rcases Bool.eq_false_or_eq_true (decide (40 < (((F_join kind ap bp).length / 2 : Nat) : Int))) with hb82 | hb82
    ·
     have hE83 := hE75; (try rw [hb82] at hE83); clear hE75
     have hp84 := of_decide_eq_true hb82
     refine l_step hE83 rfl (l_call (f := 83) (argv := [.slice b78 ((F_join kind ap bp).length / 2 : Nat) c79]) hE83 (fun _ => cf_limited_f _ _) rfl rfl (d_limited_t b78 ((F_join kind ap bp).length / 2 : Nat) c79 (F_join kind ap bp) w73 (St.rdO (i := 0) hS76 rfl) hb82) ?_)
     rintro _ _ ⟨rfl, rfl⟩ a87 hE88; clear hE83
     refine q_step (v := .slice none 0 0) hE88 (y_extract rfl rfl) rfl rfl rfl ?_; intro a91 hE92; clear hE88
     refine q_step (v := .int .i64 3) hE92 (y_extract rfl rfl) rfl rfl rfl ?_; intro a93 hE94; clear hE92
     refine q_step (v := .slice none 0 0) hE94 (y_assign rfl) rfl rfl rfl ?_; intro a95 hE96; clear hE94
     refine q_step (v := .int .i64 3) hE96 (y_assign rfl) rfl rfl rfl ?_; intro a97 hE98; clear hE96
     refine c_nil ?_
     have hE99 := hE98.sub (L' := [(6, .slice none 0 0), (7, .int .i64 3)]) ⟨rfl, rfl, trivial⟩; clear hE98
     refine p_tn ?_
     refine wp_ret ?_
     have hF : F_JoinFormulas kind ap bp = ([], 3) := by unfold F_JoinFormulas; rw [hb82, ht54, ht29]; first | done | rfl
     refine c_ret2 hE99 rfl rfl rfl ?_
     exact ⟨none, 0, (by rw [hF]; first | done | (dsimp only; done) | rfl), (by rw [hF]; (try dsimp only); exact OwnS.nilS _ _ _ _), hS76.ext⟩
    ·
     have hE100 := hE75; (try rw [hb82] at hE100); clear hE75
     have hp101 := of_decide_eq_false hb82
     refine l_step hE100 rfl (l_call (f := 83) (argv := [.slice b78 ((F_join kind ap bp).length / 2 : Nat) c79]) hE100 (fun _ => cf_limited_f _ _) rfl rfl (d_limited_f b78 ((F_join kind ap bp).length / 2 : Nat) c79 (F_join kind ap bp) w73 (St.rdO (i := 0) hS76 rfl) hb82) ?_)
     rintro _ _ ⟨rfl, rfl⟩ a104 hE105; clear hE100
     refine q_step (v := .slice b78 ((F_join kind ap bp).length / 2 : Nat) c79) hE105 (y_extract rfl rfl) rfl rfl rfl ?_; intro a108 hE109; clear hE105
     refine q_step (v := .int .i64 0) hE109 (y_extract rfl rfl) rfl rfl rfl ?_; intro a110 hE111; clear hE109
     refine q_step (v := .slice b78 ((F_join kind ap bp).length / 2 : Nat) c79) hE111 (y_assign rfl) rfl rfl rfl ?_; intro a112 hE113; clear hE111
     refine q_step (v := .int .i64 0) hE113 (y_assign rfl) rfl rfl rfl ?_; intro a114 hE115; clear hE113
     refine c_nil ?_
     have hE116 := hE115.sub (L' := [(6, .slice b78 ((F_join kind ap bp).length / 2 : Nat) c79), (7, .int .i64 0)]) ⟨rfl, rfl, trivial⟩; clear hE115
     refine p_tn ?_
     refine wp_ret ?_
     have hF : F_JoinFormulas kind ap bp = (F_join kind ap bp, 0) := by unfold F_JoinFormulas; rw [hb82, ht54, ht29]; first | done | rfl
     refine c_ret2 hE116 rfl rfl rfl ?_
     exact ⟨b78, c79, (by rw [hF]; first | done | (dsimp only; done) | rfl), (by rw [hF]; (try dsimp only); exact hS76.ok 0 _ rfl), hS76.ext⟩
def F_s_JoinFormulas (kind : Int) (ap : List Int) (bp : List Int) : (List Int) × (Int) :=
  bif (!(F_l02Is ap)) then ([], 1) else (bif (!(F_l02Is bp)) then ([], 1) else (bif (!(F_l01In kind 2 4)) then ([], 2) else (bif (decide (40 < (((F_l02Pair kind ap bp).length / 2 : Nat) : Int))) then ([], 3) else (F_l02Pair kind ap bp, 0))))
theorem cf_s_JoinFormulas (args : Array Value) (w : World) : (callFunc 62 args).run Try.prog w = .ok (.enter 62 args) w := by kernel_rfl
set_option maxRecDepth 100000 in
theorem c_s_JoinFormulas (kind : Int) (apA : Option Addr) (apN apC : Nat) (ap : List Int) (bpA : Option Addr) (bpN bpC : Nat) (bp : List Int) (w : World) (apR : RdS w 2 apA apN apC ap) (bpR : RdS w 2 bpA bpN bpC bp) (hl : ap.length ≤ 4194304) (hl2 : bp.length ≤ 4194304) :
    Calls Try.prog 62 #[.int .i64 kind, .slice apA apN apC, .slice bpA bpN bpC] w (Ret fun v w' => ∃ b1 : Option Addr, ∃ c1 : Nat, v = .tuple #[.slice b1 (((F_s_JoinFormulas kind ap bp).1).length / 2 : Nat) c1, .int .i64 ((F_s_JoinFormulas kind ap bp).2)] ∧ OwnS w' w.heap.size 94 2 b1 (((F_s_JoinFormulas kind ap bp).1).length / 2 : Nat) c1 ((F_s_JoinFormulas kind ap bp).1) ∧ Ext w w') := by
  obtain rfl : apN = ap.length / 2 := (apR.lenD (by decide)).symm
  have apEv := apR.ev (by decide)
  have apLe := apR.le
  obtain rfl : bpN = bp.length / 2 := (bpR.lenD (by decide)).symm
  have bpEv := bpR.ev (by decide)
  have bpLe := bpR.le
  have hS := St.nil w
  have hS1 := St.rd0 hS rfl apR; clear hS
  have hS2 := St.rd0 hS1 rfl bpR; clear hS1
  refine enter (args := [.int .i64 kind, .slice apA ((ap).length / 2 : Nat) apC, .slice bpA ((bp).length / 2 : Nat) bpC]) Try.func62 rfl rfl ?_
  rw [Try.ntmps62]; intro a hE
  have hE := hE.sub (L' := [(0, .int .i64 kind), (1, .slice apA ((ap).length / 2 : Nat) apC), (2, .slice bpA ((bp).length / 2 : Nat) bpC)]) ⟨rfl, rfl, rfl, trivial⟩
  refine c_seq ?_
  refine c_reg ?_
  refine q_step (v := .slice none 0 0) hE (y_assign rfl) rfl rfl rfl ?_; intro a3 hE4; clear hE
  refine q_step (v := .int .i64 0) hE4 (y_assign rfl) rfl rfl rfl ?_; intro a5 hE6; clear hE4
  refine c_nil ?_
  have hE7 := hE6.sub (L' := [(0, .int .i64 kind), (1, .slice apA ((ap).length / 2 : Nat) apC), (2, .slice bpA ((bp).length / 2 : Nat) bpC)]) ⟨rfl, rfl, rfl, trivial⟩; clear hE6
  refine p_tn ?_
  refine c_seq ?_
  refine c_seq ?_
  refine c_reg ?_
  refine q_step (v := .slice apA ((ap).length / 2 : Nat) apC) hE7 (y_move rfl) rfl rfl rfl ?_; intro a8 hE9; clear hE7
  refine l_step hE9 rfl (l_call (f := 70) (argv := [.slice apA ((ap).length / 2 : Nat) apC]) hE9 (fun _ => cf_l02Is _ _) rfl rfl (c_l02Is apA ((ap).length / 2 : Nat) apC ap w (St.rdR (i := 1) hS2 rfl) (by omega)) ?_)
  rintro _ w11 ⟨rfl, he15⟩ a12 hE13; clear hE9
  have hS14 := St.go hS2 he15; clear hS2
  refine q_step (v := .bool (!(F_l02Is ap))) hE13 (y_not rfl) rfl rfl rfl ?_; intro a16 hE17; clear hE13
  refine q_step (v := .bool (!(F_l02Is ap))) hE17 (y_move rfl) rfl rfl rfl ?_; intro a18 hE19; clear hE17
  rcases Bool.eq_false_or_eq_true (!(F_l02Is ap)) with hb20 | hb20
  ·
   have hE21 := hE19; (try rw [hb20] at hE21); clear hE19
   have ht22 := bn_t hb20
   refine q_skip hE21 rfl rfl rfl ?_; intro a23 hE24; clear hE21
   refine q_skip hE24 rfl rfl rfl ?_; intro a25 hE26; clear hE24
   refine q_skip hE26 rfl rfl rfl ?_; intro a27 hE28; clear hE26
   refine q_step (v := .bool true) hE28 (y_pick (b := true) rfl rfl) rfl rfl rfl ?_; intro a29 hE30; clear hE28
   refine c_nil ?_
   have hE31 := hE30.sub (L' := [(0, .int .i64 kind), (1, .slice apA ((ap).length / 2 : Nat) apC), (2, .slice bpA ((bp).length / 2 : Nat) bpC), (17, .bool true)]) ⟨rfl, rfl, rfl, rfl, trivial⟩; clear hE30
   refine p_tn ?_
   refine c_true hE31 rfl ?_
   refine c_seq ?_
   refine c_reg ?_
   refine q_step (v := .slice none 0 0) hE31 (y_assign rfl) rfl rfl rfl ?_; intro a32 hE33; clear hE31
   refine q_step (v := .int .i64 1) hE33 (y_assign rfl) rfl rfl rfl ?_; intro a34 hE35; clear hE33
   refine c_nil ?_
   have hE36 := hE35.sub (L' := [(6, .slice none 0 0), (7, .int .i64 1)]) ⟨rfl, rfl, trivial⟩; clear hE35
   refine p_tn ?_
   refine wp_ret ?_
   refine p_tr ?_
   have hF : F_s_JoinFormulas kind ap bp = ([], 1) := by unfold F_s_JoinFormulas; rw [hb20]; first | done | rfl
   refine c_ret2 hE36 rfl rfl rfl ?_
   exact ⟨none, 0, (by rw [hF]; first | done | (dsimp only; done) | rfl), (by rw [hF]; (try dsimp only); exact OwnS.nilS _ _ _ _), hS14.ext⟩
  ·
   have hE37 := hE19; (try rw [hb20] at hE37); clear hE19
   have ht38 := bn_f hb20
   have hp39 := l02Is_t ht38
   refine q_step (v := .slice bpA ((bp).length / 2 : Nat) bpC) hE37 (y_move rfl) rfl rfl rfl ?_; intro a40 hE41; clear hE37
   refine l_step hE41 rfl (l_call (f := 70) (argv := [.slice bpA ((bp).length / 2 : Nat) bpC]) hE41 (fun _ => cf_l02Is _ _) rfl rfl (c_l02Is bpA ((bp).length / 2 : Nat) bpC bp w11 (St.rdR (i := 0) hS14 rfl) (by omega)) ?_)
   rintro _ w43 ⟨rfl, he47⟩ a44 hE45; clear hE41
   have hS46 := St.go hS14 he47; clear hS14
   refine q_step (v := .bool (!(F_l02Is bp))) hE45 (y_not rfl) rfl rfl rfl ?_; intro a48 hE49; clear hE45
   refine q_step (v := .bool (!(F_l02Is bp))) hE49 (y_pick (b := false) rfl rfl) rfl rfl rfl ?_; intro a50 hE51; clear hE49
   refine c_nil ?_
   have hE52 := hE51.sub (L' := [(0, .int .i64 kind), (1, .slice apA ((ap).length / 2 : Nat) apC), (2, .slice bpA ((bp).length / 2 : Nat) bpC), (17, .bool (!(F_l02Is bp)))]) ⟨rfl, rfl, rfl, rfl, trivial⟩; clear hE51
   refine p_tn ?_
   refine c_cond hE52 rfl (fun ht53 => ?_) (fun ht53 => ?_)
   ·
    have ht54 := bn_t ht53
    have hE55 := hE52; rw [ht53] at hE55; clear hE52
    refine c_seq ?_
    refine c_reg ?_
    refine q_step (v := .slice none 0 0) hE55 (y_assign rfl) rfl rfl rfl ?_; intro a56 hE57; clear hE55
    refine q_step (v := .int .i64 1) hE57 (y_assign rfl) rfl rfl rfl ?_; intro a58 hE59; clear hE57
    refine c_nil ?_
    have hE60 := hE59.sub (L' := [(6, .slice none 0 0), (7, .int .i64 1)]) ⟨rfl, rfl, trivial⟩; clear hE59
    refine p_tn ?_
    refine wp_ret ?_
    refine p_tr ?_
    have hF : F_s_JoinFormulas kind ap bp = ([], 1) := by unfold F_s_JoinFormulas; rw [ht53, hb20]; first | done | rfl
    refine c_ret2 hE60 rfl rfl rfl ?_
    exact ⟨none, 0, (by rw [hF]; first | done | (dsimp only; done) | rfl), (by rw [hF]; (try dsimp only); exact OwnS.nilS _ _ _ _), hS46.ext⟩
   ·
    have ht61 := bn_f ht53
    have hp62 := l02Is_t ht61
    have hE63 := hE52; rw [ht53] at hE63; clear hE52
    refine wp_skip ?_
    refine p_tn ?_
    refine c_seq ?_
    refine c_seq ?_
    refine c_reg ?_
    refine q_step (v := .int .i64 kind) hE63 (y_move rfl) rfl rfl rfl ?_; intro a64 hE65; clear hE63
    refine l_step hE65 rfl (l_call (f := 71) (argv := [.int .i64 kind, .int .i64 2, .int .i64 4]) hE65 (fun _ => cf_l01In _ _) rfl rfl (c_l01In kind 2 4 w43) ?_)
    rintro _ _ ⟨rfl, rfl⟩ a68 hE69; clear hE65
    refine q_step (v := .bool (!(F_l01In kind 2 4))) hE69 (y_not rfl) rfl rfl rfl ?_; intro a72 hE73; clear hE69
    refine c_nil ?_
    have hE74 := hE73.sub (L' := [(0, .int .i64 kind), (1, .slice apA ((ap).length / 2 : Nat) apC), (2, .slice bpA ((bp).length / 2 : Nat) bpC), (20, .bool (!(F_l01In kind 2 4)))]) ⟨rfl, rfl, rfl, rfl, trivial⟩; clear hE73
    refine p_tn ?_
    refine c_cond hE74 rfl (fun ht75 => ?_) (fun ht75 => ?_)
    ·
     have ht76 := bn_t ht75
     have hE77 := hE74; rw [ht75] at hE77; clear hE74
     refine c_seq ?_
     refine c_reg ?_
     refine q_step (v := .slice none 0 0) hE77 (y_assign rfl) rfl rfl rfl ?_; intro a78 hE79; clear hE77
     refine q_step (v := .int .i64 2) hE79 (y_assign rfl) rfl rfl rfl ?_; intro a80 hE81; clear hE79
     refine c_nil ?_
     have hE82 := hE81.sub (L' := [(6, .slice none 0 0), (7, .int .i64 2)]) ⟨rfl, rfl, trivial⟩; clear hE81
     refine p_tn ?_
     refine wp_ret ?_
     refine p_tr ?_
     have hF : F_s_JoinFormulas kind ap bp = ([], 2) := by unfold F_s_JoinFormulas; rw [ht75, ht53, hb20]; first | done | rfl
     refine c_ret2 hE82 rfl rfl rfl ?_
     exact ⟨none, 0, (by rw [hF]; first | done | (dsimp only; done) | rfl), (by rw [hF]; (try dsimp only); exact OwnS.nilS _ _ _ _), hS46.ext⟩
    ·
     have ht83 := bn_f ht75
     have hp84 := F_l01In_t ht83
     have hE85 := hE74; rw [ht75] at hE85; clear hE74
     refine wp_skip ?_
     refine p_tn ?_
     refine c_seq ?_
     refine c_reg ?_
     refine q_step (v := .int .i64 kind) hE85 (y_move rfl) rfl rfl rfl ?_; intro a86 hE87; clear hE85
     refine q_step (v := .slice apA ((ap).length / 2 : Nat) apC) hE87 (y_move rfl) rfl rfl rfl ?_; intro a88 hE89; clear hE87
     refine q_step (v := .slice bpA ((bp).length / 2 : Nat) bpC) hE89 (y_move rfl) rfl rfl rfl ?_; intro a90 hE91; clear hE89
     refine l_step hE91 rfl (l_call (f := 128) (argv := [.int .i64 kind, .slice apA ((ap).length / 2 : Nat) apC, .slice bpA ((bp).length / 2 : Nat) bpC]) hE91 (fun _ => cf_l02Pair _ _) rfl rfl (c_l02Pair kind apA ((ap).length / 2 : Nat) apC ap bpA ((bp).length / 2 : Nat) bpC bp w43 (St.rdR (i := 1) hS46 rfl) (St.rdR (i := 0) hS46 rfl) (by omega) (by omega)) ?_)
     rintro _ w93 ⟨b98, c99, rfl, ho100, he97⟩ a94 hE95; clear hE91
     have hf101 := l02Pair_len kind ap bp
     have hS96 := St.own hS46 he97 ho100; clear hS46
     rcases Bool.eq_false_or_eq_true (decide (40 < (((F_l02Pair kind ap bp).length / 2 : Nat) : Int))) with hb102 | hb102
     ·
      have hE103 := hE95; (try rw [hb102] at hE103); clear hE95
      have hp104 := of_decide_eq_true hb102
      refine l_step hE103 rfl (l_call (f := 81) (argv := [.slice b98 ((F_l02Pair kind ap bp).length / 2 : Nat) c99]) hE103 (fun _ => cf_l02Made_f _ _) rfl rfl (d_l02Made_t b98 ((F_l02Pair kind ap bp).length / 2 : Nat) c99 (F_l02Pair kind ap bp) w93 (St.rdO (i := 0) hS96 rfl) hb102) ?_)
      rintro _ _ ⟨rfl, rfl⟩ a107 hE108; clear hE103
      refine q_step (v := .tuple #[.slice none 0 0, .int .i64 3]) hE108 (y_move rfl) rfl rfl rfl ?_; intro a111 hE112; clear hE108
      refine q_step (v := .slice none 0 0) hE112 (y_extract rfl rfl) rfl rfl rfl ?_; intro a113 hE114; clear hE112
      refine q_step (v := .int .i64 3) hE114 (y_extract rfl rfl) rfl rfl rfl ?_; intro a115 hE116; clear hE114
      refine q_step (v := .slice none 0 0) hE116 (y_assign rfl) rfl rfl rfl ?_; intro a117 hE118; clear hE116
      refine q_step (v := .int .i64 3) hE118 (y_assign rfl) rfl rfl rfl ?_; intro a119 hE120; clear hE118
      refine c_nil ?_
      have hE121 := hE120.sub (L' := [(8, .slice none 0 0), (9, .int .i64 3)]) ⟨rfl, rfl, trivial⟩; clear hE120
      refine p_tn ?_
      refine c_seq ?_
      refine c_reg ?_
      refine q_step (v := .slice none 0 0) hE121 (y_move rfl) rfl rfl rfl ?_; intro a122 hE123; clear hE121
      refine q_step (v := .int .i64 3) hE123 (y_move rfl) rfl rfl rfl ?_; intro a124 hE125; clear hE123
      refine q_step (v := .slice none 0 0) hE125 (y_assign rfl) rfl rfl rfl ?_; intro a126 hE127; clear hE125
      refine q_step (v := .int .i64 3) hE127 (y_assign rfl) rfl rfl rfl ?_; intro a128 hE129; clear hE127
      refine c_nil ?_
      have hE130 := hE129.sub (L' := [(6, .slice none 0 0), (7, .int .i64 3)]) ⟨rfl, rfl, trivial⟩; clear hE129
      refine p_tn ?_
      refine wp_ret ?_
      have hF : F_s_JoinFormulas kind ap bp = ([], 3) := by unfold F_s_JoinFormulas; rw [hb102, ht75, ht53, hb20]; first | done | rfl
      refine c_ret2 hE130 rfl rfl rfl ?_
      exact ⟨none, 0, (by rw [hF]; first | done | (dsimp only; done) | rfl), (by rw [hF]; (try dsimp only); exact OwnS.nilS _ _ _ _), hS96.ext⟩
     ·
      have hE131 := hE95; (try rw [hb102] at hE131); clear hE95
      have hp132 := of_decide_eq_false hb102
      refine l_step hE131 rfl (l_call (f := 81) (argv := [.slice b98 ((F_l02Pair kind ap bp).length / 2 : Nat) c99]) hE131 (fun _ => cf_l02Made_f _ _) rfl rfl (d_l02Made_f b98 ((F_l02Pair kind ap bp).length / 2 : Nat) c99 (F_l02Pair kind ap bp) w93 (St.rdO (i := 0) hS96 rfl) hb102) ?_)
      rintro _ _ ⟨rfl, rfl⟩ a135 hE136; clear hE131
      refine q_step (v := .tuple #[.slice b98 ((F_l02Pair kind ap bp).length / 2 : Nat) c99, .int .i64 0]) hE136 (y_move rfl) rfl rfl rfl ?_; intro a139 hE140; clear hE136
      refine q_step (v := .slice b98 ((F_l02Pair kind ap bp).length / 2 : Nat) c99) hE140 (y_extract rfl rfl) rfl rfl rfl ?_; intro a141 hE142; clear hE140
      refine q_step (v := .int .i64 0) hE142 (y_extract rfl rfl) rfl rfl rfl ?_; intro a143 hE144; clear hE142
      refine q_step (v := .slice b98 ((F_l02Pair kind ap bp).length / 2 : Nat) c99) hE144 (y_assign rfl) rfl rfl rfl ?_; intro a145 hE146; clear hE144
      refine q_step (v := .int .i64 0) hE146 (y_assign rfl) rfl rfl rfl ?_; intro a147 hE148; clear hE146
      refine c_nil ?_
      have hE149 := hE148.sub (L' := [(8, .slice b98 ((F_l02Pair kind ap bp).length / 2 : Nat) c99), (9, .int .i64 0)]) ⟨rfl, rfl, trivial⟩; clear hE148
      refine p_tn ?_
      refine c_seq ?_
      refine c_reg ?_
      refine q_step (v := .slice b98 ((F_l02Pair kind ap bp).length / 2 : Nat) c99) hE149 (y_move rfl) rfl rfl rfl ?_; intro a150 hE151; clear hE149
      refine q_step (v := .int .i64 0) hE151 (y_move rfl) rfl rfl rfl ?_; intro a152 hE153; clear hE151
      refine q_step (v := .slice b98 ((F_l02Pair kind ap bp).length / 2 : Nat) c99) hE153 (y_assign rfl) rfl rfl rfl ?_; intro a154 hE155; clear hE153
      refine q_step (v := .int .i64 0) hE155 (y_assign rfl) rfl rfl rfl ?_; intro a156 hE157; clear hE155
      refine c_nil ?_
      have hE158 := hE157.sub (L' := [(6, .slice b98 ((F_l02Pair kind ap bp).length / 2 : Nat) c99), (7, .int .i64 0)]) ⟨rfl, rfl, trivial⟩; clear hE157
      refine p_tn ?_
      refine wp_ret ?_
      have hF : F_s_JoinFormulas kind ap bp = (F_l02Pair kind ap bp, 0) := by unfold F_s_JoinFormulas; rw [hb102, ht75, ht53, hb20]; first | done | rfl
      refine c_ret2 hE158 rfl rfl rfl ?_
      exact ⟨b98, c99, (by rw [hF]; first | done | (dsimp only; done) | rfl), (by rw [hF]; (try dsimp only); exact hS96.ok 0 _ rfl), hS96.ext⟩
theorem JoinFormulas_eq (k : Int) (ap bp : List Int) : F_JoinFormulas k ap bp = F_s_JoinFormulas k ap bp := by
  unfold F_JoinFormulas F_s_JoinFormulas
  rw [areFormulas2, join_pair]
  have hk : (!decide (F_partsOf k = 2)) = (!(F_l01In k 2 4)) := by
    congr 1
    unfold F_partsOf F_l01In
    by_cases h2 : k = 2
    · subst h2; rfl
    · by_cases h3 : k = 3
      · subst h3; rfl
      · by_cases h4 : k = 4
        · subst h4; rfl
        · rw [show (decide (2 ≤ k) && decide (k ≤ 4)) = false by
            rw [Bool.and_eq_false_iff]
            by_cases h : 2 ≤ k
            · right; exact decide_eq_false (by omega)
            · left; exact decide_eq_false h]
          rw [decide_eq_false]
          have := parts_k k
          intro h
          rw [decide_eq_false h2, decide_eq_false h3, decide_eq_false h4] at h
          revert h
          cases decide (k = 5) <;> cases decide (k = 6) <;> decide
  rw [hk]
  cases F_l02Is ap <;> cases F_l02Is bp <;> rfl
theorem JoinFormulas_len (k : Int) (ap bp : List Int) : (F_JoinFormulas k ap bp).1.length ≤ 81 := by
  unfold F_JoinFormulas
  by_cases h : 40 < (((F_join k ap bp).length / 2 : Nat) : Int)
  · cases F_areFormulas [ap, bp] <;> cases decide (F_partsOf k = 2) <;> simp only [decide_eq_true h, Bool.not_true, Bool.not_false, cond_true, cond_false, List.length_nil] <;> omega
  · cases F_areFormulas [ap, bp] <;> cases decide (F_partsOf k = 2) <;> simp only [decide_eq_false h, Bool.not_true, Bool.not_false, cond_true, cond_false, List.length_nil] <;> omega
theorem l02Pair_ev {k : Int} {ap bp : List Int} (ha : ap.length % 2 = 0) (hb : bp.length % 2 = 0) : (F_l02Pair k ap bp).length % 2 = 0 := by rw [l02Pair_len]; omega
theorem JoinFormulas_ev (k : Int) (ap bp : List Int) (ha : ap.length % 2 = 0) (hb : bp.length % 2 = 0) : (F_JoinFormulas k ap bp).1.length % 2 = 0 := by
  have h0 := l02Pair_ev (k := k) ha hb
  unfold F_JoinFormulas
  rw [join_pair]
  cases F_areFormulas [ap, bp]
  · rfl
  · cases decide (F_partsOf k = 2)
    · rfl
    · cases decide (40 < (((F_l02Pair k ap bp).length / 2 : Nat) : Int))
      · exact h0
      · rfl
theorem s_JoinFormulas_len (k : Int) (ap bp : List Int) : (F_s_JoinFormulas k ap bp).1.length ≤ 81 := by
  rw [← JoinFormulas_eq]; exact JoinFormulas_len k ap bp
def F_l_sameNodes9_L1b (ap : List Int) (bp : List Int) (rec : Int → Except (Bool) (Int)) (i5 : Int) : Except (Bool) (Int) :=
  bif (decide (i5 < (((ap).length / 2 : Nat) : Int))) then (bif (!(decide (gS 2 0 ap i5 = gS 2 0 bp i5) && decide (gS 2 1 ap i5 = gS 2 1 bp i5))) then (.error false) else (rec (i5 + 1))) else (.ok i5)
def F_l_sameNodes9_L1 (ap : List Int) (bp : List Int) : Nat → Int → Except (Bool) (Int)
  | 0, i5 => .ok i5
  | r + 1, i5 => F_l_sameNodes9_L1b ap bp (F_l_sameNodes9_L1 ap bp r) i5
def F_l_sameNodes9 (ap : List Int) (bp : List Int) : Bool :=
  bif (!decide ((((ap).length / 2 : Nat) : Int) = (((bp).length / 2 : Nat) : Int))) then false else (bif (isOk (F_l_sameNodes9_L1 ap bp (Int.toNat ((((ap).length / 2 : Nat) : Int) - 0) + 1) 0)) then true else (errD (F_l_sameNodes9_L1 ap bp (Int.toNat ((((ap).length / 2 : Nat) : Int) - 0) + 1) 0)))
theorem cf_l_sameNodes9 (args : Array Value) (w : World) : (callFunc 63 args).run Try.prog w = .ok (.enter 63 args) w := by kernel_rfl
set_option maxRecDepth 100000 in
theorem c_l_sameNodes9 (apA : Option Addr) (apN apC : Nat) (ap : List Int) (bpA : Option Addr) (bpN bpC : Nat) (bp : List Int) (w : World) (apR : RdS w 2 apA apN apC ap) (bpR : RdS w 2 bpA bpN bpC bp) :
    Calls Try.prog 63 #[.slice apA apN apC, .slice bpA bpN bpC] w (Ret fun v w' => v = .bool (F_l_sameNodes9 ap bp) ∧ Ext w w') := by
  obtain rfl : apN = ap.length / 2 := (apR.lenD (by decide)).symm
  have apEv := apR.ev (by decide)
  have apLe := apR.le
  obtain rfl : bpN = bp.length / 2 := (bpR.lenD (by decide)).symm
  have bpEv := bpR.ev (by decide)
  have bpLe := bpR.le
  have hS := St.nil w
  have hS1 := St.rd0 hS rfl apR; clear hS
  have hS2 := St.rd0 hS1 rfl bpR; clear hS1
  refine enter (args := [.slice apA ((ap).length / 2 : Nat) apC, .slice bpA ((bp).length / 2 : Nat) bpC]) Try.func63 rfl rfl ?_
  rw [Try.ntmps63]; intro a hE
  have hE := hE.sub (L' := [(0, .slice apA ((ap).length / 2 : Nat) apC), (1, .slice bpA ((bp).length / 2 : Nat) bpC)]) ⟨rfl, rfl, trivial⟩
  refine c_seq ?_
  refine c_reg ?_
  refine q_step (v := .bool false) hE (y_assign rfl) rfl rfl rfl ?_; intro a3 hE4; clear hE
  refine c_nil ?_
  have hE5 := hE4.sub (L' := [(0, .slice apA ((ap).length / 2 : Nat) apC), (1, .slice bpA ((bp).length / 2 : Nat) bpC)]) ⟨rfl, rfl, trivial⟩; clear hE4
  refine p_tn ?_
  refine c_seq ?_
  refine c_seq ?_
  refine c_reg ?_
  refine q_step (v := .slice apA ((ap).length / 2 : Nat) apC) hE5 (y_move rfl) rfl rfl rfl ?_; intro a6 hE7; clear hE5
  refine q_step (v := .int .i64 (((ap).length / 2 : Nat) : Int)) hE7 (y_len (e := 94) (by kernel_rfl) rfl) rfl rfl rfl ?_; intro a8 hE9; clear hE7
  refine q_step (v := .slice bpA ((bp).length / 2 : Nat) bpC) hE9 (y_move rfl) rfl rfl rfl ?_; intro a10 hE11; clear hE9
  refine q_step (v := .int .i64 (((bp).length / 2 : Nat) : Int)) hE11 (y_len (e := 94) (by kernel_rfl) rfl) rfl rfl rfl ?_; intro a12 hE13; clear hE11
  refine q_step (v := .bool (!decide ((((ap).length / 2 : Nat) : Int) = (((bp).length / 2 : Nat) : Int)))) hE13 (y_neq rfl rfl) rfl rfl rfl ?_; intro a14 hE15; clear hE13
  refine c_nil ?_
  have hE16 := hE15.sub (L' := [(0, .slice apA ((ap).length / 2 : Nat) apC), (1, .slice bpA ((bp).length / 2 : Nat) bpC), (10, .bool (!decide ((((ap).length / 2 : Nat) : Int) = (((bp).length / 2 : Nat) : Int))))]) ⟨rfl, rfl, rfl, trivial⟩; clear hE15
  refine p_tn ?_
  refine c_cond hE16 rfl (fun ht17 => ?_) (fun ht17 => ?_)
  ·
   have ht18 := bn_t ht17
   have hp19 := of_decide_eq_false ht18
   have hE20 := hE16; rw [ht17] at hE20; clear hE16
   refine c_seq ?_
   refine c_reg ?_
   refine q_step (v := .bool false) hE20 (y_assign rfl) rfl rfl rfl ?_; intro a21 hE22; clear hE20
   refine c_nil ?_
   have hE23 := hE22.sub (L' := [(4, .bool false)]) ⟨rfl, trivial⟩; clear hE22
   refine p_tn ?_
   refine wp_ret ?_
   refine p_tr ?_
   have hF : F_l_sameNodes9 ap bp = false := by unfold F_l_sameNodes9; rw [ht17]; first | done | rfl
   refine c_ret1 hE23 rfl rfl ?_
   exact ⟨(by rw [hF]; first | done | (dsimp only; done) | rfl), hS2.ext⟩
  ·
   have ht24 := bn_f ht17
   have hp25 := of_decide_eq_true ht24
   have hE26 := hE16; rw [ht17] at hE26; clear hE16
   refine wp_skip ?_
   refine p_tn ?_
   refine c_seq ?_
   refine c_seq ?_
   refine c_reg ?_
   refine q_step (v := .int .i64 0) hE26 (y_assign rfl) rfl rfl rfl ?_; intro a27 hE28; clear hE26
   refine c_nil ?_
   have hE29 := hE28.sub (L' := [(0, .slice apA ((ap).length / 2 : Nat) apC), (1, .slice bpA ((bp).length / 2 : Nat) bpC), (5, .int .i64 0)]) ⟨rfl, rfl, rfl, trivial⟩; clear hE28
   refine p_tn ?_
   refine c_cut1 (fun a' w' => isOk (F_l_sameNodes9_L1 ap bp (Int.toNat ((((ap).length / 2 : Nat) : Int) - 0) + 1) 0) = true ∧ (0 ≤ (okD (F_l_sameNodes9_L1 ap bp (Int.toNat ((((ap).length / 2 : Nat) : Int) - 0) + 1) 0))) ∧ ((okD (F_l_sameNodes9_L1 ap bp (Int.toNat ((((ap).length / 2 : Nat) : Int) - 0) + 1) 0)) ≤ (((ap).length / 2 : Nat) : Int)) ∧ E a' 26 [(0, .slice apA ((ap).length / 2 : Nat) apC), (1, .slice bpA ((bp).length / 2 : Nat) bpC), (5, .int .i64 (okD (F_l_sameNodes9_L1 ap bp (Int.toNat ((((ap).length / 2 : Nat) : Int) - 0) + 1) 0)))] ∧ St w w' [.rd 2 bpA ((bp).length / 2 : Nat) bpC bp, .rd 2 apA ((ap).length / 2 : Nat) apC ap]) ?_ ?_
   ·
    refine wp_block ?_
    refine c_loop (fun r a' w' => ∃ i5 : Int, F_l_sameNodes9_L1 ap bp r i5 = F_l_sameNodes9_L1 ap bp (Int.toNat ((((ap).length / 2 : Nat) : Int) - 0) + 1) 0 ∧ Int.toNat ((((ap).length / 2 : Nat) : Int) - i5) < r ∧ (0 ≤ i5) ∧ (i5 ≤ (((ap).length / 2 : Nat) : Int)) ∧ E a' 26 [(0, .slice apA ((ap).length / 2 : Nat) apC), (1, .slice bpA ((bp).length / 2 : Nat) bpC), (5, .int .i64 i5)] ∧ St w w' [.rd 2 bpA ((bp).length / 2 : Nat) bpC bp, .rd 2 apA ((ap).length / 2 : Nat) apC ap]) (r := (Int.toNat ((((ap).length / 2 : Nat) : Int) - 0) + 1)) ?_ ?_
    · exact ⟨0, rfl, Nat.lt_succ_self _, (by first | omega | (simp only [sS_len, sL_len]; omega) | (simp only [List.length_replicate, sI_len]; omega) | (simp only [List.length_append, List.length_cons, List.length_nil, sI_len, cond_true, cond_false]; omega) | (simp only [List.length_append, List.length_cons, List.length_nil, sI_len, cond_eq_ite, apply_ite List.length]; split <;> simp only [List.length_append, List.length_cons, List.length_nil, sI_len] <;> omega) | grind), (by first | omega | (simp only [sS_len, sL_len]; omega) | (simp only [List.length_replicate, sI_len]; omega) | (simp only [List.length_append, List.length_cons, List.length_nil, sI_len, cond_true, cond_false]; omega) | (simp only [List.length_append, List.length_cons, List.length_nil, sI_len, cond_eq_ite, apply_ite List.length]; split <;> simp only [List.length_append, List.length_cons, List.length_nil, sI_len] <;> omega) | grind), (hE29.sub (L' := [(0, .slice apA ((ap).length / 2 : Nat) apC), (1, .slice bpA ((bp).length / 2 : Nat) bpC), (5, .int .i64 0)]) ⟨rfl, rfl, rfl, trivial⟩), (St.pick (Γ' := [.rd 2 bpA ((bp).length / 2 : Nat) bpC bp, .rd 2 apA ((ap).length / 2 : Nat) apC ap]) hS2 [0, 1] (by decide) rfl)⟩
    ·
     clear hE29 hS2
     rintro r39 a31 w32 ⟨i5, hT35, hr36, hi37, hi38, hE33, hS34⟩
     obtain ⟨r39, rfl⟩ : ∃ r', r39 = r' + 1 := ⟨r39 - 1, by omega⟩
     refine c_seq ?_
     refine c_seq ?_
     refine c_reg ?_
     refine q_step (v := .int .i64 i5) hE33 (y_move rfl) rfl rfl rfl ?_; intro a40 hE41; clear hE33
     refine q_step (v := .slice apA ((ap).length / 2 : Nat) apC) hE41 (y_move rfl) rfl rfl rfl ?_; intro a42 hE43; clear hE41
     refine q_step (v := .int .i64 (((ap).length / 2 : Nat) : Int)) hE43 (y_len (e := 94) (by kernel_rfl) rfl) rfl rfl rfl ?_; intro a44 hE45; clear hE43
     refine q_step (v := .bool (decide (i5 < (((ap).length / 2 : Nat) : Int)))) hE45 (y_lss rfl rfl) rfl rfl rfl ?_; intro a46 hE47; clear hE45
     refine c_nil ?_
     have hE48 := hE47.sub (L' := [(0, .slice apA ((ap).length / 2 : Nat) apC), (1, .slice bpA ((bp).length / 2 : Nat) bpC), (5, .int .i64 i5), (14, .bool (decide (i5 < (((ap).length / 2 : Nat) : Int))))]) ⟨rfl, rfl, rfl, rfl, trivial⟩; clear hE47
     refine p_tn ?_
     refine c_cond hE48 rfl (fun ht49 => ?_) (fun ht49 => ?_)
     ·
      have hp50 := of_decide_eq_true ht49
      have hE51 := hE48; rw [ht49] at hE51; clear hE48
      refine wp_skip ?_
      refine p_tn ?_
      refine c_seq ?_
      refine wp_block ?_
      refine c_seq ?_
      refine d_start (fun w w' => (fun w' => rngA w' (adr apA (Int.toNat i5 * 2)) [.int .i64 (gS 2 0 ap i5), .int .i64 (gS 2 1 ap i5)] ∧ rngA w' (adr bpA (Int.toNat i5 * 2)) [.int .i64 (gS 2 0 bp i5), .int .i64 (gS 2 1 bp i5)] ∧ True) w → (fun w' => rngA w' (adr apA (Int.toNat i5 * 2)) [.int .i64 (gS 2 0 ap i5), .int .i64 (gS 2 1 ap i5)] ∧ rngA w' (adr bpA (Int.toNat i5 * 2)) [.int .i64 (gS 2 0 bp i5), .int .i64 (gS 2 1 bp i5)] ∧ True) w') [3, 7] 9 (by kernel_rfl) rfl ?_
      intro w52 he53; have hS54 := St.go hS34 he53; clear hS34
      refine d_pure (fun _ h => h) (v := .slice apA ((ap).length / 2 : Nat) apC) 0 rfl hE51 (y_move rfl) rfl (by kernel_rfl) (by kernel_rfl) (by kernel_rfl) rfl rfl (fun _ _ _ h => h) ?_; intro a55 hE56; clear hE51
      refine d_pure (fun _ h => h) (v := .int .i64 i5) 1 rfl hE56 (y_move rfl) rfl (by kernel_rfl) (by kernel_rfl) (by kernel_rfl) rfl rfl (fun _ _ _ h => h) ?_; intro a57 hE58; clear hE56
      refine d_pure (fun _ h => h) (v := .pointer (some (adr apA (Int.toNat i5 * 2)))) 2 rfl hE58 (y_idx (by kernel_rfl) (fun _ => by kernel_rfl) rfl rfl (RdS.isS (m := i5) (St.rdR (i := 1) hS54 rfl) (by omega) (by omega)) (by omega) (by omega) rfl) rfl (by kernel_rfl) (by kernel_rfl) (by kernel_rfl) rfl rfl (fun _ _ _ h => h) ?_; intro a59 hE60; clear hE58
      refine d_take (fun _ h => h) (fun _ _ h k => h k) (v := .agg #[.int .i64 (gS 2 0 ap i5), .int .i64 (gS 2 1 ap i5)]) 3 rfl hE60 (S := fun w' => rngA w' (adr apA (Int.toNat i5 * 2)) [.int .i64 (gS 2 0 ap i5), .int .i64 (gS 2 1 ap i5)] ∧ rngA w' (adr bpA (Int.toNat i5 * 2)) [.int .i64 (gS 2 0 bp i5), .int .i64 (gS 2 1 bp i5)] ∧ True) ⟨(RdS.rng2 (St.rdR (i := 1) hS54 rfl) (by omega) (by omega) _ (Ext.refl _)), (RdS.rng2 (St.rdR (i := 0) hS54 rfl) (by omega) (by omega) _ (Ext.refl _)), trivial⟩ (y_loadE Try.underlying94 rfl (by kernel_rfl) rfl (fun _ h => h.1)) rfl rfl (by kernel_rfl) (by kernel_rfl) (by kernel_rfl) (by kernel_rfl) rfl rfl (fun _ _ _ h => h) ?_; intro a61 hE62; clear hE60
      refine d_pure (fun _ h => h) (v := .slice bpA ((bp).length / 2 : Nat) bpC) 4 rfl hE62 (y_move rfl) rfl (by kernel_rfl) (by kernel_rfl) (by kernel_rfl) rfl rfl (fun _ _ _ h => h) ?_; intro a63 hE64; clear hE62
      refine d_pure (fun _ h => h) (v := .int .i64 i5) 5 rfl hE64 (y_move rfl) rfl (by kernel_rfl) (by kernel_rfl) (by kernel_rfl) rfl rfl (fun _ _ _ h => h) ?_; intro a65 hE66; clear hE64
      refine d_pure (fun _ h => h) (v := .pointer (some (adr bpA (Int.toNat i5 * 2)))) 6 rfl hE66 (y_idx (by kernel_rfl) (fun _ => by kernel_rfl) rfl rfl (RdS.isS (m := i5) (St.rdR (i := 0) hS54 rfl) (by omega) (by omega)) (by omega) (by omega) rfl) rfl (by kernel_rfl) (by kernel_rfl) (by kernel_rfl) rfl rfl (fun _ _ _ h => h) ?_; intro a67 hE68; clear hE66
      refine d_take (fun _ h => h) (fun _ _ h k => h k) (v := .agg #[.int .i64 (gS 2 0 bp i5), .int .i64 (gS 2 1 bp i5)]) 7 rfl hE68 (S := fun w' => rngA w' (adr apA (Int.toNat i5 * 2)) [.int .i64 (gS 2 0 ap i5), .int .i64 (gS 2 1 ap i5)] ∧ rngA w' (adr bpA (Int.toNat i5 * 2)) [.int .i64 (gS 2 0 bp i5), .int .i64 (gS 2 1 bp i5)] ∧ True) ⟨(RdS.rng2 (St.rdR (i := 1) hS54 rfl) (by omega) (by omega) _ (Ext.refl _)), (RdS.rng2 (St.rdR (i := 0) hS54 rfl) (by omega) (by omega) _ (Ext.refl _)), trivial⟩ (y_loadE Try.underlying94 rfl (by kernel_rfl) rfl (fun _ h => h.2.1)) rfl rfl (by kernel_rfl) (by kernel_rfl) (by kernel_rfl) (by kernel_rfl) rfl rfl (fun _ _ _ h => h) ?_; intro a69 hE70; clear hE68
      refine d_pure (fun _ h => h) (v := .bool (!(decide (gS 2 0 ap i5 = gS 2 0 bp i5) && decide (gS 2 1 ap i5 = gS 2 1 bp i5)))) 8 rfl hE70 (y_neqN (by kernel_rfl) (by kernel_rfl) (by kernel_rfl) (by kernel_rfl) rfl rfl) rfl (by kernel_rfl) (by kernel_rfl) (by kernel_rfl) rfl rfl (fun _ _ _ h => h) ?_; intro a71 hE72; clear hE70
      refine d_done (by kernel_rfl) ?_
      have hE73 := hE72.sub (L' := [(0, .slice apA ((ap).length / 2 : Nat) apC), (1, .slice bpA ((bp).length / 2 : Nat) bpC), (5, .int .i64 i5), (25, .bool (!(decide (gS 2 0 ap i5 = gS 2 0 bp i5) && decide (gS 2 1 ap i5 = gS 2 1 bp i5))))]) ⟨rfl, rfl, rfl, rfl, trivial⟩; clear hE72
      refine p_tn ?_
      refine c_cond hE73 rfl (fun ht74 => ?_) (fun ht74 => ?_)
      ·
       have ht75 := bn_t ht74
       have hE76 := hE73; rw [ht74] at hE76; clear hE73
       refine c_seq ?_
       refine c_reg ?_
       refine q_step (v := .bool false) hE76 (y_assign rfl) rfl rfl rfl ?_; intro a77 hE78; clear hE76
       refine c_nil ?_
       have hE79 := hE78.sub (L' := [(4, .bool false)]) ⟨rfl, trivial⟩; clear hE78
       refine p_tn ?_
       refine wp_ret ?_
       refine p_br ?_
       refine p_tr ?_
       have hX80 : F_l_sameNodes9_L1 ap bp (Int.toNat ((((ap).length / 2 : Nat) : Int) - 0) + 1) 0 = .error false := hT35.symm.trans (show F_l_sameNodes9_L1b ap bp (F_l_sameNodes9_L1 ap bp r39) i5 = .error false by unfold F_l_sameNodes9_L1b; rw [ht74, ht49]; first | done | rfl)
       refine p_tr (p_br (p_tr ?_))
       refine p_tr ?_
       have hF : F_l_sameNodes9 ap bp = false := by unfold F_l_sameNodes9; rw [hX80, ht17]; first | done | rfl
       refine c_ret1 hE79 rfl rfl ?_
       exact ⟨(by rw [hF]; first | done | (dsimp only; done) | rfl), hS54.ext⟩
      ·
       have ht81 := bn_f ht74
       obtain ⟨ht82, ht83⟩ := band_t ht81
       have hp84 := of_decide_eq_true ht82
       have hp85 := of_decide_eq_true ht83
       have hE86 := hE73; rw [ht74] at hE86; clear hE73
       refine wp_skip ?_
       refine p_bn ?_
       refine p_tn ?_
       refine c_reg ?_
       refine q_step (v := .int .i64 i5) hE86 (y_move rfl) rfl rfl rfl ?_; intro a87 hE88; clear hE86
       refine q_step (v := .int .i64 (i5 + 1)) hE88 (y_add rfl rfl ⟨(by omega), (by omega)⟩) rfl rfl rfl ?_; intro a89 hE90; clear hE88
       refine q_step (v := .int .i64 (i5 + 1)) hE90 (y_assign rfl) rfl rfl rfl ?_; intro a91 hE92; clear hE90
       refine c_nil ?_
       have hE93 := hE92.sub (L' := [(0, .slice apA ((ap).length / 2 : Nat) apC), (1, .slice bpA ((bp).length / 2 : Nat) bpC), (5, .int .i64 (i5 + 1))]) ⟨rfl, rfl, rfl, trivial⟩; clear hE92
       refine p_tn ⟨r39, Nat.lt_succ_self _, i5 + 1, (hT35.symm.trans (show F_l_sameNodes9_L1b ap bp (F_l_sameNodes9_L1 ap bp r39) i5 = F_l_sameNodes9_L1 ap bp r39 (i5 + 1) by unfold F_l_sameNodes9_L1b; rw [ht74, ht49]; first | done | rfl)).symm, (by omega), (by first | omega | (simp only [sS_len, sL_len]; omega) | (simp only [List.length_replicate, sI_len]; omega) | (simp only [List.length_append, List.length_cons, List.length_nil, sI_len, cond_true, cond_false]; omega) | (simp only [List.length_append, List.length_cons, List.length_nil, sI_len, cond_eq_ite, apply_ite List.length]; split <;> simp only [List.length_append, List.length_cons, List.length_nil, sI_len] <;> omega) | grind), (by first | omega | (simp only [sS_len, sL_len]; omega) | (simp only [List.length_replicate, sI_len]; omega) | (simp only [List.length_append, List.length_cons, List.length_nil, sI_len, cond_true, cond_false]; omega) | (simp only [List.length_append, List.length_cons, List.length_nil, sI_len, cond_eq_ite, apply_ite List.length]; split <;> simp only [List.length_append, List.length_cons, List.length_nil, sI_len] <;> omega) | grind), (hE93.sub (L' := [(0, .slice apA ((ap).length / 2 : Nat) apC), (1, .slice bpA ((bp).length / 2 : Nat) bpC), (5, .int .i64 (i5 + 1))]) ⟨rfl, rfl, rfl, trivial⟩), (St.pick (Γ' := [.rd 2 bpA ((bp).length / 2 : Nat) bpC bp, .rd 2 apA ((ap).length / 2 : Nat) apC ap]) hS54 [0, 1] (by decide) rfl)⟩
     ·
      have hp94 := of_decide_eq_false ht49
      have hE95 := hE48; rw [ht49] at hE95; clear hE48
      refine wp_exit ?_
      refine p_te ?_
      have hX96 : F_l_sameNodes9_L1 ap bp (Int.toNat ((((ap).length / 2 : Nat) : Int) - 0) + 1) 0 = .ok i5 := hT35.symm.trans (show F_l_sameNodes9_L1b ap bp (F_l_sameNodes9_L1 ap bp r39) i5 = .ok i5 by unfold F_l_sameNodes9_L1b; rw [ht49]; first | done | rfl)
      refine p_te (p_be (p_tn ?_))
      exact ⟨(by rw [hX96]; rfl), (by rw [hX96]; exact (show 0 ≤ i5 from (by first | omega | (simp only [sS_len, sL_len]; omega) | (simp only [List.length_replicate, sI_len]; omega) | (simp only [List.length_append, List.length_cons, List.length_nil, sI_len, cond_true, cond_false]; omega) | (simp only [List.length_append, List.length_cons, List.length_nil, sI_len, cond_eq_ite, apply_ite List.length]; split <;> simp only [List.length_append, List.length_cons, List.length_nil, sI_len] <;> omega) | grind))), (by rw [hX96]; exact (show i5 ≤ (((ap).length / 2 : Nat) : Int) from (by first | omega | (simp only [sS_len, sL_len]; omega) | (simp only [List.length_replicate, sI_len]; omega) | (simp only [List.length_append, List.length_cons, List.length_nil, sI_len, cond_true, cond_false]; omega) | (simp only [List.length_append, List.length_cons, List.length_nil, sI_len, cond_eq_ite, apply_ite List.length]; split <;> simp only [List.length_append, List.length_cons, List.length_nil, sI_len] <;> omega) | grind))), (by rw [hX96]; exact (hE95.sub (L' := [(0, .slice apA ((ap).length / 2 : Nat) apC), (1, .slice bpA ((bp).length / 2 : Nat) bpC), (5, .int .i64 i5)]) ⟨rfl, rfl, rfl, trivial⟩)), (St.pick (Γ' := [.rd 2 bpA ((bp).length / 2 : Nat) bpC bp, .rd 2 apA ((ap).length / 2 : Nat) apC ap]) hS34 [0, 1] (by decide) rfl)⟩
   ·
    rintro a97 w98 ⟨hO101, hi102, hi103, hE99, hS100⟩; clear hE29 hS2
    refine p_tn ?_
    refine c_seq ?_
    refine c_reg ?_
    refine q_step (v := .bool true) hE99 (y_assign rfl) rfl rfl rfl ?_; intro a104 hE105; clear hE99
    refine c_nil ?_
    have hE106 := hE105.sub (L' := [(4, .bool true)]) ⟨rfl, trivial⟩; clear hE105
    refine p_tn ?_
    refine wp_ret ?_
    have hF : F_l_sameNodes9 ap bp = true := by unfold F_l_sameNodes9; rw [hO101, ht17]; first | done | rfl
    refine c_ret1 hE106 rfl rfl ?_
    exact ⟨(by rw [hF]; first | done | (dsimp only; done) | rfl), hS100.ext⟩
theorem l02Is_q {ap : List Int} (h : F_l02Is ap = true) : ∀ i : Int, 0 ≤ i → i < ((ap.length / 2 : Nat) : Int) → 0 ≤ gS 2 0 ap i ∧ gS 2 0 ap i ≤ 6 := fun i h0 h1 => by
  have ht : F_l02Tree ap = true := by unfold F_l02Is at h; simp only [Bool.and_eq_true] at h; exact h.2
  unfold F_l02Tree at ht
  rw [allE (F_l02Tree_L1 ap) false ((ap.length / 2 : Nat) : Int) (fun i3 => ((!(F_l01In (gS 2 0 ap i3) 0 6)) || ((!(F_l01In (gS 2 1 ap i3) 0 5)) || ((!decide ((gS 2 0 ap i3) = 0)) && (!decide ((gS 2 1 ap i3) = 0)))))) (by omega) (fun _ _ _ _ => rfl), isOk_bif] at ht
  cases ha : (List.range ((ap.length / 2 : Nat) : Int).toNat).all (fun (j : Nat) => !((!(F_l01In (gS 2 0 ap (j : Int)) 0 6)) || ((!(F_l01In (gS 2 1 ap (j : Int)) 0 5)) || ((!decide ((gS 2 0 ap (j : Int)) = 0)) && (!decide ((gS 2 1 ap (j : Int)) = 0))))))
  · rw [ha] at ht; cases ht
  · rw [List.all_eq_true] at ha
    have := ha i.toNat (List.mem_range.2 (by omega))
    rw [show ((i.toNat : Nat) : Int) = i by omega] at this
    unfold F_l01In at this
    simp only [Bool.not_or, Bool.not_not, Bool.and_eq_true, decide_eq_true_eq, Bool.not_and, Bool.or_eq_true] at this
    exact this.1
theorem isFm_q {ap : List Int} (he : ap.length = ap.length / 2 * 2) (h : F_isFormula ap = true) : ∀ i : Int, 0 ≤ i → i < ((ap.length / 2 : Nat) : Int) → 0 ≤ gS 2 0 ap i ∧ gS 2 0 ap i ≤ 6 := l02Is_q (by rw [← isFormula_eq]; exact h)
theorem kc_init : ∀ m : Int, 0 ≤ gI (List.replicate (Int.toNat 7) 0) m ∧ gI (List.replicate (Int.toNat 7) 0) m ≤ 0 := fun m => by
  have : gI (List.replicate (Int.toNat 7) 0) m = 0 := by
    unfold gI gi
    rw [List.getD_eq_getElem?_getD, List.getElem?_replicate]
    split <;> rfl
  omega
theorem gI_sI9 (xs : List Int) (t v m : Int) : gI (sI xs t v) m = v ∨ gI (sI xs t v) m = gI xs m := by
  unfold gI gi sI
  rw [List.getD_eq_getElem?_getD, List.getD_eq_getElem?_getD, List.getElem?_set]
  split
  · split
    · left; rfl
    · rename_i h1 h2; right; rw [List.getElem?_eq_none (by omega)]
  · right; rfl
theorem kc_step {out : List Int} {t k : Int} (h : ∀ m : Int, 0 ≤ gI out m ∧ gI out m ≤ t) : ∀ m : Int, 0 ≤ gI (sI out k (gI out k + 1)) m ∧ gI (sI out k (gI out k + 1)) m ≤ t + 1 := fun m => by
  have h1 := h m
  have h2 := h k
  rcases gI_sI9 out k (gI out k + 1) m with e | e <;> rw [e] <;> omega
def F_KindCounts_L1b (ap : List Int) (rec : Int → (List Int) → Int × (List Int)) (t13 : Int) (out4 : List Int) : Int × (List Int) :=
  bif (decide (t13 < (((ap).length / 2 : Nat) : Int))) then (rec (t13 + 1) (sI out4 (gS 2 0 ap t13) ((gI out4 (gS 2 0 ap t13)) + 1))) else (t13, out4)
def F_KindCounts_L1 (ap : List Int) : Nat → Int → (List Int) → Int × (List Int)
  | 0, t13, out4 => (t13, out4)
  | r + 1, t13, out4 => F_KindCounts_L1b ap (F_KindCounts_L1 ap r) t13 out4
def F_KindCounts (ap : List Int) : (List Int) × (Int) :=
  bif (!(F_isFormula ap)) then ([], 1) else ((F_KindCounts_L1 ap (Int.toNat ((((ap).length / 2 : Nat) : Int) - 0) + 1) 0 (List.replicate (Int.toNat 7) 0)).2, 0)
theorem cf_KindCounts (args : Array Value) (w : World) : (callFunc 64 args).run Try.prog w = .ok (.enter 64 args) w := by kernel_rfl
set_option maxRecDepth 100000 in
theorem c_KindCounts (apA : Option Addr) (apN apC : Nat) (ap : List Int) (w : World) (apR : RdS w 2 apA apN apC ap) (hl : ap.length ≤ 4194304) :
    Calls Try.prog 64 #[.slice apA apN apC] w (Ret fun v w' => ∃ b1 : Option Addr, ∃ c1 : Nat, v = .tuple #[.slice b1 ((F_KindCounts ap).1).length c1, .int .i64 ((F_KindCounts ap).2)] ∧ OwnS w' w.heap.size 2 1 b1 ((F_KindCounts ap).1).length c1 ((F_KindCounts ap).1) ∧ Ext w w') := by
  obtain rfl : apN = ap.length / 2 := (apR.lenD (by decide)).symm
  have apEv := apR.ev (by decide)
  have apLe := apR.le
  have hS := St.nil w
  have hS1 := St.rd0 hS rfl apR; clear hS
  refine enter (args := [.slice apA ((ap).length / 2 : Nat) apC]) Try.func64 rfl rfl ?_
  rw [Try.ntmps64]; intro a hE
  have hE := hE.sub (L' := [(0, .slice apA ((ap).length / 2 : Nat) apC)]) ⟨rfl, trivial⟩
  refine c_seq ?_
  refine c_reg ?_
  refine q_step (v := .slice none 0 0) hE (y_assign rfl) rfl rfl rfl ?_; intro a2 hE3; clear hE
  refine q_step (v := .int .i64 0) hE3 (y_assign rfl) rfl rfl rfl ?_; intro a4 hE5; clear hE3
  refine c_nil ?_
  have hE6 := hE5.sub (L' := [(0, .slice apA ((ap).length / 2 : Nat) apC)]) ⟨rfl, trivial⟩; clear hE5
  refine p_tn ?_
  refine c_seq ?_
  refine c_seq ?_
  refine c_reg ?_
  refine q_step (v := .slice apA ((ap).length / 2 : Nat) apC) hE6 (y_move rfl) rfl rfl rfl ?_; intro a7 hE8; clear hE6
  refine l_step hE8 rfl (l_call (f := 74) (argv := [.slice apA ((ap).length / 2 : Nat) apC]) hE8 (fun _ => cf_isFormula _ _) rfl rfl (c_isFormula apA ((ap).length / 2 : Nat) apC ap w (St.rdR (i := 0) hS1 rfl) (by omega)) ?_)
  rintro _ w10 ⟨rfl, he14⟩ a11 hE12; clear hE8
  have hS13 := St.go hS1 he14; clear hS1
  refine q_step (v := .bool (!(F_isFormula ap))) hE12 (y_not rfl) rfl rfl rfl ?_; intro a15 hE16; clear hE12
  refine c_nil ?_
  have hE17 := hE16.sub (L' := [(0, .slice apA ((ap).length / 2 : Nat) apC), (9, .bool (!(F_isFormula ap)))]) ⟨rfl, rfl, trivial⟩; clear hE16
  refine p_tn ?_
  refine c_cond hE17 rfl (fun ht18 => ?_) (fun ht18 => ?_)
  ·
   have ht19 := bn_t ht18
   have hE20 := hE17; rw [ht18] at hE20; clear hE17
   refine c_seq ?_
   refine c_reg ?_
   refine q_step (v := .slice none 0 0) hE20 (y_assign rfl) rfl rfl rfl ?_; intro a21 hE22; clear hE20
   refine q_step (v := .int .i64 1) hE22 (y_assign rfl) rfl rfl rfl ?_; intro a23 hE24; clear hE22
   refine c_nil ?_
   have hE25 := hE24.sub (L' := [(2, .slice none 0 0), (3, .int .i64 1)]) ⟨rfl, rfl, trivial⟩; clear hE24
   refine p_tn ?_
   refine wp_ret ?_
   refine p_tr ?_
   have hF : F_KindCounts ap = ([], 1) := by unfold F_KindCounts; rw [ht18]; first | done | rfl
   refine c_ret2 hE25 rfl rfl rfl ?_
   exact ⟨none, 0, (by rw [hF]; first | done | (dsimp only; done) | rfl), (by rw [hF]; (try dsimp only); exact OwnS.nilS _ _ _ _), hS13.ext⟩
  ·
   have ht26 := bn_f ht18
   have hp27 := isFm_f apEv ht26
   have hE28 := hE17; rw [ht18] at hE28; clear hE17
   refine wp_skip ?_
   refine p_tn ?_
   refine c_seq ?_
   refine c_reg ?_
   refine l_step hE28 rfl (l_make (e := 2) (m := 7) hS13 hE28 (by kernel_rfl) (by kernel_rfl) rfl rfl (by omega) (by omega) rfl ?_)
   intro b29 w30 hS33 he34 a31 hE32; clear hS13 hE28
   refine q_step (v := .slice b29 (Int.toNat 7) (Int.toNat 7)) hE32 (y_assign rfl) rfl rfl rfl ?_; intro a35 hE36; clear hE32
   refine c_nil ?_
   have hE37 := hE36.sub (L' := [(0, .slice apA ((ap).length / 2 : Nat) apC), (4, .slice b29 (Int.toNat 7) (Int.toNat 7))]) ⟨rfl, rfl, trivial⟩; clear hE36
   refine p_tn ?_
   refine c_seq ?_
   refine c_seq ?_
   refine c_reg ?_
   refine q_step (v := .slice apA ((ap).length / 2 : Nat) apC) hE37 (y_move rfl) rfl rfl rfl ?_; intro a38 hE39; clear hE37
   refine q_step (v := .int .i64 (((ap).length / 2 : Nat) : Int)) hE39 (y_len (e := 94) (by kernel_rfl) rfl) rfl rfl rfl ?_; intro a40 hE41; clear hE39
   refine q_step (v := .int .i64 0) hE41 (y_move rfl) rfl rfl rfl ?_; intro a42 hE43; clear hE41
   refine c_nil ?_
   have hE44 := hE43.sub (L' := [(4, .slice b29 (Int.toNat 7) (Int.toNat 7)), (11, .slice apA ((ap).length / 2 : Nat) apC), (12, .int .i64 (((ap).length / 2 : Nat) : Int)), (13, .int .i64 0)]) ⟨rfl, rfl, rfl, rfl, trivial⟩; clear hE43
   refine p_tn ?_
   refine c_cut1 (fun a' w' => (0 ≤ ((F_KindCounts_L1 ap (Int.toNat ((((ap).length / 2 : Nat) : Int) - 0) + 1) 0 (List.replicate (Int.toNat 7) 0)).1)) ∧ (((F_KindCounts_L1 ap (Int.toNat ((((ap).length / 2 : Nat) : Int) - 0) + 1) 0 (List.replicate (Int.toNat 7) 0)).2).length = 7) ∧ (∀ m : Int, 0 ≤ gI ((F_KindCounts_L1 ap (Int.toNat ((((ap).length / 2 : Nat) : Int) - 0) + 1) 0 (List.replicate (Int.toNat 7) 0)).2) m ∧ gI ((F_KindCounts_L1 ap (Int.toNat ((((ap).length / 2 : Nat) : Int) - 0) + 1) 0 (List.replicate (Int.toNat 7) 0)).2) m ≤ ((F_KindCounts_L1 ap (Int.toNat ((((ap).length / 2 : Nat) : Int) - 0) + 1) 0 (List.replicate (Int.toNat 7) 0)).1)) ∧ (((F_KindCounts_L1 ap (Int.toNat ((((ap).length / 2 : Nat) : Int) - 0) + 1) 0 (List.replicate (Int.toNat 7) 0)).1) ≤ (((ap).length / 2 : Nat) : Int)) ∧ E a' 26 [(4, .slice b29 (Int.toNat 7) (Int.toNat 7)), (11, .slice apA ((ap).length / 2 : Nat) apC), (12, .int .i64 (((ap).length / 2 : Nat) : Int)), (13, .int .i64 ((F_KindCounts_L1 ap (Int.toNat ((((ap).length / 2 : Nat) : Int) - 0) + 1) 0 (List.replicate (Int.toNat 7) 0)).1))] ∧ St w w' [.own 2 1 b29 (Int.toNat 7) (Int.toNat 7) ((F_KindCounts_L1 ap (Int.toNat ((((ap).length / 2 : Nat) : Int) - 0) + 1) 0 (List.replicate (Int.toNat 7) 0)).2), .rd 2 apA ((ap).length / 2 : Nat) apC ap]) ?_ ?_
   ·
    refine wp_block ?_
    refine c_loop (fun r a' w' => ∃ t13 : Int, ∃ out4 : List Int, F_KindCounts_L1 ap r t13 out4 = F_KindCounts_L1 ap (Int.toNat ((((ap).length / 2 : Nat) : Int) - 0) + 1) 0 (List.replicate (Int.toNat 7) 0) ∧ Int.toNat ((((ap).length / 2 : Nat) : Int) - t13) < r ∧ (0 ≤ t13) ∧ (out4.length = 7) ∧ (∀ m : Int, 0 ≤ gI out4 m ∧ gI out4 m ≤ t13) ∧ (t13 ≤ (((ap).length / 2 : Nat) : Int)) ∧ E a' 26 [(4, .slice b29 (Int.toNat 7) (Int.toNat 7)), (11, .slice apA ((ap).length / 2 : Nat) apC), (12, .int .i64 (((ap).length / 2 : Nat) : Int)), (13, .int .i64 t13)] ∧ St w w' [.own 2 1 b29 (Int.toNat 7) (Int.toNat 7) out4, .rd 2 apA ((ap).length / 2 : Nat) apC ap]) (r := (Int.toNat ((((ap).length / 2 : Nat) : Int) - 0) + 1)) ?_ ?_
    · exact ⟨0, List.replicate (Int.toNat 7) 0, rfl, Nat.lt_succ_self _, (by first | omega | (simp only [sS_len, sL_len]; omega) | (simp only [List.length_replicate, sI_len]; omega) | (simp only [List.length_append, List.length_cons, List.length_nil, sI_len, cond_true, cond_false]; omega) | (simp only [List.length_append, List.length_cons, List.length_nil, sI_len, cond_eq_ite, apply_ite List.length]; split <;> simp only [List.length_append, List.length_cons, List.length_nil, sI_len] <;> omega) | grind), (by simp), (kc_init), (by first | omega | (simp only [sS_len, sL_len]; omega) | (simp only [List.length_replicate, sI_len]; omega) | (simp only [List.length_append, List.length_cons, List.length_nil, sI_len, cond_true, cond_false]; omega) | (simp only [List.length_append, List.length_cons, List.length_nil, sI_len, cond_eq_ite, apply_ite List.length]; split <;> simp only [List.length_append, List.length_cons, List.length_nil, sI_len] <;> omega) | grind), (hE44.sub (L' := [(4, .slice b29 (Int.toNat 7) (Int.toNat 7)), (11, .slice apA ((ap).length / 2 : Nat) apC), (12, .int .i64 (((ap).length / 2 : Nat) : Int)), (13, .int .i64 0)]) ⟨rfl, rfl, rfl, rfl, trivial⟩), (St.pick (Γ' := [.own 2 1 b29 (Int.toNat 7) (Int.toNat 7) (List.replicate (Int.toNat 7) 0), .rd 2 apA ((ap).length / 2 : Nat) apC ap]) hS33 [0, 1] (by decide) rfl)⟩
    ·
     clear hE44 hS33
     rintro r56 a46 w47 ⟨t13, out4, hT50, hr51, hi52, hi53, hi54, hi55, hE48, hS49⟩
     obtain ⟨r56, rfl⟩ : ∃ r', r56 = r' + 1 := ⟨r56 - 1, by omega⟩
     refine c_seq ?_
     refine c_reg ?_
     refine q_step (v := .bool (decide (t13 < (((ap).length / 2 : Nat) : Int)))) hE48 (y_lss rfl rfl) rfl rfl rfl ?_; intro a57 hE58; clear hE48
     refine c_nil ?_
     have hE59 := hE58.sub (L' := [(4, .slice b29 (Int.toNat 7) (Int.toNat 7)), (11, .slice apA ((ap).length / 2 : Nat) apC), (12, .int .i64 (((ap).length / 2 : Nat) : Int)), (13, .int .i64 t13), (14, .bool (decide (t13 < (((ap).length / 2 : Nat) : Int))))]) ⟨rfl, rfl, rfl, rfl, rfl, trivial⟩; clear hE58
     refine p_tn ?_
     refine c_seq ?_
     refine c_cond hE59 rfl (fun ht60 => ?_) (fun ht60 => ?_)
     ·
      have hp61 := of_decide_eq_true ht60
      have hE62 := hE59; rw [ht60] at hE62; clear hE59
      have hq1 := isFm_q apEv (by assumption) t13 (by omega) (by omega)
      have hq2 := (show ∀ m : Int, 0 ≤ gI out4 m ∧ gI out4 m ≤ t13 by assumption) (gS 2 0 ap t13)
      refine wp_skip ?_
      refine p_tn ?_
      refine c_seq ?_
      refine wp_block ?_
      refine c_seq ?_
      refine c_reg ?_
      refine q_step (v := .pointer (some (adr apA (Int.toNat t13 * 2)))) hE62 (y_idx (by kernel_rfl) (fun _ => by kernel_rfl) rfl rfl (RdS.isS (m := t13) (St.rdR (i := 1) hS49 rfl) (by omega) (by omega)) (by omega) (by omega) rfl) rfl rfl rfl ?_; intro a63 hE64; clear hE62
      refine q_step (v := .agg #[.int .i64 (gS 2 0 ap t13), .int .i64 (gS 2 1 ap t13)]) hE64 (y_loadE Try.underlying94 rfl (by kernel_rfl) rfl (RdS.rng2 (St.rdR (i := 1) hS49 rfl) (by omega) (by omega))) rfl rfl rfl ?_; intro a65 hE66; clear hE64
      refine l_step hE66 rfl (l_alloc (z := .agg #[.int .i64 0, .int .i64 0]) (cs := #[.int .i64 0, .int .i64 0]) hS49 hE66 (fun _ => by kernel_rfl) rfl rfl ?_)
      intro b67 w68 hS71 he72 a69 hE70; clear hS49 hE66
      refine l_step hE70 rfl (l_storeS (k := 0) (cs' := #[.int .i64 (gS 2 0 ap t13), .int .i64 (gS 2 1 ap t13)]) hS71 hE70 (by kernel_rfl) rfl rfl (by kernel_rfl) rfl rfl ?_)
      intro w74 hS77 a75 hE76; clear hS71 hE70
      refine c_nil ?_
      have hE79 := hE76.sub (L' := [(4, .slice b29 (Int.toNat 7) (Int.toNat 7)), (6, .pointer (some ⟨b67, 0, none⟩)), (11, .slice apA ((ap).length / 2 : Nat) apC), (12, .int .i64 (((ap).length / 2 : Nat) : Int)), (13, .int .i64 t13)]) ⟨rfl, rfl, rfl, rfl, rfl, trivial⟩; clear hE76
      refine p_tn ?_
      refine c_reg ?_
      refine q_step (v := .slice b29 (Int.toNat 7) (Int.toNat 7)) hE79 (y_move rfl) rfl rfl rfl ?_; intro a80 hE81; clear hE79
      refine q_step (v := .pointer (some ⟨b67, 0, none⟩)) hE81 (y_field rfl (fun _ => by kernel_rfl)) rfl rfl rfl ?_; intro a82 hE83; clear hE81
      refine q_step (v := .int .i64 (gS 2 0 ap t13)) hE83 (y_load (fun _ => by kernel_rfl) rfl (St.cell (i := 0) hS77 rfl rfl)) rfl rfl rfl ?_; intro a84 hE85; clear hE83
      refine q_step (v := .pointer (some (adr b29 (Int.toNat (gS 2 0 ap t13))))) hE85 (y_idx (by kernel_rfl) (fun _ => by kernel_rfl) rfl rfl (RdS.isS (m := gS 2 0 ap t13) (St.rdO (i := 1) hS77 rfl) (by omega) (by omega)) (by omega) (by omega) (Nat.mul_one _).symm) rfl rfl rfl ?_; intro a86 hE87; clear hE85
      refine q_step (v := .int .i64 (gI out4 (gS 2 0 ap t13))) hE87 (y_load (fun _ => by kernel_rfl) rfl (RdS.elt (St.rdO (i := 1) hS77 rfl) (by omega) (by omega))) rfl rfl rfl ?_; intro a88 hE89; clear hE87
      refine q_step (v := .int .i64 ((gI out4 (gS 2 0 ap t13)) + 1)) hE89 (y_add rfl rfl ⟨(by omega), (by omega)⟩) rfl rfl rfl ?_; intro a90 hE91; clear hE89
      refine q_step (v := .pointer (some (adr b29 (Int.toNat (gS 2 0 ap t13))))) hE91 (y_idx (by kernel_rfl) (fun _ => by kernel_rfl) rfl rfl (RdS.isS (m := gS 2 0 ap t13) (St.rdO (i := 1) hS77 rfl) (by omega) (by omega)) (by omega) (by omega) (Nat.mul_one _).symm) rfl rfl rfl ?_; intro a92 hE93; clear hE91
      refine l_step hE93 rfl (l_store (k := 1) hS77 hE93 (fun _ => by kernel_rfl) rfl rfl rfl (by omega) (by omega) ?_)
      intro w95 hS98 a96 hE97; clear hS77 hE93
      refine c_nil ?_
      have hE100 := hE97.sub (L' := [(4, .slice b29 (Int.toNat 7) (Int.toNat 7)), (11, .slice apA ((ap).length / 2 : Nat) apC), (12, .int .i64 (((ap).length / 2 : Nat) : Int)), (13, .int .i64 t13)]) ⟨rfl, rfl, rfl, rfl, trivial⟩; clear hE97
      refine p_bn ?_
      refine p_tn ?_
      refine c_reg ?_
      refine q_step (v := .int .i64 (t13 + 1)) hE100 (y_add rfl rfl ⟨(by omega), (by omega)⟩) rfl rfl rfl ?_; intro a101 hE102; clear hE100
      refine q_step (v := .int .i64 (t13 + 1)) hE102 (y_move rfl) rfl rfl rfl ?_; intro a103 hE104; clear hE102
      refine c_nil ?_
      have hE105 := hE104.sub (L' := [(4, .slice b29 (Int.toNat 7) (Int.toNat 7)), (11, .slice apA ((ap).length / 2 : Nat) apC), (12, .int .i64 (((ap).length / 2 : Nat) : Int)), (13, .int .i64 (t13 + 1))]) ⟨rfl, rfl, rfl, rfl, trivial⟩; clear hE104
      refine p_tn ⟨r56, Nat.lt_succ_self _, t13 + 1, sI out4 (gS 2 0 ap t13) ((gI out4 (gS 2 0 ap t13)) + 1), (hT50.symm.trans (show F_KindCounts_L1b ap (F_KindCounts_L1 ap r56) t13 out4 = F_KindCounts_L1 ap r56 (t13 + 1) (sI out4 (gS 2 0 ap t13) ((gI out4 (gS 2 0 ap t13)) + 1)) by unfold F_KindCounts_L1b; rw [ht60]; first | done | rfl)).symm, (by omega), (by first | omega | (simp only [sS_len, sL_len]; omega) | (simp only [List.length_replicate, sI_len]; omega) | (simp only [List.length_append, List.length_cons, List.length_nil, sI_len, cond_true, cond_false]; omega) | (simp only [List.length_append, List.length_cons, List.length_nil, sI_len, cond_eq_ite, apply_ite List.length]; split <;> simp only [List.length_append, List.length_cons, List.length_nil, sI_len] <;> omega) | grind), (by rw [sI_len]; assumption), (kc_step (by assumption)), (by first | omega | (simp only [sS_len, sL_len]; omega) | (simp only [List.length_replicate, sI_len]; omega) | (simp only [List.length_append, List.length_cons, List.length_nil, sI_len, cond_true, cond_false]; omega) | (simp only [List.length_append, List.length_cons, List.length_nil, sI_len, cond_eq_ite, apply_ite List.length]; split <;> simp only [List.length_append, List.length_cons, List.length_nil, sI_len] <;> omega) | grind), (hE105.sub (L' := [(4, .slice b29 (Int.toNat 7) (Int.toNat 7)), (11, .slice apA ((ap).length / 2 : Nat) apC), (12, .int .i64 (((ap).length / 2 : Nat) : Int)), (13, .int .i64 (t13 + 1))]) ⟨rfl, rfl, rfl, rfl, trivial⟩), (St.pick (Γ' := [.own 2 1 b29 (Int.toNat 7) (Int.toNat 7) (sI out4 (gS 2 0 ap t13) ((gI out4 (gS 2 0 ap t13)) + 1)), .rd 2 apA ((ap).length / 2 : Nat) apC ap]) hS98 [1, 2] (by decide) rfl)⟩
     ·
      have hp106 := of_decide_eq_false ht60
      have hE107 := hE59; rw [ht60] at hE107; clear hE59
      refine wp_exit ?_
      refine p_te ?_
      have hX108 : F_KindCounts_L1 ap (Int.toNat ((((ap).length / 2 : Nat) : Int) - 0) + 1) 0 (List.replicate (Int.toNat 7) 0) = (t13, out4) := hT50.symm.trans (show F_KindCounts_L1b ap (F_KindCounts_L1 ap r56) t13 out4 = (t13, out4) by unfold F_KindCounts_L1b; rw [ht60]; first | done | rfl)
      refine p_te (p_be (p_tn ?_))
      exact ⟨(by rw [hX108]; exact (show 0 ≤ t13 from (by first | omega | (simp only [sS_len, sL_len]; omega) | (simp only [List.length_replicate, sI_len]; omega) | (simp only [List.length_append, List.length_cons, List.length_nil, sI_len, cond_true, cond_false]; omega) | (simp only [List.length_append, List.length_cons, List.length_nil, sI_len, cond_eq_ite, apply_ite List.length]; split <;> simp only [List.length_append, List.length_cons, List.length_nil, sI_len] <;> omega) | grind))), (by rw [hX108]; exact (show out4.length = 7 from (by first | omega | (simp only [sS_len, sL_len]; omega) | (simp only [List.length_replicate, sI_len]; omega) | (simp only [List.length_append, List.length_cons, List.length_nil, sI_len, cond_true, cond_false]; omega) | (simp only [List.length_append, List.length_cons, List.length_nil, sI_len, cond_eq_ite, apply_ite List.length]; split <;> simp only [List.length_append, List.length_cons, List.length_nil, sI_len] <;> omega) | grind))), (by rw [hX108]; exact (show ∀ m : Int, 0 ≤ gI out4 m ∧ gI out4 m ≤ t13 from (by first | omega | (simp only [sS_len, sL_len]; omega) | (simp only [List.length_replicate, sI_len]; omega) | (simp only [List.length_append, List.length_cons, List.length_nil, sI_len, cond_true, cond_false]; omega) | (simp only [List.length_append, List.length_cons, List.length_nil, sI_len, cond_eq_ite, apply_ite List.length]; split <;> simp only [List.length_append, List.length_cons, List.length_nil, sI_len] <;> omega) | grind))), (by rw [hX108]; exact (show t13 ≤ (((ap).length / 2 : Nat) : Int) from (by first | omega | (simp only [sS_len, sL_len]; omega) | (simp only [List.length_replicate, sI_len]; omega) | (simp only [List.length_append, List.length_cons, List.length_nil, sI_len, cond_true, cond_false]; omega) | (simp only [List.length_append, List.length_cons, List.length_nil, sI_len, cond_eq_ite, apply_ite List.length]; split <;> simp only [List.length_append, List.length_cons, List.length_nil, sI_len] <;> omega) | grind))), (by rw [hX108]; exact (hE107.sub (L' := [(4, .slice b29 (Int.toNat 7) (Int.toNat 7)), (11, .slice apA ((ap).length / 2 : Nat) apC), (12, .int .i64 (((ap).length / 2 : Nat) : Int)), (13, .int .i64 t13)]) ⟨rfl, rfl, rfl, rfl, trivial⟩)), (by rw [hX108]; exact (St.pick (Γ' := [.own 2 1 b29 (Int.toNat 7) (Int.toNat 7) out4, .rd 2 apA ((ap).length / 2 : Nat) apC ap]) hS49 [0, 1] (by decide) rfl))⟩
   ·
    rintro a109 w110 ⟨hi114, hi115, hi116, hi117, hE111, hS112⟩; clear hE44 hS33
    refine p_tn ?_
    refine c_seq ?_
    refine c_reg ?_
    refine q_step (v := .slice b29 (Int.toNat 7) (Int.toNat 7)) hE111 (y_move rfl) rfl rfl rfl ?_; intro a118 hE119; clear hE111
    refine q_step (v := .slice b29 (Int.toNat 7) (Int.toNat 7)) hE119 (y_assign rfl) rfl rfl rfl ?_; intro a120 hE121; clear hE119
    refine q_step (v := .int .i64 0) hE121 (y_assign rfl) rfl rfl rfl ?_; intro a122 hE123; clear hE121
    refine c_nil ?_
    have hE124 := hE123.sub (L' := [(2, .slice b29 (Int.toNat 7) (Int.toNat 7)), (3, .int .i64 0)]) ⟨rfl, rfl, trivial⟩; clear hE123
    refine p_tn ?_
    refine wp_ret ?_
    have hF : F_KindCounts ap = ((F_KindCounts_L1 ap (Int.toNat ((((ap).length / 2 : Nat) : Int) - 0) + 1) 0 (List.replicate (Int.toNat 7) 0)).2, 0) := by unfold F_KindCounts; rw [ht18]; first | done | rfl
    refine c_ret2 hE124 rfl rfl rfl ?_
    exact ⟨b29, Int.toNat 7, (by rw [hF]; first | rfl | (rw [(St.rdO (i := 0) hS112 rfl).len1])), (by rw [hF, (St.rdO (i := 0) hS112 rfl).len1]; (try dsimp only); exact hS112.ok 0 _ rfl), hS112.ext⟩
theorem KindCounts_len (ap : List Int) : (F_KindCounts ap).1.length ≤ 7 := by
  have hk : ∀ (r : Nat) (t : Int) (out : List Int), (F_KindCounts_L1 ap r t out).2.length = out.length := by
    intro r
    induction r with
    | zero => intro t out; rfl
    | succ r ih =>
      intro t out
      show (F_KindCounts_L1b ap (F_KindCounts_L1 ap r) t out).2.length = _
      unfold F_KindCounts_L1b
      cases decide (t < ((ap.length / 2 : Nat) : Int))
      · rfl
      · rw [cond_true, ih, sI_len]
  unfold F_KindCounts
  cases F_isFormula ap
  · simp
  · show (F_KindCounts_L1 ap _ 0 (List.replicate (Int.toNat 7) 0)).2.length ≤ 7
    rw [hk, List.length_replicate]
    omega
theorem KindCounts_bd (ap : List Int) : ∀ m : Int, 0 ≤ gI (F_KindCounts ap).1 m ∧ gI (F_KindCounts ap).1 m ≤ ap.length := by
  have hk : ∀ (r : Nat) (t : Int) (out : List Int), 0 ≤ t → t ≤ ((ap.length / 2 : Nat) : Int) → (∀ m : Int, 0 ≤ gI out m ∧ gI out m ≤ t) → ∀ m : Int, 0 ≤ gI (F_KindCounts_L1 ap r t out).2 m ∧ gI (F_KindCounts_L1 ap r t out).2 m ≤ ap.length := by
    intro r
    induction r with
    | zero => intro t out h0 h1 h m; have := h m; show 0 ≤ gI out m ∧ gI out m ≤ _; omega
    | succ r ih =>
      intro t out h0 h1 h
      show ∀ m : Int, 0 ≤ gI (F_KindCounts_L1b ap (F_KindCounts_L1 ap r) t out).2 m ∧ gI (F_KindCounts_L1b ap (F_KindCounts_L1 ap r) t out).2 m ≤ _
      unfold F_KindCounts_L1b
      by_cases ht : t < ((ap.length / 2 : Nat) : Int)
      · rw [decide_eq_true ht, cond_true]
        exact ih _ _ (by omega) (by omega) (kc_step h)
      · rw [decide_eq_false ht, cond_false]
        intro m; have := h m; show 0 ≤ gI out m ∧ gI out m ≤ _; omega
  unfold F_KindCounts
  cases F_isFormula ap
  · intro m
    show 0 ≤ gI [] m ∧ gI [] m ≤ _
    have : gI [] m = 0 := by unfold gI gi; simp
    omega
  · exact hk _ 0 _ (Int.le_refl _) (by omega) kc_init
theorem KindCounts_cd (ap : List Int) : 0 ≤ (F_KindCounts ap).2 ∧ (F_KindCounts ap).2 ≤ 1 := by
  unfold F_KindCounts
  cases F_isFormula ap
  · exact ⟨by show (0 : Int) ≤ 1; omega, Int.le_refl 1⟩
  · exact ⟨Int.le_refl 0, by show (0 : Int) ≤ 1; omega⟩
def F_isModal (kind : Int) : Bool :=
  ((decide (kind = 5)) || (decide (kind = 6)))
theorem cf_isModal (args : Array Value) (w : World) : (callFunc 192 args).run Try.prog w = .ok (.enter 192 args) w := by kernel_rfl
set_option maxRecDepth 100000 in
theorem c_isModal (kind : Int) (w : World) :
    Calls Try.prog 192 #[.int .i64 kind] w (Ret fun v w' => v = .bool (F_isModal kind) ∧ w = w') := by
  have hS := St.nil w
  refine enter (args := [.int .i64 kind]) Try.func192 rfl rfl ?_
  rw [Try.ntmps192]; intro a hE
  have hE := hE.sub (L' := [(0, .int .i64 kind)]) ⟨rfl, trivial⟩
  refine c_seq ?_
  refine c_reg ?_
  refine q_step (v := .bool false) hE (y_assign rfl) rfl rfl rfl ?_; intro a1 hE2; clear hE
  refine c_nil ?_
  have hE3 := hE2.sub (L' := [(0, .int .i64 kind)]) ⟨rfl, trivial⟩; clear hE2
  refine p_tn ?_
  refine c_cut (fun a' w' => w = w' ∧ E a' 9 [(2, .bool ((decide (kind = 5)) || (decide (kind = 6))))]) ?_ ?_
  ·
   refine c_reg ?_
   refine q_step (v := .int .i64 kind) hE3 (y_move rfl) rfl rfl rfl ?_; intro a4 hE5; clear hE3
   refine q_step (v := .bool (decide (kind = 5))) hE5 (y_eql rfl rfl) rfl rfl rfl ?_; intro a6 hE7; clear hE5
   refine q_step (v := .bool (decide (kind = 5))) hE7 (y_move rfl) rfl rfl rfl ?_; intro a8 hE9; clear hE7
   rcases Bool.eq_false_or_eq_true (decide (kind = 5)) with hb10 | hb10
   ·
    have hE11 := hE9; (try rw [hb10] at hE11); clear hE9
    have hp12 := of_decide_eq_true hb10
    refine q_skip hE11 rfl rfl rfl ?_; intro a13 hE14; clear hE11
    refine q_skip hE14 rfl rfl rfl ?_; intro a15 hE16; clear hE14
    refine q_step (v := .bool true) hE16 (y_pick (b := true) rfl rfl) rfl rfl rfl ?_; intro a17 hE18; clear hE16
    refine q_step (v := .bool true) hE18 (y_assign rfl) rfl rfl rfl ?_; intro a19 hE20; clear hE18
    refine c_nil ?_
    have hE21 := hE20.sub (L' := [(2, .bool true)]) ⟨rfl, trivial⟩; clear hE20
    refine p_tn ?_
    have hE22 := hE21.sub (L' := [(2, .bool true)]) ⟨rfl, trivial⟩
    exact ⟨rfl, (by rw [hb10]; exact hE22)⟩
   ·
    have hE23 := hE9; (try rw [hb10] at hE23); clear hE9
    have hp24 := of_decide_eq_false hb10
    refine q_step (v := .int .i64 kind) hE23 (y_move rfl) rfl rfl rfl ?_; intro a25 hE26; clear hE23
    refine q_step (v := .bool (decide (kind = 6))) hE26 (y_eql rfl rfl) rfl rfl rfl ?_; intro a27 hE28; clear hE26
    refine q_step (v := .bool (decide (kind = 6))) hE28 (y_pick (b := false) rfl rfl) rfl rfl rfl ?_; intro a29 hE30; clear hE28
    refine q_step (v := .bool (decide (kind = 6))) hE30 (y_assign rfl) rfl rfl rfl ?_; intro a31 hE32; clear hE30
    refine c_nil ?_
    have hE33 := hE32.sub (L' := [(2, .bool (decide (kind = 6)))]) ⟨rfl, trivial⟩; clear hE32
    refine p_tn ?_
    have hE34 := hE33.sub (L' := [(2, .bool (decide (kind = 6)))]) ⟨rfl, trivial⟩
    exact ⟨rfl, (by rw [hb10]; exact hE34)⟩
  ·
   rintro a35 _ ⟨rfl, hE37⟩; clear hE3
   refine wp_ret ?_
   have hF : F_isModal kind = ((decide (kind = 5)) || (decide (kind = 6))) := by unfold F_isModal; rfl
   refine c_ret1 hE37 rfl rfl ?_
   exact ⟨(by rw [hF]; first | done | (dsimp only; done) | rfl), rfl⟩
def F_depths_L1b (ap : List Int) (self : List Int → (Int × Int)) (rec : Int → Int → Int → Int × Int × Int) (height2 : Int) (modal3 : Int) (t11 : Int) : Int × Int × Int :=
  bif (decide (t11 < ((F_parts ap).length : Int))) then (rec (max height2 (((self (gL (F_parts ap) t11)).1) + 1)) (max modal3 ((self (gL (F_parts ap) t11)).2)) (t11 + 1)) else (height2, modal3, t11)
def F_depths_L1 (ap : List Int) (self : List Int → (Int × Int)) : Nat → Int → Int → Int → Int × Int × Int
  | 0, height2, modal3, t11 => (height2, modal3, t11)
  | r + 1, height2, modal3, t11 => F_depths_L1b ap self (F_depths_L1 ap self r) height2 modal3 t11
def F_depths_b (self : List Int → (Int × Int)) (ap : List Int) : (Int) × (Int) :=
  bif (F_isModal (gS 2 0 ap 0)) then ((F_depths_L1 ap self (Int.toNat (((F_parts ap).length : Int) - 0) + 1) 0 0 0).1, ((F_depths_L1 ap self (Int.toNat (((F_parts ap).length : Int) - 0) + 1) 0 0 0).2.1) + 1) else ((F_depths_L1 ap self (Int.toNat (((F_parts ap).length : Int) - 0) + 1) 0 0 0).1, (F_depths_L1 ap self (Int.toNat (((F_parts ap).length : Int) - 0) + 1) 0 0 0).2.1)
def F_depths_r : Nat → List Int → (Int × Int)
  | 0 => fun _ => default
  | r + 1 => F_depths_b (F_depths_r r)
def F_depths (ap : List Int) : (Int) × (Int) := F_depths_r (ap.length + 1) ap
theorem dep_loop (ap : List Int) (self : List Int → (Int × Int)) (N : Int) (hs : ∀ m : Int, 0 ≤ m → m < ((F_parts ap).length : Int) → 0 ≤ (self (gL (F_parts ap) m)).1 ∧ (self (gL (F_parts ap) m)).1 + 2 ≤ N ∧ 0 ≤ (self (gL (F_parts ap) m)).2 ∧ (self (gL (F_parts ap) m)).2 + 2 ≤ N) :
    ∀ (r : Nat) (h m t : Int), 0 ≤ t → 0 ≤ h → h ≤ N → 0 ≤ m → m + 2 ≤ N → 0 ≤ (F_depths_L1 ap self r h m t).1 ∧ (F_depths_L1 ap self r h m t).1 ≤ N ∧ 0 ≤ (F_depths_L1 ap self r h m t).2.1 ∧ (F_depths_L1 ap self r h m t).2.1 + 2 ≤ N := by
  intro r
  induction r with
  | zero => intro h m t _ a1 a2 a3 a4; exact ⟨a1, a2, a3, a4⟩
  | succ r ih =>
    intro h m t h0 a1 a2 a3 a4
    show 0 ≤ (F_depths_L1b ap self (F_depths_L1 ap self r) h m t).1 ∧ (F_depths_L1b ap self (F_depths_L1 ap self r) h m t).1 ≤ N ∧ 0 ≤ (F_depths_L1b ap self (F_depths_L1 ap self r) h m t).2.1 ∧ (F_depths_L1b ap self (F_depths_L1 ap self r) h m t).2.1 + 2 ≤ N
    unfold F_depths_L1b
    by_cases ht : t < ((F_parts ap).length : Int)
    · rw [decide_eq_true ht, cond_true]
      have := hs t h0 ht
      generalize self (gL (F_parts ap) t) = p at *
      exact ih _ _ _ (by omega) (by omega) (by omega) (by omega) (by omega)
    · rw [decide_eq_false ht, cond_false]; exact ⟨a1, a2, a3, a4⟩
theorem depLen : ∀ (r : Nat) (ap : List Int) (hl : ap.length ≤ 100) (hf : IsFm ap), 0 ≤ (F_depths_r r ap).1 ∧ (F_depths_r r ap).1 ≤ (ap.length : Int) ∧ 0 ≤ (F_depths_r r ap).2 ∧ (F_depths_r r ap).2 ≤ (ap.length : Int) := by
  intro r
  induction r with
  | zero => intro ap hl hf; exact ⟨Int.le_refl 0, (by omega : (0 : Int) ≤ (ap.length : Int)), Int.le_refl 0, (by omega : (0 : Int) ≤ (ap.length : Int))⟩
  | succ r ih =>
    intro ap hl hf
    have hl1 := hf.len
    have hpt := parts_rows hf
    have h := dep_loop ap (F_depths_r r) (ap.length : Int) (fun m h0 h1 => by
      have h2 := hpt.2 m h0 h1
      have h3 := ih (gL (F_parts ap) m) (by omega) h2.1
      omega) (Int.toNat (((F_parts ap).length : Int) - 0) + 1) 0 0 0 (by omega) (by omega) (by omega) (by omega) (by omega)
    show 0 ≤ (F_depths_b (F_depths_r r) ap).1 ∧ (F_depths_b (F_depths_r r) ap).1 ≤ _ ∧ 0 ≤ (F_depths_b (F_depths_r r) ap).2 ∧ (F_depths_b (F_depths_r r) ap).2 ≤ _
    unfold F_depths_b
    generalize F_depths_L1 ap (F_depths_r r) (Int.toNat (((F_parts ap).length : Int) - 0) + 1) 0 0 0 = q at *
    cases F_isModal (gS 2 0 ap 0)
    · rw [cond_false]; exact ⟨h.1, h.2.1, h.2.2.1, by show q.2.1 ≤ _; omega⟩
    · rw [cond_true]; exact ⟨h.1, h.2.1, by show 0 ≤ q.2.1 + 1; omega, by show q.2.1 + 1 ≤ _; omega⟩
theorem cf_depths (args : Array Value) (w : World) : (callFunc 129 args).run Try.prog w = .ok (.enter 129 args) w := by kernel_rfl
set_option maxRecDepth 100000 in
theorem cb_depths (self : List Int → (Int × Int)) (hpost : ∀ (ap : List Int) (hl : ap.length ≤ 100) (hf : IsFm ap), 0 ≤ (self ap).1 ∧ (self ap).1 ≤ (ap.length : Int) ∧ 0 ≤ (self ap).2 ∧ (self ap).2 ≤ (ap.length : Int)) (apA : Option Addr) (apN apC : Nat) (ap : List Int) (w : World) (apR : RdS w 2 apA apN apC ap) (hl : ap.length ≤ 100) (hf : IsFm ap) (mu : Nat) (hmu : mu = ap.length) (ih : ∀ (apA : Option Addr) (apN apC : Nat) (ap : List Int) (w : World) (apR : RdS w 2 apA apN apC ap) (hl : ap.length ≤ 100) (hf : IsFm ap) (hdec : ap.length < mu), Calls Try.prog 129 #[.slice apA apN apC] w (Ret fun v w' => v = .tuple #[.int .i64 ((self ap).1), .int .i64 ((self ap).2)] ∧ Ext w w')) :
    Calls Try.prog 129 #[.slice apA apN apC] w (Ret fun v w' => v = .tuple #[.int .i64 ((F_depths_b self ap).1), .int .i64 ((F_depths_b self ap).2)] ∧ Ext w w') := by
  obtain rfl : apN = ap.length / 2 := (apR.lenD (by decide)).symm
  have apEv := apR.ev (by decide)
  have apLe := apR.le
  have hl1 := hf.len
  have hpt := parts_rows hf
  have hS := St.nil w
  have hS1 := St.rd0 hS rfl apR; clear hS
  refine enter (args := [.slice apA ((ap).length / 2 : Nat) apC]) Try.func129 rfl rfl ?_
  rw [Try.ntmps129]; intro a hE
  have hE := hE.sub (L' := [(0, .slice apA ((ap).length / 2 : Nat) apC)]) ⟨rfl, trivial⟩
  refine c_seq ?_
  refine c_reg ?_
  refine q_step (v := .int .i64 0) hE (y_assign rfl) rfl rfl rfl ?_; intro a2 hE3; clear hE
  refine q_step (v := .int .i64 0) hE3 (y_assign rfl) rfl rfl rfl ?_; intro a4 hE5; clear hE3
  refine c_nil ?_
  have hE6 := hE5.sub (L' := [(0, .slice apA ((ap).length / 2 : Nat) apC), (2, .int .i64 0), (3, .int .i64 0)]) ⟨rfl, rfl, rfl, trivial⟩; clear hE5
  refine p_tn ?_
  refine c_seq ?_
  refine c_seq ?_
  refine c_reg ?_
  refine q_step (v := .slice apA ((ap).length / 2 : Nat) apC) hE6 (y_move rfl) rfl rfl rfl ?_; intro a7 hE8; clear hE6
  have hc15 := c_parts apA ((ap).length / 2 : Nat) apC ap w (St.rdR (i := 0) hS1 rfl) (by omega) (by omega)
  refine l_step hE8 rfl (l_call (f := 142) (argv := [.slice apA ((ap).length / 2 : Nat) apC]) hE8 (fun _ => cf_parts _ _) rfl rfl (by exact hc15) ?_)
  rintro _ w10 ⟨b16, c17, rfl, ho18, he14⟩ a11 hE12; clear hE8
  have hS13 := St.ownRows (rows := partRows apA apC ap) hS1 he14 ho18 rfl (partRows_xs _ _ _) (partRows_ok (St.rdR (i := 0) hS1 rfl) (St.robR (i := 0) hS1 rfl) hf); clear hS1
  refine q_step (v := .int .i64 ((F_parts ap).length : Int)) hE12 (y_len (e := 32) (by kernel_rfl) rfl) rfl rfl rfl ?_; intro a19 hE20; clear hE12
  refine q_step (v := .int .i64 0) hE20 (y_move rfl) rfl rfl rfl ?_; intro a21 hE22; clear hE20
  refine c_nil ?_
  have hE23 := hE22.sub (L' := [(0, .slice apA ((ap).length / 2 : Nat) apC), (2, .int .i64 0), (3, .int .i64 0), (9, .slice b16 ((F_parts ap).length) c17), (10, .int .i64 ((F_parts ap).length : Int)), (11, .int .i64 0)]) ⟨rfl, rfl, rfl, rfl, rfl, rfl, trivial⟩; clear hE22
  refine p_tn ?_
  refine c_cut1 (fun a' w' => (0 ≤ ((F_depths_L1 ap self (Int.toNat (((F_parts ap).length : Int) - 0) + 1) 0 0 0).2.2)) ∧ (0 ≤ ((F_depths_L1 ap self (Int.toNat (((F_parts ap).length : Int) - 0) + 1) 0 0 0).1)) ∧ (((F_depths_L1 ap self (Int.toNat (((F_parts ap).length : Int) - 0) + 1) 0 0 0).1) ≤ (ap.length : Int)) ∧ (0 ≤ ((F_depths_L1 ap self (Int.toNat (((F_parts ap).length : Int) - 0) + 1) 0 0 0).2.1)) ∧ (((F_depths_L1 ap self (Int.toNat (((F_parts ap).length : Int) - 0) + 1) 0 0 0).2.1) + 2 ≤ (ap.length : Int)) ∧ (((F_depths_L1 ap self (Int.toNat (((F_parts ap).length : Int) - 0) + 1) 0 0 0).2.2) ≤ ((F_parts ap).length : Int)) ∧ E a' 37 [(0, .slice apA ((ap).length / 2 : Nat) apC), (2, .int .i64 ((F_depths_L1 ap self (Int.toNat (((F_parts ap).length : Int) - 0) + 1) 0 0 0).1)), (3, .int .i64 ((F_depths_L1 ap self (Int.toNat (((F_parts ap).length : Int) - 0) + 1) 0 0 0).2.1)), (9, .slice b16 ((F_parts ap).length) c17), (10, .int .i64 ((F_parts ap).length : Int)), (11, .int .i64 ((F_depths_L1 ap self (Int.toNat (((F_parts ap).length : Int) - 0) + 1) 0 0 0).2.2))] ∧ St w w' [.nest 32 2 none b16 c17 ((partRows apA apC ap).map (·.1)) (F_parts ap), .rd 2 apA ((ap).length / 2 : Nat) apC ap]) ?_ ?_
  ·
   refine wp_block ?_
   refine c_loop (fun r a' w' => ∃ height2 : Int, ∃ modal3 : Int, ∃ t11 : Int, F_depths_L1 ap self r height2 modal3 t11 = F_depths_L1 ap self (Int.toNat (((F_parts ap).length : Int) - 0) + 1) 0 0 0 ∧ Int.toNat (((F_parts ap).length : Int) - t11) < r ∧ (0 ≤ t11) ∧ (0 ≤ height2) ∧ (height2 ≤ (ap.length : Int)) ∧ (0 ≤ modal3) ∧ (modal3 + 2 ≤ (ap.length : Int)) ∧ (t11 ≤ ((F_parts ap).length : Int)) ∧ E a' 37 [(0, .slice apA ((ap).length / 2 : Nat) apC), (2, .int .i64 height2), (3, .int .i64 modal3), (9, .slice b16 ((F_parts ap).length) c17), (10, .int .i64 ((F_parts ap).length : Int)), (11, .int .i64 t11)] ∧ St w w' [.nest 32 2 none b16 c17 ((partRows apA apC ap).map (·.1)) (F_parts ap), .rd 2 apA ((ap).length / 2 : Nat) apC ap]) (r := (Int.toNat (((F_parts ap).length : Int) - 0) + 1)) ?_ ?_
   · exact ⟨0, 0, 0, rfl, Nat.lt_succ_self _, (by first | omega | (simp only [sS_len, sL_len]; omega) | (simp only [List.length_replicate, sI_len]; omega) | (simp only [List.length_append, List.length_cons, List.length_nil, sI_len, cond_true, cond_false]; omega) | (simp only [List.length_append, List.length_cons, List.length_nil, sI_len, cond_eq_ite, apply_ite List.length]; split <;> simp only [List.length_append, List.length_cons, List.length_nil, sI_len] <;> omega) | grind), (by first | omega | (simp only [sS_len, sL_len]; omega) | (simp only [List.length_replicate, sI_len]; omega) | (simp only [List.length_append, List.length_cons, List.length_nil, sI_len, cond_true, cond_false]; omega) | (simp only [List.length_append, List.length_cons, List.length_nil, sI_len, cond_eq_ite, apply_ite List.length]; split <;> simp only [List.length_append, List.length_cons, List.length_nil, sI_len] <;> omega) | grind), (by first | omega | (simp only [sS_len, sL_len]; omega) | (simp only [List.length_replicate, sI_len]; omega) | (simp only [List.length_append, List.length_cons, List.length_nil, sI_len, cond_true, cond_false]; omega) | (simp only [List.length_append, List.length_cons, List.length_nil, sI_len, cond_eq_ite, apply_ite List.length]; split <;> simp only [List.length_append, List.length_cons, List.length_nil, sI_len] <;> omega) | grind), (by first | omega | (simp only [sS_len, sL_len]; omega) | (simp only [List.length_replicate, sI_len]; omega) | (simp only [List.length_append, List.length_cons, List.length_nil, sI_len, cond_true, cond_false]; omega) | (simp only [List.length_append, List.length_cons, List.length_nil, sI_len, cond_eq_ite, apply_ite List.length]; split <;> simp only [List.length_append, List.length_cons, List.length_nil, sI_len] <;> omega) | grind), (by first | omega | (simp only [sS_len, sL_len]; omega) | (simp only [List.length_replicate, sI_len]; omega) | (simp only [List.length_append, List.length_cons, List.length_nil, sI_len, cond_true, cond_false]; omega) | (simp only [List.length_append, List.length_cons, List.length_nil, sI_len, cond_eq_ite, apply_ite List.length]; split <;> simp only [List.length_append, List.length_cons, List.length_nil, sI_len] <;> omega) | grind), (by first | omega | (simp only [sS_len, sL_len]; omega) | (simp only [List.length_replicate, sI_len]; omega) | (simp only [List.length_append, List.length_cons, List.length_nil, sI_len, cond_true, cond_false]; omega) | (simp only [List.length_append, List.length_cons, List.length_nil, sI_len, cond_eq_ite, apply_ite List.length]; split <;> simp only [List.length_append, List.length_cons, List.length_nil, sI_len] <;> omega) | grind), (hE23.sub (L' := [(0, .slice apA ((ap).length / 2 : Nat) apC), (2, .int .i64 0), (3, .int .i64 0), (9, .slice b16 ((F_parts ap).length) c17), (10, .int .i64 ((F_parts ap).length : Int)), (11, .int .i64 0)]) ⟨rfl, rfl, rfl, rfl, rfl, rfl, trivial⟩), (St.pick (Γ' := [.nest 32 2 none b16 c17 ((partRows apA apC ap).map (·.1)) (F_parts ap), .rd 2 apA ((ap).length / 2 : Nat) apC ap]) hS13 [0, 1] (by decide) rfl)⟩
   ·
    clear hE23 hS13
    rintro r37 a25 w26 ⟨height2, modal3, t11, hT29, hr30, hi31, hi32, hi33, hi34, hi35, hi36, hE27, hS28⟩
    obtain ⟨r37, rfl⟩ : ∃ r', r37 = r' + 1 := ⟨r37 - 1, by omega⟩
    refine c_seq ?_
    refine c_reg ?_
    refine q_step (v := .bool (decide (t11 < ((F_parts ap).length : Int)))) hE27 (y_lss rfl rfl) rfl rfl rfl ?_; intro a38 hE39; clear hE27
    refine c_nil ?_
    have hE40 := hE39.sub (L' := [(0, .slice apA ((ap).length / 2 : Nat) apC), (2, .int .i64 height2), (3, .int .i64 modal3), (9, .slice b16 ((F_parts ap).length) c17), (10, .int .i64 ((F_parts ap).length : Int)), (11, .int .i64 t11), (12, .bool (decide (t11 < ((F_parts ap).length : Int))))]) ⟨rfl, rfl, rfl, rfl, rfl, rfl, rfl, trivial⟩; clear hE39
    refine p_tn ?_
    refine c_seq ?_
    refine c_cond hE40 rfl (fun ht41 => ?_) (fun ht41 => ?_)
    ·
     have hp42 := of_decide_eq_true ht41
     have hE43 := hE40; rw [ht41] at hE43; clear hE40
     have hrow := hpt.2 t11 (by omega) (by omega)
     refine wp_skip ?_
     refine p_tn ?_
     refine c_seq ?_
     refine wp_block ?_
     refine c_seq ?_
     refine c_reg ?_
     refine q_step (v := .pointer (some (adr b16 (Int.toNat t11)))) hE43 (y_idx (by kernel_rfl) (fun _ => by kernel_rfl) rfl rfl (RdN.isS (m := t11) (St.rdNo (i := 0) hS28 rfl) (by omega) (by omega)) (by omega) (by omega) (Nat.mul_one _).symm) rfl rfl rfl ?_; intro a44 hE45; clear hE43
     have hv46 : (0 : Int) ≤ t11 ∧ t11 < ((F_parts ap).length : Int) := ⟨(by omega), (by omega)⟩
     refine q_step (v := .slice (hdA ((partRows apA apC ap).map (·.1)) t11) ((gL (F_parts ap) t11).length / 2 : Nat) (hdC ((partRows apA apC ap).map (·.1)) t11)) hE45 (y_load (fun _ => by kernel_rfl) rfl (RdN.eltD (St.rdNo (i := 0) hS28 rfl) (by decide) (by omega) (by omega))) rfl rfl rfl ?_; intro a48 hE49; clear hE45
     refine q_step (v := .slice (hdA ((partRows apA apC ap).map (·.1)) t11) ((gL (F_parts ap) t11).length / 2 : Nat) (hdC ((partRows apA apC ap).map (·.1)) t11)) hE49 (y_assign rfl) rfl rfl rfl ?_; intro a50 hE51; clear hE49
     refine c_nil ?_
     have hE52 := hE51.sub (L' := [(0, .slice apA ((ap).length / 2 : Nat) apC), (2, .int .i64 height2), (3, .int .i64 modal3), (5, .slice (hdA ((partRows apA apC ap).map (·.1)) t11) ((gL (F_parts ap) t11).length / 2 : Nat) (hdC ((partRows apA apC ap).map (·.1)) t11)), (9, .slice b16 ((F_parts ap).length) c17), (10, .int .i64 ((F_parts ap).length : Int)), (11, .int .i64 t11)]) ⟨rfl, rfl, rfl, rfl, rfl, rfl, rfl, trivial⟩; clear hE51
     refine p_tn ?_
     refine c_seq ?_
     refine c_reg ?_
     refine q_step (v := .slice (hdA ((partRows apA apC ap).map (·.1)) t11) ((gL (F_parts ap) t11).length / 2 : Nat) (hdC ((partRows apA apC ap).map (·.1)) t11)) hE52 (y_move rfl) rfl rfl rfl ?_; intro a53 hE54; clear hE52
     have hr61 := (RdN.rowD (St.rdNo (i := 0) hS28 rfl) (by decide) hv46.1 hv46.2)
     have hc62 := ih (hdA ((partRows apA apC ap).map (·.1)) t11) ((gL (F_parts ap) t11).length / 2 : Nat) (hdC ((partRows apA apC ap).map (·.1)) t11) (gL (F_parts ap) t11) w26 hr61 (by have h := hrow.2; omega) hrow.1 (by have h := hrow.2; omega)
     refine l_step hE54 rfl (l_call (f := 129) (argv := [.slice (hdA ((partRows apA apC ap).map (·.1)) t11) ((gL (F_parts ap) t11).length / 2 : Nat) (hdC ((partRows apA apC ap).map (·.1)) t11)]) hE54 (fun _ => cf_depths _ _) rfl rfl (by exact hc62) ?_)
     rintro _ w56 ⟨rfl, he60⟩ a57 hE58; clear hE54
     have hf63 := hpost (gL (F_parts ap) t11) (by have h := hrow.2; omega) hrow.1
     have hS59 := St.go hS28 he60; clear hS28
     refine q_step (v := .tuple #[.int .i64 ((self (gL (F_parts ap) t11)).1), .int .i64 ((self (gL (F_parts ap) t11)).2)]) hE58 (y_move rfl) rfl rfl rfl ?_; intro a64 hE65; clear hE58
     refine q_step (v := .int .i64 ((self (gL (F_parts ap) t11)).1)) hE65 (y_extract rfl rfl) rfl rfl rfl ?_; intro a66 hE67; clear hE65
     refine q_step (v := .int .i64 ((self (gL (F_parts ap) t11)).2)) hE67 (y_extract rfl rfl) rfl rfl rfl ?_; intro a68 hE69; clear hE67
     refine q_step (v := .int .i64 ((self (gL (F_parts ap) t11)).1)) hE69 (y_assign rfl) rfl rfl rfl ?_; intro a70 hE71; clear hE69
     refine q_step (v := .int .i64 ((self (gL (F_parts ap) t11)).2)) hE71 (y_assign rfl) rfl rfl rfl ?_; intro a72 hE73; clear hE71
     refine c_nil ?_
     have hE74 := hE73.sub (L' := [(0, .slice apA ((ap).length / 2 : Nat) apC), (2, .int .i64 height2), (3, .int .i64 modal3), (6, .int .i64 ((self (gL (F_parts ap) t11)).1)), (7, .int .i64 ((self (gL (F_parts ap) t11)).2)), (9, .slice b16 ((F_parts ap).length) c17), (10, .int .i64 ((F_parts ap).length : Int)), (11, .int .i64 t11)]) ⟨rfl, rfl, rfl, rfl, rfl, rfl, rfl, rfl, trivial⟩; clear hE73
     refine p_tn ?_
     refine c_reg ?_
     refine q_step (v := .int .i64 height2) hE74 (y_move rfl) rfl rfl rfl ?_; intro a75 hE76; clear hE74
     refine q_step (v := .int .i64 ((self (gL (F_parts ap) t11)).1)) hE76 (y_move rfl) rfl rfl rfl ?_; intro a77 hE78; clear hE76
     refine q_step (v := .int .i64 (((self (gL (F_parts ap) t11)).1) + 1)) hE78 (y_add rfl rfl ⟨(by omega), (by omega)⟩) rfl rfl rfl ?_; intro a79 hE80; clear hE78
     refine q_step (v := .int .i64 (max height2 (((self (gL (F_parts ap) t11)).1) + 1))) hE80 (y_max rfl rfl) rfl rfl rfl ?_; intro a81 hE82; clear hE80
     refine q_step (v := .int .i64 modal3) hE82 (y_move rfl) rfl rfl rfl ?_; intro a83 hE84; clear hE82
     refine q_step (v := .int .i64 ((self (gL (F_parts ap) t11)).2)) hE84 (y_move rfl) rfl rfl rfl ?_; intro a85 hE86; clear hE84
     refine q_step (v := .int .i64 (max modal3 ((self (gL (F_parts ap) t11)).2))) hE86 (y_max rfl rfl) rfl rfl rfl ?_; intro a87 hE88; clear hE86
     refine q_step (v := .int .i64 (max height2 (((self (gL (F_parts ap) t11)).1) + 1))) hE88 (y_assign rfl) rfl rfl rfl ?_; intro a89 hE90; clear hE88
     refine q_step (v := .int .i64 (max modal3 ((self (gL (F_parts ap) t11)).2))) hE90 (y_assign rfl) rfl rfl rfl ?_; intro a91 hE92; clear hE90
     refine c_nil ?_
     have hE93 := hE92.sub (L' := [(0, .slice apA ((ap).length / 2 : Nat) apC), (2, .int .i64 (max height2 (((self (gL (F_parts ap) t11)).1) + 1))), (3, .int .i64 (max modal3 ((self (gL (F_parts ap) t11)).2))), (9, .slice b16 ((F_parts ap).length) c17), (10, .int .i64 ((F_parts ap).length : Int)), (11, .int .i64 t11)]) ⟨rfl, rfl, rfl, rfl, rfl, rfl, trivial⟩; clear hE92
     refine p_bn ?_
     refine p_tn ?_
     refine c_reg ?_
     refine q_step (v := .int .i64 (t11 + 1)) hE93 (y_add rfl rfl ⟨(by omega), (by omega)⟩) rfl rfl rfl ?_; intro a94 hE95; clear hE93
     refine q_step (v := .int .i64 (t11 + 1)) hE95 (y_move rfl) rfl rfl rfl ?_; intro a96 hE97; clear hE95
     refine c_nil ?_
     have hE98 := hE97.sub (L' := [(0, .slice apA ((ap).length / 2 : Nat) apC), (2, .int .i64 (max height2 (((self (gL (F_parts ap) t11)).1) + 1))), (3, .int .i64 (max modal3 ((self (gL (F_parts ap) t11)).2))), (9, .slice b16 ((F_parts ap).length) c17), (10, .int .i64 ((F_parts ap).length : Int)), (11, .int .i64 (t11 + 1))]) ⟨rfl, rfl, rfl, rfl, rfl, rfl, trivial⟩; clear hE97
     refine p_tn ⟨r37, Nat.lt_succ_self _, max height2 (((self (gL (F_parts ap) t11)).1) + 1), max modal3 ((self (gL (F_parts ap) t11)).2), t11 + 1, (hT29.symm.trans (show F_depths_L1b ap self (F_depths_L1 ap self r37) height2 modal3 t11 = F_depths_L1 ap self r37 (max height2 (((self (gL (F_parts ap) t11)).1) + 1)) (max modal3 ((self (gL (F_parts ap) t11)).2)) (t11 + 1) by unfold F_depths_L1b; rw [ht41]; first | done | rfl)).symm, (by omega), (by first | omega | (simp only [sS_len, sL_len]; omega) | (simp only [List.length_replicate, sI_len]; omega) | (simp only [List.length_append, List.length_cons, List.length_nil, sI_len, cond_true, cond_false]; omega) | (simp only [List.length_append, List.length_cons, List.length_nil, sI_len, cond_eq_ite, apply_ite List.length]; split <;> simp only [List.length_append, List.length_cons, List.length_nil, sI_len] <;> omega) | grind), (by first | omega | (simp only [sS_len, sL_len]; omega) | (simp only [List.length_replicate, sI_len]; omega) | (simp only [List.length_append, List.length_cons, List.length_nil, sI_len, cond_true, cond_false]; omega) | (simp only [List.length_append, List.length_cons, List.length_nil, sI_len, cond_eq_ite, apply_ite List.length]; split <;> simp only [List.length_append, List.length_cons, List.length_nil, sI_len] <;> omega) | grind), (by first | omega | (simp only [sS_len, sL_len]; omega) | (simp only [List.length_replicate, sI_len]; omega) | (simp only [List.length_append, List.length_cons, List.length_nil, sI_len, cond_true, cond_false]; omega) | (simp only [List.length_append, List.length_cons, List.length_nil, sI_len, cond_eq_ite, apply_ite List.length]; split <;> simp only [List.length_append, List.length_cons, List.length_nil, sI_len] <;> omega) | grind), (by first | omega | (simp only [sS_len, sL_len]; omega) | (simp only [List.length_replicate, sI_len]; omega) | (simp only [List.length_append, List.length_cons, List.length_nil, sI_len, cond_true, cond_false]; omega) | (simp only [List.length_append, List.length_cons, List.length_nil, sI_len, cond_eq_ite, apply_ite List.length]; split <;> simp only [List.length_append, List.length_cons, List.length_nil, sI_len] <;> omega) | grind), (by first | omega | (simp only [sS_len, sL_len]; omega) | (simp only [List.length_replicate, sI_len]; omega) | (simp only [List.length_append, List.length_cons, List.length_nil, sI_len, cond_true, cond_false]; omega) | (simp only [List.length_append, List.length_cons, List.length_nil, sI_len, cond_eq_ite, apply_ite List.length]; split <;> simp only [List.length_append, List.length_cons, List.length_nil, sI_len] <;> omega) | grind), (by first | omega | (simp only [sS_len, sL_len]; omega) | (simp only [List.length_replicate, sI_len]; omega) | (simp only [List.length_append, List.length_cons, List.length_nil, sI_len, cond_true, cond_false]; omega) | (simp only [List.length_append, List.length_cons, List.length_nil, sI_len, cond_eq_ite, apply_ite List.length]; split <;> simp only [List.length_append, List.length_cons, List.length_nil, sI_len] <;> omega) | grind), (hE98.sub (L' := [(0, .slice apA ((ap).length / 2 : Nat) apC), (2, .int .i64 (max height2 (((self (gL (F_parts ap) t11)).1) + 1))), (3, .int .i64 (max modal3 ((self (gL (F_parts ap) t11)).2))), (9, .slice b16 ((F_parts ap).length) c17), (10, .int .i64 ((F_parts ap).length : Int)), (11, .int .i64 (t11 + 1))]) ⟨rfl, rfl, rfl, rfl, rfl, rfl, trivial⟩), (St.pick (Γ' := [.nest 32 2 none b16 c17 ((partRows apA apC ap).map (·.1)) (F_parts ap), .rd 2 apA ((ap).length / 2 : Nat) apC ap]) hS59 [0, 1] (by decide) rfl)⟩
    ·
     have hp99 := of_decide_eq_false ht41
     have hE100 := hE40; rw [ht41] at hE100; clear hE40
     refine wp_exit ?_
     refine p_te ?_
     have hX101 : F_depths_L1 ap self (Int.toNat (((F_parts ap).length : Int) - 0) + 1) 0 0 0 = (height2, modal3, t11) := hT29.symm.trans (show F_depths_L1b ap self (F_depths_L1 ap self r37) height2 modal3 t11 = (height2, modal3, t11) by unfold F_depths_L1b; rw [ht41]; first | done | rfl)
     refine p_te (p_be (p_tn ?_))
     exact ⟨(by rw [hX101]; exact (show 0 ≤ t11 from (by first | omega | (simp only [sS_len, sL_len]; omega) | (simp only [List.length_replicate, sI_len]; omega) | (simp only [List.length_append, List.length_cons, List.length_nil, sI_len, cond_true, cond_false]; omega) | (simp only [List.length_append, List.length_cons, List.length_nil, sI_len, cond_eq_ite, apply_ite List.length]; split <;> simp only [List.length_append, List.length_cons, List.length_nil, sI_len] <;> omega) | grind))), (by rw [hX101]; exact (show 0 ≤ height2 from (by first | omega | (simp only [sS_len, sL_len]; omega) | (simp only [List.length_replicate, sI_len]; omega) | (simp only [List.length_append, List.length_cons, List.length_nil, sI_len, cond_true, cond_false]; omega) | (simp only [List.length_append, List.length_cons, List.length_nil, sI_len, cond_eq_ite, apply_ite List.length]; split <;> simp only [List.length_append, List.length_cons, List.length_nil, sI_len] <;> omega) | grind))), (by rw [hX101]; exact (show height2 ≤ (ap.length : Int) from (by first | omega | (simp only [sS_len, sL_len]; omega) | (simp only [List.length_replicate, sI_len]; omega) | (simp only [List.length_append, List.length_cons, List.length_nil, sI_len, cond_true, cond_false]; omega) | (simp only [List.length_append, List.length_cons, List.length_nil, sI_len, cond_eq_ite, apply_ite List.length]; split <;> simp only [List.length_append, List.length_cons, List.length_nil, sI_len] <;> omega) | grind))), (by rw [hX101]; exact (show 0 ≤ modal3 from (by first | omega | (simp only [sS_len, sL_len]; omega) | (simp only [List.length_replicate, sI_len]; omega) | (simp only [List.length_append, List.length_cons, List.length_nil, sI_len, cond_true, cond_false]; omega) | (simp only [List.length_append, List.length_cons, List.length_nil, sI_len, cond_eq_ite, apply_ite List.length]; split <;> simp only [List.length_append, List.length_cons, List.length_nil, sI_len] <;> omega) | grind))), (by rw [hX101]; exact (show modal3 + 2 ≤ (ap.length : Int) from (by first | omega | (simp only [sS_len, sL_len]; omega) | (simp only [List.length_replicate, sI_len]; omega) | (simp only [List.length_append, List.length_cons, List.length_nil, sI_len, cond_true, cond_false]; omega) | (simp only [List.length_append, List.length_cons, List.length_nil, sI_len, cond_eq_ite, apply_ite List.length]; split <;> simp only [List.length_append, List.length_cons, List.length_nil, sI_len] <;> omega) | grind))), (by rw [hX101]; exact (show t11 ≤ ((F_parts ap).length : Int) from (by first | omega | (simp only [sS_len, sL_len]; omega) | (simp only [List.length_replicate, sI_len]; omega) | (simp only [List.length_append, List.length_cons, List.length_nil, sI_len, cond_true, cond_false]; omega) | (simp only [List.length_append, List.length_cons, List.length_nil, sI_len, cond_eq_ite, apply_ite List.length]; split <;> simp only [List.length_append, List.length_cons, List.length_nil, sI_len] <;> omega) | grind))), (by rw [hX101]; exact (hE100.sub (L' := [(0, .slice apA ((ap).length / 2 : Nat) apC), (2, .int .i64 height2), (3, .int .i64 modal3), (9, .slice b16 ((F_parts ap).length) c17), (10, .int .i64 ((F_parts ap).length : Int)), (11, .int .i64 t11)]) ⟨rfl, rfl, rfl, rfl, rfl, rfl, trivial⟩)), (St.pick (Γ' := [.nest 32 2 none b16 c17 ((partRows apA apC ap).map (·.1)) (F_parts ap), .rd 2 apA ((ap).length / 2 : Nat) apC ap]) hS28 [0, 1] (by decide) rfl)⟩
  ·
   rintro a102 w103 ⟨hi107, hi108, hi109, hi110, hi111, hi112, hE104, hS105⟩; clear hE23 hS13
   refine p_tn ?_
   refine c_seq ?_
   refine c_seq ?_
   refine c_reg ?_
   refine q_step (v := .slice apA ((ap).length / 2 : Nat) apC) hE104 (y_move rfl) rfl rfl rfl ?_; intro a113 hE114; clear hE104
   refine q_step (v := .pointer (some (adr apA (Int.toNat 0 * 2)))) hE114 (y_idx (by kernel_rfl) (fun _ => by kernel_rfl) rfl rfl (RdS.isS (m := 0) (St.rdR (i := 1) hS105 rfl) (by omega) (by omega)) (by omega) (by omega) rfl) rfl rfl rfl ?_; intro a115 hE116; clear hE114
   refine q_step (v := .pointer (some (adr apA ((Int.toNat 0 * 2) + 0)))) hE116 (y_fieldE (o := 0) (fun _ _ => by kernel_rfl) rfl) rfl rfl rfl ?_; intro a117 hE118; clear hE116
   refine q_step (v := .int .i64 (gS 2 0 ap 0)) hE118 (y_load (fun _ => by kernel_rfl) rfl (RdS.eltS (j := 0) (St.rdR (i := 1) hS105 rfl) (by omega) (by omega) (by decide))) rfl rfl rfl ?_; intro a119 hE120; clear hE118
   have hc127 := c_isModal (gS 2 0 ap 0) w103
   refine l_step hE120 rfl (l_call (f := 192) (argv := [.int .i64 (gS 2 0 ap 0)]) hE120 (fun _ => cf_isModal _ _) rfl rfl (by exact hc127) ?_)
   rintro _ _ ⟨rfl, rfl⟩ a123 hE124; clear hE120
   refine c_nil ?_
   have hE128 := hE124.sub (L' := [(2, .int .i64 ((F_depths_L1 ap self (Int.toNat (((F_parts ap).length : Int) - 0) + 1) 0 0 0).1)), (3, .int .i64 ((F_depths_L1 ap self (Int.toNat (((F_parts ap).length : Int) - 0) + 1) 0 0 0).2.1)), (32, .bool (F_isModal (gS 2 0 ap 0)))]) ⟨rfl, rfl, rfl, trivial⟩; clear hE124
   refine p_tn ?_
   refine c_cond hE128 rfl (fun ht129 => ?_) (fun ht129 => ?_)
   ·
    have hE130 := hE128; rw [ht129] at hE130; clear hE128
    refine c_reg ?_
    refine q_step (v := .int .i64 ((F_depths_L1 ap self (Int.toNat (((F_parts ap).length : Int) - 0) + 1) 0 0 0).2.1)) hE130 (y_move rfl) rfl rfl rfl ?_; intro a131 hE132; clear hE130
    refine q_step (v := .int .i64 (((F_depths_L1 ap self (Int.toNat (((F_parts ap).length : Int) - 0) + 1) 0 0 0).2.1) + 1)) hE132 (y_add rfl rfl ⟨(by omega), (by omega)⟩) rfl rfl rfl ?_; intro a133 hE134; clear hE132
    refine q_step (v := .int .i64 (((F_depths_L1 ap self (Int.toNat (((F_parts ap).length : Int) - 0) + 1) 0 0 0).2.1) + 1)) hE134 (y_assign rfl) rfl rfl rfl ?_; intro a135 hE136; clear hE134
    refine c_nil ?_
    have hE137 := hE136.sub (L' := [(2, .int .i64 ((F_depths_L1 ap self (Int.toNat (((F_parts ap).length : Int) - 0) + 1) 0 0 0).1)), (3, .int .i64 (((F_depths_L1 ap self (Int.toNat (((F_parts ap).length : Int) - 0) + 1) 0 0 0).2.1) + 1))]) ⟨rfl, rfl, trivial⟩; clear hE136
    refine p_tn ?_
    refine c_seq ?_
    refine c_reg ?_
    refine q_step (v := .int .i64 ((F_depths_L1 ap self (Int.toNat (((F_parts ap).length : Int) - 0) + 1) 0 0 0).1)) hE137 (y_move rfl) rfl rfl rfl ?_; intro a138 hE139; clear hE137
    refine q_step (v := .int .i64 (((F_depths_L1 ap self (Int.toNat (((F_parts ap).length : Int) - 0) + 1) 0 0 0).2.1) + 1)) hE139 (y_move rfl) rfl rfl rfl ?_; intro a140 hE141; clear hE139
    refine q_step (v := .int .i64 ((F_depths_L1 ap self (Int.toNat (((F_parts ap).length : Int) - 0) + 1) 0 0 0).1)) hE141 (y_assign rfl) rfl rfl rfl ?_; intro a142 hE143; clear hE141
    refine q_step (v := .int .i64 (((F_depths_L1 ap self (Int.toNat (((F_parts ap).length : Int) - 0) + 1) 0 0 0).2.1) + 1)) hE143 (y_assign rfl) rfl rfl rfl ?_; intro a144 hE145; clear hE143
    refine c_nil ?_
    have hE146 := hE145.sub (L' := [(2, .int .i64 ((F_depths_L1 ap self (Int.toNat (((F_parts ap).length : Int) - 0) + 1) 0 0 0).1)), (3, .int .i64 (((F_depths_L1 ap self (Int.toNat (((F_parts ap).length : Int) - 0) + 1) 0 0 0).2.1) + 1))]) ⟨rfl, rfl, trivial⟩; clear hE145
    refine p_tn ?_
    refine wp_ret ?_
    have hF : F_depths_b self ap = ((F_depths_L1 ap self (Int.toNat (((F_parts ap).length : Int) - 0) + 1) 0 0 0).1, ((F_depths_L1 ap self (Int.toNat (((F_parts ap).length : Int) - 0) + 1) 0 0 0).2.1) + 1) := by unfold F_depths_b; rw [ht129]; first | done | rfl
    refine c_ret2 hE146 rfl rfl rfl ?_
    exact ⟨(by rw [hF]; first | done | (dsimp only; done) | rfl), hS105.ext⟩
   ·
    have hE147 := hE128; rw [ht129] at hE147; clear hE128
    refine wp_skip ?_
    refine p_tn ?_
    refine c_seq ?_
    refine c_reg ?_
    refine q_step (v := .int .i64 ((F_depths_L1 ap self (Int.toNat (((F_parts ap).length : Int) - 0) + 1) 0 0 0).1)) hE147 (y_move rfl) rfl rfl rfl ?_; intro a148 hE149; clear hE147
    refine q_step (v := .int .i64 ((F_depths_L1 ap self (Int.toNat (((F_parts ap).length : Int) - 0) + 1) 0 0 0).2.1)) hE149 (y_move rfl) rfl rfl rfl ?_; intro a150 hE151; clear hE149
    refine q_step (v := .int .i64 ((F_depths_L1 ap self (Int.toNat (((F_parts ap).length : Int) - 0) + 1) 0 0 0).1)) hE151 (y_assign rfl) rfl rfl rfl ?_; intro a152 hE153; clear hE151
    refine q_step (v := .int .i64 ((F_depths_L1 ap self (Int.toNat (((F_parts ap).length : Int) - 0) + 1) 0 0 0).2.1)) hE153 (y_assign rfl) rfl rfl rfl ?_; intro a154 hE155; clear hE153
    refine c_nil ?_
    have hE156 := hE155.sub (L' := [(2, .int .i64 ((F_depths_L1 ap self (Int.toNat (((F_parts ap).length : Int) - 0) + 1) 0 0 0).1)), (3, .int .i64 ((F_depths_L1 ap self (Int.toNat (((F_parts ap).length : Int) - 0) + 1) 0 0 0).2.1))]) ⟨rfl, rfl, trivial⟩; clear hE155
    refine p_tn ?_
    refine wp_ret ?_
    have hF : F_depths_b self ap = ((F_depths_L1 ap self (Int.toNat (((F_parts ap).length : Int) - 0) + 1) 0 0 0).1, (F_depths_L1 ap self (Int.toNat (((F_parts ap).length : Int) - 0) + 1) 0 0 0).2.1) := by unfold F_depths_b; rw [ht129]; first | done | rfl
    refine c_ret2 hE156 rfl rfl rfl ?_
    exact ⟨(by rw [hF]; first | done | (dsimp only; done) | rfl), hS105.ext⟩
theorem c_depths_r : ∀ (r : Nat) (apA : Option Addr) (apN apC : Nat) (ap : List Int) (w : World) (apR : RdS w 2 apA apN apC ap) (hl : ap.length ≤ 100) (hf : IsFm ap) (hlt : ap.length < r), Calls Try.prog 129 #[.slice apA apN apC] w (Ret fun v w' => v = .tuple #[.int .i64 (((F_depths_r r) ap).1), .int .i64 (((F_depths_r r) ap).2)] ∧ Ext w w') := by
  intro r
  induction r with
  | zero => intros; omega
  | succ r ih =>
    intro apA apN apC ap w apR hl hf hlt
    exact cb_depths (F_depths_r r) (depLen r) apA apN apC ap w apR hl hf ap.length rfl (fun apA apN apC ap w apR hl hf hdec => ih apA apN apC ap w apR hl hf (by omega))
theorem c_depths (apA : Option Addr) (apN apC : Nat) (ap : List Int) (w : World) (apR : RdS w 2 apA apN apC ap) (hl : ap.length ≤ 100) (hf : IsFm ap) :
    Calls Try.prog 129 #[.slice apA apN apC] w (Ret fun v w' => v = .tuple #[.int .i64 ((F_depths ap).1), .int .i64 ((F_depths ap).2)] ∧ Ext w w') := c_depths_r (ap.length + 1) apA apN apC ap w apR hl hf (Nat.lt_succ_self _)
theorem depths_bd (ap : List Int) (hl : ap.length ≤ 100) (hf : IsFm ap) : 0 ≤ (F_depths ap).1 ∧ (F_depths ap).1 ≤ (ap.length : Int) ∧ 0 ≤ (F_depths ap).2 ∧ (F_depths ap).2 ≤ (ap.length : Int) := depLen _ ap hl hf
def F_DepthsOf (ap : List Int) : (Int) × (Int) × (Int) :=
  bif (!(F_isFormula ap)) then (0, 0, 1) else ((F_depths ap).1, (F_depths ap).2, 0)
theorem cf_DepthsOf (args : Array Value) (w : World) : (callFunc 65 args).run Try.prog w = .ok (.enter 65 args) w := by kernel_rfl
set_option maxRecDepth 100000 in
theorem c_DepthsOf (apA : Option Addr) (apN apC : Nat) (ap : List Int) (w : World) (apR : RdS w 2 apA apN apC ap) (hl : ap.length ≤ 4194304) :
    Calls Try.prog 65 #[.slice apA apN apC] w (Ret fun v w' => v = .tuple #[.int .i64 ((F_DepthsOf ap).1), .int .i64 ((F_DepthsOf ap).2.1), .int .i64 ((F_DepthsOf ap).2.2)] ∧ Ext w w') := by
  obtain rfl : apN = ap.length / 2 := (apR.lenD (by decide)).symm
  have apEv := apR.ev (by decide)
  have apLe := apR.le
  have hS := St.nil w
  have hS1 := St.rd0 hS rfl apR; clear hS
  refine enter (args := [.slice apA ((ap).length / 2 : Nat) apC]) Try.func65 rfl rfl ?_
  rw [Try.ntmps65]; intro a hE
  have hE := hE.sub (L' := [(0, .slice apA ((ap).length / 2 : Nat) apC)]) ⟨rfl, trivial⟩
  refine c_seq ?_
  refine c_reg ?_
  refine q_step (v := .int .i64 0) hE (y_assign rfl) rfl rfl rfl ?_; intro a2 hE3; clear hE
  refine q_step (v := .int .i64 0) hE3 (y_assign rfl) rfl rfl rfl ?_; intro a4 hE5; clear hE3
  refine q_step (v := .int .i64 0) hE5 (y_assign rfl) rfl rfl rfl ?_; intro a6 hE7; clear hE5
  refine c_nil ?_
  have hE8 := hE7.sub (L' := [(0, .slice apA ((ap).length / 2 : Nat) apC)]) ⟨rfl, trivial⟩; clear hE7
  refine p_tn ?_
  refine c_seq ?_
  refine c_seq ?_
  refine c_reg ?_
  refine q_step (v := .slice apA ((ap).length / 2 : Nat) apC) hE8 (y_move rfl) rfl rfl rfl ?_; intro a9 hE10; clear hE8
  refine l_step hE10 rfl (l_call (f := 74) (argv := [.slice apA ((ap).length / 2 : Nat) apC]) hE10 (fun _ => cf_isFormula _ _) rfl rfl (c_isFormula apA ((ap).length / 2 : Nat) apC ap w (St.rdR (i := 0) hS1 rfl) (by omega)) ?_)
  rintro _ w12 ⟨rfl, he16⟩ a13 hE14; clear hE10
  have hS15 := St.go hS1 he16; clear hS1
  refine q_step (v := .bool (!(F_isFormula ap))) hE14 (y_not rfl) rfl rfl rfl ?_; intro a17 hE18; clear hE14
  refine c_nil ?_
  have hE19 := hE18.sub (L' := [(0, .slice apA ((ap).length / 2 : Nat) apC), (9, .bool (!(F_isFormula ap)))]) ⟨rfl, rfl, trivial⟩; clear hE18
  refine p_tn ?_
  refine c_cond hE19 rfl (fun ht20 => ?_) (fun ht20 => ?_)
  ·
   have ht21 := bn_t ht20
   have hE22 := hE19; rw [ht20] at hE22; clear hE19
   refine c_seq ?_
   refine c_reg ?_
   refine q_step (v := .int .i64 0) hE22 (y_assign rfl) rfl rfl rfl ?_; intro a23 hE24; clear hE22
   refine q_step (v := .int .i64 0) hE24 (y_assign rfl) rfl rfl rfl ?_; intro a25 hE26; clear hE24
   refine q_step (v := .int .i64 1) hE26 (y_assign rfl) rfl rfl rfl ?_; intro a27 hE28; clear hE26
   refine c_nil ?_
   have hE29 := hE28.sub (L' := [(2, .int .i64 0), (3, .int .i64 0), (4, .int .i64 1)]) ⟨rfl, rfl, rfl, trivial⟩; clear hE28
   refine p_tn ?_
   refine wp_ret ?_
   refine p_tr ?_
   have hF : F_DepthsOf ap = (0, 0, 1) := by unfold F_DepthsOf; rw [ht20]; first | done | rfl
   refine c_ret3 hE29 rfl rfl rfl rfl ?_
   exact ⟨(by rw [hF]; first | done | (dsimp only; done) | rfl), hS15.ext⟩
  ·
   have ht30 := bn_f ht20
   have hp31 := isFm_f apEv ht30
   have hE32 := hE19; rw [ht20] at hE32; clear hE19
   refine wp_skip ?_
   refine p_tn ?_
   refine c_seq ?_
   refine c_reg ?_
   refine q_step (v := .slice apA ((ap).length / 2 : Nat) apC) hE32 (y_move rfl) rfl rfl rfl ?_; intro a33 hE34; clear hE32
   refine l_step hE34 rfl (l_call (f := 129) (argv := [.slice apA ((ap).length / 2 : Nat) apC]) hE34 (fun _ => cf_depths _ _) rfl rfl (c_depths apA ((ap).length / 2 : Nat) apC ap w12 (St.rdR (i := 0) hS15 rfl) (by omega) (isFm_f apEv (by assumption)).1) ?_)
   rintro _ w36 ⟨rfl, he40⟩ a37 hE38; clear hE34
   have hf41 := depths_bd ap (by omega) (isFm_f apEv (by assumption)).1
   have hS39 := St.go hS15 he40; clear hS15
   refine q_step (v := .tuple #[.int .i64 ((F_depths ap).1), .int .i64 ((F_depths ap).2)]) hE38 (y_move rfl) rfl rfl rfl ?_; intro a42 hE43; clear hE38
   refine q_step (v := .int .i64 ((F_depths ap).1)) hE43 (y_extract rfl rfl) rfl rfl rfl ?_; intro a44 hE45; clear hE43
   refine q_step (v := .int .i64 ((F_depths ap).2)) hE45 (y_extract rfl rfl) rfl rfl rfl ?_; intro a46 hE47; clear hE45
   refine q_step (v := .int .i64 ((F_depths ap).1)) hE47 (y_assign rfl) rfl rfl rfl ?_; intro a48 hE49; clear hE47
   refine q_step (v := .int .i64 ((F_depths ap).2)) hE49 (y_assign rfl) rfl rfl rfl ?_; intro a50 hE51; clear hE49
   refine c_nil ?_
   have hE52 := hE51.sub (L' := [(5, .int .i64 ((F_depths ap).1)), (6, .int .i64 ((F_depths ap).2))]) ⟨rfl, rfl, trivial⟩; clear hE51
   refine p_tn ?_
   refine c_seq ?_
   refine c_reg ?_
   refine q_step (v := .int .i64 ((F_depths ap).1)) hE52 (y_move rfl) rfl rfl rfl ?_; intro a53 hE54; clear hE52
   refine q_step (v := .int .i64 ((F_depths ap).2)) hE54 (y_move rfl) rfl rfl rfl ?_; intro a55 hE56; clear hE54
   refine q_step (v := .int .i64 ((F_depths ap).1)) hE56 (y_assign rfl) rfl rfl rfl ?_; intro a57 hE58; clear hE56
   refine q_step (v := .int .i64 ((F_depths ap).2)) hE58 (y_assign rfl) rfl rfl rfl ?_; intro a59 hE60; clear hE58
   refine q_step (v := .int .i64 0) hE60 (y_assign rfl) rfl rfl rfl ?_; intro a61 hE62; clear hE60
   refine c_nil ?_
   have hE63 := hE62.sub (L' := [(2, .int .i64 ((F_depths ap).1)), (3, .int .i64 ((F_depths ap).2)), (4, .int .i64 0)]) ⟨rfl, rfl, rfl, trivial⟩; clear hE62
   refine p_tn ?_
   refine wp_ret ?_
   have hF : F_DepthsOf ap = ((F_depths ap).1, (F_depths ap).2, 0) := by unfold F_DepthsOf; rw [ht20]; first | done | rfl
   refine c_ret3 hE63 rfl rfl rfl rfl ?_
   exact ⟨(by rw [hF]; first | done | (dsimp only; done) | rfl), hS39.ext⟩
theorem DepthsOf_bd (ap : List Int) (he : ap.length = ap.length / 2 * 2) : 0 ≤ (F_DepthsOf ap).1 ∧ (F_DepthsOf ap).1 ≤ 100 ∧ 0 ≤ (F_DepthsOf ap).2.1 ∧ (F_DepthsOf ap).2.1 ≤ 100 ∧ 0 ≤ (F_DepthsOf ap).2.2 ∧ (F_DepthsOf ap).2.2 ≤ 1 := by
  unfold F_DepthsOf
  cases h : F_isFormula ap
  · exact ⟨Int.le_refl 0, by show (0 : Int) ≤ 100; omega, Int.le_refl 0, by show (0 : Int) ≤ 100; omega, by show (0 : Int) ≤ 1; omega, Int.le_refl 1⟩
  · have h1 := isFm_f he h
    have h2 := depths_bd ap (by omega) h1.1
    refine ⟨h2.1, by show (F_depths ap).1 ≤ 100; omega, h2.2.2.1, by show (F_depths ap).2 ≤ 100; omega, Int.le_refl 0, by show (0 : Int) ≤ 1; omega⟩
end Go.Proofs.Ytkilkfhjfobcdaa
