/- GCC: models and contracts, printed by wip/gen/gen.py -/
import Derived.Test.YtkilkfhjfobcdaaGCB
set_option linter.unusedVariables false
set_option linter.unusedSimpArgs false
namespace Go.Proofs.Ytkilkfhjfobcdaa
open Go.RowKit

def F_ClausesFormula_L1b (clauses : List (List Int)) (rec : (List (List Int)) → Int → (List (List Int)) × Int) (out4 : List (List Int)) (t12 : Int) : (List (List Int)) × Int :=
  bif (decide (t12 < ((clauses).length : Int))) then (rec (out4 ++ ([F_literalsFormula 3 (gL clauses t12)])) (t12 + 1)) else (out4, t12)
def F_ClausesFormula_L1 (clauses : List (List Int)) : Nat → (List (List Int)) → Int → (List (List Int)) × Int
  | 0, out4, t12 => (out4, t12)
  | r + 1, out4, t12 => F_ClausesFormula_L1b clauses (F_ClausesFormula_L1 clauses r) out4 t12
def F_ClausesFormula (clauses : List (List Int)) : (List Int) × (Int) :=
  bif (!(F_areClauses clauses)) then ([], 1) else (bif (decide (40 < (((F_joinAll 2 ((F_ClausesFormula_L1 clauses (Int.toNat (((clauses).length : Int) - 0) + 1) ([]) 0).1)).length / 2 : Nat) : Int))) then ([], 3) else (F_joinAll 2 ((F_ClausesFormula_L1 clauses (Int.toNat (((clauses).length : Int) - 0) + 1) ([]) 0).1), 0))
theorem cf_ClausesFormula (args : Array Value) (w : World) : (callFunc 38 args).run Try.prog w = .ok (.enter 38 args) w := by kernel_rfl
set_option maxRecDepth 100000 in
theorem c_ClausesFormula (clausesA : Option Addr) (clausesN clausesC : Nat) (clausesQ : List Hd) (clauses : List (List Int)) (w : World) (clausesR : RdN w 1 clausesA clausesN clausesC clausesQ clauses) (hl : clauses.length ≤ 1048576) :
    Calls Try.prog 38 #[.slice clausesA clausesN clausesC] w (Ret fun v w' => ∃ b1 : Option Addr, ∃ c1 : Nat, v = .tuple #[.slice b1 (((F_ClausesFormula clauses).1).length / 2 : Nat) c1, .int .i64 ((F_ClausesFormula clauses).2)] ∧ OwnS w' w.heap.size 94 2 b1 (((F_ClausesFormula clauses).1).length / 2 : Nat) c1 ((F_ClausesFormula clauses).1) ∧ Ext w w') := by
  obtain rfl : clausesN = clauses.length := clausesR.len
  have clausesLe := clausesR.le
  have hS := St.nil w
  have hS1 := St.rdn0 hS rfl clausesR; clear hS
  refine enter (args := [.slice clausesA ((clauses).length) clausesC]) Try.func38 rfl rfl ?_
  rw [Try.ntmps38]; intro a hE
  have hE := hE.sub (L' := [(0, .slice clausesA ((clauses).length) clausesC)]) ⟨rfl, trivial⟩
  refine c_seq ?_
  refine c_reg ?_
  refine q_step (v := .slice none 0 0) hE (y_assign rfl) rfl rfl rfl ?_; intro a2 hE3; clear hE
  refine q_step (v := .int .i64 0) hE3 (y_assign rfl) rfl rfl rfl ?_; intro a4 hE5; clear hE3
  refine c_nil ?_
  have hE6 := hE5.sub (L' := [(0, .slice clausesA ((clauses).length) clausesC)]) ⟨rfl, trivial⟩; clear hE5
  refine p_tn ?_
  refine c_seq ?_
  refine c_seq ?_
  refine c_reg ?_
  refine q_step (v := .slice clausesA ((clauses).length) clausesC) hE6 (y_move rfl) rfl rfl rfl ?_; intro a7 hE8; clear hE6
  refine l_step hE8 rfl (l_call (f := 94) (argv := [.slice clausesA ((clauses).length) clausesC]) hE8 (fun _ => cf_areClauses _ _) rfl rfl (c_areClauses clausesA ((clauses).length) clausesC clausesQ clauses w (St.rdNr (i := 0) hS1 rfl)) ?_)
  rintro _ w10 ⟨rfl, he14⟩ a11 hE12; clear hE8
  have hS13 := St.go hS1 he14; clear hS1
  refine q_step (v := .bool (!(F_areClauses clauses))) hE12 (y_not rfl) rfl rfl rfl ?_; intro a15 hE16; clear hE12
  refine c_nil ?_
  have hE17 := hE16.sub (L' := [(0, .slice clausesA ((clauses).length) clausesC), (9, .bool (!(F_areClauses clauses)))]) ⟨rfl, rfl, trivial⟩; clear hE16
  refine p_tn ?_
  refine c_cond hE17 rfl (fun ht18 => ?_) (fun ht18 => ?_)
  ·
   have ht19 := bn_t ht18
   have hE20 := hE17; rw [ht18] at hE20; clear hE17
   refine c_seq ?_
   refine c_reg ?_
   refine q_step (v := .slice none 0 0) hE20 (y_assign rfl) rfl rfl rfl ?_; intro a21 hE22; clear hE20
   refine q_step (v := .int .i64 1) hE22 (y_assign rfl) rfl rfl rfl ?_; intro a23 hE24; clear hE22
   refine c_nil ?_
   have hE25 := hE24.sub (L' := [(2, .slice none 0 0), (3, .int .i64 1)]) ⟨rfl, rfl, trivial⟩; clear hE24
   refine p_tn ?_
   refine wp_ret ?_
   refine p_tr ?_
   have hF : F_ClausesFormula clauses = ([], 1) := by unfold F_ClausesFormula; rw [ht18]; first | done | rfl
   refine c_ret2 hE25 rfl rfl rfl ?_
   exact ⟨none, 0, (by rw [hF]; first | done | (dsimp only; done) | rfl), (by rw [hF]; (try dsimp only); exact OwnS.nilS _ _ _ _), hS13.ext⟩
  ·
   have ht26 := bn_f ht18
   have hE27 := hE17; rw [ht18] at hE27; clear hE17
   refine wp_skip ?_
   refine p_tn ?_
   refine c_seq ?_
   refine c_reg ?_
   refine q_step (v := .slice none 0 0) hE27 (y_assign rfl) rfl rfl rfl ?_; intro a28 hE29; clear hE27
   refine c_nil ?_
   have hE30 := hE29.sub (L' := [(0, .slice clausesA ((clauses).length) clausesC), (4, .slice none 0 0)]) ⟨rfl, rfl, trivial⟩; clear hE29
   refine p_tn ?_
   refine c_seq ?_
   refine c_seq ?_
   refine c_reg ?_
   refine q_step (v := .slice clausesA ((clauses).length) clausesC) hE30 (y_move rfl) rfl rfl rfl ?_; intro a31 hE32; clear hE30
   refine q_step (v := .int .i64 ((clauses).length : Int)) hE32 (y_len (e := 22) (by kernel_rfl) rfl) rfl rfl rfl ?_; intro a33 hE34; clear hE32
   refine q_step (v := .int .i64 0) hE34 (y_move rfl) rfl rfl rfl ?_; intro a35 hE36; clear hE34
   refine c_nil ?_
   have hE37 := hE36.sub (L' := [(4, .slice none 0 0), (10, .slice clausesA ((clauses).length) clausesC), (11, .int .i64 ((clauses).length : Int)), (12, .int .i64 0)]) ⟨rfl, rfl, rfl, rfl, trivial⟩; clear hE36
   refine p_tn ?_
   have hS38 := St.nilsN hS13 32 2 (some 94); clear hS13
   refine c_cut1 (fun a' w' => ∃ out4A_39 : Option Addr, ∃ out4C_39 : Nat, ∃ out4H_39 : List Hd, (0 ≤ ((F_ClausesFormula_L1 clauses (Int.toNat (((clauses).length : Int) - 0) + 1) ([]) 0).2)) ∧ ((((F_ClausesFormula_L1 clauses (Int.toNat (((clauses).length : Int) - 0) + 1) ([]) 0).1).length : Int) = ((F_ClausesFormula_L1 clauses (Int.toNat (((clauses).length : Int) - 0) + 1) ([]) 0).2)) ∧ (∀ m : Int, 0 ≤ m → m < (((F_ClausesFormula_L1 clauses (Int.toNat (((clauses).length : Int) - 0) + 1) ([]) 0).1).length : Int) → (gL ((F_ClausesFormula_L1 clauses (Int.toNat (((clauses).length : Int) - 0) + 1) ([]) 0).1) m).length ≤ 102) ∧ (((F_ClausesFormula_L1 clauses (Int.toNat (((clauses).length : Int) - 0) + 1) ([]) 0).2) ≤ ((clauses).length : Int)) ∧ E a' 27 [(4, .slice out4A_39 (((F_ClausesFormula_L1 clauses (Int.toNat (((clauses).length : Int) - 0) + 1) ([]) 0).1).length) out4C_39), (10, .slice clausesA ((clauses).length) clausesC), (11, .int .i64 ((clauses).length : Int)), (12, .int .i64 ((F_ClausesFormula_L1 clauses (Int.toNat (((clauses).length : Int) - 0) + 1) ([]) 0).2))] ∧ St w w' [.nest 32 2 (some 94) out4A_39 out4C_39 out4H_39 ((F_ClausesFormula_L1 clauses (Int.toNat (((clauses).length : Int) - 0) + 1) ([]) 0).1), .rdn 1 clausesA ((clauses).length) clausesC clausesQ clauses]) ?_ ?_
   ·
    refine wp_block ?_
    refine c_loop (fun r a' w' => ∃ out4 : List (List Int), ∃ t12 : Int, ∃ out4A : Option Addr, ∃ out4C : Nat, ∃ out4H : List Hd, F_ClausesFormula_L1 clauses r out4 t12 = F_ClausesFormula_L1 clauses (Int.toNat (((clauses).length : Int) - 0) + 1) ([]) 0 ∧ Int.toNat (((clauses).length : Int) - t12) < r ∧ (0 ≤ t12) ∧ ((out4.length : Int) = t12) ∧ (∀ m : Int, 0 ≤ m → m < (out4.length : Int) → (gL out4 m).length ≤ 102) ∧ (t12 ≤ ((clauses).length : Int)) ∧ E a' 27 [(4, .slice out4A ((out4).length) out4C), (10, .slice clausesA ((clauses).length) clausesC), (11, .int .i64 ((clauses).length : Int)), (12, .int .i64 t12)] ∧ St w w' [.nest 32 2 (some 94) out4A out4C out4H out4, .rdn 1 clausesA ((clauses).length) clausesC clausesQ clauses]) (r := (Int.toNat (((clauses).length : Int) - 0) + 1)) ?_ ?_
    · exact ⟨[], 0, none, 0, [], rfl, Nat.lt_succ_self _, (by first | omega | (simp only [sS_len, sL_len]; omega) | (simp only [List.length_replicate, sI_len]; omega) | (simp only [List.length_append, List.length_cons, List.length_nil, sI_len, cond_true, cond_false]; omega) | (simp only [List.length_append, List.length_cons, List.length_nil, sI_len, cond_eq_ite, apply_ite List.length]; split <;> simp only [List.length_append, List.length_cons, List.length_nil, sI_len] <;> omega) | grind), (by first | omega | (simp only [sS_len, sL_len]; omega) | (simp only [List.length_replicate, sI_len]; omega) | (simp only [List.length_append, List.length_cons, List.length_nil, sI_len, cond_true, cond_false]; omega) | (simp only [List.length_append, List.length_cons, List.length_nil, sI_len, cond_eq_ite, apply_ite List.length]; split <;> simp only [List.length_append, List.length_cons, List.length_nil, sI_len] <;> omega) | grind), rowsLe_nil, (by first | omega | (simp only [sS_len, sL_len]; omega) | (simp only [List.length_replicate, sI_len]; omega) | (simp only [List.length_append, List.length_cons, List.length_nil, sI_len, cond_true, cond_false]; omega) | (simp only [List.length_append, List.length_cons, List.length_nil, sI_len, cond_eq_ite, apply_ite List.length]; split <;> simp only [List.length_append, List.length_cons, List.length_nil, sI_len] <;> omega) | grind), (hE37.sub (L' := [(4, .slice none 0 0), (10, .slice clausesA ((clauses).length) clausesC), (11, .int .i64 ((clauses).length : Int)), (12, .int .i64 0)]) ⟨rfl, rfl, rfl, rfl, trivial⟩), (St.pick (Γ' := [.nest 32 2 (some 94) none 0 ([]) ([]), .rdn 1 clausesA ((clauses).length) clausesC clausesQ clauses]) hS38 [0, 1] (by decide) rfl)⟩
    ·
     clear hE37 hS38
     rintro r50 a40 w41 ⟨out4, t12, out4A, out4C, out4H, hT44, hr45, hi46, hi47, hi48, hi49, hE42, hS43⟩
     obtain ⟨r50, rfl⟩ : ∃ r', r50 = r' + 1 := ⟨r50 - 1, by omega⟩
     refine c_seq ?_
     refine c_reg ?_
     refine q_step (v := .bool (decide (t12 < ((clauses).length : Int)))) hE42 (y_lss rfl rfl) rfl rfl rfl ?_; intro a51 hE52; clear hE42
     refine c_nil ?_
     have hE53 := hE52.sub (L' := [(4, .slice out4A ((out4).length) out4C), (10, .slice clausesA ((clauses).length) clausesC), (11, .int .i64 ((clauses).length : Int)), (12, .int .i64 t12), (13, .bool (decide (t12 < ((clauses).length : Int))))]) ⟨rfl, rfl, rfl, rfl, rfl, trivial⟩; clear hE52
     refine p_tn ?_
     refine c_seq ?_
     refine c_cond hE53 rfl (fun ht54 => ?_) (fun ht54 => ?_)
     ·
      have hp55 := of_decide_eq_true ht54
      have hE56 := hE53; rw [ht54] at hE56; clear hE53
      have hcl := areClauses_t (l := clauses) (by assumption) t12 (by omega) (by omega)
      refine wp_skip ?_
      refine p_tn ?_
      refine c_seq ?_
      refine wp_block ?_
      refine c_seq ?_
      refine c_reg ?_
      refine q_step (v := .pointer (some (adr clausesA (Int.toNat t12)))) hE56 (y_idx (by kernel_rfl) (fun _ => by kernel_rfl) rfl rfl (RdN.isS (m := t12) (St.rdNr (i := 1) hS43 rfl) (by omega) (by omega)) (by omega) (by omega) (Nat.mul_one _).symm) rfl rfl rfl ?_; intro a57 hE58; clear hE56
      have hv59 : (0 : Int) ≤ t12 ∧ t12 < (((clauses).length) : Int) := ⟨(by omega), (by omega)⟩
      refine q_step (v := .slice (hdA clausesQ t12) ((gL clauses t12).length) (hdC clausesQ t12)) hE58 (y_load (fun _ => by kernel_rfl) rfl (RdN.elt1 (St.rdNr (i := 1) hS43 rfl) (by omega) (by omega))) rfl rfl rfl ?_; intro a61 hE62; clear hE58
      refine q_step (v := .slice (hdA clausesQ t12) ((gL clauses t12).length) (hdC clausesQ t12)) hE62 (y_assign rfl) rfl rfl rfl ?_; intro a63 hE64; clear hE62
      refine c_nil ?_
      have hE65 := hE64.sub (L' := [(4, .slice out4A ((out4).length) out4C), (6, .slice (hdA clausesQ t12) ((gL clauses t12).length) (hdC clausesQ t12)), (10, .slice clausesA ((clauses).length) clausesC), (11, .int .i64 ((clauses).length : Int)), (12, .int .i64 t12)]) ⟨rfl, rfl, rfl, rfl, rfl, trivial⟩; clear hE64
      refine p_tn ?_
      refine c_reg ?_
      refine q_step (v := .slice out4A ((out4).length) out4C) hE65 (y_move rfl) rfl rfl rfl ?_; intro a66 hE67; clear hE65
      refine q_step (v := .slice (hdA clausesQ t12) ((gL clauses t12).length) (hdC clausesQ t12)) hE67 (y_move rfl) rfl rfl rfl ?_; intro a68 hE69; clear hE67
      refine l_step hE69 rfl (l_call (f := 95) (argv := [.int .i64 3, .slice (hdA clausesQ t12) ((gL clauses t12).length) (hdC clausesQ t12)]) hE69 (fun _ => cf_literalsFormula _ _) rfl rfl (c_literalsFormula 3 (hdA clausesQ t12) ((gL clauses t12).length) (hdC clausesQ t12) (gL clauses t12) w41 (RdN.row1 (St.rdNr (i := 1) hS43 rfl) hv59.1 hv59.2) hcl.1 hcl.2) ?_)
      rintro _ w71 ⟨b76, c77, rfl, ho78, he75⟩ a72 hE73; clear hE69
      have hf79 := literalsFormula_len 3 (gL clauses t12)
      have hS74 := St.own hS43 he75 ho78; clear hS43
      have hS86 := (St.pick (Γ' := [.own 94 2 b76 ((F_literalsFormula 3 (gL clauses t12)).length / 2 : Nat) c77 (F_literalsFormula 3 (gL clauses t12)), .nest 32 2 (some 94) out4A out4C out4H out4, .rdn 1 clausesA ((clauses).length) clausesC clausesQ clauses]) hS74 [0, 1, 2] (by decide) rfl); clear hS74
      refine l_step hE73 rfl (l_litO1 (e := 32) hS86 hE73 rfl (fun _ => by kernel_rfl) rfl ?_)
      intro b80 w81 hS84 he85 a82 hE83; clear hS86 hE73
      have hS93 := (St.pick (Γ' := [.nest 32 2 (some 94) (some ⟨b80, 0, none⟩) 1 ([⟨b76, ((F_literalsFormula 3 (gL clauses t12)).length / 2 : Nat), c77⟩]) ([F_literalsFormula 3 (gL clauses t12)]), .nest 32 2 (some 94) out4A out4C out4H out4, .rdn 1 clausesA ((clauses).length) clausesC clausesQ clauses]) hS84 [0, 1, 2] (by decide) rfl); clear hS84
      obtain ⟨_, hi1, hi2, hi3, hi4⟩ := info_parts (show (Try.prog.info? 32).map (fun i => (i.zero, i.size, i.bytes)) = some (some (.slice none 0 0), 1, 24) by kernel_rfl)
      refine l_step hE83 rfl (l_appendN (k := 0) hS93 hE83 (by kernel_rfl) hi1 hi2 hi3 rfl (by rw [hi4]; decide) rfl rfl rfl rfl rfl rfl (by first | omega | (simp only [List.length_append, List.length_cons, List.length_nil]; omega)) rfl ?_)
      intro b87 c94 w88 hS91 a89 hE90; clear hS93 hE83 hi1 hi2 hi3 hi4
      refine q_step (v := .slice b87 ((out4 ++ ([F_literalsFormula 3 (gL clauses t12)])).length) c94) hE90 (y_assign rfl) rfl rfl rfl ?_; intro a95 hE96; clear hE90
      refine c_nil ?_
      have hE97 := hE96.sub (L' := [(4, .slice b87 ((out4 ++ ([F_literalsFormula 3 (gL clauses t12)])).length) c94), (10, .slice clausesA ((clauses).length) clausesC), (11, .int .i64 ((clauses).length : Int)), (12, .int .i64 t12)]) ⟨rfl, rfl, rfl, rfl, trivial⟩; clear hE96
      refine p_bn ?_
      refine p_tn ?_
      refine c_reg ?_
      refine q_step (v := .int .i64 (t12 + 1)) hE97 (y_add rfl rfl ⟨(by omega), (by omega)⟩) rfl rfl rfl ?_; intro a98 hE99; clear hE97
      refine q_step (v := .int .i64 (t12 + 1)) hE99 (y_move rfl) rfl rfl rfl ?_; intro a100 hE101; clear hE99
      refine c_nil ?_
      have hE102 := hE101.sub (L' := [(4, .slice b87 ((out4 ++ ([F_literalsFormula 3 (gL clauses t12)])).length) c94), (10, .slice clausesA ((clauses).length) clausesC), (11, .int .i64 ((clauses).length : Int)), (12, .int .i64 (t12 + 1))]) ⟨rfl, rfl, rfl, rfl, trivial⟩; clear hE101
      refine p_tn ⟨r50, Nat.lt_succ_self _, out4 ++ ([F_literalsFormula 3 (gL clauses t12)]), t12 + 1, b87, c94, out4H ++ ([⟨b76, ((F_literalsFormula 3 (gL clauses t12)).length / 2 : Nat), c77⟩]), (hT44.symm.trans (show F_ClausesFormula_L1b clauses (F_ClausesFormula_L1 clauses r50) out4 t12 = F_ClausesFormula_L1 clauses r50 (out4 ++ ([F_literalsFormula 3 (gL clauses t12)])) (t12 + 1) by unfold F_ClausesFormula_L1b; rw [ht54]; first | done | rfl)).symm, (by omega), (by first | omega | (simp only [sS_len, sL_len]; omega) | (simp only [List.length_replicate, sI_len]; omega) | (simp only [List.length_append, List.length_cons, List.length_nil, sI_len, cond_true, cond_false]; omega) | (simp only [List.length_append, List.length_cons, List.length_nil, sI_len, cond_eq_ite, apply_ite List.length]; split <;> simp only [List.length_append, List.length_cons, List.length_nil, sI_len] <;> omega) | grind), (by rw [app1_len]; omega), (rowsLe_app (by assumption) (by omega)), (by first | omega | (simp only [sS_len, sL_len]; omega) | (simp only [List.length_replicate, sI_len]; omega) | (simp only [List.length_append, List.length_cons, List.length_nil, sI_len, cond_true, cond_false]; omega) | (simp only [List.length_append, List.length_cons, List.length_nil, sI_len, cond_eq_ite, apply_ite List.length]; split <;> simp only [List.length_append, List.length_cons, List.length_nil, sI_len] <;> omega) | grind), (hE102.sub (L' := [(4, .slice b87 ((out4 ++ ([F_literalsFormula 3 (gL clauses t12)])).length) c94), (10, .slice clausesA ((clauses).length) clausesC), (11, .int .i64 ((clauses).length : Int)), (12, .int .i64 (t12 + 1))]) ⟨rfl, rfl, rfl, rfl, trivial⟩), (St.pick (Γ' := [.nest 32 2 (some 94) b87 c94 (out4H ++ ([⟨b76, ((F_literalsFormula 3 (gL clauses t12)).length / 2 : Nat), c77⟩])) (out4 ++ ([F_literalsFormula 3 (gL clauses t12)])), .rdn 1 clausesA ((clauses).length) clausesC clausesQ clauses]) hS91 [0, 1] (by decide) rfl)⟩
     ·
      have hp103 := of_decide_eq_false ht54
      have hE104 := hE53; rw [ht54] at hE104; clear hE53
      refine wp_exit ?_
      refine p_te ?_
      have hX105 : F_ClausesFormula_L1 clauses (Int.toNat (((clauses).length : Int) - 0) + 1) ([]) 0 = (out4, t12) := hT44.symm.trans (show F_ClausesFormula_L1b clauses (F_ClausesFormula_L1 clauses r50) out4 t12 = (out4, t12) by unfold F_ClausesFormula_L1b; rw [ht54]; first | done | rfl)
      refine p_te (p_be (p_tn ?_))
      exact ⟨out4A, out4C, out4H, (by rw [hX105]; exact (show 0 ≤ t12 from (by first | omega | (simp only [sS_len, sL_len]; omega) | (simp only [List.length_replicate, sI_len]; omega) | (simp only [List.length_append, List.length_cons, List.length_nil, sI_len, cond_true, cond_false]; omega) | (simp only [List.length_append, List.length_cons, List.length_nil, sI_len, cond_eq_ite, apply_ite List.length]; split <;> simp only [List.length_append, List.length_cons, List.length_nil, sI_len] <;> omega) | grind))), (by rw [hX105]; exact (show (out4.length : Int) = t12 from (by first | omega | (simp only [sS_len, sL_len]; omega) | (simp only [List.length_replicate, sI_len]; omega) | (simp only [List.length_append, List.length_cons, List.length_nil, sI_len, cond_true, cond_false]; omega) | (simp only [List.length_append, List.length_cons, List.length_nil, sI_len, cond_eq_ite, apply_ite List.length]; split <;> simp only [List.length_append, List.length_cons, List.length_nil, sI_len] <;> omega) | grind))), (by rw [hX105]; exact (show ∀ m : Int, 0 ≤ m → m < (out4.length : Int) → (gL out4 m).length ≤ 102 from (by first | omega | (simp only [sS_len, sL_len]; omega) | (simp only [List.length_replicate, sI_len]; omega) | (simp only [List.length_append, List.length_cons, List.length_nil, sI_len, cond_true, cond_false]; omega) | (simp only [List.length_append, List.length_cons, List.length_nil, sI_len, cond_eq_ite, apply_ite List.length]; split <;> simp only [List.length_append, List.length_cons, List.length_nil, sI_len] <;> omega) | grind))), (by rw [hX105]; exact (show t12 ≤ ((clauses).length : Int) from (by first | omega | (simp only [sS_len, sL_len]; omega) | (simp only [List.length_replicate, sI_len]; omega) | (simp only [List.length_append, List.length_cons, List.length_nil, sI_len, cond_true, cond_false]; omega) | (simp only [List.length_append, List.length_cons, List.length_nil, sI_len, cond_eq_ite, apply_ite List.length]; split <;> simp only [List.length_append, List.length_cons, List.length_nil, sI_len] <;> omega) | grind))), (by rw [hX105]; exact (hE104.sub (L' := [(4, .slice out4A ((out4).length) out4C), (10, .slice clausesA ((clauses).length) clausesC), (11, .int .i64 ((clauses).length : Int)), (12, .int .i64 t12)]) ⟨rfl, rfl, rfl, rfl, trivial⟩)), (by rw [hX105]; exact (St.pick (Γ' := [.nest 32 2 (some 94) out4A out4C out4H out4, .rdn 1 clausesA ((clauses).length) clausesC clausesQ clauses]) hS43 [0, 1] (by decide) rfl))⟩
   ·
    rintro a106 w107 ⟨out4A_39, out4C_39, out4H_39, hi111, hi112, hi113, hi114, hE108, hS109⟩; clear hE37 hS38
    refine p_tn ?_
    refine c_seq ?_
    refine c_reg ?_
    refine q_step (v := .slice out4A_39 (((F_ClausesFormula_L1 clauses (Int.toNat (((clauses).length : Int) - 0) + 1) ([]) 0).1).length) out4C_39) hE108 (y_move rfl) rfl rfl rfl ?_; intro a115 hE116; clear hE108
    refine l_step hE116 rfl (l_call (f := 96) (argv := [.int .i64 2, .slice out4A_39 (((F_ClausesFormula_L1 clauses (Int.toNat (((clauses).length : Int) - 0) + 1) ([]) 0).1).length) out4C_39]) hE116 (fun _ => cf_joinAll _ _) rfl rfl (c_joinAll 2 out4A_39 (((F_ClausesFormula_L1 clauses (Int.toNat (((clauses).length : Int) - 0) + 1) ([]) 0).1).length) out4C_39 out4H_39 ((F_ClausesFormula_L1 clauses (Int.toNat (((clauses).length : Int) - 0) + 1) ([]) 0).1) w107 (St.rdNo (i := 0) hS109 rfl) (by omega) (rowsLe_mono (c := 102) (by assumption) (by omega))) ?_)
    rintro _ w118 ⟨b123, c124, rfl, ho125, he122⟩ a119 hE120; clear hE116
    have hS121 := St.own hS109 he122 ho125; clear hS109
    rcases Bool.eq_false_or_eq_true (decide (40 < (((F_joinAll 2 ((F_ClausesFormula_L1 clauses (Int.toNat (((clauses).length : Int) - 0) + 1) ([]) 0).1)).length / 2 : Nat) : Int))) with hb126 | hb126
    ·
     have hE127 := hE120; (try rw [hb126] at hE127); clear hE120
     have hp128 := of_decide_eq_true hb126
     refine l_step hE127 rfl (l_call (f := 83) (argv := [.slice b123 ((F_joinAll 2 ((F_ClausesFormula_L1 clauses (Int.toNat (((clauses).length : Int) - 0) + 1) ([]) 0).1)).length / 2 : Nat) c124]) hE127 (fun _ => cf_limited_f _ _) rfl rfl (d_limited_t b123 ((F_joinAll 2 ((F_ClausesFormula_L1 clauses (Int.toNat (((clauses).length : Int) - 0) + 1) ([]) 0).1)).length / 2 : Nat) c124 (F_joinAll 2 ((F_ClausesFormula_L1 clauses (Int.toNat (((clauses).length : Int) - 0) + 1) ([]) 0).1)) w118 (St.rdO (i := 0) hS121 rfl) hb126) ?_)
     rintro _ _ ⟨rfl, rfl⟩ a131 hE132; clear hE127
     refine q_step (v := .slice none 0 0) hE132 (y_extract rfl rfl) rfl rfl rfl ?_; intro a135 hE136; clear hE132
     refine q_step (v := .int .i64 3) hE136 (y_extract rfl rfl) rfl rfl rfl ?_; intro a137 hE138; clear hE136
     refine q_step (v := .slice none 0 0) hE138 (y_assign rfl) rfl rfl rfl ?_; intro a139 hE140; clear hE138
     refine q_step (v := .int .i64 3) hE140 (y_assign rfl) rfl rfl rfl ?_; intro a141 hE142; clear hE140
     refine c_nil ?_
     have hE143 := hE142.sub (L' := [(2, .slice none 0 0), (3, .int .i64 3)]) ⟨rfl, rfl, trivial⟩; clear hE142
     refine p_tn ?_
     refine wp_ret ?_
     have hF : F_ClausesFormula clauses = ([], 3) := by unfold F_ClausesFormula; rw [hb126, ht18]; first | done | rfl
     refine c_ret2 hE143 rfl rfl rfl ?_
     exact ⟨none, 0, (by rw [hF]; first | done | (dsimp only; done) | rfl), (by rw [hF]; (try dsimp only); exact OwnS.nilS _ _ _ _), hS121.ext⟩
    ·
     have hE144 := hE120; (try rw [hb126] at hE144); clear hE120
     have hp145 := of_decide_eq_false hb126
     refine l_step hE144 rfl (l_call (f := 83) (argv := [.slice b123 ((F_joinAll 2 ((F_ClausesFormula_L1 clauses (Int.toNat (((clauses).length : Int) - 0) + 1) ([]) 0).1)).length / 2 : Nat) c124]) hE144 (fun _ => cf_limited_f _ _) rfl rfl (d_limited_f b123 ((F_joinAll 2 ((F_ClausesFormula_L1 clauses (Int.toNat (((clauses).length : Int) - 0) + 1) ([]) 0).1)).length / 2 : Nat) c124 (F_joinAll 2 ((F_ClausesFormula_L1 clauses (Int.toNat (((clauses).length : Int) - 0) + 1) ([]) 0).1)) w118 (St.rdO (i := 0) hS121 rfl) hb126) ?_)
     rintro _ _ ⟨rfl, rfl⟩ a148 hE149; clear hE144
     refine q_step (v := .slice b123 ((F_joinAll 2 ((F_ClausesFormula_L1 clauses (Int.toNat (((clauses).length : Int) - 0) + 1) ([]) 0).1)).length / 2 : Nat) c124) hE149 (y_extract rfl rfl) rfl rfl rfl ?_; intro a152 hE153; clear hE149
     refine q_step (v := .int .i64 0) hE153 (y_extract rfl rfl) rfl rfl rfl ?_; intro a154 hE155; clear hE153
     refine q_step (v := .slice b123 ((F_joinAll 2 ((F_ClausesFormula_L1 clauses (Int.toNat (((clauses).length : Int) - 0) + 1) ([]) 0).1)).length / 2 : Nat) c124) hE155 (y_assign rfl) rfl rfl rfl ?_; intro a156 hE157; clear hE155
     refine q_step (v := .int .i64 0) hE157 (y_assign rfl) rfl rfl rfl ?_; intro a158 hE159; clear hE157
     refine c_nil ?_
     have hE160 := hE159.sub (L' := [(2, .slice b123 ((F_joinAll 2 ((F_ClausesFormula_L1 clauses (Int.toNat (((clauses).length : Int) - 0) + 1) ([]) 0).1)).length / 2 : Nat) c124), (3, .int .i64 0)]) ⟨rfl, rfl, trivial⟩; clear hE159
     refine p_tn ?_
     refine wp_ret ?_
     have hF : F_ClausesFormula clauses = (F_joinAll 2 ((F_ClausesFormula_L1 clauses (Int.toNat (((clauses).length : Int) - 0) + 1) ([]) 0).1), 0) := by unfold F_ClausesFormula; rw [hb126, ht18]; first | done | rfl
     refine c_ret2 hE160 rfl rfl rfl ?_
     exact ⟨b123, c124, (by rw [hF]; first | done | (dsimp only; done) | rfl), (by rw [hF]; (try dsimp only); exact hS121.ok 0 _ rfl), hS121.ext⟩

def F_s_ClausesFormula_L1b (clauses : List (List Int)) (rec : (List (List Int)) → Int → (List (List Int)) × Int) (parts4 : List (List Int)) (i5 : Int) : (List (List Int)) × Int :=
  bif (decide (i5 < ((clauses).length : Int))) then (rec (parts4 ++ ([F_l04Join 3 (gL clauses i5)])) (i5 + 1)) else (parts4, i5)
def F_s_ClausesFormula_L1 (clauses : List (List Int)) : Nat → (List (List Int)) → Int → (List (List Int)) × Int
  | 0, parts4, i5 => (parts4, i5)
  | r + 1, parts4, i5 => F_s_ClausesFormula_L1b clauses (F_s_ClausesFormula_L1 clauses r) parts4 i5
def F_s_ClausesFormula (clauses : List (List Int)) : (List Int) × (Int) :=
  bif (!(F_l04All clauses)) then ([], 1) else (bif (decide (40 < ((clauses).length : Int))) then ([], 3) else (bif (decide (40 < (((F_l02All 2 ((F_s_ClausesFormula_L1 clauses (Int.toNat (((clauses).length : Int) - 0) + 1) ([]) 0).1)).length / 2 : Nat) : Int))) then ([], 3) else (F_l02All 2 ((F_s_ClausesFormula_L1 clauses (Int.toNat (((clauses).length : Int) - 0) + 1) ([]) 0).1), 0)))
theorem cf_s_ClausesFormula (args : Array Value) (w : World) : (callFunc 36 args).run Try.prog w = .ok (.enter 36 args) w := by kernel_rfl
set_option maxRecDepth 100000 in
theorem c_s_ClausesFormula (clausesA : Option Addr) (clausesN clausesC : Nat) (clausesQ : List Hd) (clauses : List (List Int)) (w : World) (clausesR : RdN w 1 clausesA clausesN clausesC clausesQ clauses) (hl : clauses.length ≤ 1048576) :
    Calls Try.prog 36 #[.slice clausesA clausesN clausesC] w (Ret fun v w' => ∃ b1 : Option Addr, ∃ c1 : Nat, v = .tuple #[.slice b1 (((F_s_ClausesFormula clauses).1).length / 2 : Nat) c1, .int .i64 ((F_s_ClausesFormula clauses).2)] ∧ OwnS w' w.heap.size 94 2 b1 (((F_s_ClausesFormula clauses).1).length / 2 : Nat) c1 ((F_s_ClausesFormula clauses).1) ∧ Ext w w') := by
  obtain rfl : clausesN = clauses.length := clausesR.len
  have clausesLe := clausesR.le
  have hS := St.nil w
  have hS1 := St.rdn0 hS rfl clausesR; clear hS
  refine enter (args := [.slice clausesA ((clauses).length) clausesC]) Try.func36 rfl rfl ?_
  rw [Try.ntmps36]; intro a hE
  have hE := hE.sub (L' := [(0, .slice clausesA ((clauses).length) clausesC)]) ⟨rfl, trivial⟩
  refine c_seq ?_
  refine c_reg ?_
  refine q_step (v := .slice none 0 0) hE (y_assign rfl) rfl rfl rfl ?_; intro a2 hE3; clear hE
  refine q_step (v := .int .i64 0) hE3 (y_assign rfl) rfl rfl rfl ?_; intro a4 hE5; clear hE3
  refine c_nil ?_
  have hE6 := hE5.sub (L' := [(0, .slice clausesA ((clauses).length) clausesC)]) ⟨rfl, trivial⟩; clear hE5
  refine p_tn ?_
  refine c_seq ?_
  refine c_seq ?_
  refine c_reg ?_
  refine q_step (v := .slice clausesA ((clauses).length) clausesC) hE6 (y_move rfl) rfl rfl rfl ?_; intro a7 hE8; clear hE6
  refine l_step hE8 rfl (l_call (f := 91) (argv := [.slice clausesA ((clauses).length) clausesC]) hE8 (fun _ => cf_l04All _ _) rfl rfl (c_l04All clausesA ((clauses).length) clausesC clausesQ clauses w (St.rdNr (i := 0) hS1 rfl)) ?_)
  rintro _ w10 ⟨rfl, he14⟩ a11 hE12; clear hE8
  have hS13 := St.go hS1 he14; clear hS1
  refine q_step (v := .bool (!(F_l04All clauses))) hE12 (y_not rfl) rfl rfl rfl ?_; intro a15 hE16; clear hE12
  refine c_nil ?_
  have hE17 := hE16.sub (L' := [(0, .slice clausesA ((clauses).length) clausesC), (8, .bool (!(F_l04All clauses)))]) ⟨rfl, rfl, trivial⟩; clear hE16
  refine p_tn ?_
  refine c_cond hE17 rfl (fun ht18 => ?_) (fun ht18 => ?_)
  ·
   have ht19 := bn_t ht18
   have hE20 := hE17; rw [ht18] at hE20; clear hE17
   refine c_seq ?_
   refine c_reg ?_
   refine q_step (v := .slice none 0 0) hE20 (y_assign rfl) rfl rfl rfl ?_; intro a21 hE22; clear hE20
   refine q_step (v := .int .i64 1) hE22 (y_assign rfl) rfl rfl rfl ?_; intro a23 hE24; clear hE22
   refine c_nil ?_
   have hE25 := hE24.sub (L' := [(2, .slice none 0 0), (3, .int .i64 1)]) ⟨rfl, rfl, trivial⟩; clear hE24
   refine p_tn ?_
   refine wp_ret ?_
   refine p_tr ?_
   have hF : F_s_ClausesFormula clauses = ([], 1) := by unfold F_s_ClausesFormula; rw [ht18]; first | done | rfl
   refine c_ret2 hE25 rfl rfl rfl ?_
   exact ⟨none, 0, (by rw [hF]; first | done | (dsimp only; done) | rfl), (by rw [hF]; (try dsimp only); exact OwnS.nilS _ _ _ _), hS13.ext⟩
  ·
   have ht26 := bn_f ht18
   have hE27 := hE17; rw [ht18] at hE27; clear hE17
   refine wp_skip ?_
   refine p_tn ?_
   refine c_seq ?_
   refine c_seq ?_
   refine c_reg ?_
   refine q_step (v := .slice clausesA ((clauses).length) clausesC) hE27 (y_move rfl) rfl rfl rfl ?_; intro a28 hE29; clear hE27
   refine q_step (v := .int .i64 ((clauses).length : Int)) hE29 (y_len (e := 22) (by kernel_rfl) rfl) rfl rfl rfl ?_; intro a30 hE31; clear hE29
   refine q_step (v := .bool (decide (40 < ((clauses).length : Int)))) hE31 (y_gtr rfl rfl) rfl rfl rfl ?_; intro a32 hE33; clear hE31
   refine c_nil ?_
   have hE34 := hE33.sub (L' := [(0, .slice clausesA ((clauses).length) clausesC), (11, .bool (decide (40 < ((clauses).length : Int))))]) ⟨rfl, rfl, trivial⟩; clear hE33
   refine p_tn ?_
   refine c_cond hE34 rfl (fun ht35 => ?_) (fun ht35 => ?_)
   ·
    have hp36 := of_decide_eq_true ht35
    have hE37 := hE34; rw [ht35] at hE37; clear hE34
    refine c_seq ?_
    refine c_reg ?_
    refine q_step (v := .slice none 0 0) hE37 (y_assign rfl) rfl rfl rfl ?_; intro a38 hE39; clear hE37
    refine q_step (v := .int .i64 3) hE39 (y_assign rfl) rfl rfl rfl ?_; intro a40 hE41; clear hE39
    refine c_nil ?_
    have hE42 := hE41.sub (L' := [(2, .slice none 0 0), (3, .int .i64 3)]) ⟨rfl, rfl, trivial⟩; clear hE41
    refine p_tn ?_
    refine wp_ret ?_
    refine p_tr ?_
    have hF : F_s_ClausesFormula clauses = ([], 3) := by unfold F_s_ClausesFormula; rw [ht35, ht18]; first | done | rfl
    refine c_ret2 hE42 rfl rfl rfl ?_
    exact ⟨none, 0, (by rw [hF]; first | done | (dsimp only; done) | rfl), (by rw [hF]; (try dsimp only); exact OwnS.nilS _ _ _ _), hS13.ext⟩
   ·
    have hp43 := of_decide_eq_false ht35
    have hE44 := hE34; rw [ht35] at hE44; clear hE34
    refine wp_skip ?_
    refine p_tn ?_
    refine c_seq ?_
    refine c_reg ?_
    refine l_step hE44 rfl (l_lit0N (e := 32) (t' := 94) (s := 2) hS13 hE44 (fun _ => by kernel_rfl) rfl ?_)
    intro b45 w46 hS49 he50 a47 hE48; clear hS13 hE44
    refine q_step (v := .slice (some ⟨b45, 0, none⟩) 0 0) hE48 (y_assign rfl) rfl rfl rfl ?_; intro a51 hE52; clear hE48
    refine c_nil ?_
    have hE53 := hE52.sub (L' := [(0, .slice clausesA ((clauses).length) clausesC), (4, .slice (some ⟨b45, 0, none⟩) 0 0)]) ⟨rfl, rfl, trivial⟩; clear hE52
    refine p_tn ?_
    refine c_seq ?_
    refine c_seq ?_
    refine c_reg ?_
    refine q_step (v := .int .i64 0) hE53 (y_assign rfl) rfl rfl rfl ?_; intro a54 hE55; clear hE53
    refine c_nil ?_
    have hE56 := hE55.sub (L' := [(0, .slice clausesA ((clauses).length) clausesC), (4, .slice (some ⟨b45, 0, none⟩) 0 0), (5, .int .i64 0)]) ⟨rfl, rfl, rfl, trivial⟩; clear hE55
    refine p_tn ?_
    refine c_cut1 (fun a' w' => ∃ parts4A_57 : Option Addr, ∃ parts4C_57 : Nat, ∃ parts4H_57 : List Hd, (0 ≤ ((F_s_ClausesFormula_L1 clauses (Int.toNat (((clauses).length : Int) - 0) + 1) ([]) 0).2)) ∧ ((((F_s_ClausesFormula_L1 clauses (Int.toNat (((clauses).length : Int) - 0) + 1) ([]) 0).1).length : Int) = ((F_s_ClausesFormula_L1 clauses (Int.toNat (((clauses).length : Int) - 0) + 1) ([]) 0).2)) ∧ (∀ m : Int, 0 ≤ m → m < (((F_s_ClausesFormula_L1 clauses (Int.toNat (((clauses).length : Int) - 0) + 1) ([]) 0).1).length : Int) → (gL ((F_s_ClausesFormula_L1 clauses (Int.toNat (((clauses).length : Int) - 0) + 1) ([]) 0).1) m).length ≤ 102) ∧ (((F_s_ClausesFormula_L1 clauses (Int.toNat (((clauses).length : Int) - 0) + 1) ([]) 0).2) ≤ ((clauses).length : Int)) ∧ E a' 32 [(0, .slice clausesA ((clauses).length) clausesC), (4, .slice parts4A_57 (((F_s_ClausesFormula_L1 clauses (Int.toNat (((clauses).length : Int) - 0) + 1) ([]) 0).1).length) parts4C_57), (5, .int .i64 ((F_s_ClausesFormula_L1 clauses (Int.toNat (((clauses).length : Int) - 0) + 1) ([]) 0).2))] ∧ St w w' [.nest 32 2 (some 94) parts4A_57 parts4C_57 parts4H_57 ((F_s_ClausesFormula_L1 clauses (Int.toNat (((clauses).length : Int) - 0) + 1) ([]) 0).1), .rdn 1 clausesA ((clauses).length) clausesC clausesQ clauses]) ?_ ?_
    ·
     refine wp_block ?_
     refine c_loop (fun r a' w' => ∃ parts4 : List (List Int), ∃ i5 : Int, ∃ parts4A : Option Addr, ∃ parts4C : Nat, ∃ parts4H : List Hd, F_s_ClausesFormula_L1 clauses r parts4 i5 = F_s_ClausesFormula_L1 clauses (Int.toNat (((clauses).length : Int) - 0) + 1) ([]) 0 ∧ Int.toNat (((clauses).length : Int) - i5) < r ∧ (0 ≤ i5) ∧ ((parts4.length : Int) = i5) ∧ (∀ m : Int, 0 ≤ m → m < (parts4.length : Int) → (gL parts4 m).length ≤ 102) ∧ (i5 ≤ ((clauses).length : Int)) ∧ E a' 32 [(0, .slice clausesA ((clauses).length) clausesC), (4, .slice parts4A ((parts4).length) parts4C), (5, .int .i64 i5)] ∧ St w w' [.nest 32 2 (some 94) parts4A parts4C parts4H parts4, .rdn 1 clausesA ((clauses).length) clausesC clausesQ clauses]) (r := (Int.toNat (((clauses).length : Int) - 0) + 1)) ?_ ?_
     · exact ⟨[], 0, some ⟨b45, 0, none⟩, 0, [], rfl, Nat.lt_succ_self _, (by first | omega | (simp only [sS_len, sL_len]; omega) | (simp only [List.length_replicate, sI_len]; omega) | (simp only [List.length_append, List.length_cons, List.length_nil, sI_len, cond_true, cond_false]; omega) | (simp only [List.length_append, List.length_cons, List.length_nil, sI_len, cond_eq_ite, apply_ite List.length]; split <;> simp only [List.length_append, List.length_cons, List.length_nil, sI_len] <;> omega) | grind), (by first | omega | (simp only [sS_len, sL_len]; omega) | (simp only [List.length_replicate, sI_len]; omega) | (simp only [List.length_append, List.length_cons, List.length_nil, sI_len, cond_true, cond_false]; omega) | (simp only [List.length_append, List.length_cons, List.length_nil, sI_len, cond_eq_ite, apply_ite List.length]; split <;> simp only [List.length_append, List.length_cons, List.length_nil, sI_len] <;> omega) | grind), rowsLe_nil, (by first | omega | (simp only [sS_len, sL_len]; omega) | (simp only [List.length_replicate, sI_len]; omega) | (simp only [List.length_append, List.length_cons, List.length_nil, sI_len, cond_true, cond_false]; omega) | (simp only [List.length_append, List.length_cons, List.length_nil, sI_len, cond_eq_ite, apply_ite List.length]; split <;> simp only [List.length_append, List.length_cons, List.length_nil, sI_len] <;> omega) | grind), (hE56.sub (L' := [(0, .slice clausesA ((clauses).length) clausesC), (4, .slice (some ⟨b45, 0, none⟩) 0 0), (5, .int .i64 0)]) ⟨rfl, rfl, rfl, trivial⟩), (St.pick (Γ' := [.nest 32 2 (some 94) (some ⟨b45, 0, none⟩) 0 ([]) ([]), .rdn 1 clausesA ((clauses).length) clausesC clausesQ clauses]) hS49 [0, 1] (by decide) rfl)⟩
     ·
      clear hE56 hS49
      rintro r68 a58 w59 ⟨parts4, i5, parts4A, parts4C, parts4H, hT62, hr63, hi64, hi65, hi66, hi67, hE60, hS61⟩
      obtain ⟨r68, rfl⟩ : ∃ r', r68 = r' + 1 := ⟨r68 - 1, by omega⟩
      refine c_seq ?_
      refine c_seq ?_
      refine c_reg ?_
      refine q_step (v := .int .i64 i5) hE60 (y_move rfl) rfl rfl rfl ?_; intro a69 hE70; clear hE60
      refine q_step (v := .slice clausesA ((clauses).length) clausesC) hE70 (y_move rfl) rfl rfl rfl ?_; intro a71 hE72; clear hE70
      refine q_step (v := .int .i64 ((clauses).length : Int)) hE72 (y_len (e := 22) (by kernel_rfl) rfl) rfl rfl rfl ?_; intro a73 hE74; clear hE72
      refine q_step (v := .bool (decide (i5 < ((clauses).length : Int)))) hE74 (y_lss rfl rfl) rfl rfl rfl ?_; intro a75 hE76; clear hE74
      refine c_nil ?_
      have hE77 := hE76.sub (L' := [(0, .slice clausesA ((clauses).length) clausesC), (4, .slice parts4A ((parts4).length) parts4C), (5, .int .i64 i5), (16, .bool (decide (i5 < ((clauses).length : Int))))]) ⟨rfl, rfl, rfl, rfl, trivial⟩; clear hE76
      refine p_tn ?_
      refine c_cond hE77 rfl (fun ht78 => ?_) (fun ht78 => ?_)
      ·
       have hp79 := of_decide_eq_true ht78
       have hE80 := hE77; rw [ht78] at hE80; clear hE77
       have hcl := l04All_t (l := clauses) (by assumption) i5 (by omega) (by omega)
       refine wp_skip ?_
       refine p_tn ?_
       refine c_seq ?_
       refine wp_block ?_
       refine c_reg ?_
       refine q_step (v := .slice parts4A ((parts4).length) parts4C) hE80 (y_move rfl) rfl rfl rfl ?_; intro a81 hE82; clear hE80
       refine q_step (v := .slice clausesA ((clauses).length) clausesC) hE82 (y_move rfl) rfl rfl rfl ?_; intro a83 hE84; clear hE82
       refine q_step (v := .int .i64 i5) hE84 (y_move rfl) rfl rfl rfl ?_; intro a85 hE86; clear hE84
       refine q_step (v := .pointer (some (adr clausesA (Int.toNat i5)))) hE86 (y_idx (by kernel_rfl) (fun _ => by kernel_rfl) rfl rfl (RdN.isS (m := i5) (St.rdNr (i := 1) hS61 rfl) (by omega) (by omega)) (by omega) (by omega) (Nat.mul_one _).symm) rfl rfl rfl ?_; intro a87 hE88; clear hE86
       have hv89 : (0 : Int) ≤ i5 ∧ i5 < (((clauses).length) : Int) := ⟨(by omega), (by omega)⟩
       refine q_step (v := .slice (hdA clausesQ i5) ((gL clauses i5).length) (hdC clausesQ i5)) hE88 (y_load (fun _ => by kernel_rfl) rfl (RdN.elt1 (St.rdNr (i := 1) hS61 rfl) (by omega) (by omega))) rfl rfl rfl ?_; intro a91 hE92; clear hE88
       refine l_step hE92 rfl (l_call (f := 92) (argv := [.int .i64 3, .slice (hdA clausesQ i5) ((gL clauses i5).length) (hdC clausesQ i5)]) hE92 (fun _ => cf_l04Join _ _) rfl rfl (c_l04Join 3 (hdA clausesQ i5) ((gL clauses i5).length) (hdC clausesQ i5) (gL clauses i5) w59 (RdN.row1 (St.rdNr (i := 1) hS61 rfl) hv89.1 hv89.2) hcl.1 hcl.2) ?_)
       rintro _ w94 ⟨b99, c100, rfl, ho101, he98⟩ a95 hE96; clear hE92
       have hf102 := l04Join_len 3 (gL clauses i5)
       have hS97 := St.own hS61 he98 ho101; clear hS61
       have hS109 := (St.pick (Γ' := [.own 94 2 b99 ((F_l04Join 3 (gL clauses i5)).length / 2 : Nat) c100 (F_l04Join 3 (gL clauses i5)), .nest 32 2 (some 94) parts4A parts4C parts4H parts4, .rdn 1 clausesA ((clauses).length) clausesC clausesQ clauses]) hS97 [0, 1, 2] (by decide) rfl); clear hS97
       refine l_step hE96 rfl (l_litO1 (e := 32) hS109 hE96 rfl (fun _ => by kernel_rfl) rfl ?_)
       intro b103 w104 hS107 he108 a105 hE106; clear hS109 hE96
       have hS116 := (St.pick (Γ' := [.nest 32 2 (some 94) (some ⟨b103, 0, none⟩) 1 ([⟨b99, ((F_l04Join 3 (gL clauses i5)).length / 2 : Nat), c100⟩]) ([F_l04Join 3 (gL clauses i5)]), .nest 32 2 (some 94) parts4A parts4C parts4H parts4, .rdn 1 clausesA ((clauses).length) clausesC clausesQ clauses]) hS107 [0, 1, 2] (by decide) rfl); clear hS107
       obtain ⟨_, hi1, hi2, hi3, hi4⟩ := info_parts (show (Try.prog.info? 32).map (fun i => (i.zero, i.size, i.bytes)) = some (some (.slice none 0 0), 1, 24) by kernel_rfl)
       refine l_step hE106 rfl (l_appendN (k := 0) hS116 hE106 (by kernel_rfl) hi1 hi2 hi3 rfl (by rw [hi4]; decide) rfl rfl rfl rfl rfl rfl (by first | omega | (simp only [List.length_append, List.length_cons, List.length_nil]; omega)) rfl ?_)
       intro b110 c117 w111 hS114 a112 hE113; clear hS116 hE106 hi1 hi2 hi3 hi4
       refine q_step (v := .slice b110 ((parts4 ++ ([F_l04Join 3 (gL clauses i5)])).length) c117) hE113 (y_assign rfl) rfl rfl rfl ?_; intro a118 hE119; clear hE113
       refine c_nil ?_
       have hE120 := hE119.sub (L' := [(0, .slice clausesA ((clauses).length) clausesC), (4, .slice b110 ((parts4 ++ ([F_l04Join 3 (gL clauses i5)])).length) c117), (5, .int .i64 i5)]) ⟨rfl, rfl, rfl, trivial⟩; clear hE119
       refine p_bn ?_
       refine p_tn ?_
       refine c_reg ?_
       refine q_step (v := .int .i64 i5) hE120 (y_move rfl) rfl rfl rfl ?_; intro a121 hE122; clear hE120
       refine q_step (v := .int .i64 (i5 + 1)) hE122 (y_add rfl rfl ⟨(by omega), (by omega)⟩) rfl rfl rfl ?_; intro a123 hE124; clear hE122
       refine q_step (v := .int .i64 (i5 + 1)) hE124 (y_assign rfl) rfl rfl rfl ?_; intro a125 hE126; clear hE124
       refine c_nil ?_
       have hE127 := hE126.sub (L' := [(0, .slice clausesA ((clauses).length) clausesC), (4, .slice b110 ((parts4 ++ ([F_l04Join 3 (gL clauses i5)])).length) c117), (5, .int .i64 (i5 + 1))]) ⟨rfl, rfl, rfl, trivial⟩; clear hE126
       refine p_tn ⟨r68, Nat.lt_succ_self _, parts4 ++ ([F_l04Join 3 (gL clauses i5)]), i5 + 1, b110, c117, parts4H ++ ([⟨b99, ((F_l04Join 3 (gL clauses i5)).length / 2 : Nat), c100⟩]), (hT62.symm.trans (show F_s_ClausesFormula_L1b clauses (F_s_ClausesFormula_L1 clauses r68) parts4 i5 = F_s_ClausesFormula_L1 clauses r68 (parts4 ++ ([F_l04Join 3 (gL clauses i5)])) (i5 + 1) by unfold F_s_ClausesFormula_L1b; rw [ht78]; first | done | rfl)).symm, (by omega), (by first | omega | (simp only [sS_len, sL_len]; omega) | (simp only [List.length_replicate, sI_len]; omega) | (simp only [List.length_append, List.length_cons, List.length_nil, sI_len, cond_true, cond_false]; omega) | (simp only [List.length_append, List.length_cons, List.length_nil, sI_len, cond_eq_ite, apply_ite List.length]; split <;> simp only [List.length_append, List.length_cons, List.length_nil, sI_len] <;> omega) | grind), (by rw [app1_len]; omega), (rowsLe_app (by assumption) (by omega)), (by first | omega | (simp only [sS_len, sL_len]; omega) | (simp only [List.length_replicate, sI_len]; omega) | (simp only [List.length_append, List.length_cons, List.length_nil, sI_len, cond_true, cond_false]; omega) | (simp only [List.length_append, List.length_cons, List.length_nil, sI_len, cond_eq_ite, apply_ite List.length]; split <;> simp only [List.length_append, List.length_cons, List.length_nil, sI_len] <;> omega) | grind), (hE127.sub (L' := [(0, .slice clausesA ((clauses).length) clausesC), (4, .slice b110 ((parts4 ++ ([F_l04Join 3 (gL clauses i5)])).length) c117), (5, .int .i64 (i5 + 1))]) ⟨rfl, rfl, rfl, trivial⟩), (St.pick (Γ' := [.nest 32 2 (some 94) b110 c117 (parts4H ++ ([⟨b99, ((F_l04Join 3 (gL clauses i5)).length / 2 : Nat), c100⟩])) (parts4 ++ ([F_l04Join 3 (gL clauses i5)])), .rdn 1 clausesA ((clauses).length) clausesC clausesQ clauses]) hS114 [0, 1] (by decide) rfl)⟩
      ·
       have hp128 := of_decide_eq_false ht78
       have hE129 := hE77; rw [ht78] at hE129; clear hE77
       refine wp_exit ?_
       refine p_te ?_
       have hX130 : F_s_ClausesFormula_L1 clauses (Int.toNat (((clauses).length : Int) - 0) + 1) ([]) 0 = (parts4, i5) := hT62.symm.trans (show F_s_ClausesFormula_L1b clauses (F_s_ClausesFormula_L1 clauses r68) parts4 i5 = (parts4, i5) by unfold F_s_ClausesFormula_L1b; rw [ht78]; first | done | rfl)
       refine p_te (p_be (p_tn ?_))
       exact ⟨parts4A, parts4C, parts4H, (by rw [hX130]; exact (show 0 ≤ i5 from (by first | omega | (simp only [sS_len, sL_len]; omega) | (simp only [List.length_replicate, sI_len]; omega) | (simp only [List.length_append, List.length_cons, List.length_nil, sI_len, cond_true, cond_false]; omega) | (simp only [List.length_append, List.length_cons, List.length_nil, sI_len, cond_eq_ite, apply_ite List.length]; split <;> simp only [List.length_append, List.length_cons, List.length_nil, sI_len] <;> omega) | grind))), (by rw [hX130]; exact (show (parts4.length : Int) = i5 from (by first | omega | (simp only [sS_len, sL_len]; omega) | (simp only [List.length_replicate, sI_len]; omega) | (simp only [List.length_append, List.length_cons, List.length_nil, sI_len, cond_true, cond_false]; omega) | (simp only [List.length_append, List.length_cons, List.length_nil, sI_len, cond_eq_ite, apply_ite List.length]; split <;> simp only [List.length_append, List.length_cons, List.length_nil, sI_len] <;> omega) | grind))), (by rw [hX130]; exact (show ∀ m : Int, 0 ≤ m → m < (parts4.length : Int) → (gL parts4 m).length ≤ 102 from (by first | omega | (simp only [sS_len, sL_len]; omega) | (simp only [List.length_replicate, sI_len]; omega) | (simp only [List.length_append, List.length_cons, List.length_nil, sI_len, cond_true, cond_false]; omega) | (simp only [List.length_append, List.length_cons, List.length_nil, sI_len, cond_eq_ite, apply_ite List.length]; split <;> simp only [List.length_append, List.length_cons, List.length_nil, sI_len] <;> omega) | grind))), (by rw [hX130]; exact (show i5 ≤ ((clauses).length : Int) from (by first | omega | (simp only [sS_len, sL_len]; omega) | (simp only [List.length_replicate, sI_len]; omega) | (simp only [List.length_append, List.length_cons, List.length_nil, sI_len, cond_true, cond_false]; omega) | (simp only [List.length_append, List.length_cons, List.length_nil, sI_len, cond_eq_ite, apply_ite List.length]; split <;> simp only [List.length_append, List.length_cons, List.length_nil, sI_len] <;> omega) | grind))), (by rw [hX130]; exact (hE129.sub (L' := [(0, .slice clausesA ((clauses).length) clausesC), (4, .slice parts4A ((parts4).length) parts4C), (5, .int .i64 i5)]) ⟨rfl, rfl, rfl, trivial⟩)), (by rw [hX130]; exact (St.pick (Γ' := [.nest 32 2 (some 94) parts4A parts4C parts4H parts4, .rdn 1 clausesA ((clauses).length) clausesC clausesQ clauses]) hS61 [0, 1] (by decide) rfl))⟩
    ·
     rintro a131 w132 ⟨parts4A_57, parts4C_57, parts4H_57, hi136, hi137, hi138, hi139, hE133, hS134⟩; clear hE56 hS49
     refine p_tn ?_
     refine c_seq ?_
     refine c_reg ?_
     refine q_step (v := .slice parts4A_57 (((F_s_ClausesFormula_L1 clauses (Int.toNat (((clauses).length : Int) - 0) + 1) ([]) 0).1).length) parts4C_57) hE133 (y_move rfl) rfl rfl rfl ?_; intro a140 hE141; clear hE133
     refine l_step hE141 rfl (l_call (f := 93) (argv := [.int .i64 2, .slice parts4A_57 (((F_s_ClausesFormula_L1 clauses (Int.toNat (((clauses).length : Int) - 0) + 1) ([]) 0).1).length) parts4C_57]) hE141 (fun _ => cf_l02All _ _) rfl rfl (c_l02All 2 parts4A_57 (((F_s_ClausesFormula_L1 clauses (Int.toNat (((clauses).length : Int) - 0) + 1) ([]) 0).1).length) parts4C_57 parts4H_57 ((F_s_ClausesFormula_L1 clauses (Int.toNat (((clauses).length : Int) - 0) + 1) ([]) 0).1) w132 (St.rdNo (i := 0) hS134 rfl) (by omega) (rowsLe_mono (c := 102) (by assumption) (by omega))) ?_)
     rintro _ w143 ⟨b148, c149, rfl, ho150, he147⟩ a144 hE145; clear hE141
     have hS146 := St.own hS134 he147 ho150; clear hS134
     rcases Bool.eq_false_or_eq_true (decide (40 < (((F_l02All 2 ((F_s_ClausesFormula_L1 clauses (Int.toNat (((clauses).length : Int) - 0) + 1) ([]) 0).1)).length / 2 : Nat) : Int))) with hb151 | hb151
     ·
      have hE152 := hE145; (try rw [hb151] at hE152); clear hE145
      have hp153 := of_decide_eq_true hb151
      refine l_step hE152 rfl (l_call (f := 81) (argv := [.slice b148 ((F_l02All 2 ((F_s_ClausesFormula_L1 clauses (Int.toNat (((clauses).length : Int) - 0) + 1) ([]) 0).1)).length / 2 : Nat) c149]) hE152 (fun _ => cf_l02Made_f _ _) rfl rfl (d_l02Made_t b148 ((F_l02All 2 ((F_s_ClausesFormula_L1 clauses (Int.toNat (((clauses).length : Int) - 0) + 1) ([]) 0).1)).length / 2 : Nat) c149 (F_l02All 2 ((F_s_ClausesFormula_L1 clauses (Int.toNat (((clauses).length : Int) - 0) + 1) ([]) 0).1)) w143 (St.rdO (i := 0) hS146 rfl) hb151) ?_)
      rintro _ _ ⟨rfl, rfl⟩ a156 hE157; clear hE152
      refine q_step (v := .slice none 0 0) hE157 (y_extract rfl rfl) rfl rfl rfl ?_; intro a160 hE161; clear hE157
      refine q_step (v := .int .i64 3) hE161 (y_extract rfl rfl) rfl rfl rfl ?_; intro a162 hE163; clear hE161
      refine q_step (v := .slice none 0 0) hE163 (y_assign rfl) rfl rfl rfl ?_; intro a164 hE165; clear hE163
      refine q_step (v := .int .i64 3) hE165 (y_assign rfl) rfl rfl rfl ?_; intro a166 hE167; clear hE165
      refine c_nil ?_
      have hE168 := hE167.sub (L' := [(2, .slice none 0 0), (3, .int .i64 3)]) ⟨rfl, rfl, trivial⟩; clear hE167
      refine p_tn ?_
      refine wp_ret ?_
      have hF : F_s_ClausesFormula clauses = ([], 3) := by unfold F_s_ClausesFormula; rw [hb151, ht35, ht18]; first | done | rfl
      refine c_ret2 hE168 rfl rfl rfl ?_
      exact ⟨none, 0, (by rw [hF]; first | done | (dsimp only; done) | rfl), (by rw [hF]; (try dsimp only); exact OwnS.nilS _ _ _ _), hS146.ext⟩
     ·
      have hE169 := hE145; (try rw [hb151] at hE169); clear hE145
      have hp170 := of_decide_eq_false hb151
      refine l_step hE169 rfl (l_call (f := 81) (argv := [.slice b148 ((F_l02All 2 ((F_s_ClausesFormula_L1 clauses (Int.toNat (((clauses).length : Int) - 0) + 1) ([]) 0).1)).length / 2 : Nat) c149]) hE169 (fun _ => cf_l02Made_f _ _) rfl rfl (d_l02Made_f b148 ((F_l02All 2 ((F_s_ClausesFormula_L1 clauses (Int.toNat (((clauses).length : Int) - 0) + 1) ([]) 0).1)).length / 2 : Nat) c149 (F_l02All 2 ((F_s_ClausesFormula_L1 clauses (Int.toNat (((clauses).length : Int) - 0) + 1) ([]) 0).1)) w143 (St.rdO (i := 0) hS146 rfl) hb151) ?_)
      rintro _ _ ⟨rfl, rfl⟩ a173 hE174; clear hE169
      refine q_step (v := .slice b148 ((F_l02All 2 ((F_s_ClausesFormula_L1 clauses (Int.toNat (((clauses).length : Int) - 0) + 1) ([]) 0).1)).length / 2 : Nat) c149) hE174 (y_extract rfl rfl) rfl rfl rfl ?_; intro a177 hE178; clear hE174
      refine q_step (v := .int .i64 0) hE178 (y_extract rfl rfl) rfl rfl rfl ?_; intro a179 hE180; clear hE178
      refine q_step (v := .slice b148 ((F_l02All 2 ((F_s_ClausesFormula_L1 clauses (Int.toNat (((clauses).length : Int) - 0) + 1) ([]) 0).1)).length / 2 : Nat) c149) hE180 (y_assign rfl) rfl rfl rfl ?_; intro a181 hE182; clear hE180
      refine q_step (v := .int .i64 0) hE182 (y_assign rfl) rfl rfl rfl ?_; intro a183 hE184; clear hE182
      refine c_nil ?_
      have hE185 := hE184.sub (L' := [(2, .slice b148 ((F_l02All 2 ((F_s_ClausesFormula_L1 clauses (Int.toNat (((clauses).length : Int) - 0) + 1) ([]) 0).1)).length / 2 : Nat) c149), (3, .int .i64 0)]) ⟨rfl, rfl, trivial⟩; clear hE184
      refine p_tn ?_
      refine wp_ret ?_
      have hF : F_s_ClausesFormula clauses = (F_l02All 2 ((F_s_ClausesFormula_L1 clauses (Int.toNat (((clauses).length : Int) - 0) + 1) ([]) 0).1), 0) := by unfold F_s_ClausesFormula; rw [hb151, ht35, ht18]; first | done | rfl
      refine c_ret2 hE185 rfl rfl rfl ?_
      exact ⟨b148, c149, (by rw [hF]; first | done | (dsimp only; done) | rfl), (by rw [hF]; (try dsimp only); exact hS146.ok 0 _ rfl), hS146.ext⟩

theorem clauses_L1 (l : List (List Int)) : ∀ (r : Nat) (out : List (List Int)) (i : Int), F_ClausesFormula_L1 l r out i = F_s_ClausesFormula_L1 l r out i := by
  intro r
  induction r with
  | zero => intro out i; rfl
  | succ r ih =>
    intro out i
    show F_ClausesFormula_L1b l (F_ClausesFormula_L1 l r) out i = F_s_ClausesFormula_L1b l (F_s_ClausesFormula_L1 l r) out i
    unfold F_ClausesFormula_L1b F_s_ClausesFormula_L1b
    rw [literals_eq, ih]
def clForm (l : List (List Int)) : List Int := F_l02All 2 ((F_s_ClausesFormula_L1 l (Int.toNat ((l.length : Int) - 0) + 1) [] 0).1)
theorem clForm_form (l : List (List Int)) : clForm l = F_l02All 2 ((List.range l.length).flatMap (fun (j : Nat) => [F_l04Join 3 (gL l (j : Int))])) := by
  unfold clForm
  rw [show Int.toNat ((l.length : Int) - 0) = l.length by omega, appLoopP (F_s_ClausesFormula_L1 l) (l.length : Int) (fun i => [F_l04Join 3 (gL l i)]) (fun _ _ _ => rfl) l.length 0 _ (by omega), List.nil_append]
  simp only [Int.zero_add]
theorem clForm_ev (l : List (List Int)) : (clForm l).length % 2 = 0 := by
  rw [clForm_form]
  exact l02All_ev 2 _ fun j hj => by
    rw [fm_len (fun i => F_l04Join 3 (gL l i))] at hj
    rw [gL_fm (fun i => F_l04Join 3 (gL l i)) l.length hj]
    exact l04Join_ev _ _
theorem clForm_long (l : List (List Int)) (h : 40 < l.length) : 80 < (clForm l).length := by
  rw [clForm_form, l02All_form 2 _ (by rw [fm_len (fun i => F_l04Join 3 (gL l i))]; omega), List.length_append, fm_len (fun i => F_l04Join 3 (gL l i))]
  have h2 := fm_le (f := fun _ => [(2 : Int), 0]) (c := 2) (d := 2) (n := l.length - 1) fun _ _ => ⟨Nat.le_refl _, Nat.le_refl _⟩
  have h1 := fm_le (f := fun (j : Nat) => gL ((List.range l.length).flatMap (fun (j : Nat) => [F_l04Join 3 (gL l (j : Int))])) (j : Int)) (n := l.length) (d := 2) (c := ((List.range l.length).flatMap (fun (j : Nat) => gL ((List.range l.length).flatMap (fun (j : Nat) => [F_l04Join 3 (gL l (j : Int))])) (j : Int))).length) fun j hj => ⟨?_, ?_⟩
  · omega
  · exact len_fm_le (f := fun (j : Nat) => gL ((List.range l.length).flatMap (fun (j : Nat) => [F_l04Join 3 (gL l (j : Int))])) (j : Int)) hj
  · show 2 ≤ (gL _ (j : Int)).length
    rw [gL_fm (fun i => F_l04Join 3 (gL l i)) l.length hj]
    exact (l04Join_len _ _).2
theorem ClausesFormula_eq (l : List (List Int)) : F_ClausesFormula l = F_s_ClausesFormula l := by
  unfold F_ClausesFormula F_s_ClausesFormula
  rw [joinAll_eq, clauses_L1, areClauses_eq]
  show (bif _ then _ else bif decide (40 < (((clForm l).length / 2 : Nat) : Int)) then _ else (clForm l, 0)) = (bif _ then _ else bif _ then _ else bif decide (40 < (((clForm l).length / 2 : Nat) : Int)) then _ else (clForm l, 0))
  by_cases h : 40 < l.length
  · have h1 := clForm_long l h
    have h2 := clForm_ev l
    rw [decide_eq_true (show 40 < (((clForm l).length / 2 : Nat) : Int) by omega), decide_eq_true (show 40 < (l.length : Int) by omega)]
    simp only [cond_true]
  · rw [decide_eq_false (show ¬ 40 < (l.length : Int) by omega)]
    simp only [cond_false]
theorem s_ClausesFormula_form (l : List (List Int)) : F_s_ClausesFormula l = bif (!(F_l04All l)) then ([], 1) else (bif (decide (40 < (l.length : Int))) then ([], 3) else (bif decide (40 < (((clForm l).length / 2 : Nat) : Int)) then ([], 3) else (clForm l, 0))) := rfl
theorem s_ClausesFormula_ev (l : List (List Int)) : (F_s_ClausesFormula l).1.length = (F_s_ClausesFormula l).1.length / 2 * 2 := by
  have h := clForm_ev l
  rw [s_ClausesFormula_form]
  cases F_l04All l <;> cases decide (40 < (l.length : Int)) <;> cases decide (40 < (((clForm l).length / 2 : Nat) : Int)) <;> simp only [Bool.not_true, Bool.not_false, cond_true, cond_false, List.length_nil]
  omega
theorem s_ClausesFormula_len (l : List (List Int)) : (F_s_ClausesFormula l).1.length ≤ 81 := by
  rw [s_ClausesFormula_form]
  by_cases h : 40 < (((clForm l).length / 2 : Nat) : Int)
  · cases F_l04All l <;> cases decide (40 < (l.length : Int)) <;> simp only [decide_eq_true h, Bool.not_true, Bool.not_false, cond_true, cond_false, List.length_nil] <;> omega
  · cases F_l04All l <;> cases decide (40 < (l.length : Int)) <;> simp only [decide_eq_false h, Bool.not_true, Bool.not_false, cond_true, cond_false, List.length_nil] <;> omega
theorem ClausesFormula_len (l : List (List Int)) : (F_ClausesFormula l).1.length ≤ 81 := by
  rw [ClausesFormula_eq]; exact s_ClausesFormula_len l


end Go.Proofs.Ytkilkfhjfobcdaa
