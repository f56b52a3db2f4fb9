/- GCB: models and contracts, printed by wip/gen/gen.py -/
import Derived.Test.YtkilkfhjfobcdaaGCA
set_option linter.unusedVariables false
set_option linter.unusedSimpArgs false
namespace Go.Proofs.Ytkilkfhjfobcdaa
open Go.RowKit

def F_l02Own (ap : List Int) : List Int :=
  ([]) ++ ap
theorem cf_l02Own (args : Array Value) (w : World) : (callFunc 145 args).run Try.prog w = .ok (.enter 145 args) w := by kernel_rfl
set_option maxRecDepth 100000 in
theorem c_l02Own (apA : Option Addr) (apN apC : Nat) (ap : List Int) (w : World) (apR : RdS w 2 apA apN apC ap) (hap : ap.length ≤ 1048576) :
    Calls Try.prog 145 #[.slice apA apN apC] w (Ret fun v w' => ∃ b1 : Option Addr, ∃ c1 : Nat, v = .slice b1 ((F_l02Own ap).length / 2 : Nat) c1 ∧ OwnS w' w.heap.size 94 2 b1 ((F_l02Own ap).length / 2 : Nat) c1 (F_l02Own ap) ∧ Ext w w') := by
  obtain rfl : apN = ap.length / 2 := (apR.lenD (by decide)).symm
  have apEv := apR.ev (by decide)
  have apLe := apR.le
  have hS := St.nil w
  have hS1 := St.rd0 hS rfl apR; clear hS
  refine enter (args := [.slice apA ((ap).length / 2 : Nat) apC]) Try.func145 rfl rfl ?_
  rw [Try.ntmps145]; intro a hE
  have hE := hE.sub (L' := [(0, .slice apA ((ap).length / 2 : Nat) apC)]) ⟨rfl, trivial⟩
  refine c_seq ?_
  refine c_reg ?_
  refine q_step (v := .slice none 0 0) hE (y_assign rfl) rfl rfl rfl ?_; intro a2 hE3; clear hE
  refine c_nil ?_
  have hE4 := hE3.sub (L' := [(0, .slice apA ((ap).length / 2 : Nat) apC)]) ⟨rfl, trivial⟩; clear hE3
  refine p_tn ?_
  refine c_seq ?_
  refine c_reg ?_
  refine l_step hE4 rfl (l_lit (e := 94) (s := 2) (xs := []) (vs := []) hS1 hE4 rfl (fun _ => by kernel_rfl) rfl rfl rfl ?_)
  intro b5 w6 hS9 he10 a7 hE8; clear hS1 hE4
  refine q_step (v := .slice apA ((ap).length / 2 : Nat) apC) hE8 (y_move rfl) rfl rfl rfl ?_; intro a11 hE12; clear hE8
  obtain ⟨_, hi1, hi2, hi3, hi4⟩ := info_parts (show (Try.prog.info? 94).map (fun i => (i.zero, i.size, i.bytes)) = some (some (.agg #[.int .i64 0, .int .i64 0]), 2, 16) by kernel_rfl)
  refine l_step hE12 rfl (l_append (k := 0) (n' := ((([]) ++ ap).length / 2 : Nat)) hS9 hE12 (by kernel_rfl) hi1 hi2 hi3 rfl (by decide) (by rw [hi4]; decide) rfl rfl rfl (St.rdR (i := 1) hS9 rfl) (by first | omega | (simp only [List.length_append, List.length_cons, List.length_nil]; omega)) (by have h1 := (St.rdO (i := 0) hS9 rfl).1; have h2 := (St.rdR (i := 1) hS9 rfl).1; simp only [List.length_append, List.length_nil, List.length_cons] at h1 h2 ⊢; omega) rfl ?_)
  intro b13 c19 w14 hS17 a15 hE16; clear hS9 hE12 hi1 hi2 hi3 hi4
  refine q_step (v := .slice b13 ((([]) ++ ap).length / 2 : Nat) c19) hE16 (y_assign rfl) rfl rfl rfl ?_; intro a20 hE21; clear hE16
  refine c_nil ?_
  have hE22 := hE21.sub (L' := [(2, .slice b13 ((([]) ++ ap).length / 2 : Nat) c19)]) ⟨rfl, trivial⟩; clear hE21
  refine p_tn ?_
  refine wp_ret ?_
  have hF : F_l02Own ap = ([]) ++ ap := by unfold F_l02Own; rfl
  refine c_ret1 hE22 rfl rfl ?_
  exact ⟨b13, c19, (by rw [hF]; first | done | (dsimp only; done) | rfl), (by rw [hF]; (try dsimp only); exact hS17.ok 0 _ rfl), hS17.ext⟩

theorem l02Own_len (ap : List Int) : (F_l02Own ap).length = ap.length := rfl

def F_l02Var (vp : Int) : List Int :=
  [0, vp]
theorem cf_l02Var (args : Array Value) (w : World) : (callFunc 202 args).run Try.prog w = .ok (.enter 202 args) w := by kernel_rfl
set_option maxRecDepth 100000 in
theorem c_l02Var (vp : Int) (w : World) :
    Calls Try.prog 202 #[.int .i64 vp] w (Ret fun v w' => ∃ b1 : Option Addr, ∃ c1 : Nat, v = .slice b1 ((F_l02Var vp).length / 2 : Nat) c1 ∧ OwnS w' w.heap.size 94 2 b1 ((F_l02Var vp).length / 2 : Nat) c1 (F_l02Var vp) ∧ Ext w w') := by
  have hS := St.nil w
  refine enter (args := [.int .i64 vp]) Try.func202 rfl rfl ?_
  rw [Try.ntmps202]; intro a hE
  have hE := hE.sub (L' := [(0, .int .i64 vp)]) ⟨rfl, trivial⟩
  refine c_seq ?_
  refine c_reg ?_
  refine q_step (v := .slice none 0 0) hE (y_assign rfl) rfl rfl rfl ?_; intro a1 hE2; clear hE
  refine c_nil ?_
  have hE3 := hE2.sub (L' := [(0, .int .i64 vp)]) ⟨rfl, trivial⟩; clear hE2
  refine p_tn ?_
  refine c_seq ?_
  refine c_reg ?_
  refine q_step (v := .int .i64 vp) hE3 (y_move rfl) rfl rfl rfl ?_; intro a4 hE5; clear hE3
  refine q_step (v := .agg #[.int .i64 0, .int .i64 vp]) hE5 (y_build (vs := #[(0, .int .i64 0), (1, .int .i64 vp)]) (fun a n hE => by simp only [hE.eval (x := .const (.int .i64 0)) (v := .int .i64 0) rfl, hE.eval (x := .tmp 3) (v := .int .i64 vp) rfl, List.map_toArray, List.map_cons, List.map_nil]) (fun _ => by kernel_rfl)) rfl rfl rfl ?_; intro a6 hE7; clear hE5
  refine l_step hE7 rfl (l_lit (e := 94) (s := 2) (xs := [0, vp]) (vs := [.agg #[.int .i64 0, .int .i64 vp]]) hS hE7 rfl (fun _ => by kernel_rfl) rfl rfl rfl ?_)
  intro b8 w9 hS12 he13 a10 hE11; clear hS hE7
  refine q_step (v := .slice (some ⟨b8, 0, none⟩) 1 1) hE11 (y_assign rfl) rfl rfl rfl ?_; intro a14 hE15; clear hE11
  refine c_nil ?_
  have hE16 := hE15.sub (L' := [(2, .slice (some ⟨b8, 0, none⟩) 1 1)]) ⟨rfl, trivial⟩; clear hE15
  refine p_tn ?_
  refine wp_ret ?_
  have hF : F_l02Var vp = [0, vp] := by unfold F_l02Var; rfl
  refine c_ret1 hE16 rfl rfl ?_
  exact ⟨some ⟨b8, 0, none⟩, 1, (by rw [hF]; first | rfl | (rw [((St.rdO (i := 0) hS12 rfl).lenD (by decide))])), (by rw [hF, ((St.rdO (i := 0) hS12 rfl).lenD (by decide))]; (try dsimp only); exact hS12.ok 0 _ rfl), hS12.ext⟩

theorem l02Var_len (v : Int) : (F_l02Var v).length = 2 := rfl
theorem falsum_eq2 : F_falsum = F_l02False := rfl

def F_variable (vp : Int) : List Int :=
  [0, vp]
theorem cf_variable (args : Array Value) (w : World) : (callFunc 204 args).run Try.prog w = .ok (.enter 204 args) w := by kernel_rfl
set_option maxRecDepth 100000 in
theorem c_variable (vp : Int) (w : World) :
    Calls Try.prog 204 #[.int .i64 vp] w (Ret fun v w' => ∃ b1 : Option Addr, ∃ c1 : Nat, v = .slice b1 ((F_variable vp).length / 2 : Nat) c1 ∧ OwnS w' w.heap.size 94 2 b1 ((F_variable vp).length / 2 : Nat) c1 (F_variable vp) ∧ Ext w w') := by
  have hS := St.nil w
  refine enter (args := [.int .i64 vp]) Try.func204 rfl rfl ?_
  rw [Try.ntmps204]; intro a hE
  have hE := hE.sub (L' := [(0, .int .i64 vp)]) ⟨rfl, trivial⟩
  refine c_seq ?_
  refine c_reg ?_
  refine q_step (v := .slice none 0 0) hE (y_assign rfl) rfl rfl rfl ?_; intro a1 hE2; clear hE
  refine c_nil ?_
  have hE3 := hE2.sub (L' := [(0, .int .i64 vp)]) ⟨rfl, trivial⟩; clear hE2
  refine p_tn ?_
  refine c_seq ?_
  refine c_reg ?_
  refine q_step (v := .int .i64 vp) hE3 (y_move rfl) rfl rfl rfl ?_; intro a4 hE5; clear hE3
  refine q_step (v := .agg #[.int .i64 0, .int .i64 vp]) hE5 (y_build (vs := #[(0, .int .i64 0), (1, .int .i64 vp)]) (fun a n hE => by simp only [hE.eval (x := .const (.int .i64 0)) (v := .int .i64 0) rfl, hE.eval (x := .tmp 3) (v := .int .i64 vp) rfl, List.map_toArray, List.map_cons, List.map_nil]) (fun _ => by kernel_rfl)) rfl rfl rfl ?_; intro a6 hE7; clear hE5
  refine l_step hE7 rfl (l_lit (e := 94) (s := 2) (xs := [0, vp]) (vs := [.agg #[.int .i64 0, .int .i64 vp]]) hS hE7 rfl (fun _ => by kernel_rfl) rfl rfl rfl ?_)
  intro b8 w9 hS12 he13 a10 hE11; clear hS hE7
  refine q_step (v := .slice (some ⟨b8, 0, none⟩) 1 1) hE11 (y_assign rfl) rfl rfl rfl ?_; intro a14 hE15; clear hE11
  refine c_nil ?_
  have hE16 := hE15.sub (L' := [(2, .slice (some ⟨b8, 0, none⟩) 1 1)]) ⟨rfl, trivial⟩; clear hE15
  refine p_tn ?_
  refine wp_ret ?_
  have hF : F_variable vp = [0, vp] := by unfold F_variable; rfl
  refine c_ret1 hE16 rfl rfl ?_
  exact ⟨some ⟨b8, 0, none⟩, 1, (by rw [hF]; first | rfl | (rw [((St.rdO (i := 0) hS12 rfl).lenD (by decide))])), (by rw [hF, ((St.rdO (i := 0) hS12 rfl).lenD (by decide))]; (try dsimp only); exact hS12.ok 0 _ rfl), hS12.ext⟩

theorem variable_len (v : Int) : (F_variable v).length = 2 := rfl
theorem var_eq (v : Int) : F_variable v = F_l02Var v := rfl

def F_l04Literal (literal : Int) : List Int :=
  bif (decide ((literal % 2) = 1)) then (F_l02Not (F_l02Var (literal / 2))) else (F_l02Var (literal / 2))
theorem cf_l04Literal (args : Array Value) (w : World) : (callFunc 156 args).run Try.prog w = .ok (.enter 156 args) w := by kernel_rfl
set_option maxRecDepth 100000 in
theorem c_l04Literal (literal : Int) (w : World) (h0 : 0 ≤ literal) (h1 : literal ≤ 11) :
    Calls Try.prog 156 #[.int .i64 literal] w (Ret fun v w' => ∃ b1 : Option Addr, ∃ c1 : Nat, v = .slice b1 ((F_l04Literal literal).length / 2 : Nat) c1 ∧ OwnS w' w.heap.size 94 2 b1 ((F_l04Literal literal).length / 2 : Nat) c1 (F_l04Literal literal) ∧ Ext w w') := by
  have hS := St.nil w
  refine enter (args := [.int .i64 literal]) Try.func156 rfl rfl ?_
  rw [Try.ntmps156]; intro a hE
  have hE := hE.sub (L' := [(0, .int .i64 literal)]) ⟨rfl, trivial⟩
  refine c_seq ?_
  refine c_reg ?_
  refine q_step (v := .slice none 0 0) hE (y_assign rfl) rfl rfl rfl ?_; intro a1 hE2; clear hE
  refine c_nil ?_
  have hE3 := hE2.sub (L' := [(0, .int .i64 literal)]) ⟨rfl, trivial⟩; clear hE2
  refine p_tn ?_
  refine c_seq ?_
  refine c_seq ?_
  refine c_reg ?_
  refine q_step (v := .int .i64 literal) hE3 (y_move rfl) rfl rfl rfl ?_; intro a4 hE5; clear hE3
  refine q_step (v := .int .i64 (literal % 2)) hE5 (y_rem rfl rfl (by omega) (by omega)) rfl rfl rfl ?_; intro a6 hE7; clear hE5
  refine q_step (v := .bool (decide ((literal % 2) = 1))) hE7 (y_eql rfl rfl) rfl rfl rfl ?_; intro a8 hE9; clear hE7
  refine c_nil ?_
  have hE10 := hE9.sub (L' := [(0, .int .i64 literal), (5, .bool (decide ((literal % 2) = 1)))]) ⟨rfl, rfl, trivial⟩; clear hE9
  refine p_tn ?_
  refine c_cond hE10 rfl (fun ht11 => ?_) (fun ht11 => ?_)
  ·
   have hp12 := of_decide_eq_true ht11
   have hE13 := hE10; rw [ht11] at hE13; clear hE10
   refine c_seq ?_
   refine c_reg ?_
   refine q_step (v := .int .i64 literal) hE13 (y_move rfl) rfl rfl rfl ?_; intro a14 hE15; clear hE13
   refine q_step (v := .int .i64 (literal / 2)) hE15 (y_quo rfl rfl (by omega) (by omega) (by omega)) rfl rfl rfl ?_; intro a16 hE17; clear hE15
   refine l_step hE17 rfl (l_call (f := 202) (argv := [.int .i64 (literal / 2)]) hE17 (fun _ => cf_l02Var _ _) rfl rfl (c_l02Var (literal / 2) w) ?_)
   rintro _ w19 ⟨b24, c25, rfl, ho26, he23⟩ a20 hE21; clear hE17
   have hf27 := l02Var_len (literal / 2)
   have hS22 := St.own hS he23 ho26; clear hS
   refine l_step hE21 rfl (l_call (f := 82) (argv := [.slice b24 ((F_l02Var (literal / 2)).length / 2 : Nat) c25]) hE21 (fun _ => cf_l02Not _ _) rfl rfl (c_l02Not b24 ((F_l02Var (literal / 2)).length / 2 : Nat) c25 (F_l02Var (literal / 2)) w19 (St.rdO (i := 0) hS22 rfl) (by omega)) ?_)
   rintro _ w29 ⟨b34, c35, rfl, ho36, he33⟩ a30 hE31; clear hE21
   have hf37 := l02Not_len (F_l02Var (literal / 2))
   have hS32 := St.own hS22 he33 ho36; clear hS22
   refine q_step (v := .slice b34 ((F_l02Not (F_l02Var (literal / 2))).length / 2 : Nat) c35) hE31 (y_assign rfl) rfl rfl rfl ?_; intro a38 hE39; clear hE31
   refine c_nil ?_
   have hE40 := hE39.sub (L' := [(2, .slice b34 ((F_l02Not (F_l02Var (literal / 2))).length / 2 : Nat) c35)]) ⟨rfl, trivial⟩; clear hE39
   refine p_tn ?_
   refine wp_ret ?_
   refine p_tr ?_
   have hF : F_l04Literal literal = F_l02Not (F_l02Var (literal / 2)) := by unfold F_l04Literal; rw [ht11]; first | done | rfl
   refine c_ret1 hE40 rfl rfl ?_
   exact ⟨b34, c35, (by rw [hF]; first | done | (dsimp only; done) | rfl), (by rw [hF]; (try dsimp only); exact hS32.ok 0 _ rfl), hS32.ext⟩
  ·
   have hp41 := of_decide_eq_false ht11
   have hE42 := hE10; rw [ht11] at hE42; clear hE10
   refine wp_skip ?_
   refine p_tn ?_
   refine c_seq ?_
   refine c_reg ?_
   refine q_step (v := .int .i64 literal) hE42 (y_move rfl) rfl rfl rfl ?_; intro a43 hE44; clear hE42
   refine q_step (v := .int .i64 (literal / 2)) hE44 (y_quo rfl rfl (by omega) (by omega) (by omega)) rfl rfl rfl ?_; intro a45 hE46; clear hE44
   refine l_step hE46 rfl (l_call (f := 202) (argv := [.int .i64 (literal / 2)]) hE46 (fun _ => cf_l02Var _ _) rfl rfl (c_l02Var (literal / 2) w) ?_)
   rintro _ w48 ⟨b53, c54, rfl, ho55, he52⟩ a49 hE50; clear hE46
   have hf56 := l02Var_len (literal / 2)
   have hS51 := St.own hS he52 ho55; clear hS
   refine q_step (v := .slice b53 ((F_l02Var (literal / 2)).length / 2 : Nat) c54) hE50 (y_assign rfl) rfl rfl rfl ?_; intro a57 hE58; clear hE50
   refine c_nil ?_
   have hE59 := hE58.sub (L' := [(2, .slice b53 ((F_l02Var (literal / 2)).length / 2 : Nat) c54)]) ⟨rfl, trivial⟩; clear hE58
   refine p_tn ?_
   refine wp_ret ?_
   have hF : F_l04Literal literal = F_l02Var (literal / 2) := by unfold F_l04Literal; rw [ht11]; first | done | rfl
   refine c_ret1 hE59 rfl rfl ?_
   exact ⟨b53, c54, (by rw [hF]; first | done | (dsimp only; done) | rfl), (by rw [hF]; (try dsimp only); exact hS51.ok 0 _ rfl), hS51.ext⟩

theorem l04Literal_len (l : Int) : (F_l04Literal l).length ≤ 6 ∧ 2 ≤ (F_l04Literal l).length := by
  unfold F_l04Literal
  cases decide (l % 2 = 1)
  · rw [cond_false, l02Var_len]; omega
  · rw [cond_true, l02Not_len, l02Var_len]; omega
theorem l04Literal_ev (l : Int) : (F_l04Literal l).length % 2 = 0 := by
  unfold F_l04Literal
  cases decide (l % 2 = 1)
  · rw [cond_false, l02Var_len]
  · rw [cond_true, l02Not_len, l02Var_len]

def F_literalFormula (l : Int) : List Int :=
  bif (decide ((l % 2) = 1)) then (F_negation (F_variable (l / 2))) else (F_variable (l / 2))
theorem cf_literalFormula (args : Array Value) (w : World) : (callFunc 160 args).run Try.prog w = .ok (.enter 160 args) w := by kernel_rfl
set_option maxRecDepth 100000 in
theorem c_literalFormula (l : Int) (w : World) (h0 : 0 ≤ l) (h1 : l ≤ 11) :
    Calls Try.prog 160 #[.int .i64 l] w (Ret fun v w' => ∃ b1 : Option Addr, ∃ c1 : Nat, v = .slice b1 ((F_literalFormula l).length / 2 : Nat) c1 ∧ OwnS w' w.heap.size 94 2 b1 ((F_literalFormula l).length / 2 : Nat) c1 (F_literalFormula l) ∧ Ext w w') := by
  have hS := St.nil w
  refine enter (args := [.int .i64 l]) Try.func160 rfl rfl ?_
  rw [Try.ntmps160]; intro a hE
  have hE := hE.sub (L' := [(0, .int .i64 l)]) ⟨rfl, trivial⟩
  refine c_seq ?_
  refine c_reg ?_
  refine q_step (v := .slice none 0 0) hE (y_assign rfl) rfl rfl rfl ?_; intro a1 hE2; clear hE
  refine c_nil ?_
  have hE3 := hE2.sub (L' := [(0, .int .i64 l)]) ⟨rfl, trivial⟩; clear hE2
  refine p_tn ?_
  refine c_seq ?_
  refine c_seq ?_
  refine c_reg ?_
  refine q_step (v := .int .i64 l) hE3 (y_move rfl) rfl rfl rfl ?_; intro a4 hE5; clear hE3
  refine q_step (v := .int .i64 (l % 2)) hE5 (y_rem rfl rfl (by omega) (by omega)) rfl rfl rfl ?_; intro a6 hE7; clear hE5
  refine q_step (v := .bool (decide ((l % 2) = 1))) hE7 (y_eql rfl rfl) rfl rfl rfl ?_; intro a8 hE9; clear hE7
  refine c_nil ?_
  have hE10 := hE9.sub (L' := [(0, .int .i64 l), (5, .bool (decide ((l % 2) = 1)))]) ⟨rfl, rfl, trivial⟩; clear hE9
  refine p_tn ?_
  refine c_cond hE10 rfl (fun ht11 => ?_) (fun ht11 => ?_)
  ·
   have hp12 := of_decide_eq_true ht11
   have hE13 := hE10; rw [ht11] at hE13; clear hE10
   refine c_seq ?_
   refine c_reg ?_
   refine q_step (v := .int .i64 l) hE13 (y_move rfl) rfl rfl rfl ?_; intro a14 hE15; clear hE13
   refine q_step (v := .int .i64 (l / 2)) hE15 (y_quo rfl rfl (by omega) (by omega) (by omega)) rfl rfl rfl ?_; intro a16 hE17; clear hE15
   refine l_step hE17 rfl (l_call (f := 204) (argv := [.int .i64 (l / 2)]) hE17 (fun _ => cf_variable _ _) rfl rfl (c_variable (l / 2) w) ?_)
   rintro _ w19 ⟨b24, c25, rfl, ho26, he23⟩ a20 hE21; clear hE17
   have hf27 := variable_len (l / 2)
   have hS22 := St.own hS he23 ho26; clear hS
   refine l_step hE21 rfl (l_call (f := 84) (argv := [.slice b24 ((F_variable (l / 2)).length / 2 : Nat) c25]) hE21 (fun _ => cf_negation _ _) rfl rfl (c_negation b24 ((F_variable (l / 2)).length / 2 : Nat) c25 (F_variable (l / 2)) w19 (St.rdO (i := 0) hS22 rfl) (by omega)) ?_)
   rintro _ w29 ⟨b34, c35, rfl, ho36, he33⟩ a30 hE31; clear hE21
   have hf37 := negation_len (F_variable (l / 2))
   have hS32 := St.own hS22 he33 ho36; clear hS22
   refine q_step (v := .slice b34 ((F_negation (F_variable (l / 2))).length / 2 : Nat) c35) hE31 (y_assign rfl) rfl rfl rfl ?_; intro a38 hE39; clear hE31
   refine c_nil ?_
   have hE40 := hE39.sub (L' := [(2, .slice b34 ((F_negation (F_variable (l / 2))).length / 2 : Nat) c35)]) ⟨rfl, trivial⟩; clear hE39
   refine p_tn ?_
   refine wp_ret ?_
   refine p_tr ?_
   have hF : F_literalFormula l = F_negation (F_variable (l / 2)) := by unfold F_literalFormula; rw [ht11]; first | done | rfl
   refine c_ret1 hE40 rfl rfl ?_
   exact ⟨b34, c35, (by rw [hF]; first | done | (dsimp only; done) | rfl), (by rw [hF]; (try dsimp only); exact hS32.ok 0 _ rfl), hS32.ext⟩
  ·
   have hp41 := of_decide_eq_false ht11
   have hE42 := hE10; rw [ht11] at hE42; clear hE10
   refine wp_skip ?_
   refine p_tn ?_
   refine c_seq ?_
   refine c_reg ?_
   refine q_step (v := .int .i64 l) hE42 (y_move rfl) rfl rfl rfl ?_; intro a43 hE44; clear hE42
   refine q_step (v := .int .i64 (l / 2)) hE44 (y_quo rfl rfl (by omega) (by omega) (by omega)) rfl rfl rfl ?_; intro a45 hE46; clear hE44
   refine l_step hE46 rfl (l_call (f := 204) (argv := [.int .i64 (l / 2)]) hE46 (fun _ => cf_variable _ _) rfl rfl (c_variable (l / 2) w) ?_)
   rintro _ w48 ⟨b53, c54, rfl, ho55, he52⟩ a49 hE50; clear hE46
   have hf56 := variable_len (l / 2)
   have hS51 := St.own hS he52 ho55; clear hS
   refine q_step (v := .slice b53 ((F_variable (l / 2)).length / 2 : Nat) c54) hE50 (y_assign rfl) rfl rfl rfl ?_; intro a57 hE58; clear hE50
   refine c_nil ?_
   have hE59 := hE58.sub (L' := [(2, .slice b53 ((F_variable (l / 2)).length / 2 : Nat) c54)]) ⟨rfl, trivial⟩; clear hE58
   refine p_tn ?_
   refine wp_ret ?_
   have hF : F_literalFormula l = F_variable (l / 2) := by unfold F_literalFormula; rw [ht11]; first | done | rfl
   refine c_ret1 hE59 rfl rfl ?_
   exact ⟨b53, c54, (by rw [hF]; first | done | (dsimp only; done) | rfl), (by rw [hF]; (try dsimp only); exact hS51.ok 0 _ rfl), hS51.ext⟩

theorem literalFormula_len (l : Int) : (F_literalFormula l).length ≤ 6 ∧ 2 ≤ (F_literalFormula l).length := by
  unfold F_literalFormula
  cases decide (l % 2 = 1)
  · rw [cond_false, variable_len]; omega
  · rw [cond_true, negation_len, variable_len]; omega
theorem literal_eq (l : Int) : F_literalFormula l = F_l04Literal l := by
  unfold F_literalFormula F_l04Literal
  rw [negation_eq, var_eq]


def F_l02True : List Int :=
  F_l02Not F_l02False
theorem cf_l02True (args : Array Value) (w : World) : (callFunc 149 args).run Try.prog w = .ok (.enter 149 args) w := by kernel_rfl
set_option maxRecDepth 100000 in
theorem c_l02True  (w : World) :
    Calls Try.prog 149 #[] w (Ret fun v w' => ∃ b1 : Option Addr, ∃ c1 : Nat, v = .slice b1 ((F_l02True).length / 2 : Nat) c1 ∧ OwnS w' w.heap.size 94 2 b1 ((F_l02True).length / 2 : Nat) c1 F_l02True ∧ Ext w w') := by
  have hS := St.nil w
  refine enter (args := []) Try.func149 rfl rfl ?_
  rw [Try.ntmps149]; intro a hE
  have hE := hE.sub (L' := []) trivial
  refine c_seq ?_
  refine c_reg ?_
  refine q_step (v := .slice none 0 0) hE (y_assign rfl) rfl rfl rfl ?_; intro a1 hE2; clear hE
  refine c_nil ?_
  have hE3 := hE2.sub (L' := []) trivial; clear hE2
  refine p_tn ?_
  refine c_seq ?_
  refine c_reg ?_
  refine l_step hE3 rfl (l_call (f := 143) (argv := []) hE3 (fun _ => cf_l02False _ _) rfl rfl (c_l02False w) ?_)
  rintro _ w5 ⟨b10, c11, rfl, ho12, he9⟩ a6 hE7; clear hE3
  have hf13 := l02False_len
  have hS8 := St.own hS he9 ho12; clear hS
  refine l_step hE7 rfl (l_call (f := 82) (argv := [.slice b10 ((F_l02False).length / 2 : Nat) c11]) hE7 (fun _ => cf_l02Not _ _) rfl rfl (c_l02Not b10 ((F_l02False).length / 2 : Nat) c11 F_l02False w5 (St.rdO (i := 0) hS8 rfl) (by omega)) ?_)
  rintro _ w15 ⟨b20, c21, rfl, ho22, he19⟩ a16 hE17; clear hE7
  have hf23 := l02Not_len F_l02False
  have hS18 := St.own hS8 he19 ho22; clear hS8
  refine q_step (v := .slice b20 ((F_l02Not F_l02False).length / 2 : Nat) c21) hE17 (y_assign rfl) rfl rfl rfl ?_; intro a24 hE25; clear hE17
  refine c_nil ?_
  have hE26 := hE25.sub (L' := [(0, .slice b20 ((F_l02Not F_l02False).length / 2 : Nat) c21)]) ⟨rfl, trivial⟩; clear hE25
  refine p_tn ?_
  refine wp_ret ?_
  have hF : F_l02True = F_l02Not F_l02False := by unfold F_l02True; rfl
  refine c_ret1 hE26 rfl rfl ?_
  exact ⟨b20, c21, (by rw [hF]; first | done | (dsimp only; done) | rfl), (by rw [hF]; (try dsimp only); exact hS18.ok 0 _ rfl), hS18.ext⟩

theorem l02True_len : F_l02True.length = 6 := by unfold F_l02True; rw [l02Not_len, l02False_len]

def F_truth : List Int :=
  [4, 0, 1, 0, 1, 0]
theorem cf_truth (args : Array Value) (w : World) : (callFunc 152 args).run Try.prog w = .ok (.enter 152 args) w := by kernel_rfl
set_option maxRecDepth 100000 in
theorem c_truth  (w : World) :
    Calls Try.prog 152 #[] w (Ret fun v w' => ∃ b1 : Option Addr, ∃ c1 : Nat, v = .slice b1 ((F_truth).length / 2 : Nat) c1 ∧ OwnS w' w.heap.size 94 2 b1 ((F_truth).length / 2 : Nat) c1 F_truth ∧ Ext w w') := by
  have hS := St.nil w
  refine enter (args := []) Try.func152 rfl rfl ?_
  rw [Try.ntmps152]; intro a hE
  have hE := hE.sub (L' := []) trivial
  refine c_seq ?_
  refine c_reg ?_
  refine q_step (v := .slice none 0 0) hE (y_assign rfl) rfl rfl rfl ?_; intro a1 hE2; clear hE
  refine c_nil ?_
  have hE3 := hE2.sub (L' := []) trivial; clear hE2
  refine p_tn ?_
  refine c_seq ?_
  refine c_reg ?_
  refine q_step (v := .agg #[.int .i64 4, .int .i64 0]) hE3 (y_build (vs := #[(0, .int .i64 4), (1, .int .i64 0)]) (fun a n hE => by simp only [hE.eval (x := .const (.int .i64 4)) (v := .int .i64 4) rfl, hE.eval (x := .const (.int .i64 0)) (v := .int .i64 0) rfl, List.map_toArray, List.map_cons, List.map_nil]) (fun _ => by kernel_rfl)) rfl rfl rfl ?_; intro a4 hE5; clear hE3
  refine q_step (v := .agg #[.int .i64 1, .int .i64 0]) hE5 (y_build (vs := #[(0, .int .i64 1), (1, .int .i64 0)]) (fun a n hE => by simp only [hE.eval (x := .const (.int .i64 1)) (v := .int .i64 1) rfl, hE.eval (x := .const (.int .i64 0)) (v := .int .i64 0) rfl, List.map_toArray, List.map_cons, List.map_nil]) (fun _ => by kernel_rfl)) rfl rfl rfl ?_; intro a6 hE7; clear hE5
  refine q_step (v := .agg #[.int .i64 1, .int .i64 0]) hE7 (y_build (vs := #[(0, .int .i64 1), (1, .int .i64 0)]) (fun a n hE => by simp only [hE.eval (x := .const (.int .i64 1)) (v := .int .i64 1) rfl, hE.eval (x := .const (.int .i64 0)) (v := .int .i64 0) rfl, List.map_toArray, List.map_cons, List.map_nil]) (fun _ => by kernel_rfl)) rfl rfl rfl ?_; intro a8 hE9; clear hE7
  refine l_step hE9 rfl (l_lit (e := 94) (s := 2) (xs := [4, 0, 1, 0, 1, 0]) (vs := [.agg #[.int .i64 4, .int .i64 0], .agg #[.int .i64 1, .int .i64 0], .agg #[.int .i64 1, .int .i64 0]]) hS hE9 rfl (fun _ => by kernel_rfl) rfl rfl rfl ?_)
  intro b10 w11 hS14 he15 a12 hE13; clear hS hE9
  refine q_step (v := .slice (some ⟨b10, 0, none⟩) 3 3) hE13 (y_assign rfl) rfl rfl rfl ?_; intro a16 hE17; clear hE13
  refine c_nil ?_
  have hE18 := hE17.sub (L' := [(0, .slice (some ⟨b10, 0, none⟩) 3 3)]) ⟨rfl, trivial⟩; clear hE17
  refine p_tn ?_
  refine wp_ret ?_
  have hF : F_truth = [4, 0, 1, 0, 1, 0] := by unfold F_truth; rfl
  refine c_ret1 hE18 rfl rfl ?_
  exact ⟨some ⟨b10, 0, none⟩, 3, (by rw [hF]; first | rfl | (rw [((St.rdO (i := 0) hS14 rfl).lenD (by decide))])), (by rw [hF, ((St.rdO (i := 0) hS14 rfl).lenD (by decide))]; (try dsimp only); exact hS14.ok 0 _ rfl), hS14.ext⟩

theorem truth_len : F_truth.length = 6 := rfl
theorem truth_eq : F_truth = F_l02True := rfl

def F_joinAll_L1b (list : List (List Int)) (rec : Int → Int → Int × Int) (nodes5 : Int) (t23 : Int) : Int × Int :=
  bif (decide (t23 < ((list).length : Int))) then (rec (nodes5 + (((gL list t23).length / 2 : Nat) : Int)) (t23 + 1)) else (nodes5, t23)
def F_joinAll_L1 (list : List (List Int)) : Nat → Int → Int → Int × Int
  | 0, nodes5, t23 => (nodes5, t23)
  | r + 1, nodes5, t23 => F_joinAll_L1b list (F_joinAll_L1 list r) nodes5 t23
def F_joinAll_L2b (kind : Int) (list : List (List Int)) (rec : (List Int) → Int → (List Int) × Int) (out8L2 : List Int) (t37L2 : Int) : (List Int) × Int :=
  bif (decide (t37L2 < (((list).length : Int) - 1))) then (rec (out8L2 ++ ([kind, 0])) (t37L2 + 1)) else (out8L2, t37L2)
def F_joinAll_L2 (kind : Int) (list : List (List Int)) : Nat → (List Int) → Int → (List Int) × Int
  | 0, out8L2, t37L2 => (out8L2, t37L2)
  | r + 1, out8L2, t37L2 => F_joinAll_L2b kind list (F_joinAll_L2 kind list r) out8L2 t37L2
def F_joinAll_L3b (list : List (List Int)) (rec : (List Int) → Int → (List Int) × Int) (out8L3 : List Int) (t47L3 : Int) : (List Int) × Int :=
  bif (decide (t47L3 < ((list).length : Int))) then (rec (out8L3 ++ (gL list t47L3)) (t47L3 + 1)) else (out8L3, t47L3)
def F_joinAll_L3 (list : List (List Int)) : Nat → (List Int) → Int → (List Int) × Int
  | 0, out8L3, t47L3 => (out8L3, t47L3)
  | r + 1, out8L3, t47L3 => F_joinAll_L3b list (F_joinAll_L3 list r) out8L3 t47L3
def F_joinAll (kind : Int) (list : List (List Int)) : List Int :=
  bif (decide (((list).length : Int) = 0)) then (bif (decide (kind = 2)) then F_truth else F_falsum) else ((F_joinAll_L3 list (Int.toNat (((list).length : Int) - 0) + 1) ((F_joinAll_L2 kind list (Int.toNat ((((list).length : Int) - 1) - 0) + 1) ([]) 0).1) 0).1)
theorem cf_joinAll (args : Array Value) (w : World) : (callFunc 96 args).run Try.prog w = .ok (.enter 96 args) w := by kernel_rfl
set_option maxRecDepth 100000 in
theorem c_joinAll (kind : Int) (listA : Option Addr) (listN listC : Nat) (listQ : List Hd) (list : List (List Int)) (w : World) (listR : RdN w 2 listA listN listC listQ list) (hl : list.length ≤ 1048576) (hx : ∀ m : Int, 0 ≤ m → m < (list.length : Int) → (gL list m).length ≤ 2000) :
    Calls Try.prog 96 #[.int .i64 kind, .slice listA listN listC] w (Ret fun v w' => ∃ b1 : Option Addr, ∃ c1 : Nat, v = .slice b1 ((F_joinAll kind list).length / 2 : Nat) c1 ∧ OwnS w' w.heap.size 94 2 b1 ((F_joinAll kind list).length / 2 : Nat) c1 (F_joinAll kind list) ∧ Ext w w') := by
  obtain rfl : listN = list.length := listR.len
  have listLe := listR.le
  have hS := St.nil w
  have hS1 := St.rdn0 hS rfl listR; clear hS
  refine enter (args := [.int .i64 kind, .slice listA ((list).length) listC]) Try.func96 rfl rfl ?_
  rw [Try.ntmps96]; intro a hE
  have hE := hE.sub (L' := [(0, .int .i64 kind), (1, .slice listA ((list).length) listC)]) ⟨rfl, rfl, trivial⟩
  refine c_seq ?_
  refine c_reg ?_
  refine q_step (v := .slice none 0 0) hE (y_assign rfl) rfl rfl rfl ?_; intro a2 hE3; clear hE
  refine c_nil ?_
  have hE4 := hE3.sub (L' := [(0, .int .i64 kind), (1, .slice listA ((list).length) listC)]) ⟨rfl, rfl, trivial⟩; clear hE3
  refine p_tn ?_
  refine c_seq ?_
  refine c_seq ?_
  refine c_reg ?_
  refine q_step (v := .slice listA ((list).length) listC) hE4 (y_move rfl) rfl rfl rfl ?_; intro a5 hE6; clear hE4
  refine q_step (v := .int .i64 ((list).length : Int)) hE6 (y_len (e := 32) (by kernel_rfl) rfl) rfl rfl rfl ?_; intro a7 hE8; clear hE6
  refine q_step (v := .bool (decide (((list).length : Int) = 0))) hE8 (y_eql rfl rfl) rfl rfl rfl ?_; intro a9 hE10; clear hE8
  refine c_nil ?_
  have hE11 := hE10.sub (L' := [(0, .int .i64 kind), (1, .slice listA ((list).length) listC), (13, .bool (decide (((list).length : Int) = 0)))]) ⟨rfl, rfl, rfl, trivial⟩; clear hE10
  refine p_tn ?_
  refine c_cond hE11 rfl (fun ht12 => ?_) (fun ht12 => ?_)
  ·
   have hp13 := of_decide_eq_true ht12
   have hE14 := hE11; rw [ht12] at hE14; clear hE11
   refine c_seq ?_
   refine c_seq ?_
   refine c_reg ?_
   refine q_step (v := .int .i64 kind) hE14 (y_move rfl) rfl rfl rfl ?_; intro a15 hE16; clear hE14
   refine q_step (v := .bool (decide (kind = 2))) hE16 (y_eql rfl rfl) rfl rfl rfl ?_; intro a17 hE18; clear hE16
   refine c_nil ?_
   have hE19 := hE18.sub (L' := [(15, .bool (decide (kind = 2)))]) ⟨rfl, trivial⟩; clear hE18
   refine p_tn ?_
   refine c_cond hE19 rfl (fun ht20 => ?_) (fun ht20 => ?_)
   ·
    have hp21 := of_decide_eq_true ht20
    have hE22 := hE19; rw [ht20] at hE22; clear hE19
    refine c_seq ?_
    refine c_reg ?_
    refine l_step hE22 rfl (l_call (f := 152) (argv := []) hE22 (fun _ => cf_truth _ _) rfl rfl (c_truth w) ?_)
    rintro _ w24 ⟨b29, c30, rfl, ho31, he28⟩ a25 hE26; clear hE22
    have hf32 := truth_len
    have hS27 := St.own hS1 he28 ho31; clear hS1
    refine q_step (v := .slice b29 ((F_truth).length / 2 : Nat) c30) hE26 (y_assign rfl) rfl rfl rfl ?_; intro a33 hE34; clear hE26
    refine c_nil ?_
    have hE35 := hE34.sub (L' := [(4, .slice b29 ((F_truth).length / 2 : Nat) c30)]) ⟨rfl, trivial⟩; clear hE34
    refine p_tn ?_
    refine wp_ret ?_
    refine p_tr ?_
    refine p_tr ?_
    have hF : F_joinAll kind list = F_truth := by unfold F_joinAll; rw [ht20, ht12]; first | done | rfl
    refine c_ret1 hE35 rfl rfl ?_
    exact ⟨b29, c30, (by rw [hF]; first | done | (dsimp only; done) | rfl), (by rw [hF]; (try dsimp only); exact hS27.ok 0 _ rfl), hS27.ext⟩
   ·
    have hp36 := of_decide_eq_false ht20
    have hE37 := hE19; rw [ht20] at hE37; clear hE19
    refine wp_skip ?_
    refine p_tn ?_
    refine c_seq ?_
    refine c_reg ?_
    refine l_step hE37 rfl (l_call (f := 144) (argv := []) hE37 (fun _ => cf_falsum _ _) rfl rfl (c_falsum w) ?_)
    rintro _ w39 ⟨b44, c45, rfl, ho46, he43⟩ a40 hE41; clear hE37
    have hf47 := falsum_len
    have hS42 := St.own hS1 he43 ho46; clear hS1
    refine q_step (v := .slice b44 ((F_falsum).length / 2 : Nat) c45) hE41 (y_assign rfl) rfl rfl rfl ?_; intro a48 hE49; clear hE41
    refine c_nil ?_
    have hE50 := hE49.sub (L' := [(4, .slice b44 ((F_falsum).length / 2 : Nat) c45)]) ⟨rfl, trivial⟩; clear hE49
    refine p_tn ?_
    refine wp_ret ?_
    refine p_tr ?_
    have hF : F_joinAll kind list = F_falsum := by unfold F_joinAll; rw [ht20, ht12]; first | done | rfl
    refine c_ret1 hE50 rfl rfl ?_
    exact ⟨b44, c45, (by rw [hF]; first | done | (dsimp only; done) | rfl), (by rw [hF]; (try dsimp only); exact hS42.ok 0 _ rfl), hS42.ext⟩
  ·
   have hp51 := of_decide_eq_false ht12
   have hE52 := hE11; rw [ht12] at hE52; clear hE11
   refine wp_skip ?_
   refine p_tn ?_
   refine c_seq ?_
   refine c_reg ?_
   refine q_step (v := .slice listA ((list).length) listC) hE52 (y_move rfl) rfl rfl rfl ?_; intro a53 hE54; clear hE52
   refine q_step (v := .int .i64 ((list).length : Int)) hE54 (y_len (e := 32) (by kernel_rfl) rfl) rfl rfl rfl ?_; intro a55 hE56; clear hE54
   refine q_step (v := .int .i64 (((list).length : Int) - 1)) hE56 (y_sub rfl rfl ⟨(by omega), (by omega)⟩) rfl rfl rfl ?_; intro a57 hE58; clear hE56
   refine q_step (v := .int .i64 (((list).length : Int) - 1)) hE58 (y_assign rfl) rfl rfl rfl ?_; intro a59 hE60; clear hE58
   refine c_nil ?_
   have hE61 := hE60.sub (L' := [(0, .int .i64 kind), (1, .slice listA ((list).length) listC), (5, .int .i64 (((list).length : Int) - 1))]) ⟨rfl, rfl, rfl, trivial⟩; clear hE60
   refine p_tn ?_
   refine c_seq ?_
   refine c_seq ?_
   refine c_reg ?_
   refine q_step (v := .slice listA ((list).length) listC) hE61 (y_move rfl) rfl rfl rfl ?_; intro a62 hE63; clear hE61
   refine q_step (v := .int .i64 ((list).length : Int)) hE63 (y_len (e := 32) (by kernel_rfl) rfl) rfl rfl rfl ?_; intro a64 hE65; clear hE63
   refine q_step (v := .int .i64 0) hE65 (y_move rfl) rfl rfl rfl ?_; intro a66 hE67; clear hE65
   refine c_nil ?_
   have hE68 := hE67.sub (L' := [(0, .int .i64 kind), (1, .slice listA ((list).length) listC), (5, .int .i64 (((list).length : Int) - 1)), (21, .slice listA ((list).length) listC), (22, .int .i64 ((list).length : Int)), (23, .int .i64 0)]) ⟨rfl, rfl, rfl, rfl, rfl, rfl, trivial⟩; clear hE67
   refine p_tn ?_
   refine c_cut1 (fun a' w' => (0 ≤ ((F_joinAll_L1 list (Int.toNat (((list).length : Int) - 0) + 1) (((list).length : Int) - 1) 0).2)) ∧ (0 ≤ ((F_joinAll_L1 list (Int.toNat (((list).length : Int) - 0) + 1) (((list).length : Int) - 1) 0).1)) ∧ (((F_joinAll_L1 list (Int.toNat (((list).length : Int) - 0) + 1) (((list).length : Int) - 1) 0).1) ≤ (list.length : Int) - 1 + ((F_joinAll_L1 list (Int.toNat (((list).length : Int) - 0) + 1) (((list).length : Int) - 1) 0).2) * 1000) ∧ (((F_joinAll_L1 list (Int.toNat (((list).length : Int) - 0) + 1) (((list).length : Int) - 1) 0).2) ≤ ((list).length : Int)) ∧ E a' 56 [(0, .int .i64 kind), (1, .slice listA ((list).length) listC), (5, .int .i64 ((F_joinAll_L1 list (Int.toNat (((list).length : Int) - 0) + 1) (((list).length : Int) - 1) 0).1)), (21, .slice listA ((list).length) listC), (22, .int .i64 ((list).length : Int)), (23, .int .i64 ((F_joinAll_L1 list (Int.toNat (((list).length : Int) - 0) + 1) (((list).length : Int) - 1) 0).2))] ∧ St w w' [.rdn 2 listA ((list).length) listC listQ list]) ?_ ?_
   ·
    refine wp_block ?_
    refine c_loop (fun r a' w' => ∃ nodes5 : Int, ∃ t23 : Int, F_joinAll_L1 list r nodes5 t23 = F_joinAll_L1 list (Int.toNat (((list).length : Int) - 0) + 1) (((list).length : Int) - 1) 0 ∧ Int.toNat (((list).length : Int) - t23) < r ∧ (0 ≤ t23) ∧ (0 ≤ nodes5) ∧ (nodes5 ≤ (list.length : Int) - 1 + t23 * 1000) ∧ (t23 ≤ ((list).length : Int)) ∧ E a' 56 [(0, .int .i64 kind), (1, .slice listA ((list).length) listC), (5, .int .i64 nodes5), (21, .slice listA ((list).length) listC), (22, .int .i64 ((list).length : Int)), (23, .int .i64 t23)] ∧ St w w' [.rdn 2 listA ((list).length) listC listQ list]) (r := (Int.toNat (((list).length : Int) - 0) + 1)) ?_ ?_
    · exact ⟨((list).length : Int) - 1, 0, rfl, Nat.lt_succ_self _, (by first | omega | (simp only [sS_len, sL_len]; omega) | (simp only [List.length_replicate, sI_len]; omega) | (simp only [List.length_append, List.length_cons, List.length_nil, sI_len, cond_true, cond_false]; omega) | (simp only [List.length_append, List.length_cons, List.length_nil, sI_len, cond_eq_ite, apply_ite List.length]; split <;> simp only [List.length_append, List.length_cons, List.length_nil, sI_len] <;> omega) | grind), (by first | omega | (simp only [sS_len, sL_len]; omega) | (simp only [List.length_replicate, sI_len]; omega) | (simp only [List.length_append, List.length_cons, List.length_nil, sI_len, cond_true, cond_false]; omega) | (simp only [List.length_append, List.length_cons, List.length_nil, sI_len, cond_eq_ite, apply_ite List.length]; split <;> simp only [List.length_append, List.length_cons, List.length_nil, sI_len] <;> omega) | grind), (by first | omega | (simp only [sS_len, sL_len]; omega) | (simp only [List.length_replicate, sI_len]; omega) | (simp only [List.length_append, List.length_cons, List.length_nil, sI_len, cond_true, cond_false]; omega) | (simp only [List.length_append, List.length_cons, List.length_nil, sI_len, cond_eq_ite, apply_ite List.length]; split <;> simp only [List.length_append, List.length_cons, List.length_nil, sI_len] <;> omega) | grind), (by first | omega | (simp only [sS_len, sL_len]; omega) | (simp only [List.length_replicate, sI_len]; omega) | (simp only [List.length_append, List.length_cons, List.length_nil, sI_len, cond_true, cond_false]; omega) | (simp only [List.length_append, List.length_cons, List.length_nil, sI_len, cond_eq_ite, apply_ite List.length]; split <;> simp only [List.length_append, List.length_cons, List.length_nil, sI_len] <;> omega) | grind), (hE68.sub (L' := [(0, .int .i64 kind), (1, .slice listA ((list).length) listC), (5, .int .i64 (((list).length : Int) - 1)), (21, .slice listA ((list).length) listC), (22, .int .i64 ((list).length : Int)), (23, .int .i64 0)]) ⟨rfl, rfl, rfl, rfl, rfl, rfl, trivial⟩), (St.pick (Γ' := [.rdn 2 listA ((list).length) listC listQ list]) hS1 [0] (by decide) rfl)⟩
    ·
     clear hE68 hS1
     rintro r80 a70 w71 ⟨nodes5, t23, hT74, hr75, hi76, hi77, hi78, hi79, hE72, hS73⟩
     obtain ⟨r80, rfl⟩ : ∃ r', r80 = r' + 1 := ⟨r80 - 1, by omega⟩
     refine c_seq ?_
     refine c_reg ?_
     refine q_step (v := .bool (decide (t23 < ((list).length : Int)))) hE72 (y_lss rfl rfl) rfl rfl rfl ?_; intro a81 hE82; clear hE72
     refine c_nil ?_
     have hE83 := hE82.sub (L' := [(0, .int .i64 kind), (1, .slice listA ((list).length) listC), (5, .int .i64 nodes5), (21, .slice listA ((list).length) listC), (22, .int .i64 ((list).length : Int)), (23, .int .i64 t23), (24, .bool (decide (t23 < ((list).length : Int))))]) ⟨rfl, rfl, rfl, rfl, rfl, rfl, rfl, trivial⟩; clear hE82
     refine p_tn ?_
     refine c_seq ?_
     refine c_cond hE83 rfl (fun ht84 => ?_) (fun ht84 => ?_)
     ·
      have hp85 := of_decide_eq_true ht84
      have hE86 := hE83; rw [ht84] at hE86; clear hE83
      have hx1 := hx t23 (by omega) (by omega)
      refine wp_skip ?_
      refine p_tn ?_
      refine c_seq ?_
      refine wp_block ?_
      refine c_seq ?_
      refine c_reg ?_
      refine q_step (v := .pointer (some (adr listA (Int.toNat t23)))) hE86 (y_idx (by kernel_rfl) (fun _ => by kernel_rfl) rfl rfl (RdN.isS (m := t23) (St.rdNr (i := 0) hS73 rfl) (by omega) (by omega)) (by omega) (by omega) (Nat.mul_one _).symm) rfl rfl rfl ?_; intro a87 hE88; clear hE86
      have hv89 : (0 : Int) ≤ t23 ∧ t23 < (((list).length) : Int) := ⟨(by omega), (by omega)⟩
      refine q_step (v := .slice (hdA listQ t23) ((gL list t23).length / 2 : Nat) (hdC listQ t23)) hE88 (y_load (fun _ => by kernel_rfl) rfl (RdN.eltD (St.rdNr (i := 0) hS73 rfl) (by decide) (by omega) (by omega))) rfl rfl rfl ?_; intro a91 hE92; clear hE88
      refine q_step (v := .slice (hdA listQ t23) ((gL list t23).length / 2 : Nat) (hdC listQ t23)) hE92 (y_assign rfl) rfl rfl rfl ?_; intro a93 hE94; clear hE92
      refine c_nil ?_
      have hE95 := hE94.sub (L' := [(0, .int .i64 kind), (1, .slice listA ((list).length) listC), (5, .int .i64 nodes5), (7, .slice (hdA listQ t23) ((gL list t23).length / 2 : Nat) (hdC listQ t23)), (21, .slice listA ((list).length) listC), (22, .int .i64 ((list).length : Int)), (23, .int .i64 t23)]) ⟨rfl, rfl, rfl, rfl, rfl, rfl, rfl, trivial⟩; clear hE94
      refine p_tn ?_
      refine c_reg ?_
      refine q_step (v := .int .i64 nodes5) hE95 (y_move rfl) rfl rfl rfl ?_; intro a96 hE97; clear hE95
      refine q_step (v := .slice (hdA listQ t23) ((gL list t23).length / 2 : Nat) (hdC listQ t23)) hE97 (y_move rfl) rfl rfl rfl ?_; intro a98 hE99; clear hE97
      refine q_step (v := .int .i64 (((gL list t23).length / 2 : Nat) : Int)) hE99 (y_len (e := 94) (by kernel_rfl) rfl) rfl rfl rfl ?_; intro a100 hE101; clear hE99
      refine q_step (v := .int .i64 (nodes5 + (((gL list t23).length / 2 : Nat) : Int))) hE101 (y_add rfl rfl ⟨(by omega), (by omega)⟩) rfl rfl rfl ?_; intro a102 hE103; clear hE101
      refine q_step (v := .int .i64 (nodes5 + (((gL list t23).length / 2 : Nat) : Int))) hE103 (y_assign rfl) rfl rfl rfl ?_; intro a104 hE105; clear hE103
      refine c_nil ?_
      have hE106 := hE105.sub (L' := [(0, .int .i64 kind), (1, .slice listA ((list).length) listC), (5, .int .i64 (nodes5 + (((gL list t23).length / 2 : Nat) : Int))), (21, .slice listA ((list).length) listC), (22, .int .i64 ((list).length : Int)), (23, .int .i64 t23)]) ⟨rfl, rfl, rfl, rfl, rfl, rfl, trivial⟩; clear hE105
      refine p_bn ?_
      refine p_tn ?_
      refine c_reg ?_
      refine q_step (v := .int .i64 (t23 + 1)) hE106 (y_add rfl rfl ⟨(by omega), (by omega)⟩) rfl rfl rfl ?_; intro a107 hE108; clear hE106
      refine q_step (v := .int .i64 (t23 + 1)) hE108 (y_move rfl) rfl rfl rfl ?_; intro a109 hE110; clear hE108
      refine c_nil ?_
      have hE111 := hE110.sub (L' := [(0, .int .i64 kind), (1, .slice listA ((list).length) listC), (5, .int .i64 (nodes5 + (((gL list t23).length / 2 : Nat) : Int))), (21, .slice listA ((list).length) listC), (22, .int .i64 ((list).length : Int)), (23, .int .i64 (t23 + 1))]) ⟨rfl, rfl, rfl, rfl, rfl, rfl, trivial⟩; clear hE110
      refine p_tn ⟨r80, Nat.lt_succ_self _, nodes5 + (((gL list t23).length / 2 : Nat) : Int), t23 + 1, (hT74.symm.trans (show F_joinAll_L1b list (F_joinAll_L1 list r80) nodes5 t23 = F_joinAll_L1 list r80 (nodes5 + (((gL list t23).length / 2 : Nat) : Int)) (t23 + 1) by unfold F_joinAll_L1b; rw [ht84]; first | done | rfl)).symm, (by omega), (by first | omega | (simp only [sS_len, sL_len]; omega) | (simp only [List.length_replicate, sI_len]; omega) | (simp only [List.length_append, List.length_cons, List.length_nil, sI_len, cond_true, cond_false]; omega) | (simp only [List.length_append, List.length_cons, List.length_nil, sI_len, cond_eq_ite, apply_ite List.length]; split <;> simp only [List.length_append, List.length_cons, List.length_nil, sI_len] <;> omega) | grind), (by first | omega | (simp only [sS_len, sL_len]; omega) | (simp only [List.length_replicate, sI_len]; omega) | (simp only [List.length_append, List.length_cons, List.length_nil, sI_len, cond_true, cond_false]; omega) | (simp only [List.length_append, List.length_cons, List.length_nil, sI_len, cond_eq_ite, apply_ite List.length]; split <;> simp only [List.length_append, List.length_cons, List.length_nil, sI_len] <;> omega) | grind), (by first | omega | (simp only [sS_len, sL_len]; omega) | (simp only [List.length_replicate, sI_len]; omega) | (simp only [List.length_append, List.length_cons, List.length_nil, sI_len, cond_true, cond_false]; omega) | (simp only [List.length_append, List.length_cons, List.length_nil, sI_len, cond_eq_ite, apply_ite List.length]; split <;> simp only [List.length_append, List.length_cons, List.length_nil, sI_len] <;> omega) | grind), (by first | omega | (simp only [sS_len, sL_len]; omega) | (simp only [List.length_replicate, sI_len]; omega) | (simp only [List.length_append, List.length_cons, List.length_nil, sI_len, cond_true, cond_false]; omega) | (simp only [List.length_append, List.length_cons, List.length_nil, sI_len, cond_eq_ite, apply_ite List.length]; split <;> simp only [List.length_append, List.length_cons, List.length_nil, sI_len] <;> omega) | grind), (hE111.sub (L' := [(0, .int .i64 kind), (1, .slice listA ((list).length) listC), (5, .int .i64 (nodes5 + (((gL list t23).length / 2 : Nat) : Int))), (21, .slice listA ((list).length) listC), (22, .int .i64 ((list).length : Int)), (23, .int .i64 (t23 + 1))]) ⟨rfl, rfl, rfl, rfl, rfl, rfl, trivial⟩), (St.pick (Γ' := [.rdn 2 listA ((list).length) listC listQ list]) hS73 [0] (by decide) rfl)⟩
     ·
      have hp112 := of_decide_eq_false ht84
      have hE113 := hE83; rw [ht84] at hE113; clear hE83
      refine wp_exit ?_
      refine p_te ?_
      have hX114 : F_joinAll_L1 list (Int.toNat (((list).length : Int) - 0) + 1) (((list).length : Int) - 1) 0 = (nodes5, t23) := hT74.symm.trans (show F_joinAll_L1b list (F_joinAll_L1 list r80) nodes5 t23 = (nodes5, t23) by unfold F_joinAll_L1b; rw [ht84]; first | done | rfl)
      refine p_te (p_be (p_tn ?_))
      exact ⟨(by rw [hX114]; exact (show 0 ≤ t23 from (by first | omega | (simp only [sS_len, sL_len]; omega) | (simp only [List.length_replicate, sI_len]; omega) | (simp only [List.length_append, List.length_cons, List.length_nil, sI_len, cond_true, cond_false]; omega) | (simp only [List.length_append, List.length_cons, List.length_nil, sI_len, cond_eq_ite, apply_ite List.length]; split <;> simp only [List.length_append, List.length_cons, List.length_nil, sI_len] <;> omega) | grind))), (by rw [hX114]; exact (show 0 ≤ nodes5 from (by first | omega | (simp only [sS_len, sL_len]; omega) | (simp only [List.length_replicate, sI_len]; omega) | (simp only [List.length_append, List.length_cons, List.length_nil, sI_len, cond_true, cond_false]; omega) | (simp only [List.length_append, List.length_cons, List.length_nil, sI_len, cond_eq_ite, apply_ite List.length]; split <;> simp only [List.length_append, List.length_cons, List.length_nil, sI_len] <;> omega) | grind))), (by rw [hX114]; exact (show nodes5 ≤ (list.length : Int) - 1 + t23 * 1000 from (by first | omega | (simp only [sS_len, sL_len]; omega) | (simp only [List.length_replicate, sI_len]; omega) | (simp only [List.length_append, List.length_cons, List.length_nil, sI_len, cond_true, cond_false]; omega) | (simp only [List.length_append, List.length_cons, List.length_nil, sI_len, cond_eq_ite, apply_ite List.length]; split <;> simp only [List.length_append, List.length_cons, List.length_nil, sI_len] <;> omega) | grind))), (by rw [hX114]; exact (show t23 ≤ ((list).length : Int) from (by first | omega | (simp only [sS_len, sL_len]; omega) | (simp only [List.length_replicate, sI_len]; omega) | (simp only [List.length_append, List.length_cons, List.length_nil, sI_len, cond_true, cond_false]; omega) | (simp only [List.length_append, List.length_cons, List.length_nil, sI_len, cond_eq_ite, apply_ite List.length]; split <;> simp only [List.length_append, List.length_cons, List.length_nil, sI_len] <;> omega) | grind))), (by rw [hX114]; exact (hE113.sub (L' := [(0, .int .i64 kind), (1, .slice listA ((list).length) listC), (5, .int .i64 nodes5), (21, .slice listA ((list).length) listC), (22, .int .i64 ((list).length : Int)), (23, .int .i64 t23)]) ⟨rfl, rfl, rfl, rfl, rfl, rfl, trivial⟩)), (St.pick (Γ' := [.rdn 2 listA ((list).length) listC listQ list]) hS73 [0] (by decide) rfl)⟩
   ·
    rintro a115 w116 ⟨hi120, hi121, hi122, hi123, hE117, hS118⟩; clear hE68 hS1
    refine p_tn ?_
    refine c_seq ?_
    refine c_reg ?_
    refine q_step (v := .int .i64 ((F_joinAll_L1 list (Int.toNat (((list).length : Int) - 0) + 1) (((list).length : Int) - 1) 0).1)) hE117 (y_move rfl) rfl rfl rfl ?_; intro a124 hE125; clear hE117
    obtain ⟨_, hi1, hi2, hi3, hi4⟩ := info_parts (show (Try.prog.info? 94).map (fun i => (i.zero, i.size, i.bytes)) = some (some (.agg #[.int .i64 0, .int .i64 0]), 2, 16) by kernel_rfl)
    refine l_step hE125 rfl (l_make0 (e := 94) hS118 hE125 hi1 hi2 hi3 (by rw [hi4]; decide) (by kernel_rfl) rfl rfl (by omega) (by omega) rfl ?_)
    intro b126 w127 hS130 he131 a128 hE129; clear hS118 hE125
    refine q_step (v := .slice b126 0 (Int.toNat ((F_joinAll_L1 list (Int.toNat (((list).length : Int) - 0) + 1) (((list).length : Int) - 1) 0).1))) hE129 (y_assign rfl) rfl rfl rfl ?_; intro a132 hE133; clear hE129
    refine c_nil ?_
    have hE134 := hE133.sub (L' := [(0, .int .i64 kind), (1, .slice listA ((list).length) listC), (8, .slice b126 0 (Int.toNat ((F_joinAll_L1 list (Int.toNat (((list).length : Int) - 0) + 1) (((list).length : Int) - 1) 0).1)))]) ⟨rfl, rfl, rfl, trivial⟩; clear hE133
    refine p_tn ?_
    refine c_seq ?_
    refine c_seq ?_
    refine c_reg ?_
    refine q_step (v := .slice listA ((list).length) listC) hE134 (y_move rfl) rfl rfl rfl ?_; intro a135 hE136; clear hE134
    refine q_step (v := .int .i64 ((list).length : Int)) hE136 (y_len (e := 32) (by kernel_rfl) rfl) rfl rfl rfl ?_; intro a137 hE138; clear hE136
    refine q_step (v := .int .i64 (((list).length : Int) - 1)) hE138 (y_sub rfl rfl ⟨(by omega), (by omega)⟩) rfl rfl rfl ?_; intro a139 hE140; clear hE138
    refine q_step (v := .int .i64 0) hE140 (y_move rfl) rfl rfl rfl ?_; intro a141 hE142; clear hE140
    refine c_nil ?_
    have hE143 := hE142.sub (L' := [(0, .int .i64 kind), (1, .slice listA ((list).length) listC), (8, .slice b126 0 (Int.toNat ((F_joinAll_L1 list (Int.toNat (((list).length : Int) - 0) + 1) (((list).length : Int) - 1) 0).1))), (36, .int .i64 (((list).length : Int) - 1)), (37, .int .i64 0)]) ⟨rfl, rfl, rfl, rfl, rfl, trivial⟩; clear hE142
    refine p_tn ?_
    refine c_cut1 (fun a' w' => ∃ out8L2A_144 : Option Addr, ∃ out8L2C_144 : Nat, (0 ≤ ((F_joinAll_L2 kind list (Int.toNat ((((list).length : Int) - 1) - 0) + 1) ([]) 0).2)) ∧ ((((F_joinAll_L2 kind list (Int.toNat ((((list).length : Int) - 1) - 0) + 1) ([]) 0).1).length : Int) ≤ 2 * ((F_joinAll_L2 kind list (Int.toNat ((((list).length : Int) - 1) - 0) + 1) ([]) 0).2)) ∧ (((F_joinAll_L2 kind list (Int.toNat ((((list).length : Int) - 1) - 0) + 1) ([]) 0).2) ≤ (list.length : Int) - 1) ∧ E a' 56 [(0, .int .i64 kind), (1, .slice listA ((list).length) listC), (8, .slice out8L2A_144 (((F_joinAll_L2 kind list (Int.toNat ((((list).length : Int) - 1) - 0) + 1) ([]) 0).1).length / 2 : Nat) out8L2C_144), (36, .int .i64 (((list).length : Int) - 1)), (37, .int .i64 ((F_joinAll_L2 kind list (Int.toNat ((((list).length : Int) - 1) - 0) + 1) ([]) 0).2))] ∧ St w w' [.own 94 2 out8L2A_144 (((F_joinAll_L2 kind list (Int.toNat ((((list).length : Int) - 1) - 0) + 1) ([]) 0).1).length / 2 : Nat) out8L2C_144 ((F_joinAll_L2 kind list (Int.toNat ((((list).length : Int) - 1) - 0) + 1) ([]) 0).1), .rdn 2 listA ((list).length) listC listQ list]) ?_ ?_
    ·
     refine wp_block ?_
     refine c_loop (fun r a' w' => ∃ out8L2 : List Int, ∃ t37L2 : Int, ∃ out8L2A : Option Addr, ∃ out8L2C : Nat, F_joinAll_L2 kind list r out8L2 t37L2 = F_joinAll_L2 kind list (Int.toNat ((((list).length : Int) - 1) - 0) + 1) ([]) 0 ∧ Int.toNat ((((list).length : Int) - 1) - t37L2) < r ∧ (0 ≤ t37L2) ∧ ((out8L2.length : Int) ≤ 2 * t37L2) ∧ (t37L2 ≤ (list.length : Int) - 1) ∧ E a' 56 [(0, .int .i64 kind), (1, .slice listA ((list).length) listC), (8, .slice out8L2A ((out8L2).length / 2 : Nat) out8L2C), (36, .int .i64 (((list).length : Int) - 1)), (37, .int .i64 t37L2)] ∧ St w w' [.own 94 2 out8L2A ((out8L2).length / 2 : Nat) out8L2C out8L2, .rdn 2 listA ((list).length) listC listQ list]) (r := (Int.toNat ((((list).length : Int) - 1) - 0) + 1)) ?_ ?_
     · exact ⟨[], 0, b126, Int.toNat ((F_joinAll_L1 list (Int.toNat (((list).length : Int) - 0) + 1) (((list).length : Int) - 1) 0).1), rfl, Nat.lt_succ_self _, (by first | omega | (simp only [sS_len, sL_len]; omega) | (simp only [List.length_replicate, sI_len]; omega) | (simp only [List.length_append, List.length_cons, List.length_nil, sI_len, cond_true, cond_false]; omega) | (simp only [List.length_append, List.length_cons, List.length_nil, sI_len, cond_eq_ite, apply_ite List.length]; split <;> simp only [List.length_append, List.length_cons, List.length_nil, sI_len] <;> omega) | grind), (by first | omega | (simp only [sS_len, sL_len]; omega) | (simp only [List.length_replicate, sI_len]; omega) | (simp only [List.length_append, List.length_cons, List.length_nil, sI_len, cond_true, cond_false]; omega) | (simp only [List.length_append, List.length_cons, List.length_nil, sI_len, cond_eq_ite, apply_ite List.length]; split <;> simp only [List.length_append, List.length_cons, List.length_nil, sI_len] <;> omega) | grind), (by first | omega | (simp only [sS_len, sL_len]; omega) | (simp only [List.length_replicate, sI_len]; omega) | (simp only [List.length_append, List.length_cons, List.length_nil, sI_len, cond_true, cond_false]; omega) | (simp only [List.length_append, List.length_cons, List.length_nil, sI_len, cond_eq_ite, apply_ite List.length]; split <;> simp only [List.length_append, List.length_cons, List.length_nil, sI_len] <;> omega) | grind), (hE143.sub (L' := [(0, .int .i64 kind), (1, .slice listA ((list).length) listC), (8, .slice b126 0 (Int.toNat ((F_joinAll_L1 list (Int.toNat (((list).length : Int) - 0) + 1) (((list).length : Int) - 1) 0).1))), (36, .int .i64 (((list).length : Int) - 1)), (37, .int .i64 0)]) ⟨rfl, rfl, rfl, rfl, rfl, trivial⟩), (St.pick (Γ' := [.own 94 2 b126 0 (Int.toNat ((F_joinAll_L1 list (Int.toNat (((list).length : Int) - 0) + 1) (((list).length : Int) - 1) 0).1)) ([]), .rdn 2 listA ((list).length) listC listQ list]) hS130 [0, 1] (by decide) rfl)⟩
     ·
      clear hE143 hS130
      rintro r154 a145 w146 ⟨out8L2, t37L2, out8L2A, out8L2C, hT149, hr150, hi151, hi152, hi153, hE147, hS148⟩
      obtain ⟨r154, rfl⟩ : ∃ r', r154 = r' + 1 := ⟨r154 - 1, by omega⟩
      refine c_seq ?_
      refine c_reg ?_
      refine q_step (v := .bool (decide (t37L2 < (((list).length : Int) - 1)))) hE147 (y_lss rfl rfl) rfl rfl rfl ?_; intro a155 hE156; clear hE147
      refine c_nil ?_
      have hE157 := hE156.sub (L' := [(0, .int .i64 kind), (1, .slice listA ((list).length) listC), (8, .slice out8L2A ((out8L2).length / 2 : Nat) out8L2C), (36, .int .i64 (((list).length : Int) - 1)), (37, .int .i64 t37L2), (38, .bool (decide (t37L2 < (((list).length : Int) - 1))))]) ⟨rfl, rfl, rfl, rfl, rfl, rfl, trivial⟩; clear hE156
      refine p_tn ?_
      refine c_seq ?_
      refine c_cond hE157 rfl (fun ht158 => ?_) (fun ht158 => ?_)
      ·
       have hp159 := of_decide_eq_true ht158
       have hE160 := hE157; rw [ht158] at hE160; clear hE157
       refine wp_skip ?_
       refine p_tn ?_
       refine c_seq ?_
       refine wp_block ?_
       refine c_reg ?_
       refine q_step (v := .slice out8L2A ((out8L2).length / 2 : Nat) out8L2C) hE160 (y_move rfl) rfl rfl rfl ?_; intro a161 hE162; clear hE160
       refine q_step (v := .int .i64 kind) hE162 (y_move rfl) rfl rfl rfl ?_; intro a163 hE164; clear hE162
       refine q_step (v := .agg #[.int .i64 kind, .int .i64 0]) hE164 (y_build (vs := #[(0, .int .i64 kind), (1, .int .i64 0)]) (fun a n hE => by simp only [hE.eval (x := .tmp 40) (v := .int .i64 kind) rfl, hE.eval (x := .const (.int .i64 0)) (v := .int .i64 0) rfl, List.map_toArray, List.map_cons, List.map_nil]) (fun _ => by kernel_rfl)) rfl rfl rfl ?_; intro a165 hE166; clear hE164
       refine l_step hE166 rfl (l_lit (e := 94) (s := 2) (xs := [kind, 0]) (vs := [.agg #[.int .i64 kind, .int .i64 0]]) hS148 hE166 rfl (fun _ => by kernel_rfl) rfl rfl rfl ?_)
       intro b167 w168 hS171 he172 a169 hE170; clear hS148 hE166
       obtain ⟨_, hi1, hi2, hi3, hi4⟩ := info_parts (show (Try.prog.info? 94).map (fun i => (i.zero, i.size, i.bytes)) = some (some (.agg #[.int .i64 0, .int .i64 0]), 2, 16) by kernel_rfl)
       refine l_step hE170 rfl (l_append (k := 1) (n' := ((out8L2 ++ ([kind, 0])).length / 2 : Nat)) hS171 hE170 (by kernel_rfl) hi1 hi2 hi3 rfl (by decide) (by rw [hi4]; decide) rfl rfl rfl (St.rdO (i := 0) hS171 rfl) (by first | omega | (simp only [List.length_append, List.length_cons, List.length_nil]; omega)) (by have h1 := (St.rdO (i := 1) hS171 rfl).1; have h2 := (St.rdO (i := 0) hS171 rfl).1; simp only [List.length_append, List.length_nil, List.length_cons] at h1 h2 ⊢; omega) rfl ?_)
       intro b173 c179 w174 hS177 a175 hE176; clear hS171 hE170 hi1 hi2 hi3 hi4
       refine q_step (v := .slice b173 ((out8L2 ++ ([kind, 0])).length / 2 : Nat) c179) hE176 (y_assign rfl) rfl rfl rfl ?_; intro a180 hE181; clear hE176
       refine c_nil ?_
       have hE182 := hE181.sub (L' := [(0, .int .i64 kind), (1, .slice listA ((list).length) listC), (8, .slice b173 ((out8L2 ++ ([kind, 0])).length / 2 : Nat) c179), (36, .int .i64 (((list).length : Int) - 1)), (37, .int .i64 t37L2)]) ⟨rfl, rfl, rfl, rfl, rfl, trivial⟩; clear hE181
       refine p_bn ?_
       refine p_tn ?_
       refine c_reg ?_
       refine q_step (v := .int .i64 (t37L2 + 1)) hE182 (y_add rfl rfl ⟨(by omega), (by omega)⟩) rfl rfl rfl ?_; intro a183 hE184; clear hE182
       refine q_step (v := .int .i64 (t37L2 + 1)) hE184 (y_move rfl) rfl rfl rfl ?_; intro a185 hE186; clear hE184
       refine c_nil ?_
       have hE187 := hE186.sub (L' := [(0, .int .i64 kind), (1, .slice listA ((list).length) listC), (8, .slice b173 ((out8L2 ++ ([kind, 0])).length / 2 : Nat) c179), (36, .int .i64 (((list).length : Int) - 1)), (37, .int .i64 (t37L2 + 1))]) ⟨rfl, rfl, rfl, rfl, rfl, trivial⟩; clear hE186
       refine p_tn ⟨r154, Nat.lt_succ_self _, out8L2 ++ ([kind, 0]), t37L2 + 1, b173, c179, (hT149.symm.trans (show F_joinAll_L2b kind list (F_joinAll_L2 kind list r154) out8L2 t37L2 = F_joinAll_L2 kind list r154 (out8L2 ++ ([kind, 0])) (t37L2 + 1) by unfold F_joinAll_L2b; rw [ht158]; first | done | rfl)).symm, (by omega), (by first | omega | (simp only [sS_len, sL_len]; omega) | (simp only [List.length_replicate, sI_len]; omega) | (simp only [List.length_append, List.length_cons, List.length_nil, sI_len, cond_true, cond_false]; omega) | (simp only [List.length_append, List.length_cons, List.length_nil, sI_len, cond_eq_ite, apply_ite List.length]; split <;> simp only [List.length_append, List.length_cons, List.length_nil, sI_len] <;> omega) | grind), (by first | omega | (simp only [sS_len, sL_len]; omega) | (simp only [List.length_replicate, sI_len]; omega) | (simp only [List.length_append, List.length_cons, List.length_nil, sI_len, cond_true, cond_false]; omega) | (simp only [List.length_append, List.length_cons, List.length_nil, sI_len, cond_eq_ite, apply_ite List.length]; split <;> simp only [List.length_append, List.length_cons, List.length_nil, sI_len] <;> omega) | grind), (by first | omega | (simp only [sS_len, sL_len]; omega) | (simp only [List.length_replicate, sI_len]; omega) | (simp only [List.length_append, List.length_cons, List.length_nil, sI_len, cond_true, cond_false]; omega) | (simp only [List.length_append, List.length_cons, List.length_nil, sI_len, cond_eq_ite, apply_ite List.length]; split <;> simp only [List.length_append, List.length_cons, List.length_nil, sI_len] <;> omega) | grind), (hE187.sub (L' := [(0, .int .i64 kind), (1, .slice listA ((list).length) listC), (8, .slice b173 ((out8L2 ++ ([kind, 0])).length / 2 : Nat) c179), (36, .int .i64 (((list).length : Int) - 1)), (37, .int .i64 (t37L2 + 1))]) ⟨rfl, rfl, rfl, rfl, rfl, trivial⟩), (St.pick (Γ' := [.own 94 2 b173 ((out8L2 ++ ([kind, 0])).length / 2 : Nat) c179 (out8L2 ++ ([kind, 0])), .rdn 2 listA ((list).length) listC listQ list]) hS177 [1, 2] (by decide) rfl)⟩
      ·
       have hp188 := of_decide_eq_false ht158
       have hE189 := hE157; rw [ht158] at hE189; clear hE157
       refine wp_exit ?_
       refine p_te ?_
       have hX190 : F_joinAll_L2 kind list (Int.toNat ((((list).length : Int) - 1) - 0) + 1) ([]) 0 = (out8L2, t37L2) := hT149.symm.trans (show F_joinAll_L2b kind list (F_joinAll_L2 kind list r154) out8L2 t37L2 = (out8L2, t37L2) by unfold F_joinAll_L2b; rw [ht158]; first | done | rfl)
       refine p_te (p_be (p_tn ?_))
       exact ⟨out8L2A, out8L2C, (by rw [hX190]; exact (show 0 ≤ t37L2 from (by first | omega | (simp only [sS_len, sL_len]; omega) | (simp only [List.length_replicate, sI_len]; omega) | (simp only [List.length_append, List.length_cons, List.length_nil, sI_len, cond_true, cond_false]; omega) | (simp only [List.length_append, List.length_cons, List.length_nil, sI_len, cond_eq_ite, apply_ite List.length]; split <;> simp only [List.length_append, List.length_cons, List.length_nil, sI_len] <;> omega) | grind))), (by rw [hX190]; exact (show (out8L2.length : Int) ≤ 2 * t37L2 from (by first | omega | (simp only [sS_len, sL_len]; omega) | (simp only [List.length_replicate, sI_len]; omega) | (simp only [List.length_append, List.length_cons, List.length_nil, sI_len, cond_true, cond_false]; omega) | (simp only [List.length_append, List.length_cons, List.length_nil, sI_len, cond_eq_ite, apply_ite List.length]; split <;> simp only [List.length_append, List.length_cons, List.length_nil, sI_len] <;> omega) | grind))), (by rw [hX190]; exact (show t37L2 ≤ (list.length : Int) - 1 from (by first | omega | (simp only [sS_len, sL_len]; omega) | (simp only [List.length_replicate, sI_len]; omega) | (simp only [List.length_append, List.length_cons, List.length_nil, sI_len, cond_true, cond_false]; omega) | (simp only [List.length_append, List.length_cons, List.length_nil, sI_len, cond_eq_ite, apply_ite List.length]; split <;> simp only [List.length_append, List.length_cons, List.length_nil, sI_len] <;> omega) | grind))), (by rw [hX190]; exact (hE189.sub (L' := [(0, .int .i64 kind), (1, .slice listA ((list).length) listC), (8, .slice out8L2A ((out8L2).length / 2 : Nat) out8L2C), (36, .int .i64 (((list).length : Int) - 1)), (37, .int .i64 t37L2)]) ⟨rfl, rfl, rfl, rfl, rfl, trivial⟩)), (by rw [hX190]; exact (St.pick (Γ' := [.own 94 2 out8L2A ((out8L2).length / 2 : Nat) out8L2C out8L2, .rdn 2 listA ((list).length) listC listQ list]) hS148 [0, 1] (by decide) rfl))⟩
    ·
     rintro a191 w192 ⟨out8L2A_144, out8L2C_144, hi196, hi197, hi198, hE193, hS194⟩; clear hE143 hS130
     refine p_tn ?_
     refine c_seq ?_
     refine c_seq ?_
     refine c_reg ?_
     refine q_step (v := .slice listA ((list).length) listC) hE193 (y_move rfl) rfl rfl rfl ?_; intro a199 hE200; clear hE193
     refine q_step (v := .int .i64 ((list).length : Int)) hE200 (y_len (e := 32) (by kernel_rfl) rfl) rfl rfl rfl ?_; intro a201 hE202; clear hE200
     refine q_step (v := .int .i64 0) hE202 (y_move rfl) rfl rfl rfl ?_; intro a203 hE204; clear hE202
     refine c_nil ?_
     have hE205 := hE204.sub (L' := [(8, .slice out8L2A_144 (((F_joinAll_L2 kind list (Int.toNat ((((list).length : Int) - 1) - 0) + 1) ([]) 0).1).length / 2 : Nat) out8L2C_144), (45, .slice listA ((list).length) listC), (46, .int .i64 ((list).length : Int)), (47, .int .i64 0)]) ⟨rfl, rfl, rfl, rfl, trivial⟩; clear hE204
     refine p_tn ?_
     refine c_cut1 (fun a' w' => ∃ out8L3A_206 : Option Addr, ∃ out8L3C_206 : Nat, (0 ≤ ((F_joinAll_L3 list (Int.toNat (((list).length : Int) - 0) + 1) ((F_joinAll_L2 kind list (Int.toNat ((((list).length : Int) - 1) - 0) + 1) ([]) 0).1) 0).2)) ∧ ((((F_joinAll_L3 list (Int.toNat (((list).length : Int) - 0) + 1) ((F_joinAll_L2 kind list (Int.toNat ((((list).length : Int) - 1) - 0) + 1) ([]) 0).1) 0).1).length : Int) ≤ 2 * (list.length : Int) + ((F_joinAll_L3 list (Int.toNat (((list).length : Int) - 0) + 1) ((F_joinAll_L2 kind list (Int.toNat ((((list).length : Int) - 1) - 0) + 1) ([]) 0).1) 0).2) * 2000) ∧ (((F_joinAll_L3 list (Int.toNat (((list).length : Int) - 0) + 1) ((F_joinAll_L2 kind list (Int.toNat ((((list).length : Int) - 1) - 0) + 1) ([]) 0).1) 0).2) ≤ ((list).length : Int)) ∧ E a' 56 [(8, .slice out8L3A_206 (((F_joinAll_L3 list (Int.toNat (((list).length : Int) - 0) + 1) ((F_joinAll_L2 kind list (Int.toNat ((((list).length : Int) - 1) - 0) + 1) ([]) 0).1) 0).1).length / 2 : Nat) out8L3C_206), (45, .slice listA ((list).length) listC), (46, .int .i64 ((list).length : Int)), (47, .int .i64 ((F_joinAll_L3 list (Int.toNat (((list).length : Int) - 0) + 1) ((F_joinAll_L2 kind list (Int.toNat ((((list).length : Int) - 1) - 0) + 1) ([]) 0).1) 0).2))] ∧ St w w' [.own 94 2 out8L3A_206 (((F_joinAll_L3 list (Int.toNat (((list).length : Int) - 0) + 1) ((F_joinAll_L2 kind list (Int.toNat ((((list).length : Int) - 1) - 0) + 1) ([]) 0).1) 0).1).length / 2 : Nat) out8L3C_206 ((F_joinAll_L3 list (Int.toNat (((list).length : Int) - 0) + 1) ((F_joinAll_L2 kind list (Int.toNat ((((list).length : Int) - 1) - 0) + 1) ([]) 0).1) 0).1), .rdn 2 listA ((list).length) listC listQ list]) ?_ ?_
     ·
      refine wp_block ?_
      refine c_loop (fun r a' w' => ∃ out8L3 : List Int, ∃ t47L3 : Int, ∃ out8L3A : Option Addr, ∃ out8L3C : Nat, F_joinAll_L3 list r out8L3 t47L3 = F_joinAll_L3 list (Int.toNat (((list).length : Int) - 0) + 1) ((F_joinAll_L2 kind list (Int.toNat ((((list).length : Int) - 1) - 0) + 1) ([]) 0).1) 0 ∧ Int.toNat (((list).length : Int) - t47L3) < r ∧ (0 ≤ t47L3) ∧ ((out8L3.length : Int) ≤ 2 * (list.length : Int) + t47L3 * 2000) ∧ (t47L3 ≤ ((list).length : Int)) ∧ E a' 56 [(8, .slice out8L3A ((out8L3).length / 2 : Nat) out8L3C), (45, .slice listA ((list).length) listC), (46, .int .i64 ((list).length : Int)), (47, .int .i64 t47L3)] ∧ St w w' [.own 94 2 out8L3A ((out8L3).length / 2 : Nat) out8L3C out8L3, .rdn 2 listA ((list).length) listC listQ list]) (r := (Int.toNat (((list).length : Int) - 0) + 1)) ?_ ?_
      · exact ⟨(F_joinAll_L2 kind list (Int.toNat ((((list).length : Int) - 1) - 0) + 1) ([]) 0).1, 0, out8L2A_144, out8L2C_144, rfl, Nat.lt_succ_self _, (by first | omega | (simp only [sS_len, sL_len]; omega) | (simp only [List.length_replicate, sI_len]; omega) | (simp only [List.length_append, List.length_cons, List.length_nil, sI_len, cond_true, cond_false]; omega) | (simp only [List.length_append, List.length_cons, List.length_nil, sI_len, cond_eq_ite, apply_ite List.length]; split <;> simp only [List.length_append, List.length_cons, List.length_nil, sI_len] <;> omega) | grind), (by first | omega | (simp only [sS_len, sL_len]; omega) | (simp only [List.length_replicate, sI_len]; omega) | (simp only [List.length_append, List.length_cons, List.length_nil, sI_len, cond_true, cond_false]; omega) | (simp only [List.length_append, List.length_cons, List.length_nil, sI_len, cond_eq_ite, apply_ite List.length]; split <;> simp only [List.length_append, List.length_cons, List.length_nil, sI_len] <;> omega) | grind), (by first | omega | (simp only [sS_len, sL_len]; omega) | (simp only [List.length_replicate, sI_len]; omega) | (simp only [List.length_append, List.length_cons, List.length_nil, sI_len, cond_true, cond_false]; omega) | (simp only [List.length_append, List.length_cons, List.length_nil, sI_len, cond_eq_ite, apply_ite List.length]; split <;> simp only [List.length_append, List.length_cons, List.length_nil, sI_len] <;> omega) | grind), (hE205.sub (L' := [(8, .slice out8L2A_144 (((F_joinAll_L2 kind list (Int.toNat ((((list).length : Int) - 1) - 0) + 1) ([]) 0).1).length / 2 : Nat) out8L2C_144), (45, .slice listA ((list).length) listC), (46, .int .i64 ((list).length : Int)), (47, .int .i64 0)]) ⟨rfl, rfl, rfl, rfl, trivial⟩), (St.pick (Γ' := [.own 94 2 out8L2A_144 (((F_joinAll_L2 kind list (Int.toNat ((((list).length : Int) - 1) - 0) + 1) ([]) 0).1).length / 2 : Nat) out8L2C_144 ((F_joinAll_L2 kind list (Int.toNat ((((list).length : Int) - 1) - 0) + 1) ([]) 0).1), .rdn 2 listA ((list).length) listC listQ list]) hS194 [0, 1] (by decide) rfl)⟩
      ·
       clear hE205 hS194
       rintro r216 a207 w208 ⟨out8L3, t47L3, out8L3A, out8L3C, hT211, hr212, hi213, hi214, hi215, hE209, hS210⟩
       obtain ⟨r216, rfl⟩ : ∃ r', r216 = r' + 1 := ⟨r216 - 1, by omega⟩
       refine c_seq ?_
       refine c_reg ?_
       refine q_step (v := .bool (decide (t47L3 < ((list).length : Int)))) hE209 (y_lss rfl rfl) rfl rfl rfl ?_; intro a217 hE218; clear hE209
       refine c_nil ?_
       have hE219 := hE218.sub (L' := [(8, .slice out8L3A ((out8L3).length / 2 : Nat) out8L3C), (45, .slice listA ((list).length) listC), (46, .int .i64 ((list).length : Int)), (47, .int .i64 t47L3), (48, .bool (decide (t47L3 < ((list).length : Int))))]) ⟨rfl, rfl, rfl, rfl, rfl, trivial⟩; clear hE218
       refine p_tn ?_
       refine c_seq ?_
       refine c_cond hE219 rfl (fun ht220 => ?_) (fun ht220 => ?_)
       ·
        have hp221 := of_decide_eq_true ht220
        have hE222 := hE219; rw [ht220] at hE222; clear hE219
        have hx1 := hx t47L3 (by omega) (by omega)
        refine wp_skip ?_
        refine p_tn ?_
        refine c_seq ?_
        refine wp_block ?_
        refine c_seq ?_
        refine c_reg ?_
        refine q_step (v := .pointer (some (adr listA (Int.toNat t47L3)))) hE222 (y_idx (by kernel_rfl) (fun _ => by kernel_rfl) rfl rfl (RdN.isS (m := t47L3) (St.rdNr (i := 1) hS210 rfl) (by omega) (by omega)) (by omega) (by omega) (Nat.mul_one _).symm) rfl rfl rfl ?_; intro a223 hE224; clear hE222
        have hv225 : (0 : Int) ≤ t47L3 ∧ t47L3 < (((list).length) : Int) := ⟨(by omega), (by omega)⟩
        refine q_step (v := .slice (hdA listQ t47L3) ((gL list t47L3).length / 2 : Nat) (hdC listQ t47L3)) hE224 (y_load (fun _ => by kernel_rfl) rfl (RdN.eltD (St.rdNr (i := 1) hS210 rfl) (by decide) (by omega) (by omega))) rfl rfl rfl ?_; intro a227 hE228; clear hE224
        refine q_step (v := .slice (hdA listQ t47L3) ((gL list t47L3).length / 2 : Nat) (hdC listQ t47L3)) hE228 (y_assign rfl) rfl rfl rfl ?_; intro a229 hE230; clear hE228
        refine c_nil ?_
        have hE231 := hE230.sub (L' := [(8, .slice out8L3A ((out8L3).length / 2 : Nat) out8L3C), (10, .slice (hdA listQ t47L3) ((gL list t47L3).length / 2 : Nat) (hdC listQ t47L3)), (45, .slice listA ((list).length) listC), (46, .int .i64 ((list).length : Int)), (47, .int .i64 t47L3)]) ⟨rfl, rfl, rfl, rfl, rfl, trivial⟩; clear hE230
        refine p_tn ?_
        refine c_reg ?_
        refine q_step (v := .slice out8L3A ((out8L3).length / 2 : Nat) out8L3C) hE231 (y_move rfl) rfl rfl rfl ?_; intro a232 hE233; clear hE231
        refine q_step (v := .slice (hdA listQ t47L3) ((gL list t47L3).length / 2 : Nat) (hdC listQ t47L3)) hE233 (y_move rfl) rfl rfl rfl ?_; intro a234 hE235; clear hE233
        obtain ⟨_, hi1, hi2, hi3, hi4⟩ := info_parts (show (Try.prog.info? 94).map (fun i => (i.zero, i.size, i.bytes)) = some (some (.agg #[.int .i64 0, .int .i64 0]), 2, 16) by kernel_rfl)
        refine l_step hE235 rfl (l_append (k := 0) (n' := ((out8L3 ++ (gL list t47L3)).length / 2 : Nat)) hS210 hE235 (by kernel_rfl) hi1 hi2 hi3 rfl (by decide) (by rw [hi4]; decide) rfl rfl rfl (RdN.rowD (St.rdNr (i := 1) hS210 rfl) (by decide) hv225.1 hv225.2) (by first | omega | (simp only [List.length_append, List.length_cons, List.length_nil]; omega)) (by have h1 := (St.rdO (i := 0) hS210 rfl).1; have h2 := (RdN.rowD (St.rdNr (i := 1) hS210 rfl) (by decide) hv225.1 hv225.2).1; simp only [List.length_append, List.length_nil, List.length_cons] at h1 h2 ⊢; omega) rfl ?_)
        intro b236 c242 w237 hS240 a238 hE239; clear hS210 hE235 hi1 hi2 hi3 hi4
        refine q_step (v := .slice b236 ((out8L3 ++ (gL list t47L3)).length / 2 : Nat) c242) hE239 (y_assign rfl) rfl rfl rfl ?_; intro a243 hE244; clear hE239
        refine c_nil ?_
        have hE245 := hE244.sub (L' := [(8, .slice b236 ((out8L3 ++ (gL list t47L3)).length / 2 : Nat) c242), (45, .slice listA ((list).length) listC), (46, .int .i64 ((list).length : Int)), (47, .int .i64 t47L3)]) ⟨rfl, rfl, rfl, rfl, trivial⟩; clear hE244
        refine p_bn ?_
        refine p_tn ?_
        refine c_reg ?_
        refine q_step (v := .int .i64 (t47L3 + 1)) hE245 (y_add rfl rfl ⟨(by omega), (by omega)⟩) rfl rfl rfl ?_; intro a246 hE247; clear hE245
        refine q_step (v := .int .i64 (t47L3 + 1)) hE247 (y_move rfl) rfl rfl rfl ?_; intro a248 hE249; clear hE247
        refine c_nil ?_
        have hE250 := hE249.sub (L' := [(8, .slice b236 ((out8L3 ++ (gL list t47L3)).length / 2 : Nat) c242), (45, .slice listA ((list).length) listC), (46, .int .i64 ((list).length : Int)), (47, .int .i64 (t47L3 + 1))]) ⟨rfl, rfl, rfl, rfl, trivial⟩; clear hE249
        refine p_tn ⟨r216, Nat.lt_succ_self _, out8L3 ++ (gL list t47L3), t47L3 + 1, b236, c242, (hT211.symm.trans (show F_joinAll_L3b list (F_joinAll_L3 list r216) out8L3 t47L3 = F_joinAll_L3 list r216 (out8L3 ++ (gL list t47L3)) (t47L3 + 1) by unfold F_joinAll_L3b; rw [ht220]; first | done | rfl)).symm, (by omega), (by first | omega | (simp only [sS_len, sL_len]; omega) | (simp only [List.length_replicate, sI_len]; omega) | (simp only [List.length_append, List.length_cons, List.length_nil, sI_len, cond_true, cond_false]; omega) | (simp only [List.length_append, List.length_cons, List.length_nil, sI_len, cond_eq_ite, apply_ite List.length]; split <;> simp only [List.length_append, List.length_cons, List.length_nil, sI_len] <;> omega) | grind), (by first | omega | (simp only [sS_len, sL_len]; omega) | (simp only [List.length_replicate, sI_len]; omega) | (simp only [List.length_append, List.length_cons, List.length_nil, sI_len, cond_true, cond_false]; omega) | (simp only [List.length_append, List.length_cons, List.length_nil, sI_len, cond_eq_ite, apply_ite List.length]; split <;> simp only [List.length_append, List.length_cons, List.length_nil, sI_len] <;> omega) | grind), (by first | omega | (simp only [sS_len, sL_len]; omega) | (simp only [List.length_replicate, sI_len]; omega) | (simp only [List.length_append, List.length_cons, List.length_nil, sI_len, cond_true, cond_false]; omega) | (simp only [List.length_append, List.length_cons, List.length_nil, sI_len, cond_eq_ite, apply_ite List.length]; split <;> simp only [List.length_append, List.length_cons, List.length_nil, sI_len] <;> omega) | grind), (hE250.sub (L' := [(8, .slice b236 ((out8L3 ++ (gL list t47L3)).length / 2 : Nat) c242), (45, .slice listA ((list).length) listC), (46, .int .i64 ((list).length : Int)), (47, .int .i64 (t47L3 + 1))]) ⟨rfl, rfl, rfl, rfl, trivial⟩), (St.pick (Γ' := [.own 94 2 b236 ((out8L3 ++ (gL list t47L3)).length / 2 : Nat) c242 (out8L3 ++ (gL list t47L3)), .rdn 2 listA ((list).length) listC listQ list]) hS240 [0, 1] (by decide) rfl)⟩
       ·
        have hp251 := of_decide_eq_false ht220
        have hE252 := hE219; rw [ht220] at hE252; clear hE219
        refine wp_exit ?_
        refine p_te ?_
        have hX253 : F_joinAll_L3 list (Int.toNat (((list).length : Int) - 0) + 1) ((F_joinAll_L2 kind list (Int.toNat ((((list).length : Int) - 1) - 0) + 1) ([]) 0).1) 0 = (out8L3, t47L3) := hT211.symm.trans (show F_joinAll_L3b list (F_joinAll_L3 list r216) out8L3 t47L3 = (out8L3, t47L3) by unfold F_joinAll_L3b; rw [ht220]; first | done | rfl)
        refine p_te (p_be (p_tn ?_))
        exact ⟨out8L3A, out8L3C, (by rw [hX253]; exact (show 0 ≤ t47L3 from (by first | omega | (simp only [sS_len, sL_len]; omega) | (simp only [List.length_replicate, sI_len]; omega) | (simp only [List.length_append, List.length_cons, List.length_nil, sI_len, cond_true, cond_false]; omega) | (simp only [List.length_append, List.length_cons, List.length_nil, sI_len, cond_eq_ite, apply_ite List.length]; split <;> simp only [List.length_append, List.length_cons, List.length_nil, sI_len] <;> omega) | grind))), (by rw [hX253]; exact (show (out8L3.length : Int) ≤ 2 * (list.length : Int) + t47L3 * 2000 from (by first | omega | (simp only [sS_len, sL_len]; omega) | (simp only [List.length_replicate, sI_len]; omega) | (simp only [List.length_append, List.length_cons, List.length_nil, sI_len, cond_true, cond_false]; omega) | (simp only [List.length_append, List.length_cons, List.length_nil, sI_len, cond_eq_ite, apply_ite List.length]; split <;> simp only [List.length_append, List.length_cons, List.length_nil, sI_len] <;> omega) | grind))), (by rw [hX253]; exact (show t47L3 ≤ ((list).length : Int) from (by first | omega | (simp only [sS_len, sL_len]; omega) | (simp only [List.length_replicate, sI_len]; omega) | (simp only [List.length_append, List.length_cons, List.length_nil, sI_len, cond_true, cond_false]; omega) | (simp only [List.length_append, List.length_cons, List.length_nil, sI_len, cond_eq_ite, apply_ite List.length]; split <;> simp only [List.length_append, List.length_cons, List.length_nil, sI_len] <;> omega) | grind))), (by rw [hX253]; exact (hE252.sub (L' := [(8, .slice out8L3A ((out8L3).length / 2 : Nat) out8L3C), (45, .slice listA ((list).length) listC), (46, .int .i64 ((list).length : Int)), (47, .int .i64 t47L3)]) ⟨rfl, rfl, rfl, rfl, trivial⟩)), (by rw [hX253]; exact (St.pick (Γ' := [.own 94 2 out8L3A ((out8L3).length / 2 : Nat) out8L3C out8L3, .rdn 2 listA ((list).length) listC listQ list]) hS210 [0, 1] (by decide) rfl))⟩
     ·
      rintro a254 w255 ⟨out8L3A_206, out8L3C_206, hi259, hi260, hi261, hE256, hS257⟩; clear hE205 hS194
      refine p_tn ?_
      refine c_seq ?_
      refine c_reg ?_
      refine q_step (v := .slice out8L3A_206 (((F_joinAll_L3 list (Int.toNat (((list).length : Int) - 0) + 1) ((F_joinAll_L2 kind list (Int.toNat ((((list).length : Int) - 1) - 0) + 1) ([]) 0).1) 0).1).length / 2 : Nat) out8L3C_206) hE256 (y_move rfl) rfl rfl rfl ?_; intro a262 hE263; clear hE256
      refine q_step (v := .slice out8L3A_206 (((F_joinAll_L3 list (Int.toNat (((list).length : Int) - 0) + 1) ((F_joinAll_L2 kind list (Int.toNat ((((list).length : Int) - 1) - 0) + 1) ([]) 0).1) 0).1).length / 2 : Nat) out8L3C_206) hE263 (y_assign rfl) rfl rfl rfl ?_; intro a264 hE265; clear hE263
      refine c_nil ?_
      have hE266 := hE265.sub (L' := [(4, .slice out8L3A_206 (((F_joinAll_L3 list (Int.toNat (((list).length : Int) - 0) + 1) ((F_joinAll_L2 kind list (Int.toNat ((((list).length : Int) - 1) - 0) + 1) ([]) 0).1) 0).1).length / 2 : Nat) out8L3C_206)]) ⟨rfl, trivial⟩; clear hE265
      refine p_tn ?_
      refine wp_ret ?_
      have hF : F_joinAll kind list = (F_joinAll_L3 list (Int.toNat (((list).length : Int) - 0) + 1) ((F_joinAll_L2 kind list (Int.toNat ((((list).length : Int) - 1) - 0) + 1) ([]) 0).1) 0).1 := by unfold F_joinAll; rw [ht12]; first | done | rfl
      refine c_ret1 hE266 rfl rfl ?_
      exact ⟨out8L3A_206, out8L3C_206, (by rw [hF]; first | done | (dsimp only; done) | rfl), (by rw [hF]; (try dsimp only); exact hS257.ok 0 _ rfl), hS257.ext⟩

def F_l02All_L1b (kind : Int) (list : List (List Int)) (rec : (List Int) → Int → (List Int) × Int) (out5 : List Int) (i6 : Int) : (List Int) × Int :=
  bif (decide (i6 < ((list).length : Int))) then (rec (F_l02Pair kind out5 (gL list i6)) (i6 + 1)) else (out5, i6)
def F_l02All_L1 (kind : Int) (list : List (List Int)) : Nat → (List Int) → Int → (List Int) × Int
  | 0, out5, i6 => (out5, i6)
  | r + 1, out5, i6 => F_l02All_L1b kind list (F_l02All_L1 kind list r) out5 i6
def F_l02All (kind : Int) (list : List (List Int)) : List Int :=
  bif (decide (((list).length : Int) = 0)) then (bif (decide (kind = 2)) then F_l02True else F_l02False) else ((F_l02All_L1 kind list (Int.toNat (((list).length : Int) - 1) + 1) (F_l02Own (gL list 0)) 1).1)
theorem cf_l02All (args : Array Value) (w : World) : (callFunc 93 args).run Try.prog w = .ok (.enter 93 args) w := by kernel_rfl
set_option maxRecDepth 100000 in
theorem c_l02All (kind : Int) (listA : Option Addr) (listN listC : Nat) (listQ : List Hd) (list : List (List Int)) (w : World) (listR : RdN w 2 listA listN listC listQ list) (hl : list.length ≤ 100) (hx : ∀ m : Int, 0 ≤ m → m < (list.length : Int) → (gL list m).length ≤ 2000) :
    Calls Try.prog 93 #[.int .i64 kind, .slice listA listN listC] w (Ret fun v w' => ∃ b1 : Option Addr, ∃ c1 : Nat, v = .slice b1 ((F_l02All kind list).length / 2 : Nat) c1 ∧ OwnS w' w.heap.size 94 2 b1 ((F_l02All kind list).length / 2 : Nat) c1 (F_l02All kind list) ∧ Ext w w') := by
  obtain rfl : listN = list.length := listR.len
  have listLe := listR.le
  have hx0 := hx 0 (by omega)
  have hS := St.nil w
  have hS1 := St.rdn0 hS rfl listR; clear hS
  refine enter (args := [.int .i64 kind, .slice listA ((list).length) listC]) Try.func93 rfl rfl ?_
  rw [Try.ntmps93]; intro a hE
  have hE := hE.sub (L' := [(0, .int .i64 kind), (1, .slice listA ((list).length) listC)]) ⟨rfl, rfl, trivial⟩
  refine c_seq ?_
  refine c_reg ?_
  refine q_step (v := .slice none 0 0) hE (y_assign rfl) rfl rfl rfl ?_; intro a2 hE3; clear hE
  refine c_nil ?_
  have hE4 := hE3.sub (L' := [(0, .int .i64 kind), (1, .slice listA ((list).length) listC)]) ⟨rfl, rfl, trivial⟩; clear hE3
  refine p_tn ?_
  refine c_seq ?_
  refine c_seq ?_
  refine c_reg ?_
  refine q_step (v := .slice listA ((list).length) listC) hE4 (y_move rfl) rfl rfl rfl ?_; intro a5 hE6; clear hE4
  refine q_step (v := .int .i64 ((list).length : Int)) hE6 (y_len (e := 32) (by kernel_rfl) rfl) rfl rfl rfl ?_; intro a7 hE8; clear hE6
  refine q_step (v := .bool (decide (((list).length : Int) = 0))) hE8 (y_eql rfl rfl) rfl rfl rfl ?_; intro a9 hE10; clear hE8
  refine c_nil ?_
  have hE11 := hE10.sub (L' := [(0, .int .i64 kind), (1, .slice listA ((list).length) listC), (9, .bool (decide (((list).length : Int) = 0)))]) ⟨rfl, rfl, rfl, trivial⟩; clear hE10
  refine p_tn ?_
  refine c_cond hE11 rfl (fun ht12 => ?_) (fun ht12 => ?_)
  ·
   have hp13 := of_decide_eq_true ht12
   have hE14 := hE11; rw [ht12] at hE14; clear hE11
   refine c_seq ?_
   refine c_seq ?_
   refine c_reg ?_
   refine q_step (v := .int .i64 kind) hE14 (y_move rfl) rfl rfl rfl ?_; intro a15 hE16; clear hE14
   refine q_step (v := .bool (decide (kind = 2))) hE16 (y_eql rfl rfl) rfl rfl rfl ?_; intro a17 hE18; clear hE16
   refine c_nil ?_
   have hE19 := hE18.sub (L' := [(11, .bool (decide (kind = 2)))]) ⟨rfl, trivial⟩; clear hE18
   refine p_tn ?_
   refine c_cond hE19 rfl (fun ht20 => ?_) (fun ht20 => ?_)
   ·
    have hp21 := of_decide_eq_true ht20
    have hE22 := hE19; rw [ht20] at hE22; clear hE19
    refine c_seq ?_
    refine c_reg ?_
    refine l_step hE22 rfl (l_call (f := 149) (argv := []) hE22 (fun _ => cf_l02True _ _) rfl rfl (c_l02True w) ?_)
    rintro _ w24 ⟨b29, c30, rfl, ho31, he28⟩ a25 hE26; clear hE22
    have hf32 := l02True_len
    have hS27 := St.own hS1 he28 ho31; clear hS1
    refine q_step (v := .slice b29 ((F_l02True).length / 2 : Nat) c30) hE26 (y_assign rfl) rfl rfl rfl ?_; intro a33 hE34; clear hE26
    refine c_nil ?_
    have hE35 := hE34.sub (L' := [(4, .slice b29 ((F_l02True).length / 2 : Nat) c30)]) ⟨rfl, trivial⟩; clear hE34
    refine p_tn ?_
    refine wp_ret ?_
    refine p_tr ?_
    refine p_tr ?_
    have hF : F_l02All kind list = F_l02True := by unfold F_l02All; rw [ht20, ht12]; first | done | rfl
    refine c_ret1 hE35 rfl rfl ?_
    exact ⟨b29, c30, (by rw [hF]; first | done | (dsimp only; done) | rfl), (by rw [hF]; (try dsimp only); exact hS27.ok 0 _ rfl), hS27.ext⟩
   ·
    have hp36 := of_decide_eq_false ht20
    have hE37 := hE19; rw [ht20] at hE37; clear hE19
    refine wp_skip ?_
    refine p_tn ?_
    refine c_seq ?_
    refine c_reg ?_
    refine l_step hE37 rfl (l_call (f := 143) (argv := []) hE37 (fun _ => cf_l02False _ _) rfl rfl (c_l02False w) ?_)
    rintro _ w39 ⟨b44, c45, rfl, ho46, he43⟩ a40 hE41; clear hE37
    have hf47 := l02False_len
    have hS42 := St.own hS1 he43 ho46; clear hS1
    refine q_step (v := .slice b44 ((F_l02False).length / 2 : Nat) c45) hE41 (y_assign rfl) rfl rfl rfl ?_; intro a48 hE49; clear hE41
    refine c_nil ?_
    have hE50 := hE49.sub (L' := [(4, .slice b44 ((F_l02False).length / 2 : Nat) c45)]) ⟨rfl, trivial⟩; clear hE49
    refine p_tn ?_
    refine wp_ret ?_
    refine p_tr ?_
    have hF : F_l02All kind list = F_l02False := by unfold F_l02All; rw [ht20, ht12]; first | done | rfl
    refine c_ret1 hE50 rfl rfl ?_
    exact ⟨b44, c45, (by rw [hF]; first | done | (dsimp only; done) | rfl), (by rw [hF]; (try dsimp only); exact hS42.ok 0 _ rfl), hS42.ext⟩
  ·
   have hp51 := of_decide_eq_false ht12
   have hE52 := hE11; rw [ht12] at hE52; clear hE11
   refine wp_skip ?_
   refine p_tn ?_
   refine c_seq ?_
   refine c_reg ?_
   refine q_step (v := .slice listA ((list).length) listC) hE52 (y_move rfl) rfl rfl rfl ?_; intro a53 hE54; clear hE52
   refine q_step (v := .pointer (some (adr listA (Int.toNat 0)))) hE54 (y_idx (by kernel_rfl) (fun _ => by kernel_rfl) rfl rfl (RdN.isS (m := 0) (St.rdNr (i := 0) hS1 rfl) (by omega) (by omega)) (by omega) (by omega) (Nat.mul_one _).symm) rfl rfl rfl ?_; intro a55 hE56; clear hE54
   have hv57 : (0 : Int) ≤ 0 ∧ 0 < (((list).length) : Int) := ⟨(by omega), (by omega)⟩
   refine q_step (v := .slice (hdA listQ 0) ((gL list 0).length / 2 : Nat) (hdC listQ 0)) hE56 (y_load (fun _ => by kernel_rfl) rfl (RdN.eltD (St.rdNr (i := 0) hS1 rfl) (by decide) (by omega) (by omega))) rfl rfl rfl ?_; intro a59 hE60; clear hE56
   refine l_step hE60 rfl (l_call (f := 145) (argv := [.slice (hdA listQ 0) ((gL list 0).length / 2 : Nat) (hdC listQ 0)]) hE60 (fun _ => cf_l02Own _ _) rfl rfl (c_l02Own (hdA listQ 0) ((gL list 0).length / 2 : Nat) (hdC listQ 0) (gL list 0) w (RdN.rowD (St.rdNr (i := 0) hS1 rfl) (by decide) hv57.1 hv57.2) (by omega)) ?_)
   rintro _ w62 ⟨b67, c68, rfl, ho69, he66⟩ a63 hE64; clear hE60
   have hf70 := l02Own_len (gL list 0)
   have hS65 := St.own hS1 he66 ho69; clear hS1
   refine q_step (v := .slice b67 ((F_l02Own (gL list 0)).length / 2 : Nat) c68) hE64 (y_assign rfl) rfl rfl rfl ?_; intro a71 hE72; clear hE64
   refine c_nil ?_
   have hE73 := hE72.sub (L' := [(0, .int .i64 kind), (1, .slice listA ((list).length) listC), (5, .slice b67 ((F_l02Own (gL list 0)).length / 2 : Nat) c68)]) ⟨rfl, rfl, rfl, trivial⟩; clear hE72
   refine p_tn ?_
   refine c_seq ?_
   refine c_seq ?_
   refine c_reg ?_
   refine q_step (v := .int .i64 1) hE73 (y_assign rfl) rfl rfl rfl ?_; intro a74 hE75; clear hE73
   refine c_nil ?_
   have hE76 := hE75.sub (L' := [(0, .int .i64 kind), (1, .slice listA ((list).length) listC), (5, .slice b67 ((F_l02Own (gL list 0)).length / 2 : Nat) c68), (6, .int .i64 1)]) ⟨rfl, rfl, rfl, rfl, trivial⟩; clear hE75
   refine p_tn ?_
   refine c_cut1 (fun a' w' => ∃ out5A_77 : Option Addr, ∃ out5C_77 : Nat, (0 ≤ ((F_l02All_L1 kind list (Int.toNat (((list).length : Int) - 1) + 1) (F_l02Own (gL list 0)) 1).2)) ∧ ((((F_l02All_L1 kind list (Int.toNat (((list).length : Int) - 1) + 1) (F_l02Own (gL list 0)) 1).1).length : Int) ≤ ((F_l02All_L1 kind list (Int.toNat (((list).length : Int) - 1) + 1) (F_l02Own (gL list 0)) 1).2) * 2002) ∧ (1 ≤ ((F_l02All_L1 kind list (Int.toNat (((list).length : Int) - 1) + 1) (F_l02Own (gL list 0)) 1).2)) ∧ E a' 32 [(0, .int .i64 kind), (1, .slice listA ((list).length) listC), (5, .slice out5A_77 (((F_l02All_L1 kind list (Int.toNat (((list).length : Int) - 1) + 1) (F_l02Own (gL list 0)) 1).1).length / 2 : Nat) out5C_77), (6, .int .i64 ((F_l02All_L1 kind list (Int.toNat (((list).length : Int) - 1) + 1) (F_l02Own (gL list 0)) 1).2))] ∧ St w w' [.own 94 2 out5A_77 (((F_l02All_L1 kind list (Int.toNat (((list).length : Int) - 1) + 1) (F_l02Own (gL list 0)) 1).1).length / 2 : Nat) out5C_77 ((F_l02All_L1 kind list (Int.toNat (((list).length : Int) - 1) + 1) (F_l02Own (gL list 0)) 1).1), .rdn 2 listA ((list).length) listC listQ list]) ?_ ?_
   ·
    refine wp_block ?_
    refine c_loop (fun r a' w' => ∃ out5 : List Int, ∃ i6 : Int, ∃ out5A : Option Addr, ∃ out5C : Nat, F_l02All_L1 kind list r out5 i6 = F_l02All_L1 kind list (Int.toNat (((list).length : Int) - 1) + 1) (F_l02Own (gL list 0)) 1 ∧ Int.toNat (((list).length : Int) - i6) < r ∧ (0 ≤ i6) ∧ ((out5.length : Int) ≤ i6 * 2002) ∧ (1 ≤ i6) ∧ E a' 32 [(0, .int .i64 kind), (1, .slice listA ((list).length) listC), (5, .slice out5A ((out5).length / 2 : Nat) out5C), (6, .int .i64 i6)] ∧ St w w' [.own 94 2 out5A ((out5).length / 2 : Nat) out5C out5, .rdn 2 listA ((list).length) listC listQ list]) (r := (Int.toNat (((list).length : Int) - 1) + 1)) ?_ ?_
    · exact ⟨F_l02Own (gL list 0), 1, b67, c68, rfl, Nat.lt_succ_self _, (by first | omega | (simp only [sS_len, sL_len]; omega) | (simp only [List.length_replicate, sI_len]; omega) | (simp only [List.length_append, List.length_cons, List.length_nil, sI_len, cond_true, cond_false]; omega) | (simp only [List.length_append, List.length_cons, List.length_nil, sI_len, cond_eq_ite, apply_ite List.length]; split <;> simp only [List.length_append, List.length_cons, List.length_nil, sI_len] <;> omega) | grind), (by first | omega | (simp only [sS_len, sL_len]; omega) | (simp only [List.length_replicate, sI_len]; omega) | (simp only [List.length_append, List.length_cons, List.length_nil, sI_len, cond_true, cond_false]; omega) | (simp only [List.length_append, List.length_cons, List.length_nil, sI_len, cond_eq_ite, apply_ite List.length]; split <;> simp only [List.length_append, List.length_cons, List.length_nil, sI_len] <;> omega) | grind), (by first | omega | (simp only [sS_len, sL_len]; omega) | (simp only [List.length_replicate, sI_len]; omega) | (simp only [List.length_append, List.length_cons, List.length_nil, sI_len, cond_true, cond_false]; omega) | (simp only [List.length_append, List.length_cons, List.length_nil, sI_len, cond_eq_ite, apply_ite List.length]; split <;> simp only [List.length_append, List.length_cons, List.length_nil, sI_len] <;> omega) | grind), (hE76.sub (L' := [(0, .int .i64 kind), (1, .slice listA ((list).length) listC), (5, .slice b67 ((F_l02Own (gL list 0)).length / 2 : Nat) c68), (6, .int .i64 1)]) ⟨rfl, rfl, rfl, rfl, trivial⟩), (St.pick (Γ' := [.own 94 2 b67 ((F_l02Own (gL list 0)).length / 2 : Nat) c68 (F_l02Own (gL list 0)), .rdn 2 listA ((list).length) listC listQ list]) hS65 [0, 1] (by decide) rfl)⟩
    ·
     clear hE76 hS65
     rintro r87 a78 w79 ⟨out5, i6, out5A, out5C, hT82, hr83, hi84, hi85, hi86, hE80, hS81⟩
     obtain ⟨r87, rfl⟩ : ∃ r', r87 = r' + 1 := ⟨r87 - 1, by omega⟩
     refine c_seq ?_
     refine c_seq ?_
     refine c_reg ?_
     refine q_step (v := .int .i64 i6) hE80 (y_move rfl) rfl rfl rfl ?_; intro a88 hE89; clear hE80
     refine q_step (v := .slice listA ((list).length) listC) hE89 (y_move rfl) rfl rfl rfl ?_; intro a90 hE91; clear hE89
     refine q_step (v := .int .i64 ((list).length : Int)) hE91 (y_len (e := 32) (by kernel_rfl) rfl) rfl rfl rfl ?_; intro a92 hE93; clear hE91
     refine q_step (v := .bool (decide (i6 < ((list).length : Int)))) hE93 (y_lss rfl rfl) rfl rfl rfl ?_; intro a94 hE95; clear hE93
     refine c_nil ?_
     have hE96 := hE95.sub (L' := [(0, .int .i64 kind), (1, .slice listA ((list).length) listC), (5, .slice out5A ((out5).length / 2 : Nat) out5C), (6, .int .i64 i6), (21, .bool (decide (i6 < ((list).length : Int))))]) ⟨rfl, rfl, rfl, rfl, rfl, trivial⟩; clear hE95
     refine p_tn ?_
     refine c_cond hE96 rfl (fun ht97 => ?_) (fun ht97 => ?_)
     ·
      have hp98 := of_decide_eq_true ht97
      have hE99 := hE96; rw [ht97] at hE99; clear hE96
      have hx1 := hx i6 (by omega) (by omega)
      refine wp_skip ?_
      refine p_tn ?_
      refine c_seq ?_
      refine wp_block ?_
      refine c_reg ?_
      refine q_step (v := .int .i64 kind) hE99 (y_move rfl) rfl rfl rfl ?_; intro a100 hE101; clear hE99
      refine q_step (v := .slice out5A ((out5).length / 2 : Nat) out5C) hE101 (y_move rfl) rfl rfl rfl ?_; intro a102 hE103; clear hE101
      refine q_step (v := .slice listA ((list).length) listC) hE103 (y_move rfl) rfl rfl rfl ?_; intro a104 hE105; clear hE103
      refine q_step (v := .int .i64 i6) hE105 (y_move rfl) rfl rfl rfl ?_; intro a106 hE107; clear hE105
      refine q_step (v := .pointer (some (adr listA (Int.toNat i6)))) hE107 (y_idx (by kernel_rfl) (fun _ => by kernel_rfl) rfl rfl (RdN.isS (m := i6) (St.rdNr (i := 1) hS81 rfl) (by omega) (by omega)) (by omega) (by omega) (Nat.mul_one _).symm) rfl rfl rfl ?_; intro a108 hE109; clear hE107
      have hv110 : (0 : Int) ≤ i6 ∧ i6 < (((list).length) : Int) := ⟨(by omega), (by omega)⟩
      refine q_step (v := .slice (hdA listQ i6) ((gL list i6).length / 2 : Nat) (hdC listQ i6)) hE109 (y_load (fun _ => by kernel_rfl) rfl (RdN.eltD (St.rdNr (i := 1) hS81 rfl) (by decide) (by omega) (by omega))) rfl rfl rfl ?_; intro a112 hE113; clear hE109
      refine l_step hE113 rfl (l_call (f := 128) (argv := [.int .i64 kind, .slice out5A ((out5).length / 2 : Nat) out5C, .slice (hdA listQ i6) ((gL list i6).length / 2 : Nat) (hdC listQ i6)]) hE113 (fun _ => cf_l02Pair _ _) rfl rfl (c_l02Pair kind out5A ((out5).length / 2 : Nat) out5C out5 (hdA listQ i6) ((gL list i6).length / 2 : Nat) (hdC listQ i6) (gL list i6) w79 (St.rdO (i := 0) hS81 rfl) (RdN.rowD (St.rdNr (i := 1) hS81 rfl) (by decide) hv110.1 hv110.2) (by omega) (by omega)) ?_)
      rintro _ w115 ⟨b120, c121, rfl, ho122, he119⟩ a116 hE117; clear hE113
      have hf123 := l02Pair_len kind out5 (gL list i6)
      have hS118 := St.own hS81 he119 ho122; clear hS81
      refine q_step (v := .slice b120 ((F_l02Pair kind out5 (gL list i6)).length / 2 : Nat) c121) hE117 (y_assign rfl) rfl rfl rfl ?_; intro a124 hE125; clear hE117
      refine c_nil ?_
      have hE126 := hE125.sub (L' := [(0, .int .i64 kind), (1, .slice listA ((list).length) listC), (5, .slice b120 ((F_l02Pair kind out5 (gL list i6)).length / 2 : Nat) c121), (6, .int .i64 i6)]) ⟨rfl, rfl, rfl, rfl, trivial⟩; clear hE125
      refine p_bn ?_
      refine p_tn ?_
      refine c_reg ?_
      refine q_step (v := .int .i64 i6) hE126 (y_move rfl) rfl rfl rfl ?_; intro a127 hE128; clear hE126
      refine q_step (v := .int .i64 (i6 + 1)) hE128 (y_add rfl rfl ⟨(by omega), (by omega)⟩) rfl rfl rfl ?_; intro a129 hE130; clear hE128
      refine q_step (v := .int .i64 (i6 + 1)) hE130 (y_assign rfl) rfl rfl rfl ?_; intro a131 hE132; clear hE130
      refine c_nil ?_
      have hE133 := hE132.sub (L' := [(0, .int .i64 kind), (1, .slice listA ((list).length) listC), (5, .slice b120 ((F_l02Pair kind out5 (gL list i6)).length / 2 : Nat) c121), (6, .int .i64 (i6 + 1))]) ⟨rfl, rfl, rfl, rfl, trivial⟩; clear hE132
      refine p_tn ⟨r87, Nat.lt_succ_self _, F_l02Pair kind out5 (gL list i6), i6 + 1, b120, c121, (hT82.symm.trans (show F_l02All_L1b kind list (F_l02All_L1 kind list r87) out5 i6 = F_l02All_L1 kind list r87 (F_l02Pair kind out5 (gL list i6)) (i6 + 1) by unfold F_l02All_L1b; rw [ht97]; first | done | rfl)).symm, (by omega), (by first | omega | (simp only [sS_len, sL_len]; omega) | (simp only [List.length_replicate, sI_len]; omega) | (simp only [List.length_append, List.length_cons, List.length_nil, sI_len, cond_true, cond_false]; omega) | (simp only [List.length_append, List.length_cons, List.length_nil, sI_len, cond_eq_ite, apply_ite List.length]; split <;> simp only [List.length_append, List.length_cons, List.length_nil, sI_len] <;> omega) | grind), (by first | omega | (simp only [sS_len, sL_len]; omega) | (simp only [List.length_replicate, sI_len]; omega) | (simp only [List.length_append, List.length_cons, List.length_nil, sI_len, cond_true, cond_false]; omega) | (simp only [List.length_append, List.length_cons, List.length_nil, sI_len, cond_eq_ite, apply_ite List.length]; split <;> simp only [List.length_append, List.length_cons, List.length_nil, sI_len] <;> omega) | grind), (by first | omega | (simp only [sS_len, sL_len]; omega) | (simp only [List.length_replicate, sI_len]; omega) | (simp only [List.length_append, List.length_cons, List.length_nil, sI_len, cond_true, cond_false]; omega) | (simp only [List.length_append, List.length_cons, List.length_nil, sI_len, cond_eq_ite, apply_ite List.length]; split <;> simp only [List.length_append, List.length_cons, List.length_nil, sI_len] <;> omega) | grind), (hE133.sub (L' := [(0, .int .i64 kind), (1, .slice listA ((list).length) listC), (5, .slice b120 ((F_l02Pair kind out5 (gL list i6)).length / 2 : Nat) c121), (6, .int .i64 (i6 + 1))]) ⟨rfl, rfl, rfl, rfl, trivial⟩), (St.pick (Γ' := [.own 94 2 b120 ((F_l02Pair kind out5 (gL list i6)).length / 2 : Nat) c121 (F_l02Pair kind out5 (gL list i6)), .rdn 2 listA ((list).length) listC listQ list]) hS118 [0, 2] (by decide) rfl)⟩
     ·
      have hp134 := of_decide_eq_false ht97
      have hE135 := hE96; rw [ht97] at hE135; clear hE96
      refine wp_exit ?_
      refine p_te ?_
      have hX136 : F_l02All_L1 kind list (Int.toNat (((list).length : Int) - 1) + 1) (F_l02Own (gL list 0)) 1 = (out5, i6) := hT82.symm.trans (show F_l02All_L1b kind list (F_l02All_L1 kind list r87) out5 i6 = (out5, i6) by unfold F_l02All_L1b; rw [ht97]; first | done | rfl)
      refine p_te (p_be (p_tn ?_))
      exact ⟨out5A, out5C, (by rw [hX136]; exact (show 0 ≤ i6 from (by first | omega | (simp only [sS_len, sL_len]; omega) | (simp only [List.length_replicate, sI_len]; omega) | (simp only [List.length_append, List.length_cons, List.length_nil, sI_len, cond_true, cond_false]; omega) | (simp only [List.length_append, List.length_cons, List.length_nil, sI_len, cond_eq_ite, apply_ite List.length]; split <;> simp only [List.length_append, List.length_cons, List.length_nil, sI_len] <;> omega) | grind))), (by rw [hX136]; exact (show (out5.length : Int) ≤ i6 * 2002 from (by first | omega | (simp only [sS_len, sL_len]; omega) | (simp only [List.length_replicate, sI_len]; omega) | (simp only [List.length_append, List.length_cons, List.length_nil, sI_len, cond_true, cond_false]; omega) | (simp only [List.length_append, List.length_cons, List.length_nil, sI_len, cond_eq_ite, apply_ite List.length]; split <;> simp only [List.length_append, List.length_cons, List.length_nil, sI_len] <;> omega) | grind))), (by rw [hX136]; exact (show 1 ≤ i6 from (by first | omega | (simp only [sS_len, sL_len]; omega) | (simp only [List.length_replicate, sI_len]; omega) | (simp only [List.length_append, List.length_cons, List.length_nil, sI_len, cond_true, cond_false]; omega) | (simp only [List.length_append, List.length_cons, List.length_nil, sI_len, cond_eq_ite, apply_ite List.length]; split <;> simp only [List.length_append, List.length_cons, List.length_nil, sI_len] <;> omega) | grind))), (by rw [hX136]; exact (hE135.sub (L' := [(0, .int .i64 kind), (1, .slice listA ((list).length) listC), (5, .slice out5A ((out5).length / 2 : Nat) out5C), (6, .int .i64 i6)]) ⟨rfl, rfl, rfl, rfl, trivial⟩)), (by rw [hX136]; exact (St.pick (Γ' := [.own 94 2 out5A ((out5).length / 2 : Nat) out5C out5, .rdn 2 listA ((list).length) listC listQ list]) hS81 [0, 1] (by decide) rfl))⟩
   ·
    rintro a137 w138 ⟨out5A_77, out5C_77, hi142, hi143, hi144, hE139, hS140⟩; clear hE76 hS65
    refine p_tn ?_
    refine c_seq ?_
    refine c_reg ?_
    refine q_step (v := .slice out5A_77 (((F_l02All_L1 kind list (Int.toNat (((list).length : Int) - 1) + 1) (F_l02Own (gL list 0)) 1).1).length / 2 : Nat) out5C_77) hE139 (y_move rfl) rfl rfl rfl ?_; intro a145 hE146; clear hE139
    refine q_step (v := .slice out5A_77 (((F_l02All_L1 kind list (Int.toNat (((list).length : Int) - 1) + 1) (F_l02Own (gL list 0)) 1).1).length / 2 : Nat) out5C_77) hE146 (y_assign rfl) rfl rfl rfl ?_; intro a147 hE148; clear hE146
    refine c_nil ?_
    have hE149 := hE148.sub (L' := [(4, .slice out5A_77 (((F_l02All_L1 kind list (Int.toNat (((list).length : Int) - 1) + 1) (F_l02Own (gL list 0)) 1).1).length / 2 : Nat) out5C_77)]) ⟨rfl, trivial⟩; clear hE148
    refine p_tn ?_
    refine wp_ret ?_
    have hF : F_l02All kind list = (F_l02All_L1 kind list (Int.toNat (((list).length : Int) - 1) + 1) (F_l02Own (gL list 0)) 1).1 := by unfold F_l02All; rw [ht12]; first | done | rfl
    refine c_ret1 hE149 rfl rfl ?_
    exact ⟨out5A_77, out5C_77, (by rw [hF]; first | done | (dsimp only; done) | rfl), (by rw [hF]; (try dsimp only); exact hS140.ok 0 _ rfl), hS140.ext⟩

theorem appLoopP {α : Type} (L : Nat → List α → Int → List α × Int) (n : Int) (f : Int → List α) (hL : ∀ r out i, L (r + 1) out i = bif decide (i < n) then L r (out ++ f i) (i + 1) else (out, i)) : ∀ (k : Nat) (i : Int) (out : List α), n - i = (k : Int) →
    (L (k + 1) out i).1 = out ++ (List.range k).flatMap (fun (j : Nat) => f (i + (j : Int))) := by
  intro k
  induction k with
  | zero => intro i out h; rw [hL, decide_eq_false (by omega), cond_false]; simp
  | succ k ih =>
    intro i out h
    rw [hL, decide_eq_true (by omega), cond_true, ih (i + 1) _ (by omega), List.append_assoc, List.range_succ_eq_map, List.flatMap_cons, List.flatMap_map]
    show _ = out ++ (f (i + ((0 : Nat) : Int)) ++ (List.range k).flatMap (fun (a : Nat) => f (i + ((a + 1 : Nat) : Int))))
    rw [show i + ((0 : Nat) : Int) = i by omega, show (fun (j : Nat) => f (i + 1 + (j : Int))) = (fun (a : Nat) => f (i + ((a + 1 : Nat) : Int))) from funext fun a => by rw [show i + 1 + (a : Int) = i + ((a + 1 : Nat) : Int) by omega]]
theorem l02All_key (kind : Int) (l : List (List Int)) : ∀ (k : Nat) (i : Int) (out : List Int), (l.length : Int) - i = (k : Int) →
    (F_l02All_L1 kind l (k + 1) out i).1 = (List.range k).flatMap (fun _ => [kind, 0]) ++ out ++ (List.range k).flatMap (fun (j : Nat) => gL l (i + (j : Int))) := by
  intro k
  induction k with
  | zero =>
    intro i out h
    show (F_l02All_L1b kind l _ out i).1 = _
    unfold F_l02All_L1b
    rw [decide_eq_false (by omega), cond_false]; simp
  | succ k ih =>
    intro i out h
    show (F_l02All_L1b kind l (F_l02All_L1 kind l (k + 1)) out i).1 = _
    unfold F_l02All_L1b
    rw [decide_eq_true (by omega), cond_true, ih (i + 1) _ (by omega)]
    have e1 : (List.range (k + 1)).flatMap (fun _ => [kind, 0]) = (List.range k).flatMap (fun _ => [kind, 0]) ++ [kind, 0] := by rw [List.range_succ, List.flatMap_append]; rfl
    have e2 : (List.range (k + 1)).flatMap (fun (j : Nat) => gL l (i + (j : Int))) = gL l i ++ (List.range k).flatMap (fun (j : Nat) => gL l (i + 1 + (j : Int))) := by
      rw [List.range_succ_eq_map, List.flatMap_cons, List.flatMap_map]
      show gL l (i + ((0 : Nat) : Int)) ++ (List.range k).flatMap (fun (a : Nat) => gL l (i + ((a + 1 : Nat) : Int))) = _
      rw [show i + ((0 : Nat) : Int) = i by omega, show (fun (j : Nat) => gL l (i + 1 + (j : Int))) = (fun (a : Nat) => gL l (i + ((a + 1 : Nat) : Int))) from funext fun a => by rw [show i + 1 + (a : Int) = i + ((a + 1 : Nat) : Int) by omega]]
    rw [e1, e2]
    unfold F_l02Pair
    simp only [List.append_assoc]
theorem l02All_form (kind : Int) (l : List (List Int)) (h : 0 < l.length) : F_l02All kind l = (List.range (l.length - 1)).flatMap (fun _ => [kind, 0]) ++ (List.range l.length).flatMap (fun (j : Nat) => gL l (j : Int)) := by
  unfold F_l02All
  rw [decide_eq_false (by omega), cond_false, show Int.toNat ((l.length : Int) - 1) = l.length - 1 by omega, l02All_key kind l (l.length - 1) 1 _ (by omega), List.append_assoc]
  refine congrArg _ ?_
  show gL l 0 ++ _ = _
  rw [show List.range l.length = List.range (l.length - 1 + 1) by rw [show l.length - 1 + 1 = l.length by omega], List.range_succ_eq_map, List.flatMap_cons, List.flatMap_map]
  show _ = gL l 0 ++ (List.range (l.length - 1)).flatMap (fun (a : Nat) => gL l ((a + 1 : Nat) : Int))
  rw [show (fun (j : Nat) => gL l (1 + (j : Int))) = (fun (a : Nat) => gL l ((a + 1 : Nat) : Int)) from funext fun a => by rw [show 1 + (a : Int) = ((a + 1 : Nat) : Int) by omega]]
theorem joinAll_form (kind : Int) (l : List (List Int)) (h : 0 < l.length) : F_joinAll kind l = (List.range (l.length - 1)).flatMap (fun _ => [kind, 0]) ++ (List.range l.length).flatMap (fun (j : Nat) => gL l (j : Int)) := by
  unfold F_joinAll
  rw [decide_eq_false (by omega), cond_false, show Int.toNat ((l.length : Int) - 0) = l.length by omega, show Int.toNat ((l.length : Int) - 1 - 0) = l.length - 1 by omega,
    appLoopP (F_joinAll_L3 l) (l.length : Int) (fun i => gL l i) (fun _ _ _ => rfl) l.length 0 _ (by omega), appLoopP (F_joinAll_L2 kind l) ((l.length : Int) - 1) (fun _ => [kind, 0]) (fun _ _ _ => rfl) (l.length - 1) 0 _ (by omega), List.nil_append]
  simp only [Int.zero_add]
theorem joinAll_eq (kind : Int) (l : List (List Int)) : F_joinAll kind l = F_l02All kind l := by
  by_cases h : 0 < l.length
  · rw [joinAll_form kind l h, l02All_form kind l h]
  · unfold F_joinAll F_l02All
    rw [decide_eq_true (by omega), cond_true, cond_true, truth_eq, falsum_eq2]
theorem fm_le {f : Nat → List Int} {c d : Nat} : ∀ {n : Nat}, (∀ j, j < n → (f j).length ≤ c ∧ d ≤ (f j).length) → ((List.range n).flatMap f).length ≤ n * c ∧ n * d ≤ ((List.range n).flatMap f).length := by
  intro n
  induction n with
  | zero => intro _; simp
  | succ n ih =>
    intro h
    have h1 := ih fun j hj => h j (by omega)
    have h2 := h n (by omega)
    rw [List.range_succ, List.flatMap_append, List.length_append, Nat.succ_mul, Nat.succ_mul]
    simp only [List.flatMap_cons, List.flatMap_nil, List.append_nil]
    omega
theorem fm_ev {f : Nat → List Int} : ∀ {n : Nat}, (∀ j, j < n → (f j).length % 2 = 0) → ((List.range n).flatMap f).length % 2 = 0 := by
  intro n
  induction n with
  | zero => intro _; simp
  | succ n ih =>
    intro h
    have h1 := ih fun j hj => h j (by omega)
    have h2 := h n (by omega)
    rw [List.range_succ, List.flatMap_append, List.length_append]
    simp only [List.flatMap_cons, List.flatMap_nil, List.append_nil]
    omega
theorem l02All_len (kind : Int) (l : List (List Int)) {c d : Nat} (h : ∀ j : Nat, j < l.length → (gL l (j : Int)).length ≤ c ∧ d ≤ (gL l (j : Int)).length) : (F_l02All kind l).length ≤ 6 + l.length * 2 + l.length * c ∧ 2 ≤ (F_l02All kind l).length + (2 - d) ∧ (0 < l.length → 2 * (l.length - 1) + l.length * d ≤ (F_l02All kind l).length) := by
  by_cases h0 : 0 < l.length
  · rw [l02All_form kind l h0, List.length_append]
    have h1 := fm_le (f := fun (j : Nat) => gL l (j : Int)) h
    have h2 := fm_le (f := fun _ => [kind, 0]) (c := 2) (d := 2) (n := l.length - 1) fun _ _ => ⟨Nat.le_refl _, Nat.le_refl _⟩
    have h3 : d ≤ l.length * d := Nat.le_mul_of_pos_left d h0
    omega
  · have e : l = [] := List.eq_nil_of_length_eq_zero (by omega)
    subst e
    have := l02True_len
    have := l02False_len
    unfold F_l02All
    rw [decide_eq_true (by rfl), cond_true]
    cases decide (kind = 2)
    · rw [cond_false]; simp; omega
    · rw [cond_true]; simp; omega
theorem l02All_ev (kind : Int) (l : List (List Int)) (h : ∀ j : Nat, j < l.length → (gL l (j : Int)).length % 2 = 0) : (F_l02All kind l).length % 2 = 0 := by
  by_cases h0 : 0 < l.length
  · rw [l02All_form kind l h0, List.length_append]
    have h1 := fm_ev (f := fun (j : Nat) => gL l (j : Int)) h
    have h2 := fm_ev (f := fun _ => [kind, 0]) (n := l.length - 1) fun _ _ => by simp
    omega
  · have e : l = [] := List.eq_nil_of_length_eq_zero (by omega)
    subst e
    have := l02True_len
    have := l02False_len
    unfold F_l02All
    rw [decide_eq_true (by rfl), cond_true]
    cases decide (kind = 2)
    · rw [cond_false]; omega
    · rw [cond_true]; omega


theorem len_fm_le {f : Nat → List Int} : ∀ {n : Nat} {j : Nat}, j < n → (f j).length ≤ ((List.range n).flatMap f).length := by
  intro n
  induction n with
  | zero => intro j hj; omega
  | succ n ih =>
    intro j hj
    rw [List.range_succ, List.flatMap_append, List.length_append]
    simp only [List.flatMap_cons, List.flatMap_nil, List.append_nil]
    by_cases e : j = n
    · rw [e]; omega
    · have := @ih j (by omega); omega


def F_literalsFormula_L1b (list : List Int) (rec : (List (List Int)) → Int → (List (List Int)) × Int) (out5 : List (List Int)) (t10 : Int) : (List (List Int)) × Int :=
  bif (decide (t10 < (list.length : Int))) then (rec (out5 ++ ([F_literalFormula (gI list t10)])) (t10 + 1)) else (out5, t10)
def F_literalsFormula_L1 (list : List Int) : Nat → (List (List Int)) → Int → (List (List Int)) × Int
  | 0, out5, t10 => (out5, t10)
  | r + 1, out5, t10 => F_literalsFormula_L1b list (F_literalsFormula_L1 list r) out5 t10
def F_literalsFormula (kind : Int) (list : List Int) : List Int :=
  F_joinAll kind ((F_literalsFormula_L1 list (Int.toNat ((list.length : Int) - 0) + 1) ([]) 0).1)
theorem cf_literalsFormula (args : Array Value) (w : World) : (callFunc 95 args).run Try.prog w = .ok (.enter 95 args) w := by kernel_rfl
set_option maxRecDepth 100000 in
theorem c_literalsFormula (kind : Int) (listA : Option Addr) (listN listC : Nat) (list : List Int) (w : World) (listR : RdS w 1 listA listN listC list) (hl : list.length ≤ 12) (hc : ∀ m : Int, 0 ≤ m → m < (list.length : Int) → 0 ≤ gI list m ∧ gI list m ≤ 11) :
    Calls Try.prog 95 #[.int .i64 kind, .slice listA listN listC] w (Ret fun v w' => ∃ b1 : Option Addr, ∃ c1 : Nat, v = .slice b1 ((F_literalsFormula kind list).length / 2 : Nat) c1 ∧ OwnS w' w.heap.size 94 2 b1 ((F_literalsFormula kind list).length / 2 : Nat) c1 (F_literalsFormula kind list) ∧ Ext w w') := by
  obtain rfl : listN = list.length := listR.len1.symm
  have listLe := listR.le
  have hS := St.nil w
  have hS1 := St.rd0 hS rfl listR; clear hS
  refine enter (args := [.int .i64 kind, .slice listA list.length listC]) Try.func95 rfl rfl ?_
  rw [Try.ntmps95]; intro a hE
  have hE := hE.sub (L' := [(0, .int .i64 kind), (1, .slice listA list.length listC)]) ⟨rfl, rfl, trivial⟩
  refine c_seq ?_
  refine c_reg ?_
  refine q_step (v := .slice none 0 0) hE (y_assign rfl) rfl rfl rfl ?_; intro a2 hE3; clear hE
  refine c_nil ?_
  have hE4 := hE3.sub (L' := [(0, .int .i64 kind), (1, .slice listA list.length listC)]) ⟨rfl, rfl, trivial⟩; clear hE3
  refine p_tn ?_
  refine c_seq ?_
  refine c_reg ?_
  refine q_step (v := .slice none 0 0) hE4 (y_assign rfl) rfl rfl rfl ?_; intro a5 hE6; clear hE4
  refine c_nil ?_
  have hE7 := hE6.sub (L' := [(0, .int .i64 kind), (1, .slice listA list.length listC), (5, .slice none 0 0)]) ⟨rfl, rfl, rfl, trivial⟩; clear hE6
  refine p_tn ?_
  refine c_seq ?_
  refine c_seq ?_
  refine c_reg ?_
  refine q_step (v := .slice listA list.length listC) hE7 (y_move rfl) rfl rfl rfl ?_; intro a8 hE9; clear hE7
  refine q_step (v := .int .i64 (list.length : Int)) hE9 (y_len (e := 2) (by kernel_rfl) rfl) rfl rfl rfl ?_; intro a10 hE11; clear hE9
  refine q_step (v := .int .i64 0) hE11 (y_move rfl) rfl rfl rfl ?_; intro a12 hE13; clear hE11
  refine c_nil ?_
  have hE14 := hE13.sub (L' := [(0, .int .i64 kind), (5, .slice none 0 0), (8, .slice listA list.length listC), (9, .int .i64 (list.length : Int)), (10, .int .i64 0)]) ⟨rfl, rfl, rfl, rfl, rfl, trivial⟩; clear hE13
  refine p_tn ?_
  have hS15 := St.nilsN hS1 32 2 (some 94); clear hS1
  refine c_cut1 (fun a' w' => ∃ out5A_16 : Option Addr, ∃ out5C_16 : Nat, ∃ out5H_16 : List Hd, (0 ≤ ((F_literalsFormula_L1 list (Int.toNat ((list.length : Int) - 0) + 1) ([]) 0).2)) ∧ ((((F_literalsFormula_L1 list (Int.toNat ((list.length : Int) - 0) + 1) ([]) 0).1).length : Int) = ((F_literalsFormula_L1 list (Int.toNat ((list.length : Int) - 0) + 1) ([]) 0).2)) ∧ (∀ m : Int, 0 ≤ m → m < (((F_literalsFormula_L1 list (Int.toNat ((list.length : Int) - 0) + 1) ([]) 0).1).length : Int) → (gL ((F_literalsFormula_L1 list (Int.toNat ((list.length : Int) - 0) + 1) ([]) 0).1) m).length ≤ 6) ∧ (((F_literalsFormula_L1 list (Int.toNat ((list.length : Int) - 0) + 1) ([]) 0).2) ≤ (list.length : Int)) ∧ E a' 23 [(0, .int .i64 kind), (5, .slice out5A_16 (((F_literalsFormula_L1 list (Int.toNat ((list.length : Int) - 0) + 1) ([]) 0).1).length) out5C_16), (8, .slice listA list.length listC), (9, .int .i64 (list.length : Int)), (10, .int .i64 ((F_literalsFormula_L1 list (Int.toNat ((list.length : Int) - 0) + 1) ([]) 0).2))] ∧ St w w' [.nest 32 2 (some 94) out5A_16 out5C_16 out5H_16 ((F_literalsFormula_L1 list (Int.toNat ((list.length : Int) - 0) + 1) ([]) 0).1), .rd 1 listA list.length listC list]) ?_ ?_
  ·
   refine wp_block ?_
   refine c_loop (fun r a' w' => ∃ out5 : List (List Int), ∃ t10 : Int, ∃ out5A : Option Addr, ∃ out5C : Nat, ∃ out5H : List Hd, F_literalsFormula_L1 list r out5 t10 = F_literalsFormula_L1 list (Int.toNat ((list.length : Int) - 0) + 1) ([]) 0 ∧ Int.toNat ((list.length : Int) - t10) < r ∧ (0 ≤ t10) ∧ ((out5.length : Int) = t10) ∧ (∀ m : Int, 0 ≤ m → m < (out5.length : Int) → (gL out5 m).length ≤ 6) ∧ (t10 ≤ (list.length : Int)) ∧ E a' 23 [(0, .int .i64 kind), (5, .slice out5A ((out5).length) out5C), (8, .slice listA list.length listC), (9, .int .i64 (list.length : Int)), (10, .int .i64 t10)] ∧ St w w' [.nest 32 2 (some 94) out5A out5C out5H out5, .rd 1 listA list.length listC list]) (r := (Int.toNat ((list.length : Int) - 0) + 1)) ?_ ?_
   · exact ⟨[], 0, none, 0, [], rfl, Nat.lt_succ_self _, (by first | omega | (simp only [sS_len, sL_len]; omega) | (simp only [List.length_replicate, sI_len]; omega) | (simp only [List.length_append, List.length_cons, List.length_nil, sI_len, cond_true, cond_false]; omega) | (simp only [List.length_append, List.length_cons, List.length_nil, sI_len, cond_eq_ite, apply_ite List.length]; split <;> simp only [List.length_append, List.length_cons, List.length_nil, sI_len] <;> omega) | grind), (by first | omega | (simp only [sS_len, sL_len]; omega) | (simp only [List.length_replicate, sI_len]; omega) | (simp only [List.length_append, List.length_cons, List.length_nil, sI_len, cond_true, cond_false]; omega) | (simp only [List.length_append, List.length_cons, List.length_nil, sI_len, cond_eq_ite, apply_ite List.length]; split <;> simp only [List.length_append, List.length_cons, List.length_nil, sI_len] <;> omega) | grind), rowsLe_nil, (by first | omega | (simp only [sS_len, sL_len]; omega) | (simp only [List.length_replicate, sI_len]; omega) | (simp only [List.length_append, List.length_cons, List.length_nil, sI_len, cond_true, cond_false]; omega) | (simp only [List.length_append, List.length_cons, List.length_nil, sI_len, cond_eq_ite, apply_ite List.length]; split <;> simp only [List.length_append, List.length_cons, List.length_nil, sI_len] <;> omega) | grind), (hE14.sub (L' := [(0, .int .i64 kind), (5, .slice none 0 0), (8, .slice listA list.length listC), (9, .int .i64 (list.length : Int)), (10, .int .i64 0)]) ⟨rfl, rfl, rfl, rfl, rfl, trivial⟩), (St.pick (Γ' := [.nest 32 2 (some 94) none 0 ([]) ([]), .rd 1 listA list.length listC list]) hS15 [0, 1] (by decide) rfl)⟩
   ·
    clear hE14 hS15
    rintro r27 a17 w18 ⟨out5, t10, out5A, out5C, out5H, hT21, hr22, hi23, hi24, hi25, hi26, hE19, hS20⟩
    obtain ⟨r27, rfl⟩ : ∃ r', r27 = r' + 1 := ⟨r27 - 1, by omega⟩
    refine c_seq ?_
    refine c_reg ?_
    refine q_step (v := .bool (decide (t10 < (list.length : Int)))) hE19 (y_lss rfl rfl) rfl rfl rfl ?_; intro a28 hE29; clear hE19
    refine c_nil ?_
    have hE30 := hE29.sub (L' := [(0, .int .i64 kind), (5, .slice out5A ((out5).length) out5C), (8, .slice listA list.length listC), (9, .int .i64 (list.length : Int)), (10, .int .i64 t10), (11, .bool (decide (t10 < (list.length : Int))))]) ⟨rfl, rfl, rfl, rfl, rfl, rfl, trivial⟩; clear hE29
    refine p_tn ?_
    refine c_seq ?_
    refine c_cond hE30 rfl (fun ht31 => ?_) (fun ht31 => ?_)
    ·
     have hp32 := of_decide_eq_true ht31
     have hE33 := hE30; rw [ht31] at hE33; clear hE30
     have hc1 := hc t10 (by omega) (by omega)
     refine wp_skip ?_
     refine p_tn ?_
     refine c_seq ?_
     refine wp_block ?_
     refine c_seq ?_
     refine c_reg ?_
     refine q_step (v := .pointer (some (adr listA (Int.toNat t10)))) hE33 (y_idx (by kernel_rfl) (fun _ => by kernel_rfl) rfl rfl (RdS.isS (m := t10) (St.rdR (i := 1) hS20 rfl) (by omega) (by omega)) (by omega) (by omega) (Nat.mul_one _).symm) rfl rfl rfl ?_; intro a34 hE35; clear hE33
     refine q_step (v := .int .i64 (gI list t10)) hE35 (y_load (fun _ => by kernel_rfl) rfl (RdS.elt (St.rdR (i := 1) hS20 rfl) (by omega) (by omega))) rfl rfl rfl ?_; intro a36 hE37; clear hE35
     refine q_step (v := .int .i64 (gI list t10)) hE37 (y_assign rfl) rfl rfl rfl ?_; intro a38 hE39; clear hE37
     refine c_nil ?_
     have hE40 := hE39.sub (L' := [(0, .int .i64 kind), (5, .slice out5A ((out5).length) out5C), (7, .int .i64 (gI list t10)), (8, .slice listA list.length listC), (9, .int .i64 (list.length : Int)), (10, .int .i64 t10)]) ⟨rfl, rfl, rfl, rfl, rfl, rfl, trivial⟩; clear hE39
     refine p_tn ?_
     refine c_reg ?_
     refine q_step (v := .slice out5A ((out5).length) out5C) hE40 (y_move rfl) rfl rfl rfl ?_; intro a41 hE42; clear hE40
     refine q_step (v := .int .i64 (gI list t10)) hE42 (y_move rfl) rfl rfl rfl ?_; intro a43 hE44; clear hE42
     refine l_step hE44 rfl (l_call (f := 160) (argv := [.int .i64 (gI list t10)]) hE44 (fun _ => cf_literalFormula _ _) rfl rfl (c_literalFormula (gI list t10) w18 (by omega) (by omega)) ?_)
     rintro _ w46 ⟨b51, c52, rfl, ho53, he50⟩ a47 hE48; clear hE44
     have hf54 := literalFormula_len (gI list t10)
     have hS49 := St.own hS20 he50 ho53; clear hS20
     have hS61 := (St.pick (Γ' := [.own 94 2 b51 ((F_literalFormula (gI list t10)).length / 2 : Nat) c52 (F_literalFormula (gI list t10)), .nest 32 2 (some 94) out5A out5C out5H out5, .rd 1 listA list.length listC list]) hS49 [0, 1, 2] (by decide) rfl); clear hS49
     refine l_step hE48 rfl (l_litO1 (e := 32) hS61 hE48 rfl (fun _ => by kernel_rfl) rfl ?_)
     intro b55 w56 hS59 he60 a57 hE58; clear hS61 hE48
     have hS68 := (St.pick (Γ' := [.nest 32 2 (some 94) (some ⟨b55, 0, none⟩) 1 ([⟨b51, ((F_literalFormula (gI list t10)).length / 2 : Nat), c52⟩]) ([F_literalFormula (gI list t10)]), .nest 32 2 (some 94) out5A out5C out5H out5, .rd 1 listA list.length listC list]) hS59 [0, 1, 2] (by decide) rfl); clear hS59
     obtain ⟨_, hi1, hi2, hi3, hi4⟩ := info_parts (show (Try.prog.info? 32).map (fun i => (i.zero, i.size, i.bytes)) = some (some (.slice none 0 0), 1, 24) by kernel_rfl)
     refine l_step hE58 rfl (l_appendN (k := 0) hS68 hE58 (by kernel_rfl) hi1 hi2 hi3 rfl (by rw [hi4]; decide) rfl rfl rfl rfl rfl rfl (by first | omega | (simp only [List.length_append, List.length_cons, List.length_nil]; omega)) rfl ?_)
     intro b62 c69 w63 hS66 a64 hE65; clear hS68 hE58 hi1 hi2 hi3 hi4
     refine q_step (v := .slice b62 ((out5 ++ ([F_literalFormula (gI list t10)])).length) c69) hE65 (y_assign rfl) rfl rfl rfl ?_; intro a70 hE71; clear hE65
     refine c_nil ?_
     have hE72 := hE71.sub (L' := [(0, .int .i64 kind), (5, .slice b62 ((out5 ++ ([F_literalFormula (gI list t10)])).length) c69), (8, .slice listA list.length listC), (9, .int .i64 (list.length : Int)), (10, .int .i64 t10)]) ⟨rfl, rfl, rfl, rfl, rfl, trivial⟩; clear hE71
     refine p_bn ?_
     refine p_tn ?_
     refine c_reg ?_
     refine q_step (v := .int .i64 (t10 + 1)) hE72 (y_add rfl rfl ⟨(by omega), (by omega)⟩) rfl rfl rfl ?_; intro a73 hE74; clear hE72
     refine q_step (v := .int .i64 (t10 + 1)) hE74 (y_move rfl) rfl rfl rfl ?_; intro a75 hE76; clear hE74
     refine c_nil ?_
     have hE77 := hE76.sub (L' := [(0, .int .i64 kind), (5, .slice b62 ((out5 ++ ([F_literalFormula (gI list t10)])).length) c69), (8, .slice listA list.length listC), (9, .int .i64 (list.length : Int)), (10, .int .i64 (t10 + 1))]) ⟨rfl, rfl, rfl, rfl, rfl, trivial⟩; clear hE76
     refine p_tn ⟨r27, Nat.lt_succ_self _, out5 ++ ([F_literalFormula (gI list t10)]), t10 + 1, b62, c69, out5H ++ ([⟨b51, ((F_literalFormula (gI list t10)).length / 2 : Nat), c52⟩]), (hT21.symm.trans (show F_literalsFormula_L1b list (F_literalsFormula_L1 list r27) out5 t10 = F_literalsFormula_L1 list r27 (out5 ++ ([F_literalFormula (gI list t10)])) (t10 + 1) by unfold F_literalsFormula_L1b; rw [ht31]; first | done | rfl)).symm, (by omega), (by first | omega | (simp only [sS_len, sL_len]; omega) | (simp only [List.length_replicate, sI_len]; omega) | (simp only [List.length_append, List.length_cons, List.length_nil, sI_len, cond_true, cond_false]; omega) | (simp only [List.length_append, List.length_cons, List.length_nil, sI_len, cond_eq_ite, apply_ite List.length]; split <;> simp only [List.length_append, List.length_cons, List.length_nil, sI_len] <;> omega) | grind), (by rw [app1_len]; omega), (rowsLe_app (by assumption) (by omega)), (by first | omega | (simp only [sS_len, sL_len]; omega) | (simp only [List.length_replicate, sI_len]; omega) | (simp only [List.length_append, List.length_cons, List.length_nil, sI_len, cond_true, cond_false]; omega) | (simp only [List.length_append, List.length_cons, List.length_nil, sI_len, cond_eq_ite, apply_ite List.length]; split <;> simp only [List.length_append, List.length_cons, List.length_nil, sI_len] <;> omega) | grind), (hE77.sub (L' := [(0, .int .i64 kind), (5, .slice b62 ((out5 ++ ([F_literalFormula (gI list t10)])).length) c69), (8, .slice listA list.length listC), (9, .int .i64 (list.length : Int)), (10, .int .i64 (t10 + 1))]) ⟨rfl, rfl, rfl, rfl, rfl, trivial⟩), (St.pick (Γ' := [.nest 32 2 (some 94) b62 c69 (out5H ++ ([⟨b51, ((F_literalFormula (gI list t10)).length / 2 : Nat), c52⟩])) (out5 ++ ([F_literalFormula (gI list t10)])), .rd 1 listA list.length listC list]) hS66 [0, 1] (by decide) rfl)⟩
    ·
     have hp78 := of_decide_eq_false ht31
     have hE79 := hE30; rw [ht31] at hE79; clear hE30
     refine wp_exit ?_
     refine p_te ?_
     have hX80 : F_literalsFormula_L1 list (Int.toNat ((list.length : Int) - 0) + 1) ([]) 0 = (out5, t10) := hT21.symm.trans (show F_literalsFormula_L1b list (F_literalsFormula_L1 list r27) out5 t10 = (out5, t10) by unfold F_literalsFormula_L1b; rw [ht31]; first | done | rfl)
     refine p_te (p_be (p_tn ?_))
     exact ⟨out5A, out5C, out5H, (by rw [hX80]; exact (show 0 ≤ t10 from (by first | omega | (simp only [sS_len, sL_len]; omega) | (simp only [List.length_replicate, sI_len]; omega) | (simp only [List.length_append, List.length_cons, List.length_nil, sI_len, cond_true, cond_false]; omega) | (simp only [List.length_append, List.length_cons, List.length_nil, sI_len, cond_eq_ite, apply_ite List.length]; split <;> simp only [List.length_append, List.length_cons, List.length_nil, sI_len] <;> omega) | grind))), (by rw [hX80]; exact (show (out5.length : Int) = t10 from (by first | omega | (simp only [sS_len, sL_len]; omega) | (simp only [List.length_replicate, sI_len]; omega) | (simp only [List.length_append, List.length_cons, List.length_nil, sI_len, cond_true, cond_false]; omega) | (simp only [List.length_append, List.length_cons, List.length_nil, sI_len, cond_eq_ite, apply_ite List.length]; split <;> simp only [List.length_append, List.length_cons, List.length_nil, sI_len] <;> omega) | grind))), (by rw [hX80]; exact (show ∀ m : Int, 0 ≤ m → m < (out5.length : Int) → (gL out5 m).length ≤ 6 from (by first | omega | (simp only [sS_len, sL_len]; omega) | (simp only [List.length_replicate, sI_len]; omega) | (simp only [List.length_append, List.length_cons, List.length_nil, sI_len, cond_true, cond_false]; omega) | (simp only [List.length_append, List.length_cons, List.length_nil, sI_len, cond_eq_ite, apply_ite List.length]; split <;> simp only [List.length_append, List.length_cons, List.length_nil, sI_len] <;> omega) | grind))), (by rw [hX80]; exact (show t10 ≤ (list.length : Int) from (by first | omega | (simp only [sS_len, sL_len]; omega) | (simp only [List.length_replicate, sI_len]; omega) | (simp only [List.length_append, List.length_cons, List.length_nil, sI_len, cond_true, cond_false]; omega) | (simp only [List.length_append, List.length_cons, List.length_nil, sI_len, cond_eq_ite, apply_ite List.length]; split <;> simp only [List.length_append, List.length_cons, List.length_nil, sI_len] <;> omega) | grind))), (by rw [hX80]; exact (hE79.sub (L' := [(0, .int .i64 kind), (5, .slice out5A ((out5).length) out5C), (8, .slice listA list.length listC), (9, .int .i64 (list.length : Int)), (10, .int .i64 t10)]) ⟨rfl, rfl, rfl, rfl, rfl, trivial⟩)), (by rw [hX80]; exact (St.pick (Γ' := [.nest 32 2 (some 94) out5A out5C out5H out5, .rd 1 listA list.length listC list]) hS20 [0, 1] (by decide) rfl))⟩
  ·
   rintro a81 w82 ⟨out5A_16, out5C_16, out5H_16, hi86, hi87, hi88, hi89, hE83, hS84⟩; clear hE14 hS15
   refine p_tn ?_
   refine c_seq ?_
   refine c_reg ?_
   refine q_step (v := .int .i64 kind) hE83 (y_move rfl) rfl rfl rfl ?_; intro a90 hE91; clear hE83
   refine q_step (v := .slice out5A_16 (((F_literalsFormula_L1 list (Int.toNat ((list.length : Int) - 0) + 1) ([]) 0).1).length) out5C_16) hE91 (y_move rfl) rfl rfl rfl ?_; intro a92 hE93; clear hE91
   refine l_step hE93 rfl (l_call (f := 96) (argv := [.int .i64 kind, .slice out5A_16 (((F_literalsFormula_L1 list (Int.toNat ((list.length : Int) - 0) + 1) ([]) 0).1).length) out5C_16]) hE93 (fun _ => cf_joinAll _ _) rfl rfl (c_joinAll kind out5A_16 (((F_literalsFormula_L1 list (Int.toNat ((list.length : Int) - 0) + 1) ([]) 0).1).length) out5C_16 out5H_16 ((F_literalsFormula_L1 list (Int.toNat ((list.length : Int) - 0) + 1) ([]) 0).1) w82 (St.rdNo (i := 0) hS84 rfl) (by omega) (rowsLe_mono (c := 6) (by assumption) (by omega))) ?_)
   rintro _ w95 ⟨b100, c101, rfl, ho102, he99⟩ a96 hE97; clear hE93
   have hS98 := St.own hS84 he99 ho102; clear hS84
   refine q_step (v := .slice b100 ((F_joinAll kind ((F_literalsFormula_L1 list (Int.toNat ((list.length : Int) - 0) + 1) ([]) 0).1)).length / 2 : Nat) c101) hE97 (y_assign rfl) rfl rfl rfl ?_; intro a103 hE104; clear hE97
   refine c_nil ?_
   have hE105 := hE104.sub (L' := [(4, .slice b100 ((F_joinAll kind ((F_literalsFormula_L1 list (Int.toNat ((list.length : Int) - 0) + 1) ([]) 0).1)).length / 2 : Nat) c101)]) ⟨rfl, trivial⟩; clear hE104
   refine p_tn ?_
   refine wp_ret ?_
   have hF : F_literalsFormula kind list = F_joinAll kind ((F_literalsFormula_L1 list (Int.toNat ((list.length : Int) - 0) + 1) ([]) 0).1) := by unfold F_literalsFormula; rfl
   refine c_ret1 hE105 rfl rfl ?_
   exact ⟨b100, c101, (by rw [hF]; first | done | (dsimp only; done) | rfl), (by rw [hF]; (try dsimp only); exact hS98.ok 0 _ rfl), hS98.ext⟩

def F_l04Join_L1b (list : List Int) (rec : (List (List Int)) → Int → (List (List Int)) × Int) (parts5 : List (List Int)) (i6 : Int) : (List (List Int)) × Int :=
  bif (decide (i6 < (list.length : Int))) then (rec (parts5 ++ ([F_l04Literal (gI list i6)])) (i6 + 1)) else (parts5, i6)
def F_l04Join_L1 (list : List Int) : Nat → (List (List Int)) → Int → (List (List Int)) × Int
  | 0, parts5, i6 => (parts5, i6)
  | r + 1, parts5, i6 => F_l04Join_L1b list (F_l04Join_L1 list r) parts5 i6
def F_l04Join (kind : Int) (list : List Int) : List Int :=
  F_l02All kind ((F_l04Join_L1 list (Int.toNat ((list.length : Int) - 0) + 1) ([]) 0).1)
theorem cf_l04Join (args : Array Value) (w : World) : (callFunc 92 args).run Try.prog w = .ok (.enter 92 args) w := by kernel_rfl
set_option maxRecDepth 100000 in
theorem c_l04Join (kind : Int) (listA : Option Addr) (listN listC : Nat) (list : List Int) (w : World) (listR : RdS w 1 listA listN listC list) (hl : list.length ≤ 12) (hc : ∀ m : Int, 0 ≤ m → m < (list.length : Int) → 0 ≤ gI list m ∧ gI list m ≤ 11) :
    Calls Try.prog 92 #[.int .i64 kind, .slice listA listN listC] w (Ret fun v w' => ∃ b1 : Option Addr, ∃ c1 : Nat, v = .slice b1 ((F_l04Join kind list).length / 2 : Nat) c1 ∧ OwnS w' w.heap.size 94 2 b1 ((F_l04Join kind list).length / 2 : Nat) c1 (F_l04Join kind list) ∧ Ext w w') := by
  obtain rfl : listN = list.length := listR.len1.symm
  have listLe := listR.le
  have hS := St.nil w
  have hS1 := St.rd0 hS rfl listR; clear hS
  refine enter (args := [.int .i64 kind, .slice listA list.length listC]) Try.func92 rfl rfl ?_
  rw [Try.ntmps92]; intro a hE
  have hE := hE.sub (L' := [(0, .int .i64 kind), (1, .slice listA list.length listC)]) ⟨rfl, rfl, trivial⟩
  refine c_seq ?_
  refine c_reg ?_
  refine q_step (v := .slice none 0 0) hE (y_assign rfl) rfl rfl rfl ?_; intro a2 hE3; clear hE
  refine c_nil ?_
  have hE4 := hE3.sub (L' := [(0, .int .i64 kind), (1, .slice listA list.length listC)]) ⟨rfl, rfl, trivial⟩; clear hE3
  refine p_tn ?_
  refine c_seq ?_
  refine c_reg ?_
  refine l_step hE4 rfl (l_lit0N (e := 32) (t' := 94) (s := 2) hS1 hE4 (fun _ => by kernel_rfl) rfl ?_)
  intro b5 w6 hS9 he10 a7 hE8; clear hS1 hE4
  refine q_step (v := .slice (some ⟨b5, 0, none⟩) 0 0) hE8 (y_assign rfl) rfl rfl rfl ?_; intro a11 hE12; clear hE8
  refine c_nil ?_
  have hE13 := hE12.sub (L' := [(0, .int .i64 kind), (1, .slice listA list.length listC), (5, .slice (some ⟨b5, 0, none⟩) 0 0)]) ⟨rfl, rfl, rfl, trivial⟩; clear hE12
  refine p_tn ?_
  refine c_seq ?_
  refine c_seq ?_
  refine c_reg ?_
  refine q_step (v := .int .i64 0) hE13 (y_assign rfl) rfl rfl rfl ?_; intro a14 hE15; clear hE13
  refine c_nil ?_
  have hE16 := hE15.sub (L' := [(0, .int .i64 kind), (1, .slice listA list.length listC), (5, .slice (some ⟨b5, 0, none⟩) 0 0), (6, .int .i64 0)]) ⟨rfl, rfl, rfl, rfl, trivial⟩; clear hE15
  refine p_tn ?_
  refine c_cut1 (fun a' w' => ∃ parts5A_17 : Option Addr, ∃ parts5C_17 : Nat, ∃ parts5H_17 : List Hd, (0 ≤ ((F_l04Join_L1 list (Int.toNat ((list.length : Int) - 0) + 1) ([]) 0).2)) ∧ ((((F_l04Join_L1 list (Int.toNat ((list.length : Int) - 0) + 1) ([]) 0).1).length : Int) = ((F_l04Join_L1 list (Int.toNat ((list.length : Int) - 0) + 1) ([]) 0).2)) ∧ (∀ m : Int, 0 ≤ m → m < (((F_l04Join_L1 list (Int.toNat ((list.length : Int) - 0) + 1) ([]) 0).1).length : Int) → (gL ((F_l04Join_L1 list (Int.toNat ((list.length : Int) - 0) + 1) ([]) 0).1) m).length ≤ 6) ∧ (((F_l04Join_L1 list (Int.toNat ((list.length : Int) - 0) + 1) ([]) 0).2) ≤ (list.length : Int)) ∧ E a' 25 [(0, .int .i64 kind), (1, .slice listA list.length listC), (5, .slice parts5A_17 (((F_l04Join_L1 list (Int.toNat ((list.length : Int) - 0) + 1) ([]) 0).1).length) parts5C_17), (6, .int .i64 ((F_l04Join_L1 list (Int.toNat ((list.length : Int) - 0) + 1) ([]) 0).2))] ∧ St w w' [.nest 32 2 (some 94) parts5A_17 parts5C_17 parts5H_17 ((F_l04Join_L1 list (Int.toNat ((list.length : Int) - 0) + 1) ([]) 0).1), .rd 1 listA list.length listC list]) ?_ ?_
  ·
   refine wp_block ?_
   refine c_loop (fun r a' w' => ∃ parts5 : List (List Int), ∃ i6 : Int, ∃ parts5A : Option Addr, ∃ parts5C : Nat, ∃ parts5H : List Hd, F_l04Join_L1 list r parts5 i6 = F_l04Join_L1 list (Int.toNat ((list.length : Int) - 0) + 1) ([]) 0 ∧ Int.toNat ((list.length : Int) - i6) < r ∧ (0 ≤ i6) ∧ ((parts5.length : Int) = i6) ∧ (∀ m : Int, 0 ≤ m → m < (parts5.length : Int) → (gL parts5 m).length ≤ 6) ∧ (i6 ≤ (list.length : Int)) ∧ E a' 25 [(0, .int .i64 kind), (1, .slice listA list.length listC), (5, .slice parts5A ((parts5).length) parts5C), (6, .int .i64 i6)] ∧ St w w' [.nest 32 2 (some 94) parts5A parts5C parts5H parts5, .rd 1 listA list.length listC list]) (r := (Int.toNat ((list.length : Int) - 0) + 1)) ?_ ?_
   · exact ⟨[], 0, some ⟨b5, 0, none⟩, 0, [], rfl, Nat.lt_succ_self _, (by first | omega | (simp only [sS_len, sL_len]; omega) | (simp only [List.length_replicate, sI_len]; omega) | (simp only [List.length_append, List.length_cons, List.length_nil, sI_len, cond_true, cond_false]; omega) | (simp only [List.length_append, List.length_cons, List.length_nil, sI_len, cond_eq_ite, apply_ite List.length]; split <;> simp only [List.length_append, List.length_cons, List.length_nil, sI_len] <;> omega) | grind), (by first | omega | (simp only [sS_len, sL_len]; omega) | (simp only [List.length_replicate, sI_len]; omega) | (simp only [List.length_append, List.length_cons, List.length_nil, sI_len, cond_true, cond_false]; omega) | (simp only [List.length_append, List.length_cons, List.length_nil, sI_len, cond_eq_ite, apply_ite List.length]; split <;> simp only [List.length_append, List.length_cons, List.length_nil, sI_len] <;> omega) | grind), rowsLe_nil, (by first | omega | (simp only [sS_len, sL_len]; omega) | (simp only [List.length_replicate, sI_len]; omega) | (simp only [List.length_append, List.length_cons, List.length_nil, sI_len, cond_true, cond_false]; omega) | (simp only [List.length_append, List.length_cons, List.length_nil, sI_len, cond_eq_ite, apply_ite List.length]; split <;> simp only [List.length_append, List.length_cons, List.length_nil, sI_len] <;> omega) | grind), (hE16.sub (L' := [(0, .int .i64 kind), (1, .slice listA list.length listC), (5, .slice (some ⟨b5, 0, none⟩) 0 0), (6, .int .i64 0)]) ⟨rfl, rfl, rfl, rfl, trivial⟩), (St.pick (Γ' := [.nest 32 2 (some 94) (some ⟨b5, 0, none⟩) 0 ([]) ([]), .rd 1 listA list.length listC list]) hS9 [0, 1] (by decide) rfl)⟩
   ·
    clear hE16 hS9
    rintro r28 a18 w19 ⟨parts5, i6, parts5A, parts5C, parts5H, hT22, hr23, hi24, hi25, hi26, hi27, hE20, hS21⟩
    obtain ⟨r28, rfl⟩ : ∃ r', r28 = r' + 1 := ⟨r28 - 1, by omega⟩
    refine c_seq ?_
    refine c_seq ?_
    refine c_reg ?_
    refine q_step (v := .int .i64 i6) hE20 (y_move rfl) rfl rfl rfl ?_; intro a29 hE30; clear hE20
    refine q_step (v := .slice listA list.length listC) hE30 (y_move rfl) rfl rfl rfl ?_; intro a31 hE32; clear hE30
    refine q_step (v := .int .i64 (list.length : Int)) hE32 (y_len (e := 2) (by kernel_rfl) rfl) rfl rfl rfl ?_; intro a33 hE34; clear hE32
    refine q_step (v := .bool (decide (i6 < (list.length : Int)))) hE34 (y_lss rfl rfl) rfl rfl rfl ?_; intro a35 hE36; clear hE34
    refine c_nil ?_
    have hE37 := hE36.sub (L' := [(0, .int .i64 kind), (1, .slice listA list.length listC), (5, .slice parts5A ((parts5).length) parts5C), (6, .int .i64 i6), (11, .bool (decide (i6 < (list.length : Int))))]) ⟨rfl, rfl, rfl, rfl, rfl, trivial⟩; clear hE36
    refine p_tn ?_
    refine c_cond hE37 rfl (fun ht38 => ?_) (fun ht38 => ?_)
    ·
     have hp39 := of_decide_eq_true ht38
     have hE40 := hE37; rw [ht38] at hE40; clear hE37
     have hc1 := hc i6 (by omega) (by omega)
     refine wp_skip ?_
     refine p_tn ?_
     refine c_seq ?_
     refine wp_block ?_
     refine c_reg ?_
     refine q_step (v := .slice parts5A ((parts5).length) parts5C) hE40 (y_move rfl) rfl rfl rfl ?_; intro a41 hE42; clear hE40
     refine q_step (v := .slice listA list.length listC) hE42 (y_move rfl) rfl rfl rfl ?_; intro a43 hE44; clear hE42
     refine q_step (v := .int .i64 i6) hE44 (y_move rfl) rfl rfl rfl ?_; intro a45 hE46; clear hE44
     refine q_step (v := .pointer (some (adr listA (Int.toNat i6)))) hE46 (y_idx (by kernel_rfl) (fun _ => by kernel_rfl) rfl rfl (RdS.isS (m := i6) (St.rdR (i := 1) hS21 rfl) (by omega) (by omega)) (by omega) (by omega) (Nat.mul_one _).symm) rfl rfl rfl ?_; intro a47 hE48; clear hE46
     refine q_step (v := .int .i64 (gI list i6)) hE48 (y_load (fun _ => by kernel_rfl) rfl (RdS.elt (St.rdR (i := 1) hS21 rfl) (by omega) (by omega))) rfl rfl rfl ?_; intro a49 hE50; clear hE48
     refine l_step hE50 rfl (l_call (f := 156) (argv := [.int .i64 (gI list i6)]) hE50 (fun _ => cf_l04Literal _ _) rfl rfl (c_l04Literal (gI list i6) w19 (by omega) (by omega)) ?_)
     rintro _ w52 ⟨b57, c58, rfl, ho59, he56⟩ a53 hE54; clear hE50
     have hf60 := l04Literal_len (gI list i6)
     have hS55 := St.own hS21 he56 ho59; clear hS21
     have hS67 := (St.pick (Γ' := [.own 94 2 b57 ((F_l04Literal (gI list i6)).length / 2 : Nat) c58 (F_l04Literal (gI list i6)), .nest 32 2 (some 94) parts5A parts5C parts5H parts5, .rd 1 listA list.length listC list]) hS55 [0, 1, 2] (by decide) rfl); clear hS55
     refine l_step hE54 rfl (l_litO1 (e := 32) hS67 hE54 rfl (fun _ => by kernel_rfl) rfl ?_)
     intro b61 w62 hS65 he66 a63 hE64; clear hS67 hE54
     have hS74 := (St.pick (Γ' := [.nest 32 2 (some 94) (some ⟨b61, 0, none⟩) 1 ([⟨b57, ((F_l04Literal (gI list i6)).length / 2 : Nat), c58⟩]) ([F_l04Literal (gI list i6)]), .nest 32 2 (some 94) parts5A parts5C parts5H parts5, .rd 1 listA list.length listC list]) hS65 [0, 1, 2] (by decide) rfl); clear hS65
     obtain ⟨_, hi1, hi2, hi3, hi4⟩ := info_parts (show (Try.prog.info? 32).map (fun i => (i.zero, i.size, i.bytes)) = some (some (.slice none 0 0), 1, 24) by kernel_rfl)
     refine l_step hE64 rfl (l_appendN (k := 0) hS74 hE64 (by kernel_rfl) hi1 hi2 hi3 rfl (by rw [hi4]; decide) rfl rfl rfl rfl rfl rfl (by first | omega | (simp only [List.length_append, List.length_cons, List.length_nil]; omega)) rfl ?_)
     intro b68 c75 w69 hS72 a70 hE71; clear hS74 hE64 hi1 hi2 hi3 hi4
     refine q_step (v := .slice b68 ((parts5 ++ ([F_l04Literal (gI list i6)])).length) c75) hE71 (y_assign rfl) rfl rfl rfl ?_; intro a76 hE77; clear hE71
     refine c_nil ?_
     have hE78 := hE77.sub (L' := [(0, .int .i64 kind), (1, .slice listA list.length listC), (5, .slice b68 ((parts5 ++ ([F_l04Literal (gI list i6)])).length) c75), (6, .int .i64 i6)]) ⟨rfl, rfl, rfl, rfl, trivial⟩; clear hE77
     refine p_bn ?_
     refine p_tn ?_
     refine c_reg ?_
     refine q_step (v := .int .i64 i6) hE78 (y_move rfl) rfl rfl rfl ?_; intro a79 hE80; clear hE78
     refine q_step (v := .int .i64 (i6 + 1)) hE80 (y_add rfl rfl ⟨(by omega), (by omega)⟩) rfl rfl rfl ?_; intro a81 hE82; clear hE80
     refine q_step (v := .int .i64 (i6 + 1)) hE82 (y_assign rfl) rfl rfl rfl ?_; intro a83 hE84; clear hE82
     refine c_nil ?_
     have hE85 := hE84.sub (L' := [(0, .int .i64 kind), (1, .slice listA list.length listC), (5, .slice b68 ((parts5 ++ ([F_l04Literal (gI list i6)])).length) c75), (6, .int .i64 (i6 + 1))]) ⟨rfl, rfl, rfl, rfl, trivial⟩; clear hE84
     refine p_tn ⟨r28, Nat.lt_succ_self _, parts5 ++ ([F_l04Literal (gI list i6)]), i6 + 1, b68, c75, parts5H ++ ([⟨b57, ((F_l04Literal (gI list i6)).length / 2 : Nat), c58⟩]), (hT22.symm.trans (show F_l04Join_L1b list (F_l04Join_L1 list r28) parts5 i6 = F_l04Join_L1 list r28 (parts5 ++ ([F_l04Literal (gI list i6)])) (i6 + 1) by unfold F_l04Join_L1b; rw [ht38]; first | done | rfl)).symm, (by omega), (by first | omega | (simp only [sS_len, sL_len]; omega) | (simp only [List.length_replicate, sI_len]; omega) | (simp only [List.length_append, List.length_cons, List.length_nil, sI_len, cond_true, cond_false]; omega) | (simp only [List.length_append, List.length_cons, List.length_nil, sI_len, cond_eq_ite, apply_ite List.length]; split <;> simp only [List.length_append, List.length_cons, List.length_nil, sI_len] <;> omega) | grind), (by rw [app1_len]; omega), (rowsLe_app (by assumption) (by omega)), (by first | omega | (simp only [sS_len, sL_len]; omega) | (simp only [List.length_replicate, sI_len]; omega) | (simp only [List.length_append, List.length_cons, List.length_nil, sI_len, cond_true, cond_false]; omega) | (simp only [List.length_append, List.length_cons, List.length_nil, sI_len, cond_eq_ite, apply_ite List.length]; split <;> simp only [List.length_append, List.length_cons, List.length_nil, sI_len] <;> omega) | grind), (hE85.sub (L' := [(0, .int .i64 kind), (1, .slice listA list.length listC), (5, .slice b68 ((parts5 ++ ([F_l04Literal (gI list i6)])).length) c75), (6, .int .i64 (i6 + 1))]) ⟨rfl, rfl, rfl, rfl, trivial⟩), (St.pick (Γ' := [.nest 32 2 (some 94) b68 c75 (parts5H ++ ([⟨b57, ((F_l04Literal (gI list i6)).length / 2 : Nat), c58⟩])) (parts5 ++ ([F_l04Literal (gI list i6)])), .rd 1 listA list.length listC list]) hS72 [0, 1] (by decide) rfl)⟩
    ·
     have hp86 := of_decide_eq_false ht38
     have hE87 := hE37; rw [ht38] at hE87; clear hE37
     refine wp_exit ?_
     refine p_te ?_
     have hX88 : F_l04Join_L1 list (Int.toNat ((list.length : Int) - 0) + 1) ([]) 0 = (parts5, i6) := hT22.symm.trans (show F_l04Join_L1b list (F_l04Join_L1 list r28) parts5 i6 = (parts5, i6) by unfold F_l04Join_L1b; rw [ht38]; first | done | rfl)
     refine p_te (p_be (p_tn ?_))
     exact ⟨parts5A, parts5C, parts5H, (by rw [hX88]; exact (show 0 ≤ i6 from (by first | omega | (simp only [sS_len, sL_len]; omega) | (simp only [List.length_replicate, sI_len]; omega) | (simp only [List.length_append, List.length_cons, List.length_nil, sI_len, cond_true, cond_false]; omega) | (simp only [List.length_append, List.length_cons, List.length_nil, sI_len, cond_eq_ite, apply_ite List.length]; split <;> simp only [List.length_append, List.length_cons, List.length_nil, sI_len] <;> omega) | grind))), (by rw [hX88]; exact (show (parts5.length : Int) = i6 from (by first | omega | (simp only [sS_len, sL_len]; omega) | (simp only [List.length_replicate, sI_len]; omega) | (simp only [List.length_append, List.length_cons, List.length_nil, sI_len, cond_true, cond_false]; omega) | (simp only [List.length_append, List.length_cons, List.length_nil, sI_len, cond_eq_ite, apply_ite List.length]; split <;> simp only [List.length_append, List.length_cons, List.length_nil, sI_len] <;> omega) | grind))), (by rw [hX88]; exact (show ∀ m : Int, 0 ≤ m → m < (parts5.length : Int) → (gL parts5 m).length ≤ 6 from (by first | omega | (simp only [sS_len, sL_len]; omega) | (simp only [List.length_replicate, sI_len]; omega) | (simp only [List.length_append, List.length_cons, List.length_nil, sI_len, cond_true, cond_false]; omega) | (simp only [List.length_append, List.length_cons, List.length_nil, sI_len, cond_eq_ite, apply_ite List.length]; split <;> simp only [List.length_append, List.length_cons, List.length_nil, sI_len] <;> omega) | grind))), (by rw [hX88]; exact (show i6 ≤ (list.length : Int) from (by first | omega | (simp only [sS_len, sL_len]; omega) | (simp only [List.length_replicate, sI_len]; omega) | (simp only [List.length_append, List.length_cons, List.length_nil, sI_len, cond_true, cond_false]; omega) | (simp only [List.length_append, List.length_cons, List.length_nil, sI_len, cond_eq_ite, apply_ite List.length]; split <;> simp only [List.length_append, List.length_cons, List.length_nil, sI_len] <;> omega) | grind))), (by rw [hX88]; exact (hE87.sub (L' := [(0, .int .i64 kind), (1, .slice listA list.length listC), (5, .slice parts5A ((parts5).length) parts5C), (6, .int .i64 i6)]) ⟨rfl, rfl, rfl, rfl, trivial⟩)), (by rw [hX88]; exact (St.pick (Γ' := [.nest 32 2 (some 94) parts5A parts5C parts5H parts5, .rd 1 listA list.length listC list]) hS21 [0, 1] (by decide) rfl))⟩
  ·
   rintro a89 w90 ⟨parts5A_17, parts5C_17, parts5H_17, hi94, hi95, hi96, hi97, hE91, hS92⟩; clear hE16 hS9
   refine p_tn ?_
   refine c_seq ?_
   refine c_reg ?_
   refine q_step (v := .int .i64 kind) hE91 (y_move rfl) rfl rfl rfl ?_; intro a98 hE99; clear hE91
   refine q_step (v := .slice parts5A_17 (((F_l04Join_L1 list (Int.toNat ((list.length : Int) - 0) + 1) ([]) 0).1).length) parts5C_17) hE99 (y_move rfl) rfl rfl rfl ?_; intro a100 hE101; clear hE99
   refine l_step hE101 rfl (l_call (f := 93) (argv := [.int .i64 kind, .slice parts5A_17 (((F_l04Join_L1 list (Int.toNat ((list.length : Int) - 0) + 1) ([]) 0).1).length) parts5C_17]) hE101 (fun _ => cf_l02All _ _) rfl rfl (c_l02All kind parts5A_17 (((F_l04Join_L1 list (Int.toNat ((list.length : Int) - 0) + 1) ([]) 0).1).length) parts5C_17 parts5H_17 ((F_l04Join_L1 list (Int.toNat ((list.length : Int) - 0) + 1) ([]) 0).1) w90 (St.rdNo (i := 0) hS92 rfl) (by omega) (rowsLe_mono (c := 6) (by assumption) (by omega))) ?_)
   rintro _ w103 ⟨b108, c109, rfl, ho110, he107⟩ a104 hE105; clear hE101
   have hS106 := St.own hS92 he107 ho110; clear hS92
   refine q_step (v := .slice b108 ((F_l02All kind ((F_l04Join_L1 list (Int.toNat ((list.length : Int) - 0) + 1) ([]) 0).1)).length / 2 : Nat) c109) hE105 (y_assign rfl) rfl rfl rfl ?_; intro a111 hE112; clear hE105
   refine c_nil ?_
   have hE113 := hE112.sub (L' := [(4, .slice b108 ((F_l02All kind ((F_l04Join_L1 list (Int.toNat ((list.length : Int) - 0) + 1) ([]) 0).1)).length / 2 : Nat) c109)]) ⟨rfl, trivial⟩; clear hE112
   refine p_tn ?_
   refine wp_ret ?_
   have hF : F_l04Join kind list = F_l02All kind ((F_l04Join_L1 list (Int.toNat ((list.length : Int) - 0) + 1) ([]) 0).1) := by unfold F_l04Join; rfl
   refine c_ret1 hE113 rfl rfl ?_
   exact ⟨b108, c109, (by rw [hF]; first | done | (dsimp only; done) | rfl), (by rw [hF]; (try dsimp only); exact hS106.ok 0 _ rfl), hS106.ext⟩

theorem fm_map (f : Int → List Int) (n : Nat) : (List.range n).flatMap (fun (j : Nat) => [f (j : Int)]) = (List.range n).map (fun (j : Nat) => f (j : Int)) := by
  induction n with
  | zero => rfl
  | succ n ih => rw [List.range_succ, List.flatMap_append, List.map_append, ih]; rfl
theorem gL_fm (f : Int → List Int) (n : Nat) {j : Nat} (hj : j < n) : gL ((List.range n).flatMap (fun (j : Nat) => [f (j : Int)])) (j : Int) = f j := by
  rw [fm_map]
  unfold gL
  rw [List.getD_eq_getElem?_getD, Int.toNat_natCast, List.getElem?_map, List.getElem?_range hj]; rfl
theorem fm_len (f : Int → List Int) (n : Nat) : ((List.range n).flatMap (fun (j : Nat) => [f (j : Int)])).length = n := by
  rw [fm_map]; simp
theorem literals_L1 (l : List Int) : ∀ (r : Nat) (out : List (List Int)) (i : Int), F_literalsFormula_L1 l r out i = F_l04Join_L1 l r out i := by
  intro r
  induction r with
  | zero => intro out i; rfl
  | succ r ih =>
    intro out i
    show F_literalsFormula_L1b l (F_literalsFormula_L1 l r) out i = F_l04Join_L1b l (F_l04Join_L1 l r) out i
    unfold F_literalsFormula_L1b F_l04Join_L1b
    rw [literal_eq, ih]
theorem literals_eq (kind : Int) (l : List Int) : F_literalsFormula kind l = F_l04Join kind l := by
  unfold F_literalsFormula F_l04Join
  rw [joinAll_eq, literals_L1]
theorem l04Join_form (kind : Int) (l : List Int) : F_l04Join kind l = F_l02All kind ((List.range l.length).flatMap (fun (j : Nat) => [F_l04Literal (gI l (j : Int))])) := by
  unfold F_l04Join
  rw [show Int.toNat ((l.length : Int) - 0) = l.length by omega, appLoopP (F_l04Join_L1 l) (l.length : Int) (fun i => [F_l04Literal (gI l i)]) (fun _ _ _ => rfl) l.length 0 _ (by omega), List.nil_append]
  simp only [Int.zero_add]
theorem l04Join_len (kind : Int) (l : List Int) : (F_l04Join kind l).length ≤ 6 + l.length * 8 ∧ 2 ≤ (F_l04Join kind l).length := by
  rw [l04Join_form]
  have := l02All_len kind ((List.range l.length).flatMap (fun (j : Nat) => [F_l04Literal (gI l (j : Int))])) (c := 6) (d := 2) fun j hj => by
    rw [fm_len (fun i => F_l04Literal (gI l i))] at hj
    rw [gL_fm (fun i => F_l04Literal (gI l i)) l.length hj]
    exact l04Literal_len _
  rw [fm_len (fun i => F_l04Literal (gI l i))] at this
  omega
theorem literalsFormula_len (kind : Int) (l : List Int) : (F_literalsFormula kind l).length ≤ 6 + l.length * 8 ∧ 2 ≤ (F_literalsFormula kind l).length := by
  rw [literals_eq]; exact l04Join_len kind l
theorem l04Join_ev (kind : Int) (l : List Int) : (F_l04Join kind l).length % 2 = 0 := by
  rw [l04Join_form]
  exact l02All_ev kind _ fun j hj => by
    rw [fm_len (fun i => F_l04Literal (gI l i))] at hj
    rw [gL_fm (fun i => F_l04Literal (gI l i)) l.length hj]
    exact l04Literal_ev _


end Go.Proofs.Ytkilkfhjfobcdaa
