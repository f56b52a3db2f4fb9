/- GBG: models and contracts, printed by wip/gen/gen.py -/
import Derived.Test.YtlbonhloeefnmaaGBB
set_option linter.unusedVariables false
set_option linter.unusedSimpArgs false
namespace Go.Proofs.Ytlbonhloeefnmaa
open Go.RowKit

def F_l07Greatest (mp0 : Int) (mp1 : List Int) (mp2 : List Int) (np0 : Int) (np1 : List Int) (np2 : List Int) : List Int :=
  gL (F_l07Bounded mp0 mp1 mp2 np0 np1 np2) 16
theorem cf_l07Greatest (args : Array Value) (w : World) : (callFunc 81 args).run Try.prog w = .ok (.enter 81 args) w := by kernel_rfl
set_option maxRecDepth 100000 in
theorem c_l07Greatest (mp0 : Int) (mp1A : Option Addr) (mp1N mp1C : Nat) (mp1 : List Int) (mp2A : Option Addr) (mp2N mp2C : Nat) (mp2 : List Int) (np0 : Int) (np1A : Option Addr) (np1N np1C : Nat) (np1 : List Int) (np2A : Option Addr) (np2N np2C : Nat) (np2 : List Int) (w : World) (mp1R : RdS w 1 mp1A mp1N mp1C mp1) (mp2R : RdS w 1 mp2A mp2N mp2C mp2) (np1R : RdS w 1 np1A np1N np1C np1) (np2R : RdS w 1 np2A np2N np2C np2) (h6mp : (mp2.length : Int) = 6) (hwmp : 0 ≤ mp0 ∧ mp0 ≤ 8) (hlmp : (mp1.length : Int) = mp0) (h6np : (np2.length : Int) = 6) (hwnp : 0 ≤ np0 ∧ np0 ≤ 8) (hlnp : (np1.length : Int) = np0) :
    Calls Try.prog 81 #[.agg #[.int .i64 mp0, .slice mp1A mp1N mp1C, .slice mp2A mp2N mp2C], .agg #[.int .i64 np0, .slice np1A np1N np1C, .slice np2A np2N np2C]] w (Ret fun v w' => ∃ b1 : Option Addr, ∃ c1 : Nat, v = .slice b1 (F_l07Greatest mp0 mp1 mp2 np0 np1 np2).length c1 ∧ OwnS w' w.heap.size 2 1 b1 (F_l07Greatest mp0 mp1 mp2 np0 np1 np2).length c1 (F_l07Greatest mp0 mp1 mp2 np0 np1 np2) ∧ Ext w w') := by
  obtain rfl : mp1N = mp1.length := mp1R.len1.symm
  have mp1Le := mp1R.le
  obtain rfl : mp2N = mp2.length := mp2R.len1.symm
  have mp2Le := mp2R.le
  obtain rfl : np1N = np1.length := np1R.len1.symm
  have np1Le := np1R.le
  obtain rfl : np2N = np2.length := np2R.len1.symm
  have np2Le := np2R.le
  have hS := St.nil w
  have hS1 := St.rd0 hS rfl mp1R; clear hS
  have hS2 := St.rd0 hS1 rfl mp2R; clear hS1
  have hS3 := St.rd0 hS2 rfl np1R; clear hS2
  have hS4 := St.rd0 hS3 rfl np2R; clear hS3
  refine enter (args := [.agg #[.int .i64 mp0, .slice mp1A mp1.length mp1C, .slice mp2A mp2.length mp2C], .agg #[.int .i64 np0, .slice np1A np1.length np1C, .slice np2A np2.length np2C]]) Try.func81 rfl rfl ?_
  rw [Try.ntmps81]; intro a hE
  have hE := hE.sub (L' := [(0, .agg #[.int .i64 mp0, .slice mp1A mp1.length mp1C, .slice mp2A mp2.length mp2C]), (1, .agg #[.int .i64 np0, .slice np1A np1.length np1C, .slice np2A np2.length np2C])]) ⟨rfl, rfl, trivial⟩
  refine c_seq ?_
  refine c_reg ?_
  refine l_step hE rfl (l_box (v := .agg #[.int .i64 mp0, .slice mp1A mp1.length mp1C, .slice mp2A mp2.length mp2C]) (cs := #[.int .i64 mp0, .slice mp1A mp1.length mp1C, .slice mp2A mp2.length mp2C]) hS4 hE rfl rfl rfl ?_)
  intro b5 w6 hS9 he10 a7 hE8; clear hS4 hE
  refine l_step hE8 rfl (l_box (v := .agg #[.int .i64 np0, .slice np1A np1.length np1C, .slice np2A np2.length np2C]) (cs := #[.int .i64 np0, .slice np1A np1.length np1C, .slice np2A np2.length np2C]) hS9 hE8 rfl rfl rfl ?_)
  intro b11 w12 hS15 he16 a13 hE14; clear hS9 hE8
  refine q_step (v := .slice none 0 0) hE14 (y_assign rfl) rfl rfl rfl ?_; intro a17 hE18; clear hE14
  refine c_nil ?_
  have hE19 := hE18.sub (L' := [(2, .pointer (some ⟨b5, 0, none⟩)), (3, .pointer (some ⟨b11, 0, none⟩))]) ⟨rfl, rfl, trivial⟩; clear hE18
  refine p_tn ?_
  refine c_seq ?_
  refine c_reg ?_
  refine q_step (v := .agg #[.int .i64 mp0, .slice mp1A mp1.length mp1C, .slice mp2A mp2.length mp2C]) hE19 (y_loadS Try.underlying32 rfl (by kernel_rfl) rfl (St.row (i := 1) hS15 rfl)) rfl rfl rfl ?_; intro a20 hE21; clear hE19
  refine q_step (v := .agg #[.int .i64 np0, .slice np1A np1.length np1C, .slice np2A np2.length np2C]) hE21 (y_loadS Try.underlying32 rfl (by kernel_rfl) rfl (St.row (i := 0) hS15 rfl)) rfl rfl rfl ?_; intro a22 hE23; clear hE21
  refine l_step hE23 rfl (l_call (f := 86) (argv := [.agg #[.int .i64 mp0, .slice mp1A mp1.length mp1C, .slice mp2A mp2.length mp2C], .agg #[.int .i64 np0, .slice np1A np1.length np1C, .slice np2A np2.length np2C]]) hE23 (fun _ => cf_l07Bounded _ _) rfl rfl (c_l07Bounded mp0 mp1A mp1.length mp1C mp1 mp2A mp2.length mp2C mp2 np0 np1A np1.length np1C np1 np2A np2.length np2C np2 w12 (St.rdR (i := 5) hS15 rfl) (St.rdR (i := 4) hS15 rfl) (St.rdR (i := 3) hS15 rfl) (St.rdR (i := 2) hS15 rfl) (by omega) (by omega) (by omega) (by omega) (by omega) (by omega)) ?_)
  rintro _ w25 ⟨b30, c31, h32, rfl, ho33, he29⟩ a26 hE27; clear hE23
  have hf34 := l07Bounded_len mp0 mp1 mp2 np0 np1 np2
  have hS28 := St.ownN hS15 he29 ho33; clear hS15
  refine q_step (v := .pointer (some (adr b30 (Int.toNat 16)))) hE27 (y_idx (by kernel_rfl) (fun _ => by kernel_rfl) rfl rfl (RdN.isS (m := 16) (St.rdNo (i := 0) hS28 rfl) (by omega) (by omega)) (by omega) (by omega) (Nat.mul_one _).symm) rfl rfl rfl ?_; intro a35 hE36; clear hE27
  have hv37 : (0 : Int) ≤ 16 ∧ 16 < ((F_l07Bounded mp0 mp1 mp2 np0 np1 np2).length : Int) := ⟨(by omega), (by omega)⟩
  refine q_step (v := .slice (hdA h32 16) ((gL (F_l07Bounded mp0 mp1 mp2 np0 np1 np2) 16).length) (hdC h32 16)) hE36 (y_load (fun _ => by kernel_rfl) rfl (RdN.elt1 (St.rdNo (i := 0) hS28 rfl) (by omega) (by omega))) rfl rfl rfl ?_; intro a39 hE40; clear hE36
  refine q_step (v := .slice (hdA h32 16) ((gL (F_l07Bounded mp0 mp1 mp2 np0 np1 np2) 16).length) (hdC h32 16)) hE40 (y_assign rfl) rfl rfl rfl ?_; intro a41 hE42; clear hE40
  refine c_nil ?_
  have hE43 := hE42.sub (L' := [(4, .slice (hdA h32 16) ((gL (F_l07Bounded mp0 mp1 mp2 np0 np1 np2) 16).length) (hdC h32 16))]) ⟨rfl, trivial⟩; clear hE42
  refine p_tn ?_
  refine wp_ret ?_
  have hF : F_l07Greatest mp0 mp1 mp2 np0 np1 np2 = gL (F_l07Bounded mp0 mp1 mp2 np0 np1 np2) 16 := by unfold F_l07Greatest; rfl
  refine c_ret1 hE43 rfl rfl ?_
  exact ⟨hdA h32 16, hdC h32 16, (by rw [hF]; first | done | (dsimp only; done) | rfl), (by rw [hF]; (try dsimp only); exact St.rowOwn (i := 0) hS28 rfl hv37.1 hv37.2 (by decide) (Nat.div_one _)), hS28.ext⟩

def F_s_GreatestBisimulation (mp0 : Int) (mp1 : List Int) (mp2 : List Int) (np0 : Int) (np1 : List Int) (np2 : List Int) : (List Int) × (Int) :=
  bif (!decide ((F_l07Two mp0 mp1 mp2 np0 np1 np2) = 0)) then ([], F_l07Two mp0 mp1 mp2 np0 np1 np2) else (F_l07Greatest mp0 mp1 mp2 np0 np1 np2, 0)
theorem cf_s_GreatestBisimulation (args : Array Value) (w : World) : (callFunc 16 args).run Try.prog w = .ok (.enter 16 args) w := by kernel_rfl
set_option maxRecDepth 100000 in
theorem c_s_GreatestBisimulation (mp0 : Int) (mp1A : Option Addr) (mp1N mp1C : Nat) (mp1 : List Int) (mp2A : Option Addr) (mp2N mp2C : Nat) (mp2 : List Int) (np0 : Int) (np1A : Option Addr) (np1N np1C : Nat) (np1 : List Int) (np2A : Option Addr) (np2N np2C : Nat) (np2 : List Int) (w : World) (mp1R : RdS w 1 mp1A mp1N mp1C mp1) (mp2R : RdS w 1 mp2A mp2N mp2C mp2) (np1R : RdS w 1 np1A np1N np1C np1) (np2R : RdS w 1 np2A np2N np2C np2) :
    Calls Try.prog 16 #[.agg #[.int .i64 mp0, .slice mp1A mp1N mp1C, .slice mp2A mp2N mp2C], .agg #[.int .i64 np0, .slice np1A np1N np1C, .slice np2A np2N np2C]] w (Ret fun v w' => ∃ b1 : Option Addr, ∃ c1 : Nat, v = .tuple #[.slice b1 ((F_s_GreatestBisimulation mp0 mp1 mp2 np0 np1 np2).1).length c1, .int .i64 ((F_s_GreatestBisimulation mp0 mp1 mp2 np0 np1 np2).2)] ∧ OwnS w' w.heap.size 2 1 b1 ((F_s_GreatestBisimulation mp0 mp1 mp2 np0 np1 np2).1).length c1 ((F_s_GreatestBisimulation mp0 mp1 mp2 np0 np1 np2).1) ∧ Ext w w') := by
  obtain rfl : mp1N = mp1.length := mp1R.len1.symm
  have mp1Le := mp1R.le
  obtain rfl : mp2N = mp2.length := mp2R.len1.symm
  have mp2Le := mp2R.le
  obtain rfl : np1N = np1.length := np1R.len1.symm
  have np1Le := np1R.le
  obtain rfl : np2N = np2.length := np2R.len1.symm
  have np2Le := np2R.le
  have hS := St.nil w
  have hS1 := St.rd0 hS rfl mp1R; clear hS
  have hS2 := St.rd0 hS1 rfl mp2R; clear hS1
  have hS3 := St.rd0 hS2 rfl np1R; clear hS2
  have hS4 := St.rd0 hS3 rfl np2R; clear hS3
  refine enter (args := [.agg #[.int .i64 mp0, .slice mp1A mp1.length mp1C, .slice mp2A mp2.length mp2C], .agg #[.int .i64 np0, .slice np1A np1.length np1C, .slice np2A np2.length np2C]]) Try.func16 rfl rfl ?_
  rw [Try.ntmps16]; intro a hE
  have hE := hE.sub (L' := [(0, .agg #[.int .i64 mp0, .slice mp1A mp1.length mp1C, .slice mp2A mp2.length mp2C]), (1, .agg #[.int .i64 np0, .slice np1A np1.length np1C, .slice np2A np2.length np2C])]) ⟨rfl, rfl, trivial⟩
  refine c_seq ?_
  refine c_reg ?_
  refine l_step hE rfl (l_box (v := .agg #[.int .i64 mp0, .slice mp1A mp1.length mp1C, .slice mp2A mp2.length mp2C]) (cs := #[.int .i64 mp0, .slice mp1A mp1.length mp1C, .slice mp2A mp2.length mp2C]) hS4 hE rfl rfl rfl ?_)
  intro b5 w6 hS9 he10 a7 hE8; clear hS4 hE
  refine l_step hE8 rfl (l_box (v := .agg #[.int .i64 np0, .slice np1A np1.length np1C, .slice np2A np2.length np2C]) (cs := #[.int .i64 np0, .slice np1A np1.length np1C, .slice np2A np2.length np2C]) hS9 hE8 rfl rfl rfl ?_)
  intro b11 w12 hS15 he16 a13 hE14; clear hS9 hE8
  refine q_step (v := .slice none 0 0) hE14 (y_assign rfl) rfl rfl rfl ?_; intro a17 hE18; clear hE14
  refine q_step (v := .int .i64 0) hE18 (y_assign rfl) rfl rfl rfl ?_; intro a19 hE20; clear hE18
  refine c_nil ?_
  have hE21 := hE20.sub (L' := [(2, .pointer (some ⟨b5, 0, none⟩)), (3, .pointer (some ⟨b11, 0, none⟩))]) ⟨rfl, rfl, trivial⟩; clear hE20
  refine p_tn ?_
  refine c_seq ?_
  refine c_seq ?_
  refine c_reg ?_
  refine q_step (v := .agg #[.int .i64 mp0, .slice mp1A mp1.length mp1C, .slice mp2A mp2.length mp2C]) hE21 (y_loadS Try.underlying32 rfl (by kernel_rfl) rfl (St.row (i := 1) hS15 rfl)) rfl rfl rfl ?_; intro a22 hE23; clear hE21
  refine q_step (v := .agg #[.int .i64 np0, .slice np1A np1.length np1C, .slice np2A np2.length np2C]) hE23 (y_loadS Try.underlying32 rfl (by kernel_rfl) rfl (St.row (i := 0) hS15 rfl)) rfl rfl rfl ?_; intro a24 hE25; clear hE23
  refine l_step hE25 rfl (l_call (f := 80) (argv := [.agg #[.int .i64 mp0, .slice mp1A mp1.length mp1C, .slice mp2A mp2.length mp2C], .agg #[.int .i64 np0, .slice np1A np1.length np1C, .slice np2A np2.length np2C]]) hE25 (fun _ => cf_l07Two _ _) rfl rfl (c_l07Two mp0 mp1A mp1.length mp1C mp1 mp2A mp2.length mp2C mp2 np0 np1A np1.length np1C np1 np2A np2.length np2C np2 w12 (St.rdR (i := 5) hS15 rfl) (St.rdR (i := 4) hS15 rfl) (St.rdR (i := 3) hS15 rfl) (St.rdR (i := 2) hS15 rfl)) ?_)
  rintro _ w27 ⟨rfl, he31⟩ a28 hE29; clear hE25
  have hS30 := St.go hS15 he31; clear hS15
  refine q_step (v := .int .i64 (F_l07Two mp0 mp1 mp2 np0 np1 np2)) hE29 (y_assign rfl) rfl rfl rfl ?_; intro a32 hE33; clear hE29
  refine c_nil ?_
  have hE34 := hE33.sub (L' := [(2, .pointer (some ⟨b5, 0, none⟩)), (3, .pointer (some ⟨b11, 0, none⟩)), (6, .int .i64 (F_l07Two mp0 mp1 mp2 np0 np1 np2))]) ⟨rfl, rfl, rfl, trivial⟩; clear hE33
  refine p_tn ?_
  refine c_seq ?_
  refine c_reg ?_
  refine q_step (v := .int .i64 (F_l07Two mp0 mp1 mp2 np0 np1 np2)) hE34 (y_move rfl) rfl rfl rfl ?_; intro a35 hE36; clear hE34
  refine q_step (v := .bool (!decide ((F_l07Two mp0 mp1 mp2 np0 np1 np2) = 0))) hE36 (y_neq rfl rfl) rfl rfl rfl ?_; intro a37 hE38; clear hE36
  refine c_nil ?_
  have hE39 := hE38.sub (L' := [(2, .pointer (some ⟨b5, 0, none⟩)), (3, .pointer (some ⟨b11, 0, none⟩)), (6, .int .i64 (F_l07Two mp0 mp1 mp2 np0 np1 np2)), (11, .bool (!decide ((F_l07Two mp0 mp1 mp2 np0 np1 np2) = 0)))]) ⟨rfl, rfl, rfl, rfl, trivial⟩; clear hE38
  refine p_tn ?_
  refine c_cond hE39 rfl (fun ht40 => ?_) (fun ht40 => ?_)
  ·
    have ht41 := bn_t ht40
    have hp42 := of_decide_eq_false ht41
    have hE43 := hE39; rw [ht40] at hE43; clear hE39
    refine c_seq ?_
    refine c_reg ?_
    refine q_step (v := .int .i64 (F_l07Two mp0 mp1 mp2 np0 np1 np2)) hE43 (y_move rfl) rfl rfl rfl ?_; intro a44 hE45; clear hE43
    refine q_step (v := .slice none 0 0) hE45 (y_assign rfl) rfl rfl rfl ?_; intro a46 hE47; clear hE45
    refine q_step (v := .int .i64 (F_l07Two mp0 mp1 mp2 np0 np1 np2)) hE47 (y_assign rfl) rfl rfl rfl ?_; intro a48 hE49; clear hE47
    refine c_nil ?_
    have hE50 := hE49.sub (L' := [(4, .slice none 0 0), (5, .int .i64 (F_l07Two mp0 mp1 mp2 np0 np1 np2))]) ⟨rfl, rfl, trivial⟩; clear hE49
    refine p_tn ?_
    refine wp_ret ?_
    refine p_tr ?_
    have hF : F_s_GreatestBisimulation mp0 mp1 mp2 np0 np1 np2 = ([], F_l07Two mp0 mp1 mp2 np0 np1 np2) := by unfold F_s_GreatestBisimulation; rw [ht40]; first | done | rfl
    refine c_ret2 hE50 rfl rfl rfl ?_
    exact ⟨none, 0, (by rw [hF]; first | done | (dsimp only; done) | rfl), (by rw [hF]; (try dsimp only); exact OwnS.nilS _ _ _ _), hS30.ext⟩
  ·
    have ht51 := bn_f ht40
    have hp52 := of_decide_eq_true ht51
    have hq53 := l07Two_t hp52
    have hE54 := hE39; rw [ht40] at hE54; clear hE39
    refine wp_skip ?_
    refine p_tn ?_
    refine c_seq ?_
    refine c_reg ?_
    refine q_step (v := .agg #[.int .i64 mp0, .slice mp1A mp1.length mp1C, .slice mp2A mp2.length mp2C]) hE54 (y_loadS Try.underlying32 rfl (by kernel_rfl) rfl (St.row (i := 1) hS30 rfl)) rfl rfl rfl ?_; intro a55 hE56; clear hE54
    refine q_step (v := .agg #[.int .i64 np0, .slice np1A np1.length np1C, .slice np2A np2.length np2C]) hE56 (y_loadS Try.underlying32 rfl (by kernel_rfl) rfl (St.row (i := 0) hS30 rfl)) rfl rfl rfl ?_; intro a57 hE58; clear hE56
    refine l_step hE58 rfl (l_call (f := 81) (argv := [.agg #[.int .i64 mp0, .slice mp1A mp1.length mp1C, .slice mp2A mp2.length mp2C], .agg #[.int .i64 np0, .slice np1A np1.length np1C, .slice np2A np2.length np2C]]) hE58 (fun _ => cf_l07Greatest _ _) rfl rfl (c_l07Greatest mp0 mp1A mp1.length mp1C mp1 mp2A mp2.length mp2C mp2 np0 np1A np1.length np1C np1 np2A np2.length np2C np2 w27 (St.rdR (i := 5) hS30 rfl) (St.rdR (i := 4) hS30 rfl) (St.rdR (i := 3) hS30 rfl) (St.rdR (i := 2) hS30 rfl) (by omega) (by omega) (by omega) (by omega) (by omega) (by omega)) ?_)
    rintro _ w60 ⟨b65, c66, rfl, ho67, he64⟩ a61 hE62; clear hE58
    have hS63 := St.own hS30 he64 ho67; clear hS30
    refine q_step (v := .slice b65 ((F_l07Greatest mp0 mp1 mp2 np0 np1 np2).length) c66) hE62 (y_assign rfl) rfl rfl rfl ?_; intro a68 hE69; clear hE62
    refine q_step (v := .int .i64 0) hE69 (y_assign rfl) rfl rfl rfl ?_; intro a70 hE71; clear hE69
    refine c_nil ?_
    have hE72 := hE71.sub (L' := [(4, .slice b65 ((F_l07Greatest mp0 mp1 mp2 np0 np1 np2).length) c66), (5, .int .i64 0)]) ⟨rfl, rfl, trivial⟩; clear hE71
    refine p_tn ?_
    refine wp_ret ?_
    have hF : F_s_GreatestBisimulation mp0 mp1 mp2 np0 np1 np2 = (F_l07Greatest mp0 mp1 mp2 np0 np1 np2, 0) := by unfold F_s_GreatestBisimulation; rw [ht40]; first | done | rfl
    refine c_ret2 hE72 rfl rfl rfl ?_
    exact ⟨b65, c66, (by rw [hF]; first | done | (dsimp only; done) | rfl), (by rw [hF]; (try dsimp only); exact hS63.ok 0 _ rfl), hS63.ext⟩

def F_bisimilar (mp0 : Int) (mp1 : List Int) (mp2 : List Int) (np0 : Int) (np1 : List Int) (np2 : List Int) : List Int :=
  gL (F_bounded mp0 mp1 mp2 np0 np1 np2 16) 16
theorem cf_bisimilar (args : Array Value) (w : World) : (callFunc 84 args).run Try.prog w = .ok (.enter 84 args) w := by kernel_rfl
set_option maxRecDepth 100000 in
theorem c_bisimilar (mp0 : Int) (mp1A : Option Addr) (mp1N mp1C : Nat) (mp1 : List Int) (mp2A : Option Addr) (mp2N mp2C : Nat) (mp2 : List Int) (np0 : Int) (np1A : Option Addr) (np1N np1C : Nat) (np1 : List Int) (np2A : Option Addr) (np2N np2C : Nat) (np2 : List Int) (w : World) (mp1R : RdS w 1 mp1A mp1N mp1C mp1) (mp2R : RdS w 1 mp2A mp2N mp2C mp2) (np1R : RdS w 1 np1A np1N np1C np1) (np2R : RdS w 1 np2A np2N np2C np2) (h6mp : (mp2.length : Int) = 6) (hwmp : 0 ≤ mp0 ∧ mp0 ≤ 8) (hlmp : (mp1.length : Int) = mp0) (h6np : (np2.length : Int) = 6) (hwnp : 0 ≤ np0 ∧ np0 ≤ 8) (hlnp : (np1.length : Int) = np0) (hfm : ∀ m : Int, 0 ≤ m → m < (mp1.length : Int) → 0 ≤ gI mp1 m ∧ gI mp1 m ≤ fullI mp0) :
    Calls Try.prog 84 #[.agg #[.int .i64 mp0, .slice mp1A mp1N mp1C, .slice mp2A mp2N mp2C], .agg #[.int .i64 np0, .slice np1A np1N np1C, .slice np2A np2N np2C]] w (Ret fun v w' => ∃ b1 : Option Addr, ∃ c1 : Nat, v = .slice b1 (F_bisimilar mp0 mp1 mp2 np0 np1 np2).length c1 ∧ OwnS w' w.heap.size 2 1 b1 (F_bisimilar mp0 mp1 mp2 np0 np1 np2).length c1 (F_bisimilar mp0 mp1 mp2 np0 np1 np2) ∧ Ext w w') := by
  obtain rfl : mp1N = mp1.length := mp1R.len1.symm
  have mp1Le := mp1R.le
  obtain rfl : mp2N = mp2.length := mp2R.len1.symm
  have mp2Le := mp2R.le
  obtain rfl : np1N = np1.length := np1R.len1.symm
  have np1Le := np1R.le
  obtain rfl : np2N = np2.length := np2R.len1.symm
  have np2Le := np2R.le
  have hS := St.nil w
  have hS1 := St.rd0 hS rfl mp1R; clear hS
  have hS2 := St.rd0 hS1 rfl mp2R; clear hS1
  have hS3 := St.rd0 hS2 rfl np1R; clear hS2
  have hS4 := St.rd0 hS3 rfl np2R; clear hS3
  refine enter (args := [.agg #[.int .i64 mp0, .slice mp1A mp1.length mp1C, .slice mp2A mp2.length mp2C], .agg #[.int .i64 np0, .slice np1A np1.length np1C, .slice np2A np2.length np2C]]) Try.func84 rfl rfl ?_
  rw [Try.ntmps84]; intro a hE
  have hE := hE.sub (L' := [(0, .agg #[.int .i64 mp0, .slice mp1A mp1.length mp1C, .slice mp2A mp2.length mp2C]), (1, .agg #[.int .i64 np0, .slice np1A np1.length np1C, .slice np2A np2.length np2C])]) ⟨rfl, rfl, trivial⟩
  refine c_seq ?_
  refine c_reg ?_
  refine l_step hE rfl (l_box (v := .agg #[.int .i64 mp0, .slice mp1A mp1.length mp1C, .slice mp2A mp2.length mp2C]) (cs := #[.int .i64 mp0, .slice mp1A mp1.length mp1C, .slice mp2A mp2.length mp2C]) hS4 hE rfl rfl rfl ?_)
  intro b5 w6 hS9 he10 a7 hE8; clear hS4 hE
  refine l_step hE8 rfl (l_box (v := .agg #[.int .i64 np0, .slice np1A np1.length np1C, .slice np2A np2.length np2C]) (cs := #[.int .i64 np0, .slice np1A np1.length np1C, .slice np2A np2.length np2C]) hS9 hE8 rfl rfl rfl ?_)
  intro b11 w12 hS15 he16 a13 hE14; clear hS9 hE8
  refine q_step (v := .slice none 0 0) hE14 (y_assign rfl) rfl rfl rfl ?_; intro a17 hE18; clear hE14
  refine c_nil ?_
  have hE19 := hE18.sub (L' := [(2, .pointer (some ⟨b5, 0, none⟩)), (3, .pointer (some ⟨b11, 0, none⟩))]) ⟨rfl, rfl, trivial⟩; clear hE18
  refine p_tn ?_
  refine c_seq ?_
  refine c_reg ?_
  refine q_step (v := .agg #[.int .i64 mp0, .slice mp1A mp1.length mp1C, .slice mp2A mp2.length mp2C]) hE19 (y_loadS Try.underlying32 rfl (by kernel_rfl) rfl (St.row (i := 1) hS15 rfl)) rfl rfl rfl ?_; intro a20 hE21; clear hE19
  refine q_step (v := .agg #[.int .i64 np0, .slice np1A np1.length np1C, .slice np2A np2.length np2C]) hE21 (y_loadS Try.underlying32 rfl (by kernel_rfl) rfl (St.row (i := 0) hS15 rfl)) rfl rfl rfl ?_; intro a22 hE23; clear hE21
  refine l_step hE23 rfl (l_call (f := 88) (argv := [.agg #[.int .i64 mp0, .slice mp1A mp1.length mp1C, .slice mp2A mp2.length mp2C], .agg #[.int .i64 np0, .slice np1A np1.length np1C, .slice np2A np2.length np2C], .int .i64 16]) hE23 (fun _ => cf_bounded _ _) rfl rfl (c_bounded mp0 mp1A mp1.length mp1C mp1 mp2A mp2.length mp2C mp2 np0 np1A np1.length np1C np1 np2A np2.length np2C np2 16 w12 (St.rdR (i := 5) hS15 rfl) (St.rdR (i := 4) hS15 rfl) (St.rdR (i := 3) hS15 rfl) (St.rdR (i := 2) hS15 rfl) (by omega) (by omega) (by omega) (by omega) (by omega) (by omega) (by omega) (by omega)) ?_)
  rintro _ w25 ⟨b30, c31, h32, rfl, ho33, he29⟩ a26 hE27; clear hE23
  have hbl := bounded_len (np1 := np1) (np2 := np2) (mp0 := mp0) (np0 := np0) (mp1 := mp1) (mp2 := mp2) (by omega) (by omega) (by omega) (by omega) (fun m h0 h1 => hfm m h0 (by omega)) (k := 16) (by omega)
  have hS28 := St.ownN hS15 he29 ho33; clear hS15
  refine q_step (v := .pointer (some (adr b30 (Int.toNat 16)))) hE27 (y_idx (by kernel_rfl) (fun _ => by kernel_rfl) rfl rfl (RdN.isS (m := 16) (St.rdNo (i := 0) hS28 rfl) (by omega) (by omega)) (by omega) (by omega) (Nat.mul_one _).symm) rfl rfl rfl ?_; intro a34 hE35; clear hE27
  have hv36 : (0 : Int) ≤ 16 ∧ 16 < ((F_bounded mp0 mp1 mp2 np0 np1 np2 16).length : Int) := ⟨(by omega), (by omega)⟩
  refine q_step (v := .slice (hdA h32 16) ((gL (F_bounded mp0 mp1 mp2 np0 np1 np2 16) 16).length) (hdC h32 16)) hE35 (y_load (fun _ => by kernel_rfl) rfl (RdN.elt1 (St.rdNo (i := 0) hS28 rfl) (by omega) (by omega))) rfl rfl rfl ?_; intro a38 hE39; clear hE35
  refine q_step (v := .slice (hdA h32 16) ((gL (F_bounded mp0 mp1 mp2 np0 np1 np2 16) 16).length) (hdC h32 16)) hE39 (y_assign rfl) rfl rfl rfl ?_; intro a40 hE41; clear hE39
  refine c_nil ?_
  have hE42 := hE41.sub (L' := [(4, .slice (hdA h32 16) ((gL (F_bounded mp0 mp1 mp2 np0 np1 np2 16) 16).length) (hdC h32 16))]) ⟨rfl, trivial⟩; clear hE41
  refine p_tn ?_
  refine wp_ret ?_
  have hF : F_bisimilar mp0 mp1 mp2 np0 np1 np2 = gL (F_bounded mp0 mp1 mp2 np0 np1 np2 16) 16 := by unfold F_bisimilar; rfl
  refine c_ret1 hE42 rfl rfl ?_
  exact ⟨hdA h32 16, hdC h32 16, (by rw [hF]; first | done | (dsimp only; done) | rfl), (by rw [hF]; (try dsimp only); exact St.rowOwn (i := 0) hS28 rfl hv36.1 hv36.2 (by decide) (Nat.div_one _)), hS28.ext⟩

def F_GreatestBisimulation (mp0 : Int) (mp1 : List Int) (mp2 : List Int) (np0 : Int) (np1 : List Int) (np2 : List Int) : (List Int) × (Int) :=
  bif ((!(F_isModel mp0 mp1 mp2)) || (!(F_isModel np0 np1 np2))) then ([], 1) else (F_bisimilar mp0 mp1 mp2 np0 np1 np2, 0)
theorem cf_GreatestBisimulation (args : Array Value) (w : World) : (callFunc 18 args).run Try.prog w = .ok (.enter 18 args) w := by kernel_rfl
set_option maxRecDepth 100000 in
theorem c_GreatestBisimulation (mp0 : Int) (mp1A : Option Addr) (mp1N mp1C : Nat) (mp1 : List Int) (mp2A : Option Addr) (mp2N mp2C : Nat) (mp2 : List Int) (np0 : Int) (np1A : Option Addr) (np1N np1C : Nat) (np1 : List Int) (np2A : Option Addr) (np2N np2C : Nat) (np2 : List Int) (w : World) (mp1R : RdS w 1 mp1A mp1N mp1C mp1) (mp2R : RdS w 1 mp2A mp2N mp2C mp2) (np1R : RdS w 1 np1A np1N np1C np1) (np2R : RdS w 1 np2A np2N np2C np2) :
    Calls Try.prog 18 #[.agg #[.int .i64 mp0, .slice mp1A mp1N mp1C, .slice mp2A mp2N mp2C], .agg #[.int .i64 np0, .slice np1A np1N np1C, .slice np2A np2N np2C]] w (Ret fun v w' => ∃ b1 : Option Addr, ∃ c1 : Nat, v = .tuple #[.slice b1 ((F_GreatestBisimulation mp0 mp1 mp2 np0 np1 np2).1).length c1, .int .i64 ((F_GreatestBisimulation mp0 mp1 mp2 np0 np1 np2).2)] ∧ OwnS w' w.heap.size 2 1 b1 ((F_GreatestBisimulation mp0 mp1 mp2 np0 np1 np2).1).length c1 ((F_GreatestBisimulation mp0 mp1 mp2 np0 np1 np2).1) ∧ Ext w w') := by
  obtain rfl : mp1N = mp1.length := mp1R.len1.symm
  have mp1Le := mp1R.le
  obtain rfl : mp2N = mp2.length := mp2R.len1.symm
  have mp2Le := mp2R.le
  obtain rfl : np1N = np1.length := np1R.len1.symm
  have np1Le := np1R.le
  obtain rfl : np2N = np2.length := np2R.len1.symm
  have np2Le := np2R.le
  have hS := St.nil w
  have hS1 := St.rd0 hS rfl mp1R; clear hS
  have hS2 := St.rd0 hS1 rfl mp2R; clear hS1
  have hS3 := St.rd0 hS2 rfl np1R; clear hS2
  have hS4 := St.rd0 hS3 rfl np2R; clear hS3
  refine enter (args := [.agg #[.int .i64 mp0, .slice mp1A mp1.length mp1C, .slice mp2A mp2.length mp2C], .agg #[.int .i64 np0, .slice np1A np1.length np1C, .slice np2A np2.length np2C]]) Try.func18 rfl rfl ?_
  rw [Try.ntmps18]; intro a hE
  have hE := hE.sub (L' := [(0, .agg #[.int .i64 mp0, .slice mp1A mp1.length mp1C, .slice mp2A mp2.length mp2C]), (1, .agg #[.int .i64 np0, .slice np1A np1.length np1C, .slice np2A np2.length np2C])]) ⟨rfl, rfl, trivial⟩
  refine c_seq ?_
  refine c_reg ?_
  refine l_step hE rfl (l_box (v := .agg #[.int .i64 mp0, .slice mp1A mp1.length mp1C, .slice mp2A mp2.length mp2C]) (cs := #[.int .i64 mp0, .slice mp1A mp1.length mp1C, .slice mp2A mp2.length mp2C]) hS4 hE rfl rfl rfl ?_)
  intro b5 w6 hS9 he10 a7 hE8; clear hS4 hE
  refine l_step hE8 rfl (l_box (v := .agg #[.int .i64 np0, .slice np1A np1.length np1C, .slice np2A np2.length np2C]) (cs := #[.int .i64 np0, .slice np1A np1.length np1C, .slice np2A np2.length np2C]) hS9 hE8 rfl rfl rfl ?_)
  intro b11 w12 hS15 he16 a13 hE14; clear hS9 hE8
  refine q_step (v := .slice none 0 0) hE14 (y_assign rfl) rfl rfl rfl ?_; intro a17 hE18; clear hE14
  refine q_step (v := .int .i64 0) hE18 (y_assign rfl) rfl rfl rfl ?_; intro a19 hE20; clear hE18
  refine c_nil ?_
  have hE21 := hE20.sub (L' := [(2, .pointer (some ⟨b5, 0, none⟩)), (3, .pointer (some ⟨b11, 0, none⟩))]) ⟨rfl, rfl, trivial⟩; clear hE20
  refine p_tn ?_
  refine c_seq ?_
  refine c_cut (fun a' w' => E a' 17 [(2, .pointer (some ⟨b5, 0, none⟩)), (3, .pointer (some ⟨b11, 0, none⟩)), (13, .bool ((!(F_isModel mp0 mp1 mp2)) || (!(F_isModel np0 np1 np2))))] ∧ St w w' [.rd 1 np1A np1.length np1C np1, .rd 1 np2A np2.length np2C np2, .blk b11 #[.int .i64 np0, .slice np1A np1.length np1C, .slice np2A np2.length np2C] 32, .rd 1 mp1A mp1.length mp1C mp1, .rd 1 mp2A mp2.length mp2C mp2, .blk b5 #[.int .i64 mp0, .slice mp1A mp1.length mp1C, .slice mp2A mp2.length mp2C] 32]) ?_ ?_
  ·
    refine c_reg ?_
    refine q_step (v := .agg #[.int .i64 mp0, .slice mp1A mp1.length mp1C, .slice mp2A mp2.length mp2C]) hE21 (y_loadS Try.underlying32 rfl (by kernel_rfl) rfl (St.row (i := 1) hS15 rfl)) rfl rfl rfl ?_; intro a22 hE23; clear hE21
    refine l_step hE23 rfl (l_call (f := 83) (argv := [.agg #[.int .i64 mp0, .slice mp1A mp1.length mp1C, .slice mp2A mp2.length mp2C]]) hE23 (fun _ => cf_isModel _ _) rfl rfl (c_isModel mp0 mp1A mp1.length mp1C mp1 mp2A mp2.length mp2C mp2 w12 (St.rdR (i := 5) hS15 rfl) (St.rdR (i := 4) hS15 rfl)) ?_)
    rintro _ w25 ⟨rfl, he29⟩ a26 hE27; clear hE23
    have hS28 := St.go hS15 he29; clear hS15
    refine q_step (v := .bool (!(F_isModel mp0 mp1 mp2))) hE27 (y_not rfl) rfl rfl rfl ?_; intro a30 hE31; clear hE27
    refine q_step (v := .bool (!(F_isModel mp0 mp1 mp2))) hE31 (y_move rfl) rfl rfl rfl ?_; intro a32 hE33; clear hE31
    rcases Bool.eq_false_or_eq_true (!(F_isModel mp0 mp1 mp2)) with hb34 | hb34
    ·
      have hE35 := hE33; (try rw [hb34] at hE35); clear hE33
      have ht36 := bn_t hb34
      refine q_skip hE35 rfl rfl rfl ?_; intro a37 hE38; clear hE35
      refine q_skip hE38 rfl rfl rfl ?_; intro a39 hE40; clear hE38
      refine q_skip hE40 rfl rfl rfl ?_; intro a41 hE42; clear hE40
      refine q_step (v := .bool true) hE42 (y_pick (b := true) rfl rfl) rfl rfl rfl ?_; intro a43 hE44; clear hE42
      refine c_nil ?_
      have hE45 := hE44.sub (L' := [(2, .pointer (some ⟨b5, 0, none⟩)), (3, .pointer (some ⟨b11, 0, none⟩)), (13, .bool true)]) ⟨rfl, rfl, rfl, trivial⟩; clear hE44
      refine p_tn ?_
      have hE46 := hE45.sub (L' := [(2, .pointer (some ⟨b5, 0, none⟩)), (3, .pointer (some ⟨b11, 0, none⟩)), (13, .bool true)]) ⟨rfl, rfl, rfl, trivial⟩
      have hS47 := (St.pick (Γ' := [.rd 1 np1A np1.length np1C np1, .rd 1 np2A np2.length np2C np2, .blk b11 #[.int .i64 np0, .slice np1A np1.length np1C, .slice np2A np2.length np2C] 32, .rd 1 mp1A mp1.length mp1C mp1, .rd 1 mp2A mp2.length mp2C mp2, .blk b5 #[.int .i64 mp0, .slice mp1A mp1.length mp1C, .slice mp2A mp2.length mp2C] 32]) hS28 [3, 2, 0, 5, 4, 1] (by decide) rfl)
      exact ⟨(by rw [hb34]; exact hE46), hS47⟩
    ·
      have hE48 := hE33; (try rw [hb34] at hE48); clear hE33
      have ht49 := bn_f hb34
      have hp50 := isModel_t ht49
      refine q_step (v := .agg #[.int .i64 np0, .slice np1A np1.length np1C, .slice np2A np2.length np2C]) hE48 (y_loadS Try.underlying32 rfl (by kernel_rfl) rfl (St.row (i := 0) hS28 rfl)) rfl rfl rfl ?_; intro a51 hE52; clear hE48
      refine l_step hE52 rfl (l_call (f := 83) (argv := [.agg #[.int .i64 np0, .slice np1A np1.length np1C, .slice np2A np2.length np2C]]) hE52 (fun _ => cf_isModel _ _) rfl rfl (c_isModel np0 np1A np1.length np1C np1 np2A np2.length np2C np2 w25 (St.rdR (i := 3) hS28 rfl) (St.rdR (i := 2) hS28 rfl)) ?_)
      rintro _ w54 ⟨rfl, he58⟩ a55 hE56; clear hE52
      have hS57 := St.go hS28 he58; clear hS28
      refine q_step (v := .bool (!(F_isModel np0 np1 np2))) hE56 (y_not rfl) rfl rfl rfl ?_; intro a59 hE60; clear hE56
      refine q_step (v := .bool (!(F_isModel np0 np1 np2))) hE60 (y_pick (b := false) rfl rfl) rfl rfl rfl ?_; intro a61 hE62; clear hE60
      refine c_nil ?_
      have hE63 := hE62.sub (L' := [(2, .pointer (some ⟨b5, 0, none⟩)), (3, .pointer (some ⟨b11, 0, none⟩)), (13, .bool (!(F_isModel np0 np1 np2)))]) ⟨rfl, rfl, rfl, trivial⟩; clear hE62
      refine p_tn ?_
      have hE64 := hE63.sub (L' := [(2, .pointer (some ⟨b5, 0, none⟩)), (3, .pointer (some ⟨b11, 0, none⟩)), (13, .bool (!(F_isModel np0 np1 np2)))]) ⟨rfl, rfl, rfl, trivial⟩
      have hS65 := (St.pick (Γ' := [.rd 1 np1A np1.length np1C np1, .rd 1 np2A np2.length np2C np2, .blk b11 #[.int .i64 np0, .slice np1A np1.length np1C, .slice np2A np2.length np2C] 32, .rd 1 mp1A mp1.length mp1C mp1, .rd 1 mp2A mp2.length mp2C mp2, .blk b5 #[.int .i64 mp0, .slice mp1A mp1.length mp1C, .slice mp2A mp2.length mp2C] 32]) hS57 [3, 2, 0, 5, 4, 1] (by decide) rfl)
      exact ⟨(by rw [hb34]; exact hE64), hS65⟩
  ·
    rintro a66 w67 ⟨hE68, hS69⟩; clear hE21 hS15
    refine c_cond hE68 rfl (fun ht71 => ?_) (fun ht71 => ?_)
    ·
      have hE72 := hE68; rw [ht71] at hE72; clear hE68
      refine c_seq ?_
      refine c_reg ?_
      refine q_step (v := .slice none 0 0) hE72 (y_assign rfl) rfl rfl rfl ?_; intro a73 hE74; clear hE72
      refine q_step (v := .int .i64 1) hE74 (y_assign rfl) rfl rfl rfl ?_; intro a75 hE76; clear hE74
      refine c_nil ?_
      have hE77 := hE76.sub (L' := [(4, .slice none 0 0), (5, .int .i64 1)]) ⟨rfl, rfl, trivial⟩; clear hE76
      refine p_tn ?_
      refine wp_ret ?_
      refine p_tr ?_
      have hF : F_GreatestBisimulation mp0 mp1 mp2 np0 np1 np2 = ([], 1) := by unfold F_GreatestBisimulation; rw [ht71]; first | done | rfl
      refine c_ret2 hE77 rfl rfl rfl ?_
      exact ⟨none, 0, (by rw [hF]; first | done | (dsimp only; done) | rfl), (by rw [hF]; (try dsimp only); exact OwnS.nilS _ _ _ _), hS69.ext⟩
    ·
      obtain ⟨ht78, ht79⟩ := bor_f ht71
      have ht80 := bn_f ht78
      have hp81 := isModel_t ht80
      have ht82 := bn_f ht79
      have hp83 := isModel_t ht82
      have hE84 := hE68; rw [ht71] at hE84; clear hE68
      refine wp_skip ?_
      refine p_tn ?_
      refine c_seq ?_
      refine c_reg ?_
      refine q_step (v := .agg #[.int .i64 mp0, .slice mp1A mp1.length mp1C, .slice mp2A mp2.length mp2C]) hE84 (y_loadS Try.underlying32 rfl (by kernel_rfl) rfl (St.row (i := 5) hS69 rfl)) rfl rfl rfl ?_; intro a85 hE86; clear hE84
      refine q_step (v := .agg #[.int .i64 np0, .slice np1A np1.length np1C, .slice np2A np2.length np2C]) hE86 (y_loadS Try.underlying32 rfl (by kernel_rfl) rfl (St.row (i := 2) hS69 rfl)) rfl rfl rfl ?_; intro a87 hE88; clear hE86
      refine l_step hE88 rfl (l_call (f := 84) (argv := [.agg #[.int .i64 mp0, .slice mp1A mp1.length mp1C, .slice mp2A mp2.length mp2C], .agg #[.int .i64 np0, .slice np1A np1.length np1C, .slice np2A np2.length np2C]]) hE88 (fun _ => cf_bisimilar _ _) rfl rfl (c_bisimilar mp0 mp1A mp1.length mp1C mp1 mp2A mp2.length mp2C mp2 np0 np1A np1.length np1C np1 np2A np2.length np2C np2 w67 (St.rdR (i := 3) hS69 rfl) (St.rdR (i := 4) hS69 rfl) (St.rdR (i := 0) hS69 rfl) (St.rdR (i := 1) hS69 rfl) (by omega) (by omega) (by omega) (by omega) (by omega) (by omega) (l05Is_m (isModel_t (by assumption)).1)) ?_)
      rintro _ w90 ⟨b95, c96, rfl, ho97, he94⟩ a91 hE92; clear hE88
      have hS93 := St.own hS69 he94 ho97; clear hS69
      refine q_step (v := .slice b95 ((F_bisimilar mp0 mp1 mp2 np0 np1 np2).length) c96) hE92 (y_assign rfl) rfl rfl rfl ?_; intro a98 hE99; clear hE92
      refine q_step (v := .int .i64 0) hE99 (y_assign rfl) rfl rfl rfl ?_; intro a100 hE101; clear hE99
      refine c_nil ?_
      have hE102 := hE101.sub (L' := [(4, .slice b95 ((F_bisimilar mp0 mp1 mp2 np0 np1 np2).length) c96), (5, .int .i64 0)]) ⟨rfl, rfl, trivial⟩; clear hE101
      refine p_tn ?_
      refine wp_ret ?_
      have hF : F_GreatestBisimulation mp0 mp1 mp2 np0 np1 np2 = (F_bisimilar mp0 mp1 mp2 np0 np1 np2, 0) := by unfold F_GreatestBisimulation; rw [ht71]; first | done | rfl
      refine c_ret2 hE102 rfl rfl rfl ?_
      exact ⟨b95, c96, (by rw [hF]; first | done | (dsimp only; done) | rfl), (by rw [hF]; (try dsimp only); exact hS93.ok 0 _ rfl), hS93.ext⟩

theorem GreatestBisimulation_eq (mp0 : Int) (mp1 mp2 : List Int) (np0 : Int) (np1 np2 : List Int) : F_GreatestBisimulation mp0 mp1 mp2 np0 np1 np2 = F_s_GreatestBisimulation mp0 mp1 mp2 np0 np1 np2 ∧ (F_GreatestBisimulation mp0 mp1 mp2 np0 np1 np2).1.length ≤ 8 := by
  unfold F_GreatestBisimulation F_s_GreatestBisimulation
  rw [isModel_eq, isModel_eq, show F_l07Two mp0 mp1 mp2 np0 np1 np2 = bif ((!(F_l06Is mp0 mp1 mp2)) || (!(F_l06Is np0 np1 np2))) then 1 else 0 from rfl]
  cases h : ((!(F_l06Is mp0 mp1 mp2)) || (!(F_l06Is np0 np1 np2)))
  · obtain ⟨h1, h2⟩ := bor_f h
    have hM := l06Is_t (bn_f h1)
    have hN := l06Is_t (bn_f h2)
    have hat := bounded_at (np1 := np1) hM.2.1.1 hN.2.1.1 hM.2.2.1 hN.2.2.1 (fun m h0 h1 => l05Is_m hM.1 m h0 (by omega)) (k := 16) (by decide) (by decide)
    rw [cond_false, cond_false, show decide ((0 : Int) = 0) = true from rfl, Bool.not_true, cond_false]
    unfold F_bisimilar F_l07Greatest
    rw [hat.1]
    have hl := hat.2
    generalize gL (F_l07Bounded mp0 mp1 mp2 np0 np1 np2) 16 = l at hl ⊢
    exact ⟨rfl, show l.length ≤ 8 by omega⟩
  · rw [cond_true, cond_true, decide_eq_false (by decide), Bool.not_false, cond_true]
    exact ⟨rfl, Nat.zero_le _⟩
theorem GreatestBisimulation_len (mp0 : Int) (mp1 mp2 : List Int) (np0 : Int) (np1 np2 : List Int) : (F_GreatestBisimulation mp0 mp1 mp2 np0 np1 np2).1.length ≤ 8 := (GreatestBisimulation_eq mp0 mp1 mp2 np0 np1 np2).2


end Go.Proofs.Ytlbonhloeefnmaa
