/- GBK: models and contracts, printed by wip/gen/gen.py -/
import Derived.Test.YtlbonhloeefnmaaGBB
set_option linter.unusedVariables false
set_option linter.unusedSimpArgs false
namespace Go.Proofs.Ytlbonhloeefnmaa
open Go.RowKit

def F_s_BoundedBisimulation (mp0 : Int) (mp1 : List Int) (mp2 : List Int) (np0 : Int) (np1 : List Int) (np2 : List Int) (kp : Int) : (List Int) × (Int) :=
  bif (!decide ((F_l07Two mp0 mp1 mp2 np0 np1 np2) = 0)) then ([], F_l07Two mp0 mp1 mp2 np0 np1 np2) else (bif (!(F_l01In kp 0 16)) then ([], 2) else (gL (F_l07Bounded mp0 mp1 mp2 np0 np1 np2) kp, 0))
theorem cf_s_BoundedBisimulation (args : Array Value) (w : World) : (callFunc 24 args).run Try.prog w = .ok (.enter 24 args) w := by kernel_rfl
set_option maxRecDepth 100000 in
theorem c_s_BoundedBisimulation (mp0 : Int) (mp1A : Option Addr) (mp1N mp1C : Nat) (mp1 : List Int) (mp2A : Option Addr) (mp2N mp2C : Nat) (mp2 : List Int) (np0 : Int) (np1A : Option Addr) (np1N np1C : Nat) (np1 : List Int) (np2A : Option Addr) (np2N np2C : Nat) (np2 : List Int) (kp : Int) (w : World) (mp1R : RdS w 1 mp1A mp1N mp1C mp1) (mp2R : RdS w 1 mp2A mp2N mp2C mp2) (np1R : RdS w 1 np1A np1N np1C np1) (np2R : RdS w 1 np2A np2N np2C np2) :
    Calls Try.prog 24 #[.agg #[.int .i64 mp0, .slice mp1A mp1N mp1C, .slice mp2A mp2N mp2C], .agg #[.int .i64 np0, .slice np1A np1N np1C, .slice np2A np2N np2C], .int .i64 kp] w (Ret fun v w' => ∃ b1 : Option Addr, ∃ c1 : Nat, v = .tuple #[.slice b1 ((F_s_BoundedBisimulation mp0 mp1 mp2 np0 np1 np2 kp).1).length c1, .int .i64 ((F_s_BoundedBisimulation mp0 mp1 mp2 np0 np1 np2 kp).2)] ∧ OwnS w' w.heap.size 2 1 b1 ((F_s_BoundedBisimulation mp0 mp1 mp2 np0 np1 np2 kp).1).length c1 ((F_s_BoundedBisimulation mp0 mp1 mp2 np0 np1 np2 kp).1) ∧ Ext w w') := by
  obtain rfl : mp1N = mp1.length := mp1R.len1.symm
  have mp1Le := mp1R.le
  obtain rfl : mp2N = mp2.length := mp2R.len1.symm
  have mp2Le := mp2R.le
  obtain rfl : np1N = np1.length := np1R.len1.symm
  have np1Le := np1R.le
  obtain rfl : np2N = np2.length := np2R.len1.symm
  have np2Le := np2R.le
  have hS := St.nil w
  have hS1 := St.rd0 hS rfl mp1R; clear hS
  have hS2 := St.rd0 hS1 rfl mp2R; clear hS1
  have hS3 := St.rd0 hS2 rfl np1R; clear hS2
  have hS4 := St.rd0 hS3 rfl np2R; clear hS3
  refine enter (args := [.agg #[.int .i64 mp0, .slice mp1A mp1.length mp1C, .slice mp2A mp2.length mp2C], .agg #[.int .i64 np0, .slice np1A np1.length np1C, .slice np2A np2.length np2C], .int .i64 kp]) Try.func24 rfl rfl ?_
  rw [Try.ntmps24]; intro a hE
  have hE := hE.sub (L' := [(0, .agg #[.int .i64 mp0, .slice mp1A mp1.length mp1C, .slice mp2A mp2.length mp2C]), (1, .agg #[.int .i64 np0, .slice np1A np1.length np1C, .slice np2A np2.length np2C]), (2, .int .i64 kp)]) ⟨rfl, rfl, rfl, trivial⟩
  refine c_seq ?_
  refine c_reg ?_
  refine l_step hE rfl (l_box (v := .agg #[.int .i64 mp0, .slice mp1A mp1.length mp1C, .slice mp2A mp2.length mp2C]) (cs := #[.int .i64 mp0, .slice mp1A mp1.length mp1C, .slice mp2A mp2.length mp2C]) hS4 hE rfl rfl rfl ?_)
  intro b5 w6 hS9 he10 a7 hE8; clear hS4 hE
  refine l_step hE8 rfl (l_box (v := .agg #[.int .i64 np0, .slice np1A np1.length np1C, .slice np2A np2.length np2C]) (cs := #[.int .i64 np0, .slice np1A np1.length np1C, .slice np2A np2.length np2C]) hS9 hE8 rfl rfl rfl ?_)
  intro b11 w12 hS15 he16 a13 hE14; clear hS9 hE8
  refine q_step (v := .slice none 0 0) hE14 (y_assign rfl) rfl rfl rfl ?_; intro a17 hE18; clear hE14
  refine q_step (v := .int .i64 0) hE18 (y_assign rfl) rfl rfl rfl ?_; intro a19 hE20; clear hE18
  refine c_nil ?_
  have hE21 := hE20.sub (L' := [(2, .int .i64 kp), (3, .pointer (some ⟨b5, 0, none⟩)), (4, .pointer (some ⟨b11, 0, none⟩))]) ⟨rfl, rfl, rfl, trivial⟩; clear hE20
  refine p_tn ?_
  refine c_seq ?_
  refine c_seq ?_
  refine c_reg ?_
  refine q_step (v := .agg #[.int .i64 mp0, .slice mp1A mp1.length mp1C, .slice mp2A mp2.length mp2C]) hE21 (y_loadS Try.underlying32 rfl (by kernel_rfl) rfl (St.row (i := 1) hS15 rfl)) rfl rfl rfl ?_; intro a22 hE23; clear hE21
  refine q_step (v := .agg #[.int .i64 np0, .slice np1A np1.length np1C, .slice np2A np2.length np2C]) hE23 (y_loadS Try.underlying32 rfl (by kernel_rfl) rfl (St.row (i := 0) hS15 rfl)) rfl rfl rfl ?_; intro a24 hE25; clear hE23
  refine l_step hE25 rfl (l_call (f := 80) (argv := [.agg #[.int .i64 mp0, .slice mp1A mp1.length mp1C, .slice mp2A mp2.length mp2C], .agg #[.int .i64 np0, .slice np1A np1.length np1C, .slice np2A np2.length np2C]]) hE25 (fun _ => cf_l07Two _ _) rfl rfl (c_l07Two mp0 mp1A mp1.length mp1C mp1 mp2A mp2.length mp2C mp2 np0 np1A np1.length np1C np1 np2A np2.length np2C np2 w12 (St.rdR (i := 5) hS15 rfl) (St.rdR (i := 4) hS15 rfl) (St.rdR (i := 3) hS15 rfl) (St.rdR (i := 2) hS15 rfl)) ?_)
  rintro _ w27 ⟨rfl, he31⟩ a28 hE29; clear hE25
  have hS30 := St.go hS15 he31; clear hS15
  refine q_step (v := .int .i64 (F_l07Two mp0 mp1 mp2 np0 np1 np2)) hE29 (y_assign rfl) rfl rfl rfl ?_; intro a32 hE33; clear hE29
  refine c_nil ?_
  have hE34 := hE33.sub (L' := [(2, .int .i64 kp), (3, .pointer (some ⟨b5, 0, none⟩)), (4, .pointer (some ⟨b11, 0, none⟩)), (8, .int .i64 (F_l07Two mp0 mp1 mp2 np0 np1 np2))]) ⟨rfl, rfl, rfl, rfl, trivial⟩; clear hE33
  refine p_tn ?_
  refine c_seq ?_
  refine c_reg ?_
  refine q_step (v := .int .i64 (F_l07Two mp0 mp1 mp2 np0 np1 np2)) hE34 (y_move rfl) rfl rfl rfl ?_; intro a35 hE36; clear hE34
  refine q_step (v := .bool (!decide ((F_l07Two mp0 mp1 mp2 np0 np1 np2) = 0))) hE36 (y_neq rfl rfl) rfl rfl rfl ?_; intro a37 hE38; clear hE36
  refine c_nil ?_
  have hE39 := hE38.sub (L' := [(2, .int .i64 kp), (3, .pointer (some ⟨b5, 0, none⟩)), (4, .pointer (some ⟨b11, 0, none⟩)), (8, .int .i64 (F_l07Two mp0 mp1 mp2 np0 np1 np2)), (13, .bool (!decide ((F_l07Two mp0 mp1 mp2 np0 np1 np2) = 0)))]) ⟨rfl, rfl, rfl, rfl, rfl, trivial⟩; clear hE38
  refine p_tn ?_
  refine c_cond hE39 rfl (fun ht40 => ?_) (fun ht40 => ?_)
  ·
    have ht41 := bn_t ht40
    have hp42 := of_decide_eq_false ht41
    have hE43 := hE39; rw [ht40] at hE43; clear hE39
    refine c_seq ?_
    refine c_reg ?_
    refine q_step (v := .int .i64 (F_l07Two mp0 mp1 mp2 np0 np1 np2)) hE43 (y_move rfl) rfl rfl rfl ?_; intro a44 hE45; clear hE43
    refine q_step (v := .slice none 0 0) hE45 (y_assign rfl) rfl rfl rfl ?_; intro a46 hE47; clear hE45
    refine q_step (v := .int .i64 (F_l07Two mp0 mp1 mp2 np0 np1 np2)) hE47 (y_assign rfl) rfl rfl rfl ?_; intro a48 hE49; clear hE47
    refine c_nil ?_
    have hE50 := hE49.sub (L' := [(6, .slice none 0 0), (7, .int .i64 (F_l07Two mp0 mp1 mp2 np0 np1 np2))]) ⟨rfl, rfl, trivial⟩; clear hE49
    refine p_tn ?_
    refine wp_ret ?_
    refine p_tr ?_
    have hF : F_s_BoundedBisimulation mp0 mp1 mp2 np0 np1 np2 kp = ([], F_l07Two mp0 mp1 mp2 np0 np1 np2) := by unfold F_s_BoundedBisimulation; rw [ht40]; first | done | rfl
    refine c_ret2 hE50 rfl rfl rfl ?_
    exact ⟨none, 0, (by rw [hF]; first | done | (dsimp only; done) | rfl), (by rw [hF]; (try dsimp only); exact OwnS.nilS _ _ _ _), hS30.ext⟩
  ·
    have ht51 := bn_f ht40
    have hp52 := of_decide_eq_true ht51
    have hq53 := l07Two_t hp52
    have hE54 := hE39; rw [ht40] at hE54; clear hE39
    refine wp_skip ?_
    refine p_tn ?_
    refine c_seq ?_
    refine c_seq ?_
    refine c_reg ?_
    refine q_step (v := .int .i64 kp) hE54 (y_move rfl) rfl rfl rfl ?_; intro a55 hE56; clear hE54
    refine l_step hE56 rfl (l_call (f := 85) (argv := [.int .i64 kp, .int .i64 0, .int .i64 16]) hE56 (fun _ => cf_l01In _ _) rfl rfl (c_l01In kp 0 16 w27) ?_)
    rintro _ _ ⟨rfl, rfl⟩ a59 hE60; clear hE56
    refine q_step (v := .bool (!(F_l01In kp 0 16))) hE60 (y_not rfl) rfl rfl rfl ?_; intro a63 hE64; clear hE60
    refine c_nil ?_
    have hE65 := hE64.sub (L' := [(2, .int .i64 kp), (3, .pointer (some ⟨b5, 0, none⟩)), (4, .pointer (some ⟨b11, 0, none⟩)), (17, .bool (!(F_l01In kp 0 16)))]) ⟨rfl, rfl, rfl, rfl, trivial⟩; clear hE64
    refine p_tn ?_
    refine c_cond hE65 rfl (fun ht66 => ?_) (fun ht66 => ?_)
    ·
      have ht67 := bn_t ht66
      have hE68 := hE65; rw [ht66] at hE68; clear hE65
      refine c_seq ?_
      refine c_reg ?_
      refine q_step (v := .slice none 0 0) hE68 (y_assign rfl) rfl rfl rfl ?_; intro a69 hE70; clear hE68
      refine q_step (v := .int .i64 2) hE70 (y_assign rfl) rfl rfl rfl ?_; intro a71 hE72; clear hE70
      refine c_nil ?_
      have hE73 := hE72.sub (L' := [(6, .slice none 0 0), (7, .int .i64 2)]) ⟨rfl, rfl, trivial⟩; clear hE72
      refine p_tn ?_
      refine wp_ret ?_
      refine p_tr ?_
      have hF : F_s_BoundedBisimulation mp0 mp1 mp2 np0 np1 np2 kp = ([], 2) := by unfold F_s_BoundedBisimulation; rw [ht66, ht40]; first | done | rfl
      refine c_ret2 hE73 rfl rfl rfl ?_
      exact ⟨none, 0, (by rw [hF]; first | done | (dsimp only; done) | rfl), (by rw [hF]; (try dsimp only); exact OwnS.nilS _ _ _ _), hS30.ext⟩
    ·
      have ht74 := bn_f ht66
      have hp75 := F_l01In_t ht74
      have hE76 := hE65; rw [ht66] at hE76; clear hE65
      refine wp_skip ?_
      refine p_tn ?_
      refine c_seq ?_
      refine c_reg ?_
      refine q_step (v := .agg #[.int .i64 mp0, .slice mp1A mp1.length mp1C, .slice mp2A mp2.length mp2C]) hE76 (y_loadS Try.underlying32 rfl (by kernel_rfl) rfl (St.row (i := 1) hS30 rfl)) rfl rfl rfl ?_; intro a77 hE78; clear hE76
      refine q_step (v := .agg #[.int .i64 np0, .slice np1A np1.length np1C, .slice np2A np2.length np2C]) hE78 (y_loadS Try.underlying32 rfl (by kernel_rfl) rfl (St.row (i := 0) hS30 rfl)) rfl rfl rfl ?_; intro a79 hE80; clear hE78
      refine l_step hE80 rfl (l_call (f := 86) (argv := [.agg #[.int .i64 mp0, .slice mp1A mp1.length mp1C, .slice mp2A mp2.length mp2C], .agg #[.int .i64 np0, .slice np1A np1.length np1C, .slice np2A np2.length np2C]]) hE80 (fun _ => cf_l07Bounded _ _) rfl rfl (c_l07Bounded mp0 mp1A mp1.length mp1C mp1 mp2A mp2.length mp2C mp2 np0 np1A np1.length np1C np1 np2A np2.length np2C np2 w27 (St.rdR (i := 5) hS30 rfl) (St.rdR (i := 4) hS30 rfl) (St.rdR (i := 3) hS30 rfl) (St.rdR (i := 2) hS30 rfl) (by omega) (by omega) (by omega) (by omega) (by omega) (by omega)) ?_)
      rintro _ w82 ⟨b87, c88, h89, rfl, ho90, he86⟩ a83 hE84; clear hE80
      have hf91 := l07Bounded_len mp0 mp1 mp2 np0 np1 np2
      have hS85 := St.ownN hS30 he86 ho90; clear hS30
      refine q_step (v := .int .i64 kp) hE84 (y_move rfl) rfl rfl rfl ?_; intro a92 hE93; clear hE84
      refine q_step (v := .pointer (some (adr b87 (Int.toNat kp)))) hE93 (y_idx (by kernel_rfl) (fun _ => by kernel_rfl) rfl rfl (RdN.isS (m := kp) (St.rdNo (i := 0) hS85 rfl) (by omega) (by omega)) (by omega) (by omega) (Nat.mul_one _).symm) rfl rfl rfl ?_; intro a94 hE95; clear hE93
      have hv96 : (0 : Int) ≤ kp ∧ kp < ((F_l07Bounded mp0 mp1 mp2 np0 np1 np2).length : Int) := ⟨(by omega), (by omega)⟩
      refine q_step (v := .slice (hdA h89 kp) ((gL (F_l07Bounded mp0 mp1 mp2 np0 np1 np2) kp).length) (hdC h89 kp)) hE95 (y_load (fun _ => by kernel_rfl) rfl (RdN.elt1 (St.rdNo (i := 0) hS85 rfl) (by omega) (by omega))) rfl rfl rfl ?_; intro a98 hE99; clear hE95
      refine q_step (v := .slice (hdA h89 kp) ((gL (F_l07Bounded mp0 mp1 mp2 np0 np1 np2) kp).length) (hdC h89 kp)) hE99 (y_assign rfl) rfl rfl rfl ?_; intro a100 hE101; clear hE99
      refine q_step (v := .int .i64 0) hE101 (y_assign rfl) rfl rfl rfl ?_; intro a102 hE103; clear hE101
      refine c_nil ?_
      have hE104 := hE103.sub (L' := [(6, .slice (hdA h89 kp) ((gL (F_l07Bounded mp0 mp1 mp2 np0 np1 np2) kp).length) (hdC h89 kp)), (7, .int .i64 0)]) ⟨rfl, rfl, trivial⟩; clear hE103
      refine p_tn ?_
      refine wp_ret ?_
      have hF : F_s_BoundedBisimulation mp0 mp1 mp2 np0 np1 np2 kp = (gL (F_l07Bounded mp0 mp1 mp2 np0 np1 np2) kp, 0) := by unfold F_s_BoundedBisimulation; rw [ht66, ht40]; first | done | rfl
      refine c_ret2 hE104 rfl rfl rfl ?_
      exact ⟨hdA h89 kp, hdC h89 kp, (by rw [hF]; first | done | (dsimp only; done) | rfl), (by rw [hF]; (try dsimp only); exact St.rowOwn (i := 0) hS85 rfl hv96.1 hv96.2 (by decide) (Nat.div_one _)), hS85.ext⟩

def F_BoundedBisimulation (mp0 : Int) (mp1 : List Int) (mp2 : List Int) (np0 : Int) (np1 : List Int) (np2 : List Int) (kp : Int) : (List Int) × (Int) :=
  bif ((!(F_isModel mp0 mp1 mp2)) || (!(F_isModel np0 np1 np2))) then ([], 1) else (bif (!(F_inRange kp 0 16)) then ([], 2) else (gL (F_bounded mp0 mp1 mp2 np0 np1 np2 kp) kp, 0))
theorem cf_BoundedBisimulation (args : Array Value) (w : World) : (callFunc 25 args).run Try.prog w = .ok (.enter 25 args) w := by kernel_rfl
set_option maxRecDepth 100000 in
theorem c_BoundedBisimulation (mp0 : Int) (mp1A : Option Addr) (mp1N mp1C : Nat) (mp1 : List Int) (mp2A : Option Addr) (mp2N mp2C : Nat) (mp2 : List Int) (np0 : Int) (np1A : Option Addr) (np1N np1C : Nat) (np1 : List Int) (np2A : Option Addr) (np2N np2C : Nat) (np2 : List Int) (kp : Int) (w : World) (mp1R : RdS w 1 mp1A mp1N mp1C mp1) (mp2R : RdS w 1 mp2A mp2N mp2C mp2) (np1R : RdS w 1 np1A np1N np1C np1) (np2R : RdS w 1 np2A np2N np2C np2) :
    Calls Try.prog 25 #[.agg #[.int .i64 mp0, .slice mp1A mp1N mp1C, .slice mp2A mp2N mp2C], .agg #[.int .i64 np0, .slice np1A np1N np1C, .slice np2A np2N np2C], .int .i64 kp] w (Ret fun v w' => ∃ b1 : Option Addr, ∃ c1 : Nat, v = .tuple #[.slice b1 ((F_BoundedBisimulation mp0 mp1 mp2 np0 np1 np2 kp).1).length c1, .int .i64 ((F_BoundedBisimulation mp0 mp1 mp2 np0 np1 np2 kp).2)] ∧ OwnS w' w.heap.size 2 1 b1 ((F_BoundedBisimulation mp0 mp1 mp2 np0 np1 np2 kp).1).length c1 ((F_BoundedBisimulation mp0 mp1 mp2 np0 np1 np2 kp).1) ∧ Ext w w') := by
  obtain rfl : mp1N = mp1.length := mp1R.len1.symm
  have mp1Le := mp1R.le
  obtain rfl : mp2N = mp2.length := mp2R.len1.symm
  have mp2Le := mp2R.le
  obtain rfl : np1N = np1.length := np1R.len1.symm
  have np1Le := np1R.le
  obtain rfl : np2N = np2.length := np2R.len1.symm
  have np2Le := np2R.le
  have hS := St.nil w
  have hS1 := St.rd0 hS rfl mp1R; clear hS
  have hS2 := St.rd0 hS1 rfl mp2R; clear hS1
  have hS3 := St.rd0 hS2 rfl np1R; clear hS2
  have hS4 := St.rd0 hS3 rfl np2R; clear hS3
  refine enter (args := [.agg #[.int .i64 mp0, .slice mp1A mp1.length mp1C, .slice mp2A mp2.length mp2C], .agg #[.int .i64 np0, .slice np1A np1.length np1C, .slice np2A np2.length np2C], .int .i64 kp]) Try.func25 rfl rfl ?_
  rw [Try.ntmps25]; intro a hE
  have hE := hE.sub (L' := [(0, .agg #[.int .i64 mp0, .slice mp1A mp1.length mp1C, .slice mp2A mp2.length mp2C]), (1, .agg #[.int .i64 np0, .slice np1A np1.length np1C, .slice np2A np2.length np2C]), (2, .int .i64 kp)]) ⟨rfl, rfl, rfl, trivial⟩
  refine c_seq ?_
  refine c_reg ?_
  refine l_step hE rfl (l_box (v := .agg #[.int .i64 mp0, .slice mp1A mp1.length mp1C, .slice mp2A mp2.length mp2C]) (cs := #[.int .i64 mp0, .slice mp1A mp1.length mp1C, .slice mp2A mp2.length mp2C]) hS4 hE rfl rfl rfl ?_)
  intro b5 w6 hS9 he10 a7 hE8; clear hS4 hE
  refine l_step hE8 rfl (l_box (v := .agg #[.int .i64 np0, .slice np1A np1.length np1C, .slice np2A np2.length np2C]) (cs := #[.int .i64 np0, .slice np1A np1.length np1C, .slice np2A np2.length np2C]) hS9 hE8 rfl rfl rfl ?_)
  intro b11 w12 hS15 he16 a13 hE14; clear hS9 hE8
  refine q_step (v := .slice none 0 0) hE14 (y_assign rfl) rfl rfl rfl ?_; intro a17 hE18; clear hE14
  refine q_step (v := .int .i64 0) hE18 (y_assign rfl) rfl rfl rfl ?_; intro a19 hE20; clear hE18
  refine c_nil ?_
  have hE21 := hE20.sub (L' := [(2, .int .i64 kp), (3, .pointer (some ⟨b5, 0, none⟩)), (4, .pointer (some ⟨b11, 0, none⟩))]) ⟨rfl, rfl, rfl, trivial⟩; clear hE20
  refine p_tn ?_
  refine c_seq ?_
  refine wp_block ?_
  refine c_cut (fun a' w' => E a' 28 [(2, .int .i64 kp), (3, .pointer (some ⟨b5, 0, none⟩)), (4, .pointer (some ⟨b11, 0, none⟩)), (8, .bool ((!(F_isModel mp0 mp1 mp2)) || (!(F_isModel np0 np1 np2))))] ∧ St w w' [.rd 1 np1A np1.length np1C np1, .rd 1 np2A np2.length np2C np2, .blk b11 #[.int .i64 np0, .slice np1A np1.length np1C, .slice np2A np2.length np2C] 32, .rd 1 mp1A mp1.length mp1C mp1, .rd 1 mp2A mp2.length mp2C mp2, .blk b5 #[.int .i64 mp0, .slice mp1A mp1.length mp1C, .slice mp2A mp2.length mp2C] 32]) ?_ ?_
  ·
    refine c_reg ?_
    refine q_step (v := .agg #[.int .i64 mp0, .slice mp1A mp1.length mp1C, .slice mp2A mp2.length mp2C]) hE21 (y_loadS Try.underlying32 rfl (by kernel_rfl) rfl (St.row (i := 1) hS15 rfl)) rfl rfl rfl ?_; intro a22 hE23; clear hE21
    refine l_step hE23 rfl (l_call (f := 83) (argv := [.agg #[.int .i64 mp0, .slice mp1A mp1.length mp1C, .slice mp2A mp2.length mp2C]]) hE23 (fun _ => cf_isModel _ _) rfl rfl (c_isModel mp0 mp1A mp1.length mp1C mp1 mp2A mp2.length mp2C mp2 w12 (St.rdR (i := 5) hS15 rfl) (St.rdR (i := 4) hS15 rfl)) ?_)
    rintro _ w25 ⟨rfl, he29⟩ a26 hE27; clear hE23
    have hS28 := St.go hS15 he29; clear hS15
    refine q_step (v := .bool (!(F_isModel mp0 mp1 mp2))) hE27 (y_not rfl) rfl rfl rfl ?_; intro a30 hE31; clear hE27
    refine q_step (v := .bool (!(F_isModel mp0 mp1 mp2))) hE31 (y_move rfl) rfl rfl rfl ?_; intro a32 hE33; clear hE31
    rcases Bool.eq_false_or_eq_true (!(F_isModel mp0 mp1 mp2)) with hb34 | hb34
    ·
      have hE35 := hE33; (try rw [hb34] at hE35); clear hE33
      have ht36 := bn_t hb34
      refine q_skip hE35 rfl rfl rfl ?_; intro a37 hE38; clear hE35
      refine q_skip hE38 rfl rfl rfl ?_; intro a39 hE40; clear hE38
      refine q_skip hE40 rfl rfl rfl ?_; intro a41 hE42; clear hE40
      refine q_step (v := .bool true) hE42 (y_pick (b := true) rfl rfl) rfl rfl rfl ?_; intro a43 hE44; clear hE42
      refine q_step (v := .bool true) hE44 (y_assign rfl) rfl rfl rfl ?_; intro a45 hE46; clear hE44
      refine c_nil ?_
      have hE47 := hE46.sub (L' := [(2, .int .i64 kp), (3, .pointer (some ⟨b5, 0, none⟩)), (4, .pointer (some ⟨b11, 0, none⟩)), (8, .bool true)]) ⟨rfl, rfl, rfl, rfl, trivial⟩; clear hE46
      refine p_tn ?_
      have hE48 := hE47.sub (L' := [(2, .int .i64 kp), (3, .pointer (some ⟨b5, 0, none⟩)), (4, .pointer (some ⟨b11, 0, none⟩)), (8, .bool true)]) ⟨rfl, rfl, rfl, rfl, trivial⟩
      have hS49 := (St.pick (Γ' := [.rd 1 np1A np1.length np1C np1, .rd 1 np2A np2.length np2C np2, .blk b11 #[.int .i64 np0, .slice np1A np1.length np1C, .slice np2A np2.length np2C] 32, .rd 1 mp1A mp1.length mp1C mp1, .rd 1 mp2A mp2.length mp2C mp2, .blk b5 #[.int .i64 mp0, .slice mp1A mp1.length mp1C, .slice mp2A mp2.length mp2C] 32]) hS28 [3, 2, 0, 5, 4, 1] (by decide) rfl)
      exact ⟨(by rw [hb34]; exact hE48), hS49⟩
    ·
      have hE50 := hE33; (try rw [hb34] at hE50); clear hE33
      have ht51 := bn_f hb34
      have hp52 := isModel_t ht51
      refine q_step (v := .agg #[.int .i64 np0, .slice np1A np1.length np1C, .slice np2A np2.length np2C]) hE50 (y_loadS Try.underlying32 rfl (by kernel_rfl) rfl (St.row (i := 0) hS28 rfl)) rfl rfl rfl ?_; intro a53 hE54; clear hE50
      refine l_step hE54 rfl (l_call (f := 83) (argv := [.agg #[.int .i64 np0, .slice np1A np1.length np1C, .slice np2A np2.length np2C]]) hE54 (fun _ => cf_isModel _ _) rfl rfl (c_isModel np0 np1A np1.length np1C np1 np2A np2.length np2C np2 w25 (St.rdR (i := 3) hS28 rfl) (St.rdR (i := 2) hS28 rfl)) ?_)
      rintro _ w56 ⟨rfl, he60⟩ a57 hE58; clear hE54
      have hS59 := St.go hS28 he60; clear hS28
      refine q_step (v := .bool (!(F_isModel np0 np1 np2))) hE58 (y_not rfl) rfl rfl rfl ?_; intro a61 hE62; clear hE58
      refine q_step (v := .bool (!(F_isModel np0 np1 np2))) hE62 (y_pick (b := false) rfl rfl) rfl rfl rfl ?_; intro a63 hE64; clear hE62
      refine q_step (v := .bool (!(F_isModel np0 np1 np2))) hE64 (y_assign rfl) rfl rfl rfl ?_; intro a65 hE66; clear hE64
      refine c_nil ?_
      have hE67 := hE66.sub (L' := [(2, .int .i64 kp), (3, .pointer (some ⟨b5, 0, none⟩)), (4, .pointer (some ⟨b11, 0, none⟩)), (8, .bool (!(F_isModel np0 np1 np2)))]) ⟨rfl, rfl, rfl, rfl, trivial⟩; clear hE66
      refine p_tn ?_
      have hE68 := hE67.sub (L' := [(2, .int .i64 kp), (3, .pointer (some ⟨b5, 0, none⟩)), (4, .pointer (some ⟨b11, 0, none⟩)), (8, .bool (!(F_isModel np0 np1 np2)))]) ⟨rfl, rfl, rfl, rfl, trivial⟩
      have hS69 := (St.pick (Γ' := [.rd 1 np1A np1.length np1C np1, .rd 1 np2A np2.length np2C np2, .blk b11 #[.int .i64 np0, .slice np1A np1.length np1C, .slice np2A np2.length np2C] 32, .rd 1 mp1A mp1.length mp1C mp1, .rd 1 mp2A mp2.length mp2C mp2, .blk b5 #[.int .i64 mp0, .slice mp1A mp1.length mp1C, .slice mp2A mp2.length mp2C] 32]) hS59 [3, 2, 0, 5, 4, 1] (by decide) rfl)
      exact ⟨(by rw [hb34]; exact hE68), hS69⟩
  ·
    rintro a70 w71 ⟨hE72, hS73⟩; clear hE21 hS15
    refine c_cond hE72 rfl (fun ht75 => ?_) (fun ht75 => ?_)
    ·
      have hE76 := hE72; rw [ht75] at hE76; clear hE72
      refine c_seq ?_
      refine c_reg ?_
      refine q_step (v := .slice none 0 0) hE76 (y_assign rfl) rfl rfl rfl ?_; intro a77 hE78; clear hE76
      refine q_step (v := .int .i64 1) hE78 (y_assign rfl) rfl rfl rfl ?_; intro a79 hE80; clear hE78
      refine c_nil ?_
      have hE81 := hE80.sub (L' := [(6, .slice none 0 0), (7, .int .i64 1)]) ⟨rfl, rfl, trivial⟩; clear hE80
      refine p_tn ?_
      refine wp_ret ?_
      refine p_br ?_
      refine p_tr ?_
      have hF : F_BoundedBisimulation mp0 mp1 mp2 np0 np1 np2 kp = ([], 1) := by unfold F_BoundedBisimulation; rw [ht75]; first | done | rfl
      refine c_ret2 hE81 rfl rfl rfl ?_
      exact ⟨none, 0, (by rw [hF]; first | done | (dsimp only; done) | rfl), (by rw [hF]; (try dsimp only); exact OwnS.nilS _ _ _ _), hS73.ext⟩
    ·
      obtain ⟨ht82, ht83⟩ := bor_f ht75
      have ht84 := bn_f ht82
      have hp85 := isModel_t ht84
      have ht86 := bn_f ht83
      have hp87 := isModel_t ht86
      have hE88 := hE72; rw [ht75] at hE88; clear hE72
      refine c_seq ?_
      refine c_reg ?_
      refine q_step (v := .int .i64 kp) hE88 (y_move rfl) rfl rfl rfl ?_; intro a89 hE90; clear hE88
      refine l_step hE90 rfl (l_call (f := 87) (argv := [.int .i64 kp, .int .i64 0, .int .i64 16]) hE90 (fun _ => cf_inRange _ _) rfl rfl (c_inRange kp 0 16 w71) ?_)
      rintro _ _ ⟨rfl, rfl⟩ a93 hE94; clear hE90
      refine q_step (v := .bool (!(F_inRange kp 0 16))) hE94 (y_not rfl) rfl rfl rfl ?_; intro a97 hE98; clear hE94
      refine q_step (v := .bool (!(F_inRange kp 0 16))) hE98 (y_assign rfl) rfl rfl rfl ?_; intro a99 hE100; clear hE98
      refine c_nil ?_
      have hE101 := hE100.sub (L' := [(2, .int .i64 kp), (3, .pointer (some ⟨b5, 0, none⟩)), (4, .pointer (some ⟨b11, 0, none⟩)), (17, .bool (!(F_inRange kp 0 16)))]) ⟨rfl, rfl, rfl, rfl, trivial⟩; clear hE100
      refine p_tn ?_
      refine c_cond hE101 rfl (fun ht102 => ?_) (fun ht102 => ?_)
      ·
        have ht103 := bn_t ht102
        have hE104 := hE101; rw [ht102] at hE104; clear hE101
        refine c_seq ?_
        refine c_reg ?_
        refine q_step (v := .slice none 0 0) hE104 (y_assign rfl) rfl rfl rfl ?_; intro a105 hE106; clear hE104
        refine q_step (v := .int .i64 2) hE106 (y_assign rfl) rfl rfl rfl ?_; intro a107 hE108; clear hE106
        refine c_nil ?_
        have hE109 := hE108.sub (L' := [(6, .slice none 0 0), (7, .int .i64 2)]) ⟨rfl, rfl, trivial⟩; clear hE108
        refine p_tn ?_
        refine wp_ret ?_
        refine p_br ?_
        refine p_tr ?_
        have hF : F_BoundedBisimulation mp0 mp1 mp2 np0 np1 np2 kp = ([], 2) := by unfold F_BoundedBisimulation; rw [ht102, ht75]; first | done | rfl
        refine c_ret2 hE109 rfl rfl rfl ?_
        exact ⟨none, 0, (by rw [hF]; first | done | (dsimp only; done) | rfl), (by rw [hF]; (try dsimp only); exact OwnS.nilS _ _ _ _), hS73.ext⟩
      ·
        have ht110 := bn_f ht102
        have hp111 := F_inRange_t ht110
        have hE112 := hE101; rw [ht102] at hE112; clear hE101
        refine wp_skip ?_
        refine p_bn ?_
        refine p_tn ?_
        refine c_seq ?_
        refine c_reg ?_
        refine q_step (v := .agg #[.int .i64 mp0, .slice mp1A mp1.length mp1C, .slice mp2A mp2.length mp2C]) hE112 (y_loadS Try.underlying32 rfl (by kernel_rfl) rfl (St.row (i := 5) hS73 rfl)) rfl rfl rfl ?_; intro a113 hE114; clear hE112
        refine q_step (v := .agg #[.int .i64 np0, .slice np1A np1.length np1C, .slice np2A np2.length np2C]) hE114 (y_loadS Try.underlying32 rfl (by kernel_rfl) rfl (St.row (i := 2) hS73 rfl)) rfl rfl rfl ?_; intro a115 hE116; clear hE114
        refine q_step (v := .int .i64 kp) hE116 (y_move rfl) rfl rfl rfl ?_; intro a117 hE118; clear hE116
        refine l_step hE118 rfl (l_call (f := 88) (argv := [.agg #[.int .i64 mp0, .slice mp1A mp1.length mp1C, .slice mp2A mp2.length mp2C], .agg #[.int .i64 np0, .slice np1A np1.length np1C, .slice np2A np2.length np2C], .int .i64 kp]) hE118 (fun _ => cf_bounded _ _) rfl rfl (c_bounded mp0 mp1A mp1.length mp1C mp1 mp2A mp2.length mp2C mp2 np0 np1A np1.length np1C np1 np2A np2.length np2C np2 kp w71 (St.rdR (i := 3) hS73 rfl) (St.rdR (i := 4) hS73 rfl) (St.rdR (i := 0) hS73 rfl) (St.rdR (i := 1) hS73 rfl) (by omega) (by omega) (by omega) (by omega) (by omega) (by omega) (l05Is_m (isModel_t (by assumption)).1) (by omega)) ?_)
        rintro _ w120 ⟨b125, c126, h127, rfl, ho128, he124⟩ a121 hE122; clear hE118
        have hbl := bounded_len (np1 := np1) (np2 := np2) (mp0 := mp0) (np0 := np0) (mp1 := mp1) (mp2 := mp2) (by omega) (by omega) (by omega) (by omega) (fun m h0 h1 => l05Is_m (f0 := mp0) (f1 := mp1) (isModel_t (by assumption)).1 m h0 (by omega)) (k := kp) (by omega)
        have hS123 := St.ownN hS73 he124 ho128; clear hS73
        refine q_step (v := .int .i64 kp) hE122 (y_move rfl) rfl rfl rfl ?_; intro a129 hE130; clear hE122
        refine q_step (v := .pointer (some (adr b125 (Int.toNat kp)))) hE130 (y_idx (by kernel_rfl) (fun _ => by kernel_rfl) rfl rfl (RdN.isS (m := kp) (St.rdNo (i := 0) hS123 rfl) (by omega) (by omega)) (by omega) (by omega) (Nat.mul_one _).symm) rfl rfl rfl ?_; intro a131 hE132; clear hE130
        have hv133 : (0 : Int) ≤ kp ∧ kp < ((F_bounded mp0 mp1 mp2 np0 np1 np2 kp).length : Int) := ⟨(by omega), (by omega)⟩
        refine q_step (v := .slice (hdA h127 kp) ((gL (F_bounded mp0 mp1 mp2 np0 np1 np2 kp) kp).length) (hdC h127 kp)) hE132 (y_load (fun _ => by kernel_rfl) rfl (RdN.elt1 (St.rdNo (i := 0) hS123 rfl) (by omega) (by omega))) rfl rfl rfl ?_; intro a135 hE136; clear hE132
        refine q_step (v := .slice (hdA h127 kp) ((gL (F_bounded mp0 mp1 mp2 np0 np1 np2 kp) kp).length) (hdC h127 kp)) hE136 (y_assign rfl) rfl rfl rfl ?_; intro a137 hE138; clear hE136
        refine q_step (v := .int .i64 0) hE138 (y_assign rfl) rfl rfl rfl ?_; intro a139 hE140; clear hE138
        refine c_nil ?_
        have hE141 := hE140.sub (L' := [(6, .slice (hdA h127 kp) ((gL (F_bounded mp0 mp1 mp2 np0 np1 np2 kp) kp).length) (hdC h127 kp)), (7, .int .i64 0)]) ⟨rfl, rfl, trivial⟩; clear hE140
        refine p_tn ?_
        refine wp_ret ?_
        have hF : F_BoundedBisimulation mp0 mp1 mp2 np0 np1 np2 kp = (gL (F_bounded mp0 mp1 mp2 np0 np1 np2 kp) kp, 0) := by unfold F_BoundedBisimulation; rw [ht102, ht75]; first | done | rfl
        refine c_ret2 hE141 rfl rfl rfl ?_
        exact ⟨hdA h127 kp, hdC h127 kp, (by rw [hF]; first | done | (dsimp only; done) | rfl), (by rw [hF]; (try dsimp only); exact St.rowOwn (i := 0) hS123 rfl hv133.1 hv133.2 (by decide) (Nat.div_one _)), hS123.ext⟩

theorem BoundedBisimulation_eq (mp0 : Int) (mp1 mp2 : List Int) (np0 : Int) (np1 np2 : List Int) (k : Int) : F_BoundedBisimulation mp0 mp1 mp2 np0 np1 np2 k = F_s_BoundedBisimulation mp0 mp1 mp2 np0 np1 np2 k ∧ (F_BoundedBisimulation mp0 mp1 mp2 np0 np1 np2 k).1.length ≤ 8 := by
  unfold F_BoundedBisimulation F_s_BoundedBisimulation
  rw [isModel_eq, isModel_eq, show F_l07Two mp0 mp1 mp2 np0 np1 np2 = bif ((!(F_l06Is mp0 mp1 mp2)) || (!(F_l06Is np0 np1 np2))) then 1 else 0 from rfl]
  cases h : ((!(F_l06Is mp0 mp1 mp2)) || (!(F_l06Is np0 np1 np2)))
  · obtain ⟨h1, h2⟩ := bor_f h
    have hM := l06Is_t (bn_f h1)
    have hN := l06Is_t (bn_f h2)
    rw [cond_false, cond_false, show decide ((0 : Int) = 0) = true from rfl, Bool.not_true, cond_false, show F_inRange k 0 16 = F_l01In k 0 16 from rfl]
    cases hk : F_l01In k 0 16
    · simp only [Bool.not_false, cond_true]
      exact ⟨trivial, Nat.zero_le _⟩
    · have hk' := F_l01In_t hk
      have hat := bounded_at (np1 := np1) hM.2.1.1 hN.2.1.1 hM.2.2.1 hN.2.2.1 (fun m h0 h1 => l05Is_m hM.1 m h0 (by omega)) (k := k) (by omega) (by omega)
      simp only [Bool.not_true, cond_false]
      rw [hat.1]
      have hl := hat.2
      generalize gL (F_l07Bounded mp0 mp1 mp2 np0 np1 np2) k = l at hl ⊢
      exact ⟨rfl, show l.length ≤ 8 by omega⟩
  · rw [cond_true, cond_true, decide_eq_false (by decide), Bool.not_false, cond_true]
    exact ⟨rfl, Nat.zero_le _⟩
theorem BoundedBisimulation_len (mp0 : Int) (mp1 mp2 : List Int) (np0 : Int) (np1 np2 : List Int) (k : Int) : (F_BoundedBisimulation mp0 mp1 mp2 np0 np1 np2 k).1.length ≤ 8 := (BoundedBisimulation_eq mp0 mp1 mp2 np0 np1 np2 k).2


end Go.Proofs.Ytlbonhloeefnmaa
