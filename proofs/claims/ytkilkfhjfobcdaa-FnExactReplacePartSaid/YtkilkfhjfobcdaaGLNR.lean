/- GLNR: models and contracts, printed by wip/gen/gen.py -/
import Derived.Test.YtkilkfhjfobcdaaGNA
import Derived.Test.YtkilkfhjfobcdaaGNR
set_option linter.unusedVariables false
set_option linter.unusedSimpArgs false
namespace Go.Proofs.Ytkilkfhjfobcdaa
open Go.RowKit

def F_l_FnExactReplacePart (ap : List Int) (iq : Int) (bp : List Int) : Bool :=
  bif (decide ((F_l_szNodeS ap 1048576) < 0)) then true else (bif (decide ((F_l_szNodeS bp (F_l_szNodeS ap 1048576)) < 0)) then true else (bif ((!(decide (((F_ReplacePart ap iq bp).1) = ((F_s_ReplacePart ap iq bp).1)))) || (!decide (((F_ReplacePart ap iq bp).2) = ((F_s_ReplacePart ap iq bp).2)))) then false else (bif (!(decide (ap = ap))) then false else (bif (!(decide (bp = bp))) then false else (bif ((decide (((1 + (ap.length : Int)) + (bp.length : Int)) < 0)) || ((!(decide (((F_ReplacePart ap iq bp).1) = ((F_s_ReplacePart ap iq bp).1)))) || (!decide (((F_ReplacePart ap iq bp).2) = ((F_s_ReplacePart ap iq bp).2))))) then false else (bif (decide ((F_l_heldNodeS (marked ((F_ReplacePart ap iq bp).1).length 1) 1) < 0)) then false else (bif (!decide ((F_l_heldNodeS (marked ((F_ReplacePart ap iq bp).1).length 1) 1) = (1 + (((F_ReplacePart ap iq bp).1).length : Int)))) then false else true)))))))
theorem cf_l_FnExactReplacePart (args : Array Value) (w : World) : (callFunc 7 args).run Try.prog w = .ok (.enter 7 args) w := by kernel_rfl
set_option maxRecDepth 100000 in
theorem c_l_FnExactReplacePart (apA : Option Addr) (apN apC : Nat) (ap : List Int) (iq : Int) (bpA : Option Addr) (bpN bpC : Nat) (bp : List Int) (w : World) (apR : RdS w 2 apA apN apC ap) (bpR : RdS w 2 bpA bpN bpC bp) :
    Calls Try.prog 7 #[.slice apA apN apC, .int .i64 iq, .slice bpA bpN bpC] w (Ret fun v w' => v = .bool (F_l_FnExactReplacePart ap iq bp) ∧ Ext w w') := by
  obtain rfl : apN = ap.length / 2 := (apR.lenD (by decide)).symm
  have apEv := apR.ev (by decide)
  have apLe := apR.le
  obtain rfl : bpN = bp.length / 2 := (bpR.lenD (by decide)).symm
  have bpEv := bpR.ev (by decide)
  have bpLe := bpR.le
  have hS := St.nil w
  have hS1 := St.rd0 hS rfl apR; clear hS
  have hS2 := St.rd0 hS1 rfl bpR; clear hS1
  refine enter (args := [.slice apA ((ap).length / 2 : Nat) apC, .int .i64 iq, .slice bpA ((bp).length / 2 : Nat) bpC]) Try.func7 rfl rfl ?_
  rw [Try.ntmps7]; intro a hE
  have hE := hE.sub (L' := [(0, .slice apA ((ap).length / 2 : Nat) apC), (1, .int .i64 iq), (2, .slice bpA ((bp).length / 2 : Nat) bpC)]) ⟨rfl, rfl, rfl, trivial⟩
  refine c_seq ?_
  refine c_reg ?_
  refine q_step (v := .bool false) hE (y_assign rfl) rfl rfl rfl ?_; intro a3 hE4; clear hE
  refine c_nil ?_
  have hE5 := hE4.sub (L' := [(0, .slice apA ((ap).length / 2 : Nat) apC), (1, .int .i64 iq), (2, .slice bpA ((bp).length / 2 : Nat) bpC)]) ⟨rfl, rfl, rfl, trivial⟩; clear hE4
  refine p_tn ?_
  refine c_seq ?_
  refine c_reg ?_
  refine q_step (v := .int .i64 1048576) hE5 (y_assign rfl) rfl rfl rfl ?_; intro a6 hE7; clear hE5
  refine c_nil ?_
  have hE8 := hE7.sub (L' := [(0, .slice apA ((ap).length / 2 : Nat) apC), (1, .int .i64 iq), (2, .slice bpA ((bp).length / 2 : Nat) bpC), (7, .int .i64 1048576)]) ⟨rfl, rfl, rfl, rfl, trivial⟩; clear hE7
  refine p_tn ?_
  refine c_seq ?_
  refine c_reg ?_
  refine q_step (v := .slice apA ((ap).length / 2 : Nat) apC) hE8 (y_move rfl) rfl rfl rfl ?_; intro a9 hE10; clear hE8
  refine q_step (v := .int .i64 1048576) hE10 (y_move rfl) rfl rfl rfl ?_; intro a11 hE12; clear hE10
  refine l_step hE12 rfl (l_call (f := 20) (argv := [.slice apA ((ap).length / 2 : Nat) apC, .int .i64 1048576]) hE12 (fun _ => cf_l_szNodeS _ _) rfl rfl (c_l_szNodeS apA ((ap).length / 2 : Nat) apC ap 1048576 w (St.rdR (i := 1) hS2 rfl) (by first | omega | (simp only [marked_len]; omega) | (simp only [marked_len] at *; omega)) (by first | omega | (simp only [marked_len]; omega) | (simp only [marked_len] at *; omega))) ?_)
  rintro _ _ ⟨rfl, rfl⟩ a15 hE16; clear hE12
  refine q_step (v := .int .i64 (F_l_szNodeS ap 1048576)) hE16 (y_assign rfl) rfl rfl rfl ?_; intro a19 hE20; clear hE16
  refine c_nil ?_
  have hE21 := hE20.sub (L' := [(0, .slice apA ((ap).length / 2 : Nat) apC), (1, .int .i64 iq), (2, .slice bpA ((bp).length / 2 : Nat) bpC), (7, .int .i64 (F_l_szNodeS ap 1048576))]) ⟨rfl, rfl, rfl, rfl, trivial⟩; clear hE20
  refine p_tn ?_
  refine c_seq ?_
  refine c_seq ?_
  refine c_reg ?_
  refine q_step (v := .int .i64 (F_l_szNodeS ap 1048576)) hE21 (y_move rfl) rfl rfl rfl ?_; intro a22 hE23; clear hE21
  refine q_step (v := .bool (decide ((F_l_szNodeS ap 1048576) < 0))) hE23 (y_lss rfl rfl) rfl rfl rfl ?_; intro a24 hE25; clear hE23
  refine c_nil ?_
  have hE26 := hE25.sub (L' := [(0, .slice apA ((ap).length / 2 : Nat) apC), (1, .int .i64 iq), (2, .slice bpA ((bp).length / 2 : Nat) bpC), (7, .int .i64 (F_l_szNodeS ap 1048576)), (23, .bool (decide ((F_l_szNodeS ap 1048576) < 0)))]) ⟨rfl, rfl, rfl, rfl, rfl, trivial⟩; clear hE25
  refine p_tn ?_
  refine c_cond hE26 rfl (fun ht27 => ?_) (fun ht27 => ?_)
  ·
    have hp28 := of_decide_eq_true ht27
    have hE29 := hE26; rw [ht27] at hE29; clear hE26
    refine c_seq ?_
    refine c_reg ?_
    refine q_step (v := .bool true) hE29 (y_assign rfl) rfl rfl rfl ?_; intro a30 hE31; clear hE29
    refine c_nil ?_
    have hE32 := hE31.sub (L' := [(6, .bool true)]) ⟨rfl, trivial⟩; clear hE31
    refine p_tn ?_
    refine wp_ret ?_
    refine p_tr ?_
    have hF : F_l_FnExactReplacePart ap iq bp = true := by unfold F_l_FnExactReplacePart; rw [ht27]; first | done | rfl
    refine c_ret1 hE32 rfl rfl ?_
    exact ⟨(by rw [hF]; first | done | rfl), hS2.ext⟩
  ·
    have hp33 := of_decide_eq_false ht27
    have hq34 := szNodeS_bound hp33
    have hE35 := hE26; rw [ht27] at hE35; clear hE26
    refine wp_skip ?_
    refine p_tn ?_
    refine c_seq ?_
    refine c_reg ?_
    refine q_step (v := .slice bpA ((bp).length / 2 : Nat) bpC) hE35 (y_move rfl) rfl rfl rfl ?_; intro a36 hE37; clear hE35
    refine q_step (v := .int .i64 (F_l_szNodeS ap 1048576)) hE37 (y_move rfl) rfl rfl rfl ?_; intro a38 hE39; clear hE37
    refine l_step hE39 rfl (l_call (f := 20) (argv := [.slice bpA ((bp).length / 2 : Nat) bpC, .int .i64 (F_l_szNodeS ap 1048576)]) hE39 (fun _ => cf_l_szNodeS _ _) rfl rfl (c_l_szNodeS bpA ((bp).length / 2 : Nat) bpC bp (F_l_szNodeS ap 1048576) w (St.rdR (i := 0) hS2 rfl) (by first | omega | (simp only [marked_len]; omega) | (simp only [marked_len] at *; omega)) (by first | omega | (simp only [marked_len]; omega) | (simp only [marked_len] at *; omega))) ?_)
    rintro _ _ ⟨rfl, rfl⟩ a42 hE43; clear hE39
    refine q_step (v := .int .i64 (F_l_szNodeS bp (F_l_szNodeS ap 1048576))) hE43 (y_assign rfl) rfl rfl rfl ?_; intro a46 hE47; clear hE43
    refine c_nil ?_
    have hE48 := hE47.sub (L' := [(0, .slice apA ((ap).length / 2 : Nat) apC), (1, .int .i64 iq), (2, .slice bpA ((bp).length / 2 : Nat) bpC), (7, .int .i64 (F_l_szNodeS bp (F_l_szNodeS ap 1048576)))]) ⟨rfl, rfl, rfl, rfl, trivial⟩; clear hE47
    refine p_tn ?_
    refine c_seq ?_
    refine c_seq ?_
    refine c_reg ?_
    refine q_step (v := .int .i64 (F_l_szNodeS bp (F_l_szNodeS ap 1048576))) hE48 (y_move rfl) rfl rfl rfl ?_; intro a49 hE50; clear hE48
    refine q_step (v := .bool (decide ((F_l_szNodeS bp (F_l_szNodeS ap 1048576)) < 0))) hE50 (y_lss rfl rfl) rfl rfl rfl ?_; intro a51 hE52; clear hE50
    refine c_nil ?_
    have hE53 := hE52.sub (L' := [(0, .slice apA ((ap).length / 2 : Nat) apC), (1, .int .i64 iq), (2, .slice bpA ((bp).length / 2 : Nat) bpC), (28, .bool (decide ((F_l_szNodeS bp (F_l_szNodeS ap 1048576)) < 0)))]) ⟨rfl, rfl, rfl, rfl, trivial⟩; clear hE52
    refine p_tn ?_
    refine c_cond hE53 rfl (fun ht54 => ?_) (fun ht54 => ?_)
    ·
      have hp55 := of_decide_eq_true ht54
      have hE56 := hE53; rw [ht54] at hE56; clear hE53
      refine c_seq ?_
      refine c_reg ?_
      refine q_step (v := .bool true) hE56 (y_assign rfl) rfl rfl rfl ?_; intro a57 hE58; clear hE56
      refine c_nil ?_
      have hE59 := hE58.sub (L' := [(6, .bool true)]) ⟨rfl, trivial⟩; clear hE58
      refine p_tn ?_
      refine wp_ret ?_
      refine p_tr ?_
      have hF : F_l_FnExactReplacePart ap iq bp = true := by unfold F_l_FnExactReplacePart; rw [ht54, ht27]; first | done | rfl
      refine c_ret1 hE59 rfl rfl ?_
      exact ⟨(by rw [hF]; first | done | rfl), hS2.ext⟩
    ·
      have hp60 := of_decide_eq_false ht54
      have hq61 := szNodeS_bound hp60
      have hE62 := hE53; rw [ht54] at hE62; clear hE53
      refine wp_skip ?_
      refine p_tn ?_
      refine c_seq ?_
      refine c_reg ?_
      refine q_step (v := .slice apA ((ap).length / 2 : Nat) apC) hE62 (y_move rfl) rfl rfl rfl ?_; intro a63 hE64; clear hE62
      refine l_step hE64 rfl (l_call (f := 22) (argv := [.slice apA ((ap).length / 2 : Nat) apC]) hE64 (fun _ => cf_l_toNodeS _ _) rfl rfl (d_l_toNodeS apA ((ap).length / 2 : Nat) apC ap w (St.rdR (i := 1) hS2 rfl) (by first | omega | (simp only [marked_len]; omega) | (simp only [marked_len] at *; omega))) ?_)
      rintro _ w66 ⟨b71, c72, rfl, ho73, he70⟩ a67 hE68; clear hE64
      have hS69 := St.own hS2 he70 ho73; clear hS2
      refine q_step (v := .int .i64 iq) hE68 (y_move rfl) rfl rfl rfl ?_; intro a74 hE75; clear hE68
      refine q_step (v := .slice bpA ((bp).length / 2 : Nat) bpC) hE75 (y_move rfl) rfl rfl rfl ?_; intro a76 hE77; clear hE75
      refine l_step hE77 rfl (l_call (f := 22) (argv := [.slice bpA ((bp).length / 2 : Nat) bpC]) hE77 (fun _ => cf_l_toNodeS _ _) rfl rfl (d_l_toNodeS bpA ((bp).length / 2 : Nat) bpC bp w66 (St.rdR (i := 1) hS69 rfl) (by first | omega | (simp only [marked_len]; omega) | (simp only [marked_len] at *; omega))) ?_)
      rintro _ w79 ⟨b84, c85, rfl, ho86, he83⟩ a80 hE81; clear hE77
      have hS82 := St.own hS69 he83 ho86; clear hS69
      refine l_step hE81 rfl (l_call (f := 31) (argv := [.slice b71 ((ap).length / 2 : Nat) c72, .int .i64 iq, .slice b84 ((bp).length / 2 : Nat) c85]) hE81 (fun _ => cf_s_ReplacePart _ _) rfl rfl (c_s_ReplacePart b71 ((ap).length / 2 : Nat) c72 ap iq b84 ((bp).length / 2 : Nat) c85 bp w79 (St.rdO (i := 1) hS82 rfl) (St.rdO (i := 0) hS82 rfl) (by first | omega | (simp only [marked_len]; omega) | (simp only [marked_len] at *; omega)) (by first | omega | (simp only [marked_len]; omega) | (simp only [marked_len] at *; omega))) ?_)
      rintro _ w88 ⟨b93, c94, rfl, ho95, he92⟩ a89 hE90; clear hE81
      have hS91 := St.own hS82 he92 ho95; clear hS82
      refine q_step (v := .tuple #[.slice b93 (((F_s_ReplacePart ap iq bp).1).length / 2 : Nat) c94, .int .i64 ((F_s_ReplacePart ap iq bp).2)]) hE90 (y_move rfl) rfl rfl rfl ?_; intro a96 hE97; clear hE90
      refine q_step (v := .slice b93 (((F_s_ReplacePart ap iq bp).1).length / 2 : Nat) c94) hE97 (y_extract rfl rfl) rfl rfl rfl ?_; intro a98 hE99; clear hE97
      refine q_step (v := .int .i64 ((F_s_ReplacePart ap iq bp).2)) hE99 (y_extract rfl rfl) rfl rfl rfl ?_; intro a100 hE101; clear hE99
      refine q_step (v := .slice b93 (((F_s_ReplacePart ap iq bp).1).length / 2 : Nat) c94) hE101 (y_assign rfl) rfl rfl rfl ?_; intro a102 hE103; clear hE101
      refine q_step (v := .int .i64 ((F_s_ReplacePart ap iq bp).2)) hE103 (y_assign rfl) rfl rfl rfl ?_; intro a104 hE105; clear hE103
      refine c_nil ?_
      have hE106 := hE105.sub (L' := [(0, .slice apA ((ap).length / 2 : Nat) apC), (1, .int .i64 iq), (2, .slice bpA ((bp).length / 2 : Nat) bpC), (8, .slice b93 (((F_s_ReplacePart ap iq bp).1).length / 2 : Nat) c94), (9, .int .i64 ((F_s_ReplacePart ap iq bp).2))]) ⟨rfl, rfl, rfl, rfl, rfl, trivial⟩; clear hE105
      refine p_tn ?_
      refine c_seq ?_
      refine c_reg ?_
      refine q_step (v := .slice apA ((ap).length / 2 : Nat) apC) hE106 (y_move rfl) rfl rfl rfl ?_; intro a107 hE108; clear hE106
      refine l_step hE108 rfl (l_call (f := 22) (argv := [.slice apA ((ap).length / 2 : Nat) apC]) hE108 (fun _ => cf_l_toNodeS _ _) rfl rfl (d_l_toNodeS apA ((ap).length / 2 : Nat) apC ap w88 (St.rdR (i := 4) hS91 rfl) (by first | omega | (simp only [marked_len]; omega) | (simp only [marked_len] at *; omega))) ?_)
      rintro _ w110 ⟨b115, c116, rfl, ho117, he114⟩ a111 hE112; clear hE108
      have hS113 := St.own hS91 he114 ho117; clear hS91
      refine q_step (v := .slice b115 ((ap).length / 2 : Nat) c116) hE112 (y_assign rfl) rfl rfl rfl ?_; intro a118 hE119; clear hE112
      refine c_nil ?_
      have hE120 := hE119.sub (L' := [(0, .slice apA ((ap).length / 2 : Nat) apC), (1, .int .i64 iq), (2, .slice bpA ((bp).length / 2 : Nat) bpC), (8, .slice b93 (((F_s_ReplacePart ap iq bp).1).length / 2 : Nat) c94), (9, .int .i64 ((F_s_ReplacePart ap iq bp).2)), (10, .slice b115 ((ap).length / 2 : Nat) c116)]) ⟨rfl, rfl, rfl, rfl, rfl, rfl, trivial⟩; clear hE119
      refine p_tn ?_
      refine c_seq ?_
      refine c_reg ?_
      refine q_step (v := .slice bpA ((bp).length / 2 : Nat) bpC) hE120 (y_move rfl) rfl rfl rfl ?_; intro a121 hE122; clear hE120
      refine l_step hE122 rfl (l_call (f := 22) (argv := [.slice bpA ((bp).length / 2 : Nat) bpC]) hE122 (fun _ => cf_l_toNodeS _ _) rfl rfl (d_l_toNodeS bpA ((bp).length / 2 : Nat) bpC bp w110 (St.rdR (i := 4) hS113 rfl) (by first | omega | (simp only [marked_len]; omega) | (simp only [marked_len] at *; omega))) ?_)
      rintro _ w124 ⟨b129, c130, rfl, ho131, he128⟩ a125 hE126; clear hE122
      have hS127 := St.own hS113 he128 ho131; clear hS113
      refine q_step (v := .slice b129 ((bp).length / 2 : Nat) c130) hE126 (y_assign rfl) rfl rfl rfl ?_; intro a132 hE133; clear hE126
      refine c_nil ?_
      have hE134 := hE133.sub (L' := [(0, .slice apA ((ap).length / 2 : Nat) apC), (1, .int .i64 iq), (2, .slice bpA ((bp).length / 2 : Nat) bpC), (8, .slice b93 (((F_s_ReplacePart ap iq bp).1).length / 2 : Nat) c94), (9, .int .i64 ((F_s_ReplacePart ap iq bp).2)), (10, .slice b115 ((ap).length / 2 : Nat) c116), (11, .slice b129 ((bp).length / 2 : Nat) c130)]) ⟨rfl, rfl, rfl, rfl, rfl, rfl, rfl, trivial⟩; clear hE133
      refine p_tn ?_
      refine c_seq ?_
      refine c_reg ?_
      refine q_step (v := .slice b115 ((ap).length / 2 : Nat) c116) hE134 (y_move rfl) rfl rfl rfl ?_; intro a135 hE136; clear hE134
      refine q_step (v := .int .i64 iq) hE136 (y_move rfl) rfl rfl rfl ?_; intro a137 hE138; clear hE136
      refine q_step (v := .slice b129 ((bp).length / 2 : Nat) c130) hE138 (y_move rfl) rfl rfl rfl ?_; intro a139 hE140; clear hE138
      refine l_step hE140 rfl (l_call (f := 32) (argv := [.slice b115 ((ap).length / 2 : Nat) c116, .int .i64 iq, .slice b129 ((bp).length / 2 : Nat) c130]) hE140 (fun _ => cf_ReplacePart _ _) rfl rfl (c_ReplacePart b115 ((ap).length / 2 : Nat) c116 ap iq b129 ((bp).length / 2 : Nat) c130 bp w124 (St.rdO (i := 1) hS127 rfl) (St.rdO (i := 0) hS127 rfl) (by first | omega | (simp only [marked_len]; omega) | (simp only [marked_len] at *; omega)) (by first | omega | (simp only [marked_len]; omega) | (simp only [marked_len] at *; omega))) ?_)
      rintro _ w142 ⟨b147, c148, rfl, ho149, he146⟩ a143 hE144; clear hE140
      have hf150 := ReplacePart_len ap iq bp
      have hS145 := St.own hS127 he146 ho149; clear hS127
      refine q_step (v := .tuple #[.slice b147 (((F_ReplacePart ap iq bp).1).length / 2 : Nat) c148, .int .i64 ((F_ReplacePart ap iq bp).2)]) hE144 (y_move rfl) rfl rfl rfl ?_; intro a151 hE152; clear hE144
      refine q_step (v := .slice b147 (((F_ReplacePart ap iq bp).1).length / 2 : Nat) c148) hE152 (y_extract rfl rfl) rfl rfl rfl ?_; intro a153 hE154; clear hE152
      refine q_step (v := .int .i64 ((F_ReplacePart ap iq bp).2)) hE154 (y_extract rfl rfl) rfl rfl rfl ?_; intro a155 hE156; clear hE154
      refine q_step (v := .slice b147 (((F_ReplacePart ap iq bp).1).length / 2 : Nat) c148) hE156 (y_assign rfl) rfl rfl rfl ?_; intro a157 hE158; clear hE156
      refine q_step (v := .int .i64 ((F_ReplacePart ap iq bp).2)) hE158 (y_assign rfl) rfl rfl rfl ?_; intro a159 hE160; clear hE158
      refine c_nil ?_
      have hE161 := hE160.sub (L' := [(0, .slice apA ((ap).length / 2 : Nat) apC), (1, .int .i64 iq), (2, .slice bpA ((bp).length / 2 : Nat) bpC), (8, .slice b93 (((F_s_ReplacePart ap iq bp).1).length / 2 : Nat) c94), (9, .int .i64 ((F_s_ReplacePart ap iq bp).2)), (10, .slice b115 ((ap).length / 2 : Nat) c116), (11, .slice b129 ((bp).length / 2 : Nat) c130), (12, .slice b147 (((F_ReplacePart ap iq bp).1).length / 2 : Nat) c148), (13, .int .i64 ((F_ReplacePart ap iq bp).2))]) ⟨rfl, rfl, rfl, rfl, rfl, rfl, rfl, rfl, rfl, trivial⟩; clear hE160
      refine p_tn ?_
      refine c_seq ?_
      refine c_cut (fun a' w' => E a' 124 [(0, .slice apA ((ap).length / 2 : Nat) apC), (1, .int .i64 iq), (2, .slice bpA ((bp).length / 2 : Nat) bpC), (8, .slice b93 (((F_s_ReplacePart ap iq bp).1).length / 2 : Nat) c94), (9, .int .i64 ((F_s_ReplacePart ap iq bp).2)), (10, .slice b115 ((ap).length / 2 : Nat) c116), (11, .slice b129 ((bp).length / 2 : Nat) c130), (12, .slice b147 (((F_ReplacePart ap iq bp).1).length / 2 : Nat) c148), (13, .int .i64 ((F_ReplacePart ap iq bp).2)), (57, .bool ((!(decide (((F_ReplacePart ap iq bp).1) = ((F_s_ReplacePart ap iq bp).1)))) || (!decide (((F_ReplacePart ap iq bp).2) = ((F_s_ReplacePart ap iq bp).2)))))] ∧ St w w' [.own 94 2 b147 (((F_ReplacePart ap iq bp).1).length / 2 : Nat) c148 ((F_ReplacePart ap iq bp).1), .own 94 2 b129 ((bp).length / 2 : Nat) c130 bp, .own 94 2 b115 ((ap).length / 2 : Nat) c116 ap, .own 94 2 b93 (((F_s_ReplacePart ap iq bp).1).length / 2 : Nat) c94 ((F_s_ReplacePart ap iq bp).1), .own 94 2 b84 ((bp).length / 2 : Nat) c85 bp, .own 94 2 b71 ((ap).length / 2 : Nat) c72 ap, .rd 2 bpA ((bp).length / 2 : Nat) bpC bp, .rd 2 apA ((ap).length / 2 : Nat) apC ap]) ?_ ?_
      ·
        refine c_reg ?_
        refine q_step (v := .slice b147 (((F_ReplacePart ap iq bp).1).length / 2 : Nat) c148) hE161 (y_move rfl) rfl rfl rfl ?_; intro a162 hE163; clear hE161
        refine q_step (v := .slice b93 (((F_s_ReplacePart ap iq bp).1).length / 2 : Nat) c94) hE163 (y_move rfl) rfl rfl rfl ?_; intro a164 hE165; clear hE163
        refine l_step hE165 rfl (l_call (f := 24) (argv := [.slice b147 (((F_ReplacePart ap iq bp).1).length / 2 : Nat) c148, .slice b93 (((F_s_ReplacePart ap iq bp).1).length / 2 : Nat) c94]) hE165 (fun _ => cf_l_eqNodeS _ _) rfl rfl (d_l_eqNodeS b147 (((F_ReplacePart ap iq bp).1).length / 2 : Nat) c148 ((F_ReplacePart ap iq bp).1) b93 (((F_s_ReplacePart ap iq bp).1).length / 2 : Nat) c94 ((F_s_ReplacePart ap iq bp).1) w142 (St.rdO (i := 0) hS145 rfl) (St.rdO (i := 3) hS145 rfl)) ?_)
        rintro _ w167 ⟨rfl, he171⟩ a168 hE169; clear hE165
        have hS170 := St.go hS145 he171; clear hS145
        refine q_step (v := .bool (!(decide (((F_ReplacePart ap iq bp).1) = ((F_s_ReplacePart ap iq bp).1))))) hE169 (y_not rfl) rfl rfl rfl ?_; intro a172 hE173; clear hE169
        refine q_step (v := .bool (!(decide (((F_ReplacePart ap iq bp).1) = ((F_s_ReplacePart ap iq bp).1))))) hE173 (y_move rfl) rfl rfl rfl ?_; intro a174 hE175; clear hE173
        rcases Bool.eq_false_or_eq_true (!(decide (((F_ReplacePart ap iq bp).1) = ((F_s_ReplacePart ap iq bp).1)))) with hb176 | hb176
        ·
          have hE177 := hE175; (try rw [hb176] at hE177); clear hE175
          have ht178 := bn_t hb176
          have hp179 := of_decide_eq_false ht178
          refine q_skip hE177 rfl rfl rfl ?_; intro a180 hE181; clear hE177
          refine q_skip hE181 rfl rfl rfl ?_; intro a182 hE183; clear hE181
          refine q_skip hE183 rfl rfl rfl ?_; intro a184 hE185; clear hE183
          refine q_step (v := .bool true) hE185 (y_pick (b := true) rfl rfl) rfl rfl rfl ?_; intro a186 hE187; clear hE185
          refine c_nil ?_
          have hE188 := hE187.sub (L' := [(0, .slice apA ((ap).length / 2 : Nat) apC), (1, .int .i64 iq), (2, .slice bpA ((bp).length / 2 : Nat) bpC), (8, .slice b93 (((F_s_ReplacePart ap iq bp).1).length / 2 : Nat) c94), (9, .int .i64 ((F_s_ReplacePart ap iq bp).2)), (10, .slice b115 ((ap).length / 2 : Nat) c116), (11, .slice b129 ((bp).length / 2 : Nat) c130), (12, .slice b147 (((F_ReplacePart ap iq bp).1).length / 2 : Nat) c148), (13, .int .i64 ((F_ReplacePart ap iq bp).2)), (57, .bool true)]) ⟨rfl, rfl, rfl, rfl, rfl, rfl, rfl, rfl, rfl, rfl, trivial⟩; clear hE187
          refine p_tn ?_
          have hE189 := hE188.sub (L' := [(0, .slice apA ((ap).length / 2 : Nat) apC), (1, .int .i64 iq), (2, .slice bpA ((bp).length / 2 : Nat) bpC), (8, .slice b93 (((F_s_ReplacePart ap iq bp).1).length / 2 : Nat) c94), (9, .int .i64 ((F_s_ReplacePart ap iq bp).2)), (10, .slice b115 ((ap).length / 2 : Nat) c116), (11, .slice b129 ((bp).length / 2 : Nat) c130), (12, .slice b147 (((F_ReplacePart ap iq bp).1).length / 2 : Nat) c148), (13, .int .i64 ((F_ReplacePart ap iq bp).2)), (57, .bool true)]) ⟨rfl, rfl, rfl, rfl, rfl, rfl, rfl, rfl, rfl, rfl, trivial⟩
          have hS190 := (St.pick (Γ' := [.own 94 2 b147 (((F_ReplacePart ap iq bp).1).length / 2 : Nat) c148 ((F_ReplacePart ap iq bp).1), .own 94 2 b129 ((bp).length / 2 : Nat) c130 bp, .own 94 2 b115 ((ap).length / 2 : Nat) c116 ap, .own 94 2 b93 (((F_s_ReplacePart ap iq bp).1).length / 2 : Nat) c94 ((F_s_ReplacePart ap iq bp).1), .own 94 2 b84 ((bp).length / 2 : Nat) c85 bp, .own 94 2 b71 ((ap).length / 2 : Nat) c72 ap, .rd 2 bpA ((bp).length / 2 : Nat) bpC bp, .rd 2 apA ((ap).length / 2 : Nat) apC ap]) hS170 [0, 1, 2, 3, 4, 5, 6, 7] (by decide) rfl)
          exact ⟨(by rw [hb176]; exact hE189), hS190⟩
        ·
          have hE191 := hE175; (try rw [hb176] at hE191); clear hE175
          have ht192 := bn_f hb176
          have hp193 := of_decide_eq_true ht192
          refine q_step (v := .int .i64 ((F_ReplacePart ap iq bp).2)) hE191 (y_move rfl) rfl rfl rfl ?_; intro a194 hE195; clear hE191
          refine q_step (v := .int .i64 ((F_s_ReplacePart ap iq bp).2)) hE195 (y_move rfl) rfl rfl rfl ?_; intro a196 hE197; clear hE195
          refine q_step (v := .bool (!decide (((F_ReplacePart ap iq bp).2) = ((F_s_ReplacePart ap iq bp).2)))) hE197 (y_neq rfl rfl) rfl rfl rfl ?_; intro a198 hE199; clear hE197
          refine q_step (v := .bool (!decide (((F_ReplacePart ap iq bp).2) = ((F_s_ReplacePart ap iq bp).2)))) hE199 (y_pick (b := false) rfl rfl) rfl rfl rfl ?_; intro a200 hE201; clear hE199
          refine c_nil ?_
          have hE202 := hE201.sub (L' := [(0, .slice apA ((ap).length / 2 : Nat) apC), (1, .int .i64 iq), (2, .slice bpA ((bp).length / 2 : Nat) bpC), (8, .slice b93 (((F_s_ReplacePart ap iq bp).1).length / 2 : Nat) c94), (9, .int .i64 ((F_s_ReplacePart ap iq bp).2)), (10, .slice b115 ((ap).length / 2 : Nat) c116), (11, .slice b129 ((bp).length / 2 : Nat) c130), (12, .slice b147 (((F_ReplacePart ap iq bp).1).length / 2 : Nat) c148), (13, .int .i64 ((F_ReplacePart ap iq bp).2)), (57, .bool (!decide (((F_ReplacePart ap iq bp).2) = ((F_s_ReplacePart ap iq bp).2))))]) ⟨rfl, rfl, rfl, rfl, rfl, rfl, rfl, rfl, rfl, rfl, trivial⟩; clear hE201
          refine p_tn ?_
          have hE203 := hE202.sub (L' := [(0, .slice apA ((ap).length / 2 : Nat) apC), (1, .int .i64 iq), (2, .slice bpA ((bp).length / 2 : Nat) bpC), (8, .slice b93 (((F_s_ReplacePart ap iq bp).1).length / 2 : Nat) c94), (9, .int .i64 ((F_s_ReplacePart ap iq bp).2)), (10, .slice b115 ((ap).length / 2 : Nat) c116), (11, .slice b129 ((bp).length / 2 : Nat) c130), (12, .slice b147 (((F_ReplacePart ap iq bp).1).length / 2 : Nat) c148), (13, .int .i64 ((F_ReplacePart ap iq bp).2)), (57, .bool (!decide (((F_ReplacePart ap iq bp).2) = ((F_s_ReplacePart ap iq bp).2))))]) ⟨rfl, rfl, rfl, rfl, rfl, rfl, rfl, rfl, rfl, rfl, trivial⟩
          have hS204 := (St.pick (Γ' := [.own 94 2 b147 (((F_ReplacePart ap iq bp).1).length / 2 : Nat) c148 ((F_ReplacePart ap iq bp).1), .own 94 2 b129 ((bp).length / 2 : Nat) c130 bp, .own 94 2 b115 ((ap).length / 2 : Nat) c116 ap, .own 94 2 b93 (((F_s_ReplacePart ap iq bp).1).length / 2 : Nat) c94 ((F_s_ReplacePart ap iq bp).1), .own 94 2 b84 ((bp).length / 2 : Nat) c85 bp, .own 94 2 b71 ((ap).length / 2 : Nat) c72 ap, .rd 2 bpA ((bp).length / 2 : Nat) bpC bp, .rd 2 apA ((ap).length / 2 : Nat) apC ap]) hS170 [0, 1, 2, 3, 4, 5, 6, 7] (by decide) rfl)
          exact ⟨(by rw [hb176]; exact hE203), hS204⟩
      ·
        rintro a205 w206 ⟨hE207, hS208⟩; clear hE161 hS145
        refine c_cond hE207 rfl (fun ht210 => ?_) (fun ht210 => ?_)
        ·
          have hE211 := hE207; rw [ht210] at hE211; clear hE207
          refine c_seq ?_
          refine c_reg ?_
          refine q_step (v := .bool false) hE211 (y_assign rfl) rfl rfl rfl ?_; intro a212 hE213; clear hE211
          refine c_nil ?_
          have hE214 := hE213.sub (L' := [(6, .bool false)]) ⟨rfl, trivial⟩; clear hE213
          refine p_tn ?_
          refine wp_ret ?_
          refine p_tr ?_
          have hF : F_l_FnExactReplacePart ap iq bp = false := by unfold F_l_FnExactReplacePart; rw [ht210, ht54, ht27]; first | done | rfl
          refine c_ret1 hE214 rfl rfl ?_
          exact ⟨(by rw [hF]; first | done | rfl), hS208.ext⟩
        ·
          obtain ⟨ht215, ht216⟩ := bor_f ht210
          have ht217 := bn_f ht215
          have hp218 := of_decide_eq_true ht217
          have ht219 := bn_f ht216
          have hp220 := of_decide_eq_true ht219
          have hE221 := hE207; rw [ht210] at hE221; clear hE207
          refine wp_skip ?_
          refine p_tn ?_
          refine c_seq ?_
          refine c_seq ?_
          refine c_reg ?_
          refine q_step (v := .slice b115 ((ap).length / 2 : Nat) c116) hE221 (y_move rfl) rfl rfl rfl ?_; intro a222 hE223; clear hE221
          refine q_step (v := .slice apA ((ap).length / 2 : Nat) apC) hE223 (y_move rfl) rfl rfl rfl ?_; intro a224 hE225; clear hE223
          refine l_step hE225 rfl (l_call (f := 22) (argv := [.slice apA ((ap).length / 2 : Nat) apC]) hE225 (fun _ => cf_l_toNodeS _ _) rfl rfl (d_l_toNodeS apA ((ap).length / 2 : Nat) apC ap w206 (St.rdR (i := 7) hS208 rfl) (by first | omega | (simp only [marked_len]; omega) | (simp only [marked_len] at *; omega))) ?_)
          rintro _ w227 ⟨b232, c233, rfl, ho234, he231⟩ a228 hE229; clear hE225
          have hS230 := St.own hS208 he231 ho234; clear hS208
          refine l_step hE229 rfl (l_call (f := 24) (argv := [.slice b115 ((ap).length / 2 : Nat) c116, .slice b232 ((ap).length / 2 : Nat) c233]) hE229 (fun _ => cf_l_eqNodeS _ _) rfl rfl (d_l_eqNodeS b115 ((ap).length / 2 : Nat) c116 ap b232 ((ap).length / 2 : Nat) c233 ap w227 (St.rdO (i := 3) hS230 rfl) (St.rdO (i := 0) hS230 rfl)) ?_)
          rintro _ w236 ⟨rfl, he240⟩ a237 hE238; clear hE229
          have hS239 := St.go hS230 he240; clear hS230
          refine q_step (v := .bool (!(decide (ap = ap)))) hE238 (y_not rfl) rfl rfl rfl ?_; intro a241 hE242; clear hE238
          refine c_nil ?_
          have hE243 := hE242.sub (L' := [(0, .slice apA ((ap).length / 2 : Nat) apC), (1, .int .i64 iq), (2, .slice bpA ((bp).length / 2 : Nat) bpC), (8, .slice b93 (((F_s_ReplacePart ap iq bp).1).length / 2 : Nat) c94), (9, .int .i64 ((F_s_ReplacePart ap iq bp).2)), (10, .slice b115 ((ap).length / 2 : Nat) c116), (11, .slice b129 ((bp).length / 2 : Nat) c130), (12, .slice b147 (((F_ReplacePart ap iq bp).1).length / 2 : Nat) c148), (13, .int .i64 ((F_ReplacePart ap iq bp).2)), (62, .bool (!(decide (ap = ap))))]) ⟨rfl, rfl, rfl, rfl, rfl, rfl, rfl, rfl, rfl, rfl, trivial⟩; clear hE242
          refine p_tn ?_
          refine c_cond hE243 rfl (fun ht244 => ?_) (fun ht244 => ?_)
          ·
            have ht245 := bn_t ht244
            have hp246 := of_decide_eq_false ht245
            have hE247 := hE243; rw [ht244] at hE247; clear hE243
            refine c_seq ?_
            refine c_reg ?_
            refine q_step (v := .bool false) hE247 (y_assign rfl) rfl rfl rfl ?_; intro a248 hE249; clear hE247
            refine c_nil ?_
            have hE250 := hE249.sub (L' := [(6, .bool false)]) ⟨rfl, trivial⟩; clear hE249
            refine p_tn ?_
            refine wp_ret ?_
            refine p_tr ?_
            have hF : F_l_FnExactReplacePart ap iq bp = false := by unfold F_l_FnExactReplacePart; rw [ht244, ht210, ht54, ht27]; first | done | rfl
            refine c_ret1 hE250 rfl rfl ?_
            exact ⟨(by rw [hF]; first | done | rfl), hS239.ext⟩
          ·
            have ht251 := bn_f ht244
            have hp252 := of_decide_eq_true ht251
            have hE253 := hE243; rw [ht244] at hE253; clear hE243
            refine wp_skip ?_
            refine p_tn ?_
            refine c_seq ?_
            refine c_seq ?_
            refine c_reg ?_
            refine q_step (v := .slice b129 ((bp).length / 2 : Nat) c130) hE253 (y_move rfl) rfl rfl rfl ?_; intro a254 hE255; clear hE253
            refine q_step (v := .slice bpA ((bp).length / 2 : Nat) bpC) hE255 (y_move rfl) rfl rfl rfl ?_; intro a256 hE257; clear hE255
            refine l_step hE257 rfl (l_call (f := 22) (argv := [.slice bpA ((bp).length / 2 : Nat) bpC]) hE257 (fun _ => cf_l_toNodeS _ _) rfl rfl (d_l_toNodeS bpA ((bp).length / 2 : Nat) bpC bp w236 (St.rdR (i := 7) hS239 rfl) (by first | omega | (simp only [marked_len]; omega) | (simp only [marked_len] at *; omega))) ?_)
            rintro _ w259 ⟨b264, c265, rfl, ho266, he263⟩ a260 hE261; clear hE257
            have hS262 := St.own hS239 he263 ho266; clear hS239
            refine l_step hE261 rfl (l_call (f := 24) (argv := [.slice b129 ((bp).length / 2 : Nat) c130, .slice b264 ((bp).length / 2 : Nat) c265]) hE261 (fun _ => cf_l_eqNodeS _ _) rfl rfl (d_l_eqNodeS b129 ((bp).length / 2 : Nat) c130 bp b264 ((bp).length / 2 : Nat) c265 bp w259 (St.rdO (i := 3) hS262 rfl) (St.rdO (i := 0) hS262 rfl)) ?_)
            rintro _ w268 ⟨rfl, he272⟩ a269 hE270; clear hE261
            have hS271 := St.go hS262 he272; clear hS262
            refine q_step (v := .bool (!(decide (bp = bp)))) hE270 (y_not rfl) rfl rfl rfl ?_; intro a273 hE274; clear hE270
            refine c_nil ?_
            have hE275 := hE274.sub (L' := [(0, .slice apA ((ap).length / 2 : Nat) apC), (1, .int .i64 iq), (2, .slice bpA ((bp).length / 2 : Nat) bpC), (8, .slice b93 (((F_s_ReplacePart ap iq bp).1).length / 2 : Nat) c94), (9, .int .i64 ((F_s_ReplacePart ap iq bp).2)), (10, .slice b115 ((ap).length / 2 : Nat) c116), (11, .slice b129 ((bp).length / 2 : Nat) c130), (12, .slice b147 (((F_ReplacePart ap iq bp).1).length / 2 : Nat) c148), (13, .int .i64 ((F_ReplacePart ap iq bp).2)), (67, .bool (!(decide (bp = bp))))]) ⟨rfl, rfl, rfl, rfl, rfl, rfl, rfl, rfl, rfl, rfl, trivial⟩; clear hE274
            refine p_tn ?_
            refine c_cond hE275 rfl (fun ht276 => ?_) (fun ht276 => ?_)
            ·
              have ht277 := bn_t ht276
              have hp278 := of_decide_eq_false ht277
              have hE279 := hE275; rw [ht276] at hE279; clear hE275
              refine c_seq ?_
              refine c_reg ?_
              refine q_step (v := .bool false) hE279 (y_assign rfl) rfl rfl rfl ?_; intro a280 hE281; clear hE279
              refine c_nil ?_
              have hE282 := hE281.sub (L' := [(6, .bool false)]) ⟨rfl, trivial⟩; clear hE281
              refine p_tn ?_
              refine wp_ret ?_
              refine p_tr ?_
              have hF : F_l_FnExactReplacePart ap iq bp = false := by unfold F_l_FnExactReplacePart; rw [ht276, ht244, ht210, ht54, ht27]; first | done | rfl
              refine c_ret1 hE282 rfl rfl ?_
              exact ⟨(by rw [hF]; first | done | rfl), hS271.ext⟩
            ·
              have ht283 := bn_f ht276
              have hp284 := of_decide_eq_true ht283
              have hE285 := hE275; rw [ht276] at hE285; clear hE275
              refine wp_skip ?_
              refine p_tn ?_
              refine c_seq ?_
              refine c_reg ?_
              refine q_step (v := .int .i64 1) hE285 (y_assign rfl) rfl rfl rfl ?_; intro a286 hE287; clear hE285
              refine c_nil ?_
              have hE288 := hE287.sub (L' := [(0, .slice apA ((ap).length / 2 : Nat) apC), (1, .int .i64 iq), (2, .slice bpA ((bp).length / 2 : Nat) bpC), (8, .slice b93 (((F_s_ReplacePart ap iq bp).1).length / 2 : Nat) c94), (9, .int .i64 ((F_s_ReplacePart ap iq bp).2)), (10, .slice b115 ((ap).length / 2 : Nat) c116), (11, .slice b129 ((bp).length / 2 : Nat) c130), (12, .slice b147 (((F_ReplacePart ap iq bp).1).length / 2 : Nat) c148), (13, .int .i64 ((F_ReplacePart ap iq bp).2)), (14, .int .i64 1)]) ⟨rfl, rfl, rfl, rfl, rfl, rfl, rfl, rfl, rfl, rfl, trivial⟩; clear hE287
              refine p_tn ?_
              refine c_seq ?_
              refine c_reg ?_
              refine q_step (v := .slice b115 ((ap).length / 2 : Nat) c116) hE288 (y_move rfl) rfl rfl rfl ?_; intro a289 hE290; clear hE288
              refine q_step (v := .int .i64 1) hE290 (y_move rfl) rfl rfl rfl ?_; intro a291 hE292; clear hE290
              have hS299 := (St.pick (Γ' := [.own 94 2 b115 ((ap).length / 2 : Nat) c116 ap, .own 94 2 b264 ((bp).length / 2 : Nat) c265 bp, .own 94 2 b232 ((ap).length / 2 : Nat) c233 ap, .own 94 2 b147 (((F_ReplacePart ap iq bp).1).length / 2 : Nat) c148 ((F_ReplacePart ap iq bp).1), .own 94 2 b129 ((bp).length / 2 : Nat) c130 bp, .own 94 2 b93 (((F_s_ReplacePart ap iq bp).1).length / 2 : Nat) c94 ((F_s_ReplacePart ap iq bp).1), .own 94 2 b84 ((bp).length / 2 : Nat) c85 bp, .own 94 2 b71 ((ap).length / 2 : Nat) c72 ap, .rd 2 bpA ((bp).length / 2 : Nat) bpC bp, .rd 2 apA ((ap).length / 2 : Nat) apC ap]) hS271 [4, 0, 1, 2, 3, 5, 6, 7, 8, 9] (by decide) rfl); clear hS271
              refine l_step hE292 rfl (l_call (f := 29) (argv := [.slice b115 ((ap).length / 2 : Nat) c116, .int .i64 1]) hE292 (fun _ => cf_l_markNodeS _ _) rfl rfl (d_l_markNodeS b115 ((ap).length / 2 : Nat) c116 ap 1 w268 w [.own 94 2 b264 ((bp).length / 2 : Nat) c265 bp, .own 94 2 b232 ((ap).length / 2 : Nat) c233 ap, .own 94 2 b147 (((F_ReplacePart ap iq bp).1).length / 2 : Nat) c148 ((F_ReplacePart ap iq bp).1), .own 94 2 b129 ((bp).length / 2 : Nat) c130 bp, .own 94 2 b93 (((F_s_ReplacePart ap iq bp).1).length / 2 : Nat) c94 ((F_s_ReplacePart ap iq bp).1), .own 94 2 b84 ((bp).length / 2 : Nat) c85 bp, .own 94 2 b71 ((ap).length / 2 : Nat) c72 ap, .rd 2 bpA ((bp).length / 2 : Nat) bpC bp, .rd 2 apA ((ap).length / 2 : Nat) apC ap] hS299 (by first | omega | (simp only [marked_len]; omega) | (simp only [marked_len] at *; omega)) (by first | omega | (simp only [marked_len]; omega) | (simp only [marked_len] at *; omega)) (by first | omega | (simp only [marked_len]; omega) | (simp only [marked_len] at *; omega))) ?_)
              rintro _ w294 ⟨rfl, hS297⟩ a295 hE296; clear hE292 hS299
              refine q_step (v := .int .i64 (1 + (ap.length : Int))) hE296 (y_assign rfl) rfl rfl rfl ?_; intro a300 hE301; clear hE296
              refine c_nil ?_
              have hE302 := hE301.sub (L' := [(0, .slice apA ((ap).length / 2 : Nat) apC), (1, .int .i64 iq), (2, .slice bpA ((bp).length / 2 : Nat) bpC), (8, .slice b93 (((F_s_ReplacePart ap iq bp).1).length / 2 : Nat) c94), (9, .int .i64 ((F_s_ReplacePart ap iq bp).2)), (11, .slice b129 ((bp).length / 2 : Nat) c130), (12, .slice b147 (((F_ReplacePart ap iq bp).1).length / 2 : Nat) c148), (13, .int .i64 ((F_ReplacePart ap iq bp).2)), (14, .int .i64 (1 + (ap.length : Int)))]) ⟨rfl, rfl, rfl, rfl, rfl, rfl, rfl, rfl, rfl, trivial⟩; clear hE301
              refine p_tn ?_
              refine c_seq ?_
              refine c_reg ?_
              refine q_step (v := .slice b129 ((bp).length / 2 : Nat) c130) hE302 (y_move rfl) rfl rfl rfl ?_; intro a303 hE304; clear hE302
              refine q_step (v := .int .i64 (1 + (ap.length : Int))) hE304 (y_move rfl) rfl rfl rfl ?_; intro a305 hE306; clear hE304
              have hS313 := (St.pick (Γ' := [.own 94 2 b129 ((bp).length / 2 : Nat) c130 bp, .own 94 2 b115 ((ap).length / 2 : Nat) c116 (marked ap.length 1), .own 94 2 b264 ((bp).length / 2 : Nat) c265 bp, .own 94 2 b232 ((ap).length / 2 : Nat) c233 ap, .own 94 2 b147 (((F_ReplacePart ap iq bp).1).length / 2 : Nat) c148 ((F_ReplacePart ap iq bp).1), .own 94 2 b93 (((F_s_ReplacePart ap iq bp).1).length / 2 : Nat) c94 ((F_s_ReplacePart ap iq bp).1), .own 94 2 b84 ((bp).length / 2 : Nat) c85 bp, .own 94 2 b71 ((ap).length / 2 : Nat) c72 ap, .rd 2 bpA ((bp).length / 2 : Nat) bpC bp, .rd 2 apA ((ap).length / 2 : Nat) apC ap]) hS297 [4, 0, 1, 2, 3, 5, 6, 7, 8, 9] (by decide) rfl); clear hS297
              refine l_step hE306 rfl (l_call (f := 29) (argv := [.slice b129 ((bp).length / 2 : Nat) c130, .int .i64 (1 + (ap.length : Int))]) hE306 (fun _ => cf_l_markNodeS _ _) rfl rfl (d_l_markNodeS b129 ((bp).length / 2 : Nat) c130 bp (1 + (ap.length : Int)) w294 w [.own 94 2 b115 ((ap).length / 2 : Nat) c116 (marked ap.length 1), .own 94 2 b264 ((bp).length / 2 : Nat) c265 bp, .own 94 2 b232 ((ap).length / 2 : Nat) c233 ap, .own 94 2 b147 (((F_ReplacePart ap iq bp).1).length / 2 : Nat) c148 ((F_ReplacePart ap iq bp).1), .own 94 2 b93 (((F_s_ReplacePart ap iq bp).1).length / 2 : Nat) c94 ((F_s_ReplacePart ap iq bp).1), .own 94 2 b84 ((bp).length / 2 : Nat) c85 bp, .own 94 2 b71 ((ap).length / 2 : Nat) c72 ap, .rd 2 bpA ((bp).length / 2 : Nat) bpC bp, .rd 2 apA ((ap).length / 2 : Nat) apC ap] hS313 (by first | omega | (simp only [marked_len]; omega) | (simp only [marked_len] at *; omega)) (by first | omega | (simp only [marked_len]; omega) | (simp only [marked_len] at *; omega)) (by first | omega | (simp only [marked_len]; omega) | (simp only [marked_len] at *; omega))) ?_)
              rintro _ w308 ⟨rfl, hS311⟩ a309 hE310; clear hE306 hS313
              refine q_step (v := .int .i64 ((1 + (ap.length : Int)) + (bp.length : Int))) hE310 (y_assign rfl) rfl rfl rfl ?_; intro a314 hE315; clear hE310
              refine c_nil ?_
              have hE316 := hE315.sub (L' := [(0, .slice apA ((ap).length / 2 : Nat) apC), (1, .int .i64 iq), (2, .slice bpA ((bp).length / 2 : Nat) bpC), (8, .slice b93 (((F_s_ReplacePart ap iq bp).1).length / 2 : Nat) c94), (9, .int .i64 ((F_s_ReplacePart ap iq bp).2)), (12, .slice b147 (((F_ReplacePart ap iq bp).1).length / 2 : Nat) c148), (13, .int .i64 ((F_ReplacePart ap iq bp).2)), (14, .int .i64 ((1 + (ap.length : Int)) + (bp.length : Int)))]) ⟨rfl, rfl, rfl, rfl, rfl, rfl, rfl, rfl, trivial⟩; clear hE315
              refine p_tn ?_
              refine c_seq ?_
              refine c_cut (fun a' w' => E a' 124 [(0, .slice apA ((ap).length / 2 : Nat) apC), (1, .int .i64 iq), (2, .slice bpA ((bp).length / 2 : Nat) bpC), (8, .slice b93 (((F_s_ReplacePart ap iq bp).1).length / 2 : Nat) c94), (9, .int .i64 ((F_s_ReplacePart ap iq bp).2)), (12, .slice b147 (((F_ReplacePart ap iq bp).1).length / 2 : Nat) c148), (86, .bool ((decide (((1 + (ap.length : Int)) + (bp.length : Int)) < 0)) || ((!(decide (((F_ReplacePart ap iq bp).1) = ((F_s_ReplacePart ap iq bp).1)))) || (!decide (((F_ReplacePart ap iq bp).2) = ((F_s_ReplacePart ap iq bp).2))))))] ∧ St w w' [.own 94 2 b129 ((bp).length / 2 : Nat) c130 (marked bp.length (1 + (ap.length : Int))), .own 94 2 b115 ((ap).length / 2 : Nat) c116 (marked ap.length 1), .own 94 2 b264 ((bp).length / 2 : Nat) c265 bp, .own 94 2 b232 ((ap).length / 2 : Nat) c233 ap, .own 94 2 b147 (((F_ReplacePart ap iq bp).1).length / 2 : Nat) c148 ((F_ReplacePart ap iq bp).1), .own 94 2 b93 (((F_s_ReplacePart ap iq bp).1).length / 2 : Nat) c94 ((F_s_ReplacePart ap iq bp).1), .own 94 2 b84 ((bp).length / 2 : Nat) c85 bp, .own 94 2 b71 ((ap).length / 2 : Nat) c72 ap, .rd 2 bpA ((bp).length / 2 : Nat) bpC bp, .rd 2 apA ((ap).length / 2 : Nat) apC ap]) ?_ ?_
              ·
                refine c_reg ?_
                refine q_step (v := .int .i64 ((1 + (ap.length : Int)) + (bp.length : Int))) hE316 (y_move rfl) rfl rfl rfl ?_; intro a317 hE318; clear hE316
                refine q_step (v := .bool (decide (((1 + (ap.length : Int)) + (bp.length : Int)) < 0))) hE318 (y_lss rfl rfl) rfl rfl rfl ?_; intro a319 hE320; clear hE318
                refine q_step (v := .bool (decide (((1 + (ap.length : Int)) + (bp.length : Int)) < 0))) hE320 (y_move rfl) rfl rfl rfl ?_; intro a321 hE322; clear hE320
                rcases Bool.eq_false_or_eq_true (decide (((1 + (ap.length : Int)) + (bp.length : Int)) < 0)) with hb323 | hb323
                ·
                  have hE324 := hE322; (try rw [hb323] at hE324); clear hE322
                  have hp325 := of_decide_eq_true hb323
                  refine q_skip hE324 rfl rfl rfl ?_; intro a326 hE327; clear hE324
                  refine q_skip hE327 rfl rfl rfl ?_; intro a328 hE329; clear hE327
                  refine q_skip hE329 rfl rfl rfl ?_; intro a330 hE331; clear hE329
                  refine q_skip hE331 rfl rfl rfl ?_; intro a332 hE333; clear hE331
                  refine q_step (v := .bool true) hE333 (y_pick (b := true) rfl rfl) rfl rfl rfl ?_; intro a334 hE335; clear hE333
                  refine q_step (v := .bool true) hE335 (y_move rfl) rfl rfl rfl ?_; intro a336 hE337; clear hE335
                  refine q_skip hE337 rfl rfl rfl ?_; intro a338 hE339; clear hE337
                  refine q_skip hE339 rfl rfl rfl ?_; intro a340 hE341; clear hE339
                  refine q_skip hE341 rfl rfl rfl ?_; intro a342 hE343; clear hE341
                  refine q_step (v := .bool true) hE343 (y_pick (b := true) rfl rfl) rfl rfl rfl ?_; intro a344 hE345; clear hE343
                  refine c_nil ?_
                  have hE346 := hE345.sub (L' := [(0, .slice apA ((ap).length / 2 : Nat) apC), (1, .int .i64 iq), (2, .slice bpA ((bp).length / 2 : Nat) bpC), (8, .slice b93 (((F_s_ReplacePart ap iq bp).1).length / 2 : Nat) c94), (9, .int .i64 ((F_s_ReplacePart ap iq bp).2)), (12, .slice b147 (((F_ReplacePart ap iq bp).1).length / 2 : Nat) c148), (86, .bool true)]) ⟨rfl, rfl, rfl, rfl, rfl, rfl, rfl, trivial⟩; clear hE345
                  refine p_tn ?_
                  have hE347 := hE346.sub (L' := [(0, .slice apA ((ap).length / 2 : Nat) apC), (1, .int .i64 iq), (2, .slice bpA ((bp).length / 2 : Nat) bpC), (8, .slice b93 (((F_s_ReplacePart ap iq bp).1).length / 2 : Nat) c94), (9, .int .i64 ((F_s_ReplacePart ap iq bp).2)), (12, .slice b147 (((F_ReplacePart ap iq bp).1).length / 2 : Nat) c148), (86, .bool true)]) ⟨rfl, rfl, rfl, rfl, rfl, rfl, rfl, trivial⟩
                  have hS348 := (St.pick (Γ' := [.own 94 2 b129 ((bp).length / 2 : Nat) c130 (marked bp.length (1 + (ap.length : Int))), .own 94 2 b115 ((ap).length / 2 : Nat) c116 (marked ap.length 1), .own 94 2 b264 ((bp).length / 2 : Nat) c265 bp, .own 94 2 b232 ((ap).length / 2 : Nat) c233 ap, .own 94 2 b147 (((F_ReplacePart ap iq bp).1).length / 2 : Nat) c148 ((F_ReplacePart ap iq bp).1), .own 94 2 b93 (((F_s_ReplacePart ap iq bp).1).length / 2 : Nat) c94 ((F_s_ReplacePart ap iq bp).1), .own 94 2 b84 ((bp).length / 2 : Nat) c85 bp, .own 94 2 b71 ((ap).length / 2 : Nat) c72 ap, .rd 2 bpA ((bp).length / 2 : Nat) bpC bp, .rd 2 apA ((ap).length / 2 : Nat) apC ap]) hS311 [0, 1, 2, 3, 4, 5, 6, 7, 8, 9] (by decide) rfl)
                  exact ⟨(by rw [hb323]; exact hE347), hS348⟩
                ·
                  have hE349 := hE322; (try rw [hb323] at hE349); clear hE322
                  have hp350 := of_decide_eq_false hb323
                  refine q_step (v := .slice b147 (((F_ReplacePart ap iq bp).1).length / 2 : Nat) c148) hE349 (y_move rfl) rfl rfl rfl ?_; intro a351 hE352; clear hE349
                  refine q_step (v := .slice b93 (((F_s_ReplacePart ap iq bp).1).length / 2 : Nat) c94) hE352 (y_move rfl) rfl rfl rfl ?_; intro a353 hE354; clear hE352
                  refine l_step hE354 rfl (l_call (f := 24) (argv := [.slice b147 (((F_ReplacePart ap iq bp).1).length / 2 : Nat) c148, .slice b93 (((F_s_ReplacePart ap iq bp).1).length / 2 : Nat) c94]) hE354 (fun _ => cf_l_eqNodeS _ _) rfl rfl (d_l_eqNodeS b147 (((F_ReplacePart ap iq bp).1).length / 2 : Nat) c148 ((F_ReplacePart ap iq bp).1) b93 (((F_s_ReplacePart ap iq bp).1).length / 2 : Nat) c94 ((F_s_ReplacePart ap iq bp).1) w308 (St.rdO (i := 4) hS311 rfl) (St.rdO (i := 5) hS311 rfl)) ?_)
                  rintro _ w356 ⟨rfl, he360⟩ a357 hE358; clear hE354
                  have hS359 := St.go hS311 he360; clear hS311
                  refine q_step (v := .bool (!(decide (((F_ReplacePart ap iq bp).1) = ((F_s_ReplacePart ap iq bp).1))))) hE358 (y_not rfl) rfl rfl rfl ?_; intro a361 hE362; clear hE358
                  refine q_step (v := .bool (!(decide (((F_ReplacePart ap iq bp).1) = ((F_s_ReplacePart ap iq bp).1))))) hE362 (y_pick (b := false) rfl rfl) rfl rfl rfl ?_; intro a363 hE364; clear hE362
                  refine q_step (v := .bool (!(decide (((F_ReplacePart ap iq bp).1) = ((F_s_ReplacePart ap iq bp).1))))) hE364 (y_move rfl) rfl rfl rfl ?_; intro a365 hE366; clear hE364
                  rcases Bool.eq_false_or_eq_true (!(decide (((F_ReplacePart ap iq bp).1) = ((F_s_ReplacePart ap iq bp).1)))) with hb367 | hb367
                  ·
                    have hE368 := hE366; (try rw [hb367] at hE368); clear hE366
                    have ht369 := bn_t hb367
                    have hp370 := of_decide_eq_false ht369
                    refine q_skip hE368 rfl rfl rfl ?_; intro a371 hE372; clear hE368
                    refine q_skip hE372 rfl rfl rfl ?_; intro a373 hE374; clear hE372
                    refine q_skip hE374 rfl rfl rfl ?_; intro a375 hE376; clear hE374
                    refine q_step (v := .bool true) hE376 (y_pick (b := true) rfl rfl) rfl rfl rfl ?_; intro a377 hE378; clear hE376
                    refine c_nil ?_
                    have hE379 := hE378.sub (L' := [(0, .slice apA ((ap).length / 2 : Nat) apC), (1, .int .i64 iq), (2, .slice bpA ((bp).length / 2 : Nat) bpC), (8, .slice b93 (((F_s_ReplacePart ap iq bp).1).length / 2 : Nat) c94), (9, .int .i64 ((F_s_ReplacePart ap iq bp).2)), (12, .slice b147 (((F_ReplacePart ap iq bp).1).length / 2 : Nat) c148), (86, .bool true)]) ⟨rfl, rfl, rfl, rfl, rfl, rfl, rfl, trivial⟩; clear hE378
                    refine p_tn ?_
                    have hE380 := hE379.sub (L' := [(0, .slice apA ((ap).length / 2 : Nat) apC), (1, .int .i64 iq), (2, .slice bpA ((bp).length / 2 : Nat) bpC), (8, .slice b93 (((F_s_ReplacePart ap iq bp).1).length / 2 : Nat) c94), (9, .int .i64 ((F_s_ReplacePart ap iq bp).2)), (12, .slice b147 (((F_ReplacePart ap iq bp).1).length / 2 : Nat) c148), (86, .bool true)]) ⟨rfl, rfl, rfl, rfl, rfl, rfl, rfl, trivial⟩
                    have hS381 := (St.pick (Γ' := [.own 94 2 b129 ((bp).length / 2 : Nat) c130 (marked bp.length (1 + (ap.length : Int))), .own 94 2 b115 ((ap).length / 2 : Nat) c116 (marked ap.length 1), .own 94 2 b264 ((bp).length / 2 : Nat) c265 bp, .own 94 2 b232 ((ap).length / 2 : Nat) c233 ap, .own 94 2 b147 (((F_ReplacePart ap iq bp).1).length / 2 : Nat) c148 ((F_ReplacePart ap iq bp).1), .own 94 2 b93 (((F_s_ReplacePart ap iq bp).1).length / 2 : Nat) c94 ((F_s_ReplacePart ap iq bp).1), .own 94 2 b84 ((bp).length / 2 : Nat) c85 bp, .own 94 2 b71 ((ap).length / 2 : Nat) c72 ap, .rd 2 bpA ((bp).length / 2 : Nat) bpC bp, .rd 2 apA ((ap).length / 2 : Nat) apC ap]) hS359 [0, 1, 2, 3, 4, 5, 6, 7, 8, 9] (by decide) rfl)
                    exact ⟨(by rw [hb367, hb323]; exact hE380), hS381⟩
                  ·
                    have hE382 := hE366; (try rw [hb367] at hE382); clear hE366
                    have ht383 := bn_f hb367
                    have hp384 := of_decide_eq_true ht383
                    refine q_step (v := .int .i64 ((F_ReplacePart ap iq bp).2)) hE382 (y_move rfl) rfl rfl rfl ?_; intro a385 hE386; clear hE382
                    refine q_step (v := .int .i64 ((F_s_ReplacePart ap iq bp).2)) hE386 (y_move rfl) rfl rfl rfl ?_; intro a387 hE388; clear hE386
                    refine q_step (v := .bool (!decide (((F_ReplacePart ap iq bp).2) = ((F_s_ReplacePart ap iq bp).2)))) hE388 (y_neq rfl rfl) rfl rfl rfl ?_; intro a389 hE390; clear hE388
                    refine q_step (v := .bool (!decide (((F_ReplacePart ap iq bp).2) = ((F_s_ReplacePart ap iq bp).2)))) hE390 (y_pick (b := false) rfl rfl) rfl rfl rfl ?_; intro a391 hE392; clear hE390
                    refine c_nil ?_
                    have hE393 := hE392.sub (L' := [(0, .slice apA ((ap).length / 2 : Nat) apC), (1, .int .i64 iq), (2, .slice bpA ((bp).length / 2 : Nat) bpC), (8, .slice b93 (((F_s_ReplacePart ap iq bp).1).length / 2 : Nat) c94), (9, .int .i64 ((F_s_ReplacePart ap iq bp).2)), (12, .slice b147 (((F_ReplacePart ap iq bp).1).length / 2 : Nat) c148), (86, .bool (!decide (((F_ReplacePart ap iq bp).2) = ((F_s_ReplacePart ap iq bp).2))))]) ⟨rfl, rfl, rfl, rfl, rfl, rfl, rfl, trivial⟩; clear hE392
                    refine p_tn ?_
                    have hE394 := hE393.sub (L' := [(0, .slice apA ((ap).length / 2 : Nat) apC), (1, .int .i64 iq), (2, .slice bpA ((bp).length / 2 : Nat) bpC), (8, .slice b93 (((F_s_ReplacePart ap iq bp).1).length / 2 : Nat) c94), (9, .int .i64 ((F_s_ReplacePart ap iq bp).2)), (12, .slice b147 (((F_ReplacePart ap iq bp).1).length / 2 : Nat) c148), (86, .bool (!decide (((F_ReplacePart ap iq bp).2) = ((F_s_ReplacePart ap iq bp).2))))]) ⟨rfl, rfl, rfl, rfl, rfl, rfl, rfl, trivial⟩
                    have hS395 := (St.pick (Γ' := [.own 94 2 b129 ((bp).length / 2 : Nat) c130 (marked bp.length (1 + (ap.length : Int))), .own 94 2 b115 ((ap).length / 2 : Nat) c116 (marked ap.length 1), .own 94 2 b264 ((bp).length / 2 : Nat) c265 bp, .own 94 2 b232 ((ap).length / 2 : Nat) c233 ap, .own 94 2 b147 (((F_ReplacePart ap iq bp).1).length / 2 : Nat) c148 ((F_ReplacePart ap iq bp).1), .own 94 2 b93 (((F_s_ReplacePart ap iq bp).1).length / 2 : Nat) c94 ((F_s_ReplacePart ap iq bp).1), .own 94 2 b84 ((bp).length / 2 : Nat) c85 bp, .own 94 2 b71 ((ap).length / 2 : Nat) c72 ap, .rd 2 bpA ((bp).length / 2 : Nat) bpC bp, .rd 2 apA ((ap).length / 2 : Nat) apC ap]) hS359 [0, 1, 2, 3, 4, 5, 6, 7, 8, 9] (by decide) rfl)
                    exact ⟨(by rw [hb367, hb323]; exact hE394), hS395⟩
              ·
                rintro a396 w397 ⟨hE398, hS399⟩; clear hE316 hS311
                refine c_cond hE398 rfl (fun ht401 => ?_) (fun ht401 => ?_)
                ·
                  have hE402 := hE398; rw [ht401] at hE402; clear hE398
                  refine c_seq ?_
                  refine c_reg ?_
                  refine q_step (v := .bool false) hE402 (y_assign rfl) rfl rfl rfl ?_; intro a403 hE404; clear hE402
                  refine c_nil ?_
                  have hE405 := hE404.sub (L' := [(6, .bool false)]) ⟨rfl, trivial⟩; clear hE404
                  refine p_tn ?_
                  refine wp_ret ?_
                  refine p_tr ?_
                  have hF : F_l_FnExactReplacePart ap iq bp = false := by unfold F_l_FnExactReplacePart; rw [ht401, ht276, ht244, ht210, ht54, ht27]; first | done | rfl
                  refine c_ret1 hE405 rfl rfl ?_
                  exact ⟨(by rw [hF]; first | done | rfl), hS399.ext⟩
                ·
                  obtain ⟨ht406, ht407⟩ := bor_f ht401
                  have hp408 := of_decide_eq_false ht406
                  obtain ⟨ht409, ht410⟩ := bor_f ht407
                  have ht411 := bn_f ht409
                  have hp412 := of_decide_eq_true ht411
                  have ht413 := bn_f ht410
                  have hp414 := of_decide_eq_true ht413
                  have hE415 := hE398; rw [ht401] at hE415; clear hE398
                  refine wp_skip ?_
                  refine p_tn ?_
                  refine c_seq ?_
                  refine c_reg ?_
                  refine q_step (v := .int .i64 1) hE415 (y_assign rfl) rfl rfl rfl ?_; intro a416 hE417; clear hE415
                  refine c_nil ?_
                  have hE418 := hE417.sub (L' := [(0, .slice apA ((ap).length / 2 : Nat) apC), (1, .int .i64 iq), (2, .slice bpA ((bp).length / 2 : Nat) bpC), (8, .slice b93 (((F_s_ReplacePart ap iq bp).1).length / 2 : Nat) c94), (9, .int .i64 ((F_s_ReplacePart ap iq bp).2)), (12, .slice b147 (((F_ReplacePart ap iq bp).1).length / 2 : Nat) c148), (15, .int .i64 1)]) ⟨rfl, rfl, rfl, rfl, rfl, rfl, rfl, trivial⟩; clear hE417
                  refine p_tn ?_
                  refine c_seq ?_
                  refine c_reg ?_
                  refine q_step (v := .slice b147 (((F_ReplacePart ap iq bp).1).length / 2 : Nat) c148) hE418 (y_move rfl) rfl rfl rfl ?_; intro a419 hE420; clear hE418
                  refine q_step (v := .int .i64 1) hE420 (y_move rfl) rfl rfl rfl ?_; intro a421 hE422; clear hE420
                  have hS429 := (St.pick (Γ' := [.own 94 2 b147 (((F_ReplacePart ap iq bp).1).length / 2 : Nat) c148 ((F_ReplacePart ap iq bp).1), .own 94 2 b129 ((bp).length / 2 : Nat) c130 (marked bp.length (1 + (ap.length : Int))), .own 94 2 b115 ((ap).length / 2 : Nat) c116 (marked ap.length 1), .own 94 2 b264 ((bp).length / 2 : Nat) c265 bp, .own 94 2 b232 ((ap).length / 2 : Nat) c233 ap, .own 94 2 b93 (((F_s_ReplacePart ap iq bp).1).length / 2 : Nat) c94 ((F_s_ReplacePart ap iq bp).1), .own 94 2 b84 ((bp).length / 2 : Nat) c85 bp, .own 94 2 b71 ((ap).length / 2 : Nat) c72 ap, .rd 2 bpA ((bp).length / 2 : Nat) bpC bp, .rd 2 apA ((ap).length / 2 : Nat) apC ap]) hS399 [4, 0, 1, 2, 3, 5, 6, 7, 8, 9] (by decide) rfl); clear hS399
                  refine l_step hE422 rfl (l_call (f := 29) (argv := [.slice b147 (((F_ReplacePart ap iq bp).1).length / 2 : Nat) c148, .int .i64 1]) hE422 (fun _ => cf_l_markNodeS _ _) rfl rfl (d_l_markNodeS b147 (((F_ReplacePart ap iq bp).1).length / 2 : Nat) c148 ((F_ReplacePart ap iq bp).1) 1 w397 w [.own 94 2 b129 ((bp).length / 2 : Nat) c130 (marked bp.length (1 + (ap.length : Int))), .own 94 2 b115 ((ap).length / 2 : Nat) c116 (marked ap.length 1), .own 94 2 b264 ((bp).length / 2 : Nat) c265 bp, .own 94 2 b232 ((ap).length / 2 : Nat) c233 ap, .own 94 2 b93 (((F_s_ReplacePart ap iq bp).1).length / 2 : Nat) c94 ((F_s_ReplacePart ap iq bp).1), .own 94 2 b84 ((bp).length / 2 : Nat) c85 bp, .own 94 2 b71 ((ap).length / 2 : Nat) c72 ap, .rd 2 bpA ((bp).length / 2 : Nat) bpC bp, .rd 2 apA ((ap).length / 2 : Nat) apC ap] hS429 (by first | omega | (simp only [marked_len]; omega) | (simp only [marked_len] at *; omega)) (by first | omega | (simp only [marked_len]; omega) | (simp only [marked_len] at *; omega)) (by first | omega | (simp only [marked_len]; omega) | (simp only [marked_len] at *; omega))) ?_)
                  rintro _ w424 ⟨rfl, hS427⟩ a425 hE426; clear hE422 hS429
                  refine q_step (v := .int .i64 (1 + (((F_ReplacePart ap iq bp).1).length : Int))) hE426 (y_assign rfl) rfl rfl rfl ?_; intro a430 hE431; clear hE426
                  refine c_nil ?_
                  have hE432 := hE431.sub (L' := [(0, .slice apA ((ap).length / 2 : Nat) apC), (1, .int .i64 iq), (2, .slice bpA ((bp).length / 2 : Nat) bpC), (8, .slice b93 (((F_s_ReplacePart ap iq bp).1).length / 2 : Nat) c94), (9, .int .i64 ((F_s_ReplacePart ap iq bp).2)), (12, .slice b147 (((F_ReplacePart ap iq bp).1).length / 2 : Nat) c148), (15, .int .i64 (1 + (((F_ReplacePart ap iq bp).1).length : Int)))]) ⟨rfl, rfl, rfl, rfl, rfl, rfl, rfl, trivial⟩; clear hE431
                  refine p_tn ?_
                  refine c_seq ?_
                  refine c_reg ?_
                  refine q_step (v := .int .i64 1) hE432 (y_assign rfl) rfl rfl rfl ?_; intro a433 hE434; clear hE432
                  refine c_nil ?_
                  have hE435 := hE434.sub (L' := [(0, .slice apA ((ap).length / 2 : Nat) apC), (1, .int .i64 iq), (2, .slice bpA ((bp).length / 2 : Nat) bpC), (8, .slice b93 (((F_s_ReplacePart ap iq bp).1).length / 2 : Nat) c94), (9, .int .i64 ((F_s_ReplacePart ap iq bp).2)), (12, .slice b147 (((F_ReplacePart ap iq bp).1).length / 2 : Nat) c148), (15, .int .i64 (1 + (((F_ReplacePart ap iq bp).1).length : Int))), (16, .int .i64 1)]) ⟨rfl, rfl, rfl, rfl, rfl, rfl, rfl, rfl, trivial⟩; clear hE434
                  refine p_tn ?_
                  refine c_seq ?_
                  refine c_reg ?_
                  refine q_step (v := .slice b147 (((F_ReplacePart ap iq bp).1).length / 2 : Nat) c148) hE435 (y_move rfl) rfl rfl rfl ?_; intro a436 hE437; clear hE435
                  refine q_step (v := .int .i64 1) hE437 (y_move rfl) rfl rfl rfl ?_; intro a438 hE439; clear hE437
                  refine l_step hE439 rfl (l_call (f := 30) (argv := [.slice b147 (((F_ReplacePart ap iq bp).1).length / 2 : Nat) c148, .int .i64 1]) hE439 (fun _ => cf_l_heldNodeS _ _) rfl rfl (c_l_heldNodeS b147 (((F_ReplacePart ap iq bp).1).length / 2 : Nat) c148 (marked ((F_ReplacePart ap iq bp).1).length 1) 1 w424 (St.rdO (i := 0) hS427 rfl) (by first | omega | (simp only [marked_len]; omega) | (simp only [marked_len] at *; omega)) (by first | omega | (simp only [marked_len]; omega) | (simp only [marked_len] at *; omega)) (by first | omega | (simp only [marked_len]; omega) | (simp only [marked_len] at *; omega))) ?_)
                  rintro _ w441 ⟨rfl, he445⟩ a442 hE443; clear hE439
                  have hS444 := St.go hS427 he445; clear hS427
                  refine q_step (v := .int .i64 (F_l_heldNodeS (marked ((F_ReplacePart ap iq bp).1).length 1) 1)) hE443 (y_assign rfl) rfl rfl rfl ?_; intro a446 hE447; clear hE443
                  refine c_nil ?_
                  have hE448 := hE447.sub (L' := [(0, .slice apA ((ap).length / 2 : Nat) apC), (1, .int .i64 iq), (2, .slice bpA ((bp).length / 2 : Nat) bpC), (8, .slice b93 (((F_s_ReplacePart ap iq bp).1).length / 2 : Nat) c94), (9, .int .i64 ((F_s_ReplacePart ap iq bp).2)), (12, .slice b147 (((F_ReplacePart ap iq bp).1).length / 2 : Nat) c148), (15, .int .i64 (1 + (((F_ReplacePart ap iq bp).1).length : Int))), (16, .int .i64 (F_l_heldNodeS (marked ((F_ReplacePart ap iq bp).1).length 1) 1))]) ⟨rfl, rfl, rfl, rfl, rfl, rfl, rfl, rfl, trivial⟩; clear hE447
                  refine p_tn ?_
                  refine c_seq ?_
                  refine c_seq ?_
                  refine c_reg ?_
                  refine q_step (v := .int .i64 (F_l_heldNodeS (marked ((F_ReplacePart ap iq bp).1).length 1) 1)) hE448 (y_move rfl) rfl rfl rfl ?_; intro a449 hE450; clear hE448
                  refine q_step (v := .bool (decide ((F_l_heldNodeS (marked ((F_ReplacePart ap iq bp).1).length 1) 1) < 0))) hE450 (y_lss rfl rfl) rfl rfl rfl ?_; intro a451 hE452; clear hE450
                  refine c_nil ?_
                  have hE453 := hE452.sub (L' := [(0, .slice apA ((ap).length / 2 : Nat) apC), (1, .int .i64 iq), (2, .slice bpA ((bp).length / 2 : Nat) bpC), (8, .slice b93 (((F_s_ReplacePart ap iq bp).1).length / 2 : Nat) c94), (9, .int .i64 ((F_s_ReplacePart ap iq bp).2)), (12, .slice b147 (((F_ReplacePart ap iq bp).1).length / 2 : Nat) c148), (15, .int .i64 (1 + (((F_ReplacePart ap iq bp).1).length : Int))), (16, .int .i64 (F_l_heldNodeS (marked ((F_ReplacePart ap iq bp).1).length 1) 1)), (94, .bool (decide ((F_l_heldNodeS (marked ((F_ReplacePart ap iq bp).1).length 1) 1) < 0)))]) ⟨rfl, rfl, rfl, rfl, rfl, rfl, rfl, rfl, rfl, trivial⟩; clear hE452
                  refine p_tn ?_
                  refine c_cond hE453 rfl (fun ht454 => ?_) (fun ht454 => ?_)
                  ·
                    have hp455 := of_decide_eq_true ht454
                    have hE456 := hE453; rw [ht454] at hE456; clear hE453
                    refine c_seq ?_
                    refine c_reg ?_
                    refine q_step (v := .bool false) hE456 (y_assign rfl) rfl rfl rfl ?_; intro a457 hE458; clear hE456
                    refine c_nil ?_
                    have hE459 := hE458.sub (L' := [(6, .bool false)]) ⟨rfl, trivial⟩; clear hE458
                    refine p_tn ?_
                    refine wp_ret ?_
                    refine p_tr ?_
                    have hF : F_l_FnExactReplacePart ap iq bp = false := by unfold F_l_FnExactReplacePart; rw [ht454, ht401, ht276, ht244, ht210, ht54, ht27]; first | done | rfl
                    refine c_ret1 hE459 rfl rfl ?_
                    exact ⟨(by rw [hF]; first | done | rfl), hS444.ext⟩
                  ·
                    have hp460 := of_decide_eq_false ht454
                    have hE461 := hE453; rw [ht454] at hE461; clear hE453
                    refine wp_skip ?_
                    refine p_tn ?_
                    refine c_seq ?_
                    refine c_seq ?_
                    refine c_reg ?_
                    refine q_step (v := .int .i64 (F_l_heldNodeS (marked ((F_ReplacePart ap iq bp).1).length 1) 1)) hE461 (y_move rfl) rfl rfl rfl ?_; intro a462 hE463; clear hE461
                    refine q_step (v := .int .i64 (1 + (((F_ReplacePart ap iq bp).1).length : Int))) hE463 (y_move rfl) rfl rfl rfl ?_; intro a464 hE465; clear hE463
                    refine q_step (v := .bool (!decide ((F_l_heldNodeS (marked ((F_ReplacePart ap iq bp).1).length 1) 1) = (1 + (((F_ReplacePart ap iq bp).1).length : Int))))) hE465 (y_neq rfl rfl) rfl rfl rfl ?_; intro a466 hE467; clear hE465
                    refine c_nil ?_
                    have hE468 := hE467.sub (L' := [(0, .slice apA ((ap).length / 2 : Nat) apC), (1, .int .i64 iq), (2, .slice bpA ((bp).length / 2 : Nat) bpC), (8, .slice b93 (((F_s_ReplacePart ap iq bp).1).length / 2 : Nat) c94), (9, .int .i64 ((F_s_ReplacePart ap iq bp).2)), (12, .slice b147 (((F_ReplacePart ap iq bp).1).length / 2 : Nat) c148), (15, .int .i64 (1 + (((F_ReplacePart ap iq bp).1).length : Int))), (97, .bool (!decide ((F_l_heldNodeS (marked ((F_ReplacePart ap iq bp).1).length 1) 1) = (1 + (((F_ReplacePart ap iq bp).1).length : Int)))))]) ⟨rfl, rfl, rfl, rfl, rfl, rfl, rfl, rfl, trivial⟩; clear hE467
                    refine p_tn ?_
                    refine c_cond hE468 rfl (fun ht469 => ?_) (fun ht469 => ?_)
                    ·
                      have ht470 := bn_t ht469
                      have hp471 := of_decide_eq_false ht470
                      have hE472 := hE468; rw [ht469] at hE472; clear hE468
                      refine c_seq ?_
                      refine c_reg ?_
                      refine q_step (v := .bool false) hE472 (y_assign rfl) rfl rfl rfl ?_; intro a473 hE474; clear hE472
                      refine c_nil ?_
                      have hE475 := hE474.sub (L' := [(6, .bool false)]) ⟨rfl, trivial⟩; clear hE474
                      refine p_tn ?_
                      refine wp_ret ?_
                      refine p_tr ?_
                      have hF : F_l_FnExactReplacePart ap iq bp = false := by unfold F_l_FnExactReplacePart; rw [ht469, ht454, ht401, ht276, ht244, ht210, ht54, ht27]; first | done | rfl
                      refine c_ret1 hE475 rfl rfl ?_
                      exact ⟨(by rw [hF]; first | done | rfl), hS444.ext⟩
                    ·
                      have ht476 := bn_f ht469
                      have hp477 := of_decide_eq_true ht476
                      have hE478 := hE468; rw [ht469] at hE478; clear hE468
                      refine wp_skip ?_
                      refine p_tn ?_
                      refine c_seq ?_
                      refine c_reg ?_
                      refine q_step (v := .slice apA ((ap).length / 2 : Nat) apC) hE478 (y_move rfl) rfl rfl rfl ?_; intro a479 hE480; clear hE478
                      refine l_step hE480 rfl (l_call (f := 22) (argv := [.slice apA ((ap).length / 2 : Nat) apC]) hE480 (fun _ => cf_l_toNodeS _ _) rfl rfl (d_l_toNodeS apA ((ap).length / 2 : Nat) apC ap w441 (St.rdR (i := 9) hS444 rfl) (by first | omega | (simp only [marked_len]; omega) | (simp only [marked_len] at *; omega))) ?_)
                      rintro _ w482 ⟨b487, c488, rfl, ho489, he486⟩ a483 hE484; clear hE480
                      have hS485 := St.own hS444 he486 ho489; clear hS444
                      refine q_step (v := .int .i64 iq) hE484 (y_move rfl) rfl rfl rfl ?_; intro a490 hE491; clear hE484
                      refine q_step (v := .slice bpA ((bp).length / 2 : Nat) bpC) hE491 (y_move rfl) rfl rfl rfl ?_; intro a492 hE493; clear hE491
                      refine l_step hE493 rfl (l_call (f := 22) (argv := [.slice bpA ((bp).length / 2 : Nat) bpC]) hE493 (fun _ => cf_l_toNodeS _ _) rfl rfl (d_l_toNodeS bpA ((bp).length / 2 : Nat) bpC bp w482 (St.rdR (i := 9) hS485 rfl) (by first | omega | (simp only [marked_len]; omega) | (simp only [marked_len] at *; omega))) ?_)
                      rintro _ w495 ⟨b500, c501, rfl, ho502, he499⟩ a496 hE497; clear hE493
                      have hS498 := St.own hS485 he499 ho502; clear hS485
                      refine l_step hE497 rfl (l_call (f := 32) (argv := [.slice b487 ((ap).length / 2 : Nat) c488, .int .i64 iq, .slice b500 ((bp).length / 2 : Nat) c501]) hE497 (fun _ => cf_ReplacePart _ _) rfl rfl (c_ReplacePart b487 ((ap).length / 2 : Nat) c488 ap iq b500 ((bp).length / 2 : Nat) c501 bp w495 (St.rdO (i := 1) hS498 rfl) (St.rdO (i := 0) hS498 rfl) (by first | omega | (simp only [marked_len]; omega) | (simp only [marked_len] at *; omega)) (by first | omega | (simp only [marked_len]; omega) | (simp only [marked_len] at *; omega))) ?_)
                      rintro _ w504 ⟨b509, c510, rfl, ho511, he508⟩ a505 hE506; clear hE497
                      have hf512 := ReplacePart_len ap iq bp
                      have hS507 := St.own hS498 he508 ho511; clear hS498
                      refine q_step (v := .tuple #[.slice b509 (((F_ReplacePart ap iq bp).1).length / 2 : Nat) c510, .int .i64 ((F_ReplacePart ap iq bp).2)]) hE506 (y_move rfl) rfl rfl rfl ?_; intro a513 hE514; clear hE506
                      refine q_step (v := .slice b509 (((F_ReplacePart ap iq bp).1).length / 2 : Nat) c510) hE514 (y_extract rfl rfl) rfl rfl rfl ?_; intro a515 hE516; clear hE514
                      refine q_step (v := .int .i64 ((F_ReplacePart ap iq bp).2)) hE516 (y_extract rfl rfl) rfl rfl rfl ?_; intro a517 hE518; clear hE516
                      refine q_step (v := .slice b509 (((F_ReplacePart ap iq bp).1).length / 2 : Nat) c510) hE518 (y_assign rfl) rfl rfl rfl ?_; intro a519 hE520; clear hE518
                      refine q_step (v := .int .i64 ((F_ReplacePart ap iq bp).2)) hE520 (y_assign rfl) rfl rfl rfl ?_; intro a521 hE522; clear hE520
                      refine c_nil ?_
                      have hE523 := hE522.sub (L' := [(8, .slice b93 (((F_s_ReplacePart ap iq bp).1).length / 2 : Nat) c94), (9, .int .i64 ((F_s_ReplacePart ap iq bp).2)), (12, .slice b147 (((F_ReplacePart ap iq bp).1).length / 2 : Nat) c148), (15, .int .i64 (1 + (((F_ReplacePart ap iq bp).1).length : Int))), (17, .slice b509 (((F_ReplacePart ap iq bp).1).length / 2 : Nat) c510), (18, .int .i64 ((F_ReplacePart ap iq bp).2))]) ⟨rfl, rfl, rfl, rfl, rfl, rfl, trivial⟩; clear hE522
                      refine p_tn ?_
                      refine c_seq ?_
                      refine c_cut (fun a' w' => E a' 124 [(12, .slice b147 (((F_ReplacePart ap iq bp).1).length / 2 : Nat) c148), (15, .int .i64 (1 + (((F_ReplacePart ap iq bp).1).length : Int))), (115, .bool ((!(decide (((F_ReplacePart ap iq bp).1) = ((F_s_ReplacePart ap iq bp).1)))) || (!decide (((F_ReplacePart ap iq bp).2) = ((F_s_ReplacePart ap iq bp).2)))))] ∧ St w w' [.own 94 2 b509 (((F_ReplacePart ap iq bp).1).length / 2 : Nat) c510 ((F_ReplacePart ap iq bp).1), .own 94 2 b500 ((bp).length / 2 : Nat) c501 bp, .own 94 2 b487 ((ap).length / 2 : Nat) c488 ap, .own 94 2 b147 (((F_ReplacePart ap iq bp).1).length / 2 : Nat) c148 (marked ((F_ReplacePart ap iq bp).1).length 1), .own 94 2 b129 ((bp).length / 2 : Nat) c130 (marked bp.length (1 + (ap.length : Int))), .own 94 2 b115 ((ap).length / 2 : Nat) c116 (marked ap.length 1), .own 94 2 b264 ((bp).length / 2 : Nat) c265 bp, .own 94 2 b232 ((ap).length / 2 : Nat) c233 ap, .own 94 2 b93 (((F_s_ReplacePart ap iq bp).1).length / 2 : Nat) c94 ((F_s_ReplacePart ap iq bp).1), .own 94 2 b84 ((bp).length / 2 : Nat) c85 bp, .own 94 2 b71 ((ap).length / 2 : Nat) c72 ap, .rd 2 bpA ((bp).length / 2 : Nat) bpC bp, .rd 2 apA ((ap).length / 2 : Nat) apC ap]) ?_ ?_
                      ·
                        refine c_reg ?_
                        refine q_step (v := .slice b509 (((F_ReplacePart ap iq bp).1).length / 2 : Nat) c510) hE523 (y_move rfl) rfl rfl rfl ?_; intro a524 hE525; clear hE523
                        refine q_step (v := .slice b93 (((F_s_ReplacePart ap iq bp).1).length / 2 : Nat) c94) hE525 (y_move rfl) rfl rfl rfl ?_; intro a526 hE527; clear hE525
                        refine l_step hE527 rfl (l_call (f := 24) (argv := [.slice b509 (((F_ReplacePart ap iq bp).1).length / 2 : Nat) c510, .slice b93 (((F_s_ReplacePart ap iq bp).1).length / 2 : Nat) c94]) hE527 (fun _ => cf_l_eqNodeS _ _) rfl rfl (d_l_eqNodeS b509 (((F_ReplacePart ap iq bp).1).length / 2 : Nat) c510 ((F_ReplacePart ap iq bp).1) b93 (((F_s_ReplacePart ap iq bp).1).length / 2 : Nat) c94 ((F_s_ReplacePart ap iq bp).1) w504 (St.rdO (i := 0) hS507 rfl) (St.rdO (i := 8) hS507 rfl)) ?_)
                        rintro _ w529 ⟨rfl, he533⟩ a530 hE531; clear hE527
                        have hS532 := St.go hS507 he533; clear hS507
                        refine q_step (v := .bool (!(decide (((F_ReplacePart ap iq bp).1) = ((F_s_ReplacePart ap iq bp).1))))) hE531 (y_not rfl) rfl rfl rfl ?_; intro a534 hE535; clear hE531
                        refine q_step (v := .bool (!(decide (((F_ReplacePart ap iq bp).1) = ((F_s_ReplacePart ap iq bp).1))))) hE535 (y_move rfl) rfl rfl rfl ?_; intro a536 hE537; clear hE535
                        rcases Bool.eq_false_or_eq_true (!(decide (((F_ReplacePart ap iq bp).1) = ((F_s_ReplacePart ap iq bp).1)))) with hb538 | hb538
                        ·
                          have hE539 := hE537; (try rw [hb538] at hE539); clear hE537
                          have ht540 := bn_t hb538
                          have hp541 := of_decide_eq_false ht540
                          refine q_skip hE539 rfl rfl rfl ?_; intro a542 hE543; clear hE539
                          refine q_skip hE543 rfl rfl rfl ?_; intro a544 hE545; clear hE543
                          refine q_skip hE545 rfl rfl rfl ?_; intro a546 hE547; clear hE545
                          refine q_step (v := .bool true) hE547 (y_pick (b := true) rfl rfl) rfl rfl rfl ?_; intro a548 hE549; clear hE547
                          refine c_nil ?_
                          have hE550 := hE549.sub (L' := [(12, .slice b147 (((F_ReplacePart ap iq bp).1).length / 2 : Nat) c148), (15, .int .i64 (1 + (((F_ReplacePart ap iq bp).1).length : Int))), (115, .bool true)]) ⟨rfl, rfl, rfl, trivial⟩; clear hE549
                          refine p_tn ?_
                          have hE551 := hE550.sub (L' := [(12, .slice b147 (((F_ReplacePart ap iq bp).1).length / 2 : Nat) c148), (15, .int .i64 (1 + (((F_ReplacePart ap iq bp).1).length : Int))), (115, .bool true)]) ⟨rfl, rfl, rfl, trivial⟩
                          have hS552 := (St.pick (Γ' := [.own 94 2 b509 (((F_ReplacePart ap iq bp).1).length / 2 : Nat) c510 ((F_ReplacePart ap iq bp).1), .own 94 2 b500 ((bp).length / 2 : Nat) c501 bp, .own 94 2 b487 ((ap).length / 2 : Nat) c488 ap, .own 94 2 b147 (((F_ReplacePart ap iq bp).1).length / 2 : Nat) c148 (marked ((F_ReplacePart ap iq bp).1).length 1), .own 94 2 b129 ((bp).length / 2 : Nat) c130 (marked bp.length (1 + (ap.length : Int))), .own 94 2 b115 ((ap).length / 2 : Nat) c116 (marked ap.length 1), .own 94 2 b264 ((bp).length / 2 : Nat) c265 bp, .own 94 2 b232 ((ap).length / 2 : Nat) c233 ap, .own 94 2 b93 (((F_s_ReplacePart ap iq bp).1).length / 2 : Nat) c94 ((F_s_ReplacePart ap iq bp).1), .own 94 2 b84 ((bp).length / 2 : Nat) c85 bp, .own 94 2 b71 ((ap).length / 2 : Nat) c72 ap, .rd 2 bpA ((bp).length / 2 : Nat) bpC bp, .rd 2 apA ((ap).length / 2 : Nat) apC ap]) hS532 [0, 1, 2, 3, 4, 5, 6, 7, 8, 9, 10, 11, 12] (by decide) rfl)
                          exact ⟨(by rw [hb538]; exact hE551), hS552⟩
                        ·
                          have hE553 := hE537; (try rw [hb538] at hE553); clear hE537
                          have ht554 := bn_f hb538
                          have hp555 := of_decide_eq_true ht554
                          refine q_step (v := .int .i64 ((F_ReplacePart ap iq bp).2)) hE553 (y_move rfl) rfl rfl rfl ?_; intro a556 hE557; clear hE553
                          refine q_step (v := .int .i64 ((F_s_ReplacePart ap iq bp).2)) hE557 (y_move rfl) rfl rfl rfl ?_; intro a558 hE559; clear hE557
                          refine q_step (v := .bool (!decide (((F_ReplacePart ap iq bp).2) = ((F_s_ReplacePart ap iq bp).2)))) hE559 (y_neq rfl rfl) rfl rfl rfl ?_; intro a560 hE561; clear hE559
                          refine q_step (v := .bool (!decide (((F_ReplacePart ap iq bp).2) = ((F_s_ReplacePart ap iq bp).2)))) hE561 (y_pick (b := false) rfl rfl) rfl rfl rfl ?_; intro a562 hE563; clear hE561
                          refine c_nil ?_
                          have hE564 := hE563.sub (L' := [(12, .slice b147 (((F_ReplacePart ap iq bp).1).length / 2 : Nat) c148), (15, .int .i64 (1 + (((F_ReplacePart ap iq bp).1).length : Int))), (115, .bool (!decide (((F_ReplacePart ap iq bp).2) = ((F_s_ReplacePart ap iq bp).2))))]) ⟨rfl, rfl, rfl, trivial⟩; clear hE563
                          refine p_tn ?_
                          have hE565 := hE564.sub (L' := [(12, .slice b147 (((F_ReplacePart ap iq bp).1).length / 2 : Nat) c148), (15, .int .i64 (1 + (((F_ReplacePart ap iq bp).1).length : Int))), (115, .bool (!decide (((F_ReplacePart ap iq bp).2) = ((F_s_ReplacePart ap iq bp).2))))]) ⟨rfl, rfl, rfl, trivial⟩
                          have hS566 := (St.pick (Γ' := [.own 94 2 b509 (((F_ReplacePart ap iq bp).1).length / 2 : Nat) c510 ((F_ReplacePart ap iq bp).1), .own 94 2 b500 ((bp).length / 2 : Nat) c501 bp, .own 94 2 b487 ((ap).length / 2 : Nat) c488 ap, .own 94 2 b147 (((F_ReplacePart ap iq bp).1).length / 2 : Nat) c148 (marked ((F_ReplacePart ap iq bp).1).length 1), .own 94 2 b129 ((bp).length / 2 : Nat) c130 (marked bp.length (1 + (ap.length : Int))), .own 94 2 b115 ((ap).length / 2 : Nat) c116 (marked ap.length 1), .own 94 2 b264 ((bp).length / 2 : Nat) c265 bp, .own 94 2 b232 ((ap).length / 2 : Nat) c233 ap, .own 94 2 b93 (((F_s_ReplacePart ap iq bp).1).length / 2 : Nat) c94 ((F_s_ReplacePart ap iq bp).1), .own 94 2 b84 ((bp).length / 2 : Nat) c85 bp, .own 94 2 b71 ((ap).length / 2 : Nat) c72 ap, .rd 2 bpA ((bp).length / 2 : Nat) bpC bp, .rd 2 apA ((ap).length / 2 : Nat) apC ap]) hS532 [0, 1, 2, 3, 4, 5, 6, 7, 8, 9, 10, 11, 12] (by decide) rfl)
                          exact ⟨(by rw [hb538]; exact hE565), hS566⟩
                      ·
                        rintro a567 w568 ⟨hE569, hS570⟩; clear hE523 hS507
                        have hE572 := hE569; rw [ht210] at hE572; clear hE569
                        refine c_false hE572 rfl ?_
                        refine wp_skip ?_
                        refine p_tn ?_
                        refine c_seq ?_
                        refine c_reg ?_
                        refine q_step (v := .int .i64 1) hE572 (y_assign rfl) rfl rfl rfl ?_; intro a573 hE574; clear hE572
                        refine c_nil ?_
                        have hE575 := hE574.sub (L' := [(12, .slice b147 (((F_ReplacePart ap iq bp).1).length / 2 : Nat) c148), (15, .int .i64 (1 + (((F_ReplacePart ap iq bp).1).length : Int))), (16, .int .i64 1)]) ⟨rfl, rfl, rfl, trivial⟩; clear hE574
                        refine p_tn ?_
                        refine c_seq ?_
                        refine c_reg ?_
                        refine q_step (v := .slice b147 (((F_ReplacePart ap iq bp).1).length / 2 : Nat) c148) hE575 (y_move rfl) rfl rfl rfl ?_; intro a576 hE577; clear hE575
                        refine q_step (v := .int .i64 1) hE577 (y_move rfl) rfl rfl rfl ?_; intro a578 hE579; clear hE577
                        refine l_step hE579 rfl (l_call (f := 30) (argv := [.slice b147 (((F_ReplacePart ap iq bp).1).length / 2 : Nat) c148, .int .i64 1]) hE579 (fun _ => cf_l_heldNodeS _ _) rfl rfl (c_l_heldNodeS b147 (((F_ReplacePart ap iq bp).1).length / 2 : Nat) c148 (marked ((F_ReplacePart ap iq bp).1).length 1) 1 w568 (St.rdO (i := 3) hS570 rfl) (by first | omega | (simp only [marked_len]; omega) | (simp only [marked_len] at *; omega)) (by first | omega | (simp only [marked_len]; omega) | (simp only [marked_len] at *; omega)) (by first | omega | (simp only [marked_len]; omega) | (simp only [marked_len] at *; omega))) ?_)
                        rintro _ w581 ⟨rfl, he585⟩ a582 hE583; clear hE579
                        have hS584 := St.go hS570 he585; clear hS570
                        refine q_step (v := .int .i64 (F_l_heldNodeS (marked ((F_ReplacePart ap iq bp).1).length 1) 1)) hE583 (y_assign rfl) rfl rfl rfl ?_; intro a586 hE587; clear hE583
                        refine c_nil ?_
                        have hE588 := hE587.sub (L' := [(15, .int .i64 (1 + (((F_ReplacePart ap iq bp).1).length : Int))), (16, .int .i64 (F_l_heldNodeS (marked ((F_ReplacePart ap iq bp).1).length 1) 1))]) ⟨rfl, rfl, trivial⟩; clear hE587
                        refine p_tn ?_
                        refine c_seq ?_
                        refine c_seq ?_
                        refine c_reg ?_
                        refine q_step (v := .int .i64 (F_l_heldNodeS (marked ((F_ReplacePart ap iq bp).1).length 1) 1)) hE588 (y_move rfl) rfl rfl rfl ?_; intro a589 hE590; clear hE588
                        refine q_step (v := .bool (decide ((F_l_heldNodeS (marked ((F_ReplacePart ap iq bp).1).length 1) 1) < 0))) hE590 (y_lss rfl rfl) rfl rfl rfl ?_; intro a591 hE592; clear hE590
                        refine c_nil ?_
                        have hE593 := hE592.sub (L' := [(15, .int .i64 (1 + (((F_ReplacePart ap iq bp).1).length : Int))), (16, .int .i64 (F_l_heldNodeS (marked ((F_ReplacePart ap iq bp).1).length 1) 1)), (120, .bool (decide ((F_l_heldNodeS (marked ((F_ReplacePart ap iq bp).1).length 1) 1) < 0)))]) ⟨rfl, rfl, rfl, trivial⟩; clear hE592
                        refine p_tn ?_
                        have hE594 := hE593; rw [ht454] at hE594; clear hE593
                        refine c_false hE594 rfl ?_
                        refine wp_skip ?_
                        refine p_tn ?_
                        refine c_seq ?_
                        refine c_seq ?_
                        refine c_reg ?_
                        refine q_step (v := .int .i64 (F_l_heldNodeS (marked ((F_ReplacePart ap iq bp).1).length 1) 1)) hE594 (y_move rfl) rfl rfl rfl ?_; intro a595 hE596; clear hE594
                        refine q_step (v := .int .i64 (1 + (((F_ReplacePart ap iq bp).1).length : Int))) hE596 (y_move rfl) rfl rfl rfl ?_; intro a597 hE598; clear hE596
                        refine q_step (v := .bool (!decide ((F_l_heldNodeS (marked ((F_ReplacePart ap iq bp).1).length 1) 1) = (1 + (((F_ReplacePart ap iq bp).1).length : Int))))) hE598 (y_neq rfl rfl) rfl rfl rfl ?_; intro a599 hE600; clear hE598
                        refine c_nil ?_
                        have hE601 := hE600.sub (L' := [(123, .bool (!decide ((F_l_heldNodeS (marked ((F_ReplacePart ap iq bp).1).length 1) 1) = (1 + (((F_ReplacePart ap iq bp).1).length : Int)))))]) ⟨rfl, trivial⟩; clear hE600
                        refine p_tn ?_
                        have hE602 := hE601; rw [ht469] at hE602; clear hE601
                        refine c_false hE602 rfl ?_
                        refine wp_skip ?_
                        refine p_tn ?_
                        refine c_seq ?_
                        refine c_reg ?_
                        refine q_step (v := .bool true) hE602 (y_assign rfl) rfl rfl rfl ?_; intro a603 hE604; clear hE602
                        refine c_nil ?_
                        have hE605 := hE604.sub (L' := [(6, .bool true)]) ⟨rfl, trivial⟩; clear hE604
                        refine p_tn ?_
                        refine wp_ret ?_
                        have hF : F_l_FnExactReplacePart ap iq bp = true := by unfold F_l_FnExactReplacePart; rw [ht469, ht454, ht401, ht276, ht244, ht210, ht54, ht27]; first | done | rfl
                        refine c_ret1 hE605 rfl rfl ?_
                        exact ⟨(by rw [hF]; first | done | rfl), hS584.ext⟩

theorem slI_ev {xs : List Int} (he : xs.length = xs.length / 2 * 2) (l h : Int) : (slI 2 xs l h).length = (slI 2 xs l h).length / 2 * 2 := by
  unfold slI
  rw [List.length_take, List.length_drop]
  omega
theorem app_ev {xs ys : List Int} (hx : xs.length = xs.length / 2 * 2) (hy : ys.length = ys.length / 2 * 2) : (xs ++ ys).length = (xs ++ ys).length / 2 * 2 := by
  rw [List.length_append]; omega
theorem ReplacePart_ev (ap : List Int) (i : Int) (bp : List Int) (ha : ap.length = ap.length / 2 * 2) (hb : bp.length = bp.length / 2 * 2) : (F_s_ReplacePart ap i bp).1.length = (F_s_ReplacePart ap i bp).1.length / 2 * 2 := by
  have h3 : (F_l03Put ap i bp).length = (F_l03Put ap i bp).length / 2 * 2 := app_ev (app_ev (slI_ev ha _ _) hb) (slI_ev ha _ _)
  unfold F_s_ReplacePart
  cases F_l02Is ap <;> cases F_l02Is bp <;> cases F_l01In i 0 (((ap.length / 2 : Nat) : Int) - 1) <;> cases decide (40 < (((F_l03Put ap i bp).length / 2 : Nat) : Int)) <;> first | (simp; done) | exact h3
theorem FnExactReplacePart_true (ap : List Int) (i : Int) (bp : List Int) (ha : ap.length = ap.length / 2 * 2) (hb : bp.length = bp.length / 2 * 2) : F_l_FnExactReplacePart ap i bp = true := by
  have hv := ReplacePart_ev ap i bp ha hb
  unfold F_l_FnExactReplacePart
  rw [ReplacePart_eq]
  rw [heldNodeS_eq _ _ hv]
  simp
  omega


end Go.Proofs.Ytkilkfhjfobcdaa
