/- GLPS: models and contracts, printed by wip/gen/gen.py -/
import Derived.Test.YthogljcjjmclcaaGA
import Derived.Test.YthogljcjjmclcaaGPS
set_option linter.unusedVariables false
set_option linter.unusedSimpArgs false
namespace Go.Proofs.Ythogljcjjmclcaa
open Go.RowKit

def F_l_FnExactSumPosets (pp0 : Int) (pp1 : List Int) (qp0 : Int) (qp1 : List Int) : Bool :=
  bif (decide ((F_l_szPoset pp0 pp1 1048576) < 0)) then true else (bif (decide ((F_l_szPoset qp0 qp1 (F_l_szPoset pp0 pp1 1048576)) < 0)) then true else (bif ((!(decide (((((F_SumPosets pp0 pp1 qp0 qp1).1).1), (((F_SumPosets pp0 pp1 qp0 qp1).1).2)) = ((((F_s_SumPosets pp0 pp1 qp0 qp1).1).1), (((F_s_SumPosets pp0 pp1 qp0 qp1).1).2))))) || (!decide (((F_SumPosets pp0 pp1 qp0 qp1).2) = ((F_s_SumPosets pp0 pp1 qp0 qp1).2)))) then false else (bif (!(decide ((pp0, pp1) = (pp0, pp1)))) then false else (bif (!(decide ((qp0, qp1) = (qp0, qp1)))) then false else (bif ((decide (((1 + (pp1.length : Int)) + (qp1.length : Int)) < 0)) || ((!(decide (((((F_SumPosets pp0 pp1 qp0 qp1).1).1), (((F_SumPosets pp0 pp1 qp0 qp1).1).2)) = ((((F_s_SumPosets pp0 pp1 qp0 qp1).1).1), (((F_s_SumPosets pp0 pp1 qp0 qp1).1).2))))) || (!decide (((F_SumPosets pp0 pp1 qp0 qp1).2) = ((F_s_SumPosets pp0 pp1 qp0 qp1).2))))) then false else (bif (decide ((F_l_heldPoset (((F_SumPosets pp0 pp1 qp0 qp1).1).1) (marked (((F_SumPosets pp0 pp1 qp0 qp1).1).2).length 1) 1) < 0)) then false else (bif (!decide ((F_l_heldPoset (((F_SumPosets pp0 pp1 qp0 qp1).1).1) (marked (((F_SumPosets pp0 pp1 qp0 qp1).1).2).length 1) 1) = (1 + ((((F_SumPosets pp0 pp1 qp0 qp1).1).2).length : Int)))) then false else true)))))))
theorem cf_l_FnExactSumPosets (args : Array Value) (w : World) : (callFunc 10 args).run Try.prog w = .ok (.enter 10 args) w := by kernel_rfl
set_option maxRecDepth 100000 in
theorem c_l_FnExactSumPosets (pp0 : Int) (pp1A : Option Addr) (pp1N pp1C : Nat) (pp1 : List Int) (qp0 : Int) (qp1A : Option Addr) (qp1N qp1C : Nat) (qp1 : List Int) (w : World) (pp1R : RdS w 1 pp1A pp1N pp1C pp1) (qp1R : RdS w 1 qp1A qp1N qp1C qp1) :
    Calls Try.prog 10 #[.agg #[.int .i64 pp0, .slice pp1A pp1N pp1C], .agg #[.int .i64 qp0, .slice qp1A qp1N qp1C]] w (Ret fun v w' => v = .bool (F_l_FnExactSumPosets pp0 pp1 qp0 qp1) ∧ Ext w w') := by
  obtain rfl : pp1N = pp1.length := pp1R.len1.symm
  have pp1Le := pp1R.le
  obtain rfl : qp1N = qp1.length := qp1R.len1.symm
  have qp1Le := qp1R.le
  have hS := St.nil w
  have hS1 := St.rd0 hS rfl pp1R; clear hS
  have hS2 := St.rd0 hS1 rfl qp1R; clear hS1
  refine enter (args := [.agg #[.int .i64 pp0, .slice pp1A pp1.length pp1C], .agg #[.int .i64 qp0, .slice qp1A qp1.length qp1C]]) Try.func10 rfl rfl ?_
  rw [Try.ntmps10]; intro a hE
  have hE := hE.sub (L' := [(0, .agg #[.int .i64 pp0, .slice pp1A pp1.length pp1C]), (1, .agg #[.int .i64 qp0, .slice qp1A qp1.length qp1C])]) ⟨rfl, rfl, trivial⟩
  refine c_seq ?_
  refine c_reg ?_
  refine l_step hE rfl (l_box (v := .agg #[.int .i64 pp0, .slice pp1A pp1.length pp1C]) (cs := #[.int .i64 pp0, .slice pp1A pp1.length pp1C]) hS2 hE rfl rfl rfl ?_)
  intro b3 w4 hS7 he8 a5 hE6; clear hS2 hE
  refine l_step hE6 rfl (l_box (v := .agg #[.int .i64 qp0, .slice qp1A qp1.length qp1C]) (cs := #[.int .i64 qp0, .slice qp1A qp1.length qp1C]) hS7 hE6 rfl rfl rfl ?_)
  intro b9 w10 hS13 he14 a11 hE12; clear hS7 hE6
  refine q_step (v := .bool false) hE12 (y_assign rfl) rfl rfl rfl ?_; intro a15 hE16; clear hE12
  refine c_nil ?_
  have hE17 := hE16.sub (L' := [(2, .pointer (some ⟨b3, 0, none⟩)), (3, .pointer (some ⟨b9, 0, none⟩))]) ⟨rfl, rfl, trivial⟩; clear hE16
  refine p_tn ?_
  refine c_seq ?_
  refine c_reg ?_
  refine q_step (v := .int .i64 1048576) hE17 (y_assign rfl) rfl rfl rfl ?_; intro a18 hE19; clear hE17
  refine c_nil ?_
  have hE20 := hE19.sub (L' := [(2, .pointer (some ⟨b3, 0, none⟩)), (3, .pointer (some ⟨b9, 0, none⟩)), (5, .int .i64 1048576)]) ⟨rfl, rfl, rfl, trivial⟩; clear hE19
  refine p_tn ?_
  refine c_seq ?_
  refine c_reg ?_
  refine q_step (v := .agg #[.int .i64 pp0, .slice pp1A pp1.length pp1C]) hE20 (y_loadS Try.underlying24 rfl (by kernel_rfl) rfl (St.row (i := 1) hS13 rfl)) rfl rfl rfl ?_; intro a21 hE22; clear hE20
  refine q_step (v := .int .i64 1048576) hE22 (y_move rfl) rfl rfl rfl ?_; intro a23 hE24; clear hE22
  refine l_step hE24 rfl (l_call (f := 14) (argv := [.agg #[.int .i64 pp0, .slice pp1A pp1.length pp1C], .int .i64 1048576]) hE24 (fun _ => cf_l_szPoset _ _) rfl rfl (c_l_szPoset pp0 pp1A pp1.length pp1C pp1 1048576 w10 (St.rdR (i := 3) hS13 rfl) (by first | omega | (simp only [marked_len]; omega) | (simp only [marked_len] at *; omega)) (by first | omega | (simp only [marked_len]; omega) | (simp only [marked_len] at *; omega))) ?_)
  rintro _ w26 ⟨rfl, he30⟩ a27 hE28; clear hE24
  have hS29 := St.go hS13 he30; clear hS13
  refine q_step (v := .int .i64 (F_l_szPoset pp0 pp1 1048576)) hE28 (y_assign rfl) rfl rfl rfl ?_; intro a31 hE32; clear hE28
  refine c_nil ?_
  have hE33 := hE32.sub (L' := [(2, .pointer (some ⟨b3, 0, none⟩)), (3, .pointer (some ⟨b9, 0, none⟩)), (5, .int .i64 (F_l_szPoset pp0 pp1 1048576))]) ⟨rfl, rfl, rfl, trivial⟩; clear hE32
  refine p_tn ?_
  refine c_seq ?_
  refine c_seq ?_
  refine c_reg ?_
  refine q_step (v := .int .i64 (F_l_szPoset pp0 pp1 1048576)) hE33 (y_move rfl) rfl rfl rfl ?_; intro a34 hE35; clear hE33
  refine q_step (v := .bool (decide ((F_l_szPoset pp0 pp1 1048576) < 0))) hE35 (y_lss rfl rfl) rfl rfl rfl ?_; intro a36 hE37; clear hE35
  refine c_nil ?_
  have hE38 := hE37.sub (L' := [(2, .pointer (some ⟨b3, 0, none⟩)), (3, .pointer (some ⟨b9, 0, none⟩)), (5, .int .i64 (F_l_szPoset pp0 pp1 1048576)), (21, .bool (decide ((F_l_szPoset pp0 pp1 1048576) < 0)))]) ⟨rfl, rfl, rfl, rfl, trivial⟩; clear hE37
  refine p_tn ?_
  refine c_cond hE38 rfl (fun ht39 => ?_) (fun ht39 => ?_)
  ·
    have hp40 := of_decide_eq_true ht39
    have hE41 := hE38; rw [ht39] at hE41; clear hE38
    refine c_seq ?_
    refine c_reg ?_
    refine q_step (v := .bool true) hE41 (y_assign rfl) rfl rfl rfl ?_; intro a42 hE43; clear hE41
    refine c_nil ?_
    have hE44 := hE43.sub (L' := [(4, .bool true)]) ⟨rfl, trivial⟩; clear hE43
    refine p_tn ?_
    refine wp_ret ?_
    refine p_tr ?_
    have hF : F_l_FnExactSumPosets pp0 pp1 qp0 qp1 = true := by unfold F_l_FnExactSumPosets; rw [ht39]; first | done | rfl
    refine c_ret1 hE44 rfl rfl ?_
    exact ⟨(by rw [hF]; first | done | rfl), hS29.ext⟩
  ·
    have hp45 := of_decide_eq_false ht39
    have hq46 := szPoset_bound hp45
    have hE47 := hE38; rw [ht39] at hE47; clear hE38
    refine wp_skip ?_
    refine p_tn ?_
    refine c_seq ?_
    refine c_reg ?_
    refine q_step (v := .agg #[.int .i64 qp0, .slice qp1A qp1.length qp1C]) hE47 (y_loadS Try.underlying24 rfl (by kernel_rfl) rfl (St.row (i := 0) hS29 rfl)) rfl rfl rfl ?_; intro a48 hE49; clear hE47
    refine q_step (v := .int .i64 (F_l_szPoset pp0 pp1 1048576)) hE49 (y_move rfl) rfl rfl rfl ?_; intro a50 hE51; clear hE49
    refine l_step hE51 rfl (l_call (f := 14) (argv := [.agg #[.int .i64 qp0, .slice qp1A qp1.length qp1C], .int .i64 (F_l_szPoset pp0 pp1 1048576)]) hE51 (fun _ => cf_l_szPoset _ _) rfl rfl (c_l_szPoset qp0 qp1A qp1.length qp1C qp1 (F_l_szPoset pp0 pp1 1048576) w26 (St.rdR (i := 2) hS29 rfl) (by first | omega | (simp only [marked_len]; omega) | (simp only [marked_len] at *; omega)) (by first | omega | (simp only [marked_len]; omega) | (simp only [marked_len] at *; omega))) ?_)
    rintro _ w53 ⟨rfl, he57⟩ a54 hE55; clear hE51
    have hS56 := St.go hS29 he57; clear hS29
    refine q_step (v := .int .i64 (F_l_szPoset qp0 qp1 (F_l_szPoset pp0 pp1 1048576))) hE55 (y_assign rfl) rfl rfl rfl ?_; intro a58 hE59; clear hE55
    refine c_nil ?_
    have hE60 := hE59.sub (L' := [(2, .pointer (some ⟨b3, 0, none⟩)), (3, .pointer (some ⟨b9, 0, none⟩)), (5, .int .i64 (F_l_szPoset qp0 qp1 (F_l_szPoset pp0 pp1 1048576)))]) ⟨rfl, rfl, rfl, trivial⟩; clear hE59
    refine p_tn ?_
    refine c_seq ?_
    refine c_seq ?_
    refine c_reg ?_
    refine q_step (v := .int .i64 (F_l_szPoset qp0 qp1 (F_l_szPoset pp0 pp1 1048576))) hE60 (y_move rfl) rfl rfl rfl ?_; intro a61 hE62; clear hE60
    refine q_step (v := .bool (decide ((F_l_szPoset qp0 qp1 (F_l_szPoset pp0 pp1 1048576)) < 0))) hE62 (y_lss rfl rfl) rfl rfl rfl ?_; intro a63 hE64; clear hE62
    refine c_nil ?_
    have hE65 := hE64.sub (L' := [(2, .pointer (some ⟨b3, 0, none⟩)), (3, .pointer (some ⟨b9, 0, none⟩)), (26, .bool (decide ((F_l_szPoset qp0 qp1 (F_l_szPoset pp0 pp1 1048576)) < 0)))]) ⟨rfl, rfl, rfl, trivial⟩; clear hE64
    refine p_tn ?_
    refine c_cond hE65 rfl (fun ht66 => ?_) (fun ht66 => ?_)
    ·
      have hp67 := of_decide_eq_true ht66
      have hE68 := hE65; rw [ht66] at hE68; clear hE65
      refine c_seq ?_
      refine c_reg ?_
      refine q_step (v := .bool true) hE68 (y_assign rfl) rfl rfl rfl ?_; intro a69 hE70; clear hE68
      refine c_nil ?_
      have hE71 := hE70.sub (L' := [(4, .bool true)]) ⟨rfl, trivial⟩; clear hE70
      refine p_tn ?_
      refine wp_ret ?_
      refine p_tr ?_
      have hF : F_l_FnExactSumPosets pp0 pp1 qp0 qp1 = true := by unfold F_l_FnExactSumPosets; rw [ht66, ht39]; first | done | rfl
      refine c_ret1 hE71 rfl rfl ?_
      exact ⟨(by rw [hF]; first | done | rfl), hS56.ext⟩
    ·
      have hp72 := of_decide_eq_false ht66
      have hq73 := szPoset_bound hp72
      have hE74 := hE65; rw [ht66] at hE74; clear hE65
      refine wp_skip ?_
      refine p_tn ?_
      refine c_cut (fun a' w' => ∃ b75 : Nat, ∃ b76 : Option Addr, ∃ c77 : Nat, E a' 119 [(2, .pointer (some ⟨b3, 0, none⟩)), (3, .pointer (some ⟨b9, 0, none⟩)), (6, .pointer (some ⟨b75, 0, none⟩)), (7, .int .i64 ((F_s_SumPosets pp0 pp1 qp0 qp1).2))] ∧ St w w' [.rd 1 qp1A qp1.length qp1C qp1, .blk b9 #[.int .i64 qp0, .slice qp1A qp1.length qp1C] 24, .rd 1 pp1A pp1.length pp1C pp1, .blk b3 #[.int .i64 pp0, .slice pp1A pp1.length pp1C] 24, .own 2 1 b76 ((((F_s_SumPosets pp0 pp1 qp0 qp1).1).2).length) c77 (((F_s_SumPosets pp0 pp1 qp0 qp1).1).2), .blk b75 #[.int .i64 (((F_s_SumPosets pp0 pp1 qp0 qp1).1).1), .slice b76 ((((F_s_SumPosets pp0 pp1 qp0 qp1).1).2).length) c77] 27]) ?_ ?_
      ·
        refine d_start (fun w w' => (fun w' => w'.heap[b3]? = some (.cells #[.int .i64 pp0, .slice pp1A pp1.length pp1C] 24 (0, 0)) ∧ w'.heap[b9]? = some (.cells #[.int .i64 qp0, .slice qp1A qp1.length qp1C] 24 (0, 0)) ∧ True) w → (fun w' => w'.heap[b3]? = some (.cells #[.int .i64 pp0, .slice pp1A pp1.length pp1C] 24 (0, 0)) ∧ w'.heap[b9]? = some (.cells #[.int .i64 qp0, .slice qp1A qp1.length qp1C] 24 (0, 0)) ∧ True) w') [0, 2] 11 (by kernel_rfl) rfl ?_
        intro w78 he79; have hS80 := St.go hS56 he79; clear hS56
        refine d_take (fun _ h => h) (fun _ _ h k => h k) (v := .agg #[.int .i64 pp0, .slice pp1A pp1.length pp1C]) 0 rfl hE74 (S := fun w' => w'.heap[b3]? = some (.cells #[.int .i64 pp0, .slice pp1A pp1.length pp1C] 24 (0, 0)) ∧ w'.heap[b9]? = some (.cells #[.int .i64 qp0, .slice qp1A qp1.length qp1C] 24 (0, 0)) ∧ True) ⟨(St.row (i := 1) hS80 rfl _ (Ext.refl _)), (St.row (i := 0) hS80 rfl _ (Ext.refl _)), trivial⟩ (y_loadS Try.underlying24 rfl (by kernel_rfl) rfl (fun _ h => h.1)) rfl rfl (by kernel_rfl) (by kernel_rfl) (by kernel_rfl) (by kernel_rfl) rfl rfl (fun _ _ _ h => h) ?_; intro a81 hE82; clear hE74
        refine d_take (fun _ h => h) (fun _ _ h k => h k) (v := .agg #[.int .i64 qp0, .slice qp1A qp1.length qp1C]) 2 rfl hE82 (S := fun w' => w'.heap[b3]? = some (.cells #[.int .i64 pp0, .slice pp1A pp1.length pp1C] 24 (0, 0)) ∧ w'.heap[b9]? = some (.cells #[.int .i64 qp0, .slice qp1A qp1.length qp1C] 24 (0, 0)) ∧ True) ⟨(St.row (i := 1) hS80 rfl _ (Ext.refl _)), (St.row (i := 0) hS80 rfl _ (Ext.refl _)), trivial⟩ (y_loadS Try.underlying24 rfl (by kernel_rfl) rfl (fun _ h => h.2.1)) rfl rfl (by kernel_rfl) (by kernel_rfl) (by kernel_rfl) (by kernel_rfl) rfl rfl (fun _ _ _ h => h) ?_; intro a83 hE84; clear hE82
        refine d_two 1 8 (by kernel_rfl) rfl rfl hE84 rfl rfl ?_ ?_
        ·
          refine l_call (f := 16) (argv := [.agg #[.int .i64 pp0, .slice pp1A pp1.length pp1C]]) hE84 (fun _ => cf_l_toPoset _ _) rfl rfl (d_l_toPoset pp0 pp1A pp1.length pp1C pp1 w78 (St.rdR (i := 3) hS80 rfl) (by first | omega | (simp only [marked_len]; omega) | (simp only [marked_len] at *; omega))) ?_
          rintro _ w86 ⟨b91, c92, rfl, ho93, he90⟩ a87 hE88; clear hE84
          have hS89 := St.own hS80 he90 ho93; clear hS80
          refine ⟨fun _ _ => ⟨(St.row (i := 2) hS89 rfl _ (Ext.refl _)), (St.row (i := 1) hS89 rfl _ (Ext.refl _)), trivial⟩, ?_⟩
          refine d_two 3 8 (by kernel_rfl) rfl rfl hE88 rfl rfl ?_ ?_
          ·
            refine l_call (f := 16) (argv := [.agg #[.int .i64 qp0, .slice qp1A qp1.length qp1C]]) hE88 (fun _ => cf_l_toPoset _ _) rfl rfl (d_l_toPoset qp0 qp1A qp1.length qp1C qp1 w86 (St.rdR (i := 3) hS89 rfl) (by first | omega | (simp only [marked_len]; omega) | (simp only [marked_len] at *; omega))) ?_
            rintro _ w95 ⟨b100, c101, rfl, ho102, he99⟩ a96 hE97; clear hE88
            have hS98 := St.own hS89 he99 ho102; clear hS89
            refine ⟨fun h => Bool.noConfusion (h.symm.trans (show exm _ _ _ = true by kernel_rfl)), ?_⟩
            refine d_two 4 8 (by kernel_rfl) rfl rfl hE97 rfl rfl ?_ ?_
            ·
              refine l_call (f := 37) (argv := [.agg #[.int .i64 pp0, .slice b91 ((pp1).length) c92], .agg #[.int .i64 qp0, .slice b100 ((qp1).length) c101]]) hE97 (fun _ => cf_s_SumPosets _ _) rfl rfl (c_s_SumPosets pp0 b91 ((pp1).length) c92 pp1 qp0 b100 ((qp1).length) c101 qp1 w95 (St.rdO (i := 1) hS98 rfl) (St.rdO (i := 0) hS98 rfl)) ?_
              rintro _ w104 ⟨b109, c110, rfl, ho111, he108⟩ a105 hE106; clear hE97
              have hS107 := St.own hS98 he108 ho111; clear hS98
              refine ⟨fun h => Bool.noConfusion (h.symm.trans (show exm _ _ _ = true by kernel_rfl)), ?_⟩
              refine d_pure (fun _ h => h) (v := .tuple #[.agg #[.int .i64 (((F_s_SumPosets pp0 pp1 qp0 qp1).1).1), .slice b109 ((((F_s_SumPosets pp0 pp1 qp0 qp1).1).2).length) c110], .int .i64 ((F_s_SumPosets pp0 pp1 qp0 qp1).2)]) 5 rfl hE106 (y_move rfl) rfl (by kernel_rfl) (by kernel_rfl) (by kernel_rfl) rfl rfl (fun _ _ _ h => h) ?_; intro a112 hE113; clear hE106
              refine d_pure (fun _ h => h) (v := .agg #[.int .i64 (((F_s_SumPosets pp0 pp1 qp0 qp1).1).1), .slice b109 ((((F_s_SumPosets pp0 pp1 qp0 qp1).1).2).length) c110]) 6 rfl hE113 (y_extract rfl rfl) rfl (by kernel_rfl) (by kernel_rfl) (by kernel_rfl) rfl rfl (fun _ _ _ h => h) ?_; intro a114 hE115; clear hE113
              refine d_pure (fun _ h => h) (v := .int .i64 ((F_s_SumPosets pp0 pp1 qp0 qp1).2)) 7 rfl hE115 (y_extract rfl rfl) rfl (by kernel_rfl) (by kernel_rfl) (by kernel_rfl) rfl rfl (fun _ _ _ h => h) ?_; intro a116 hE117; clear hE115
              refine d_only 8 (by kernel_rfl) rfl hE117 rfl (l_alloc (z := .agg #[.int .i64 0, .slice none 0 0]) (cs := #[.int .i64 0, .slice none 0 0]) hS107 hE117 (fun _ => by kernel_rfl) rfl rfl ?_)
              intro b118 w119 hS122 he123 a120 hE121; clear hS107 hE117
              refine ⟨fun _ _ => ⟨(St.row (i := 5) hS122 rfl _ (Ext.refl _)), (St.row (i := 4) hS122 rfl _ (Ext.refl _)), trivial⟩, ?_⟩
              refine d_only 9 (by kernel_rfl) rfl hE121 rfl (l_storeS (k := 0) (cs' := #[.int .i64 (((F_s_SumPosets pp0 pp1 qp0 qp1).1).1), .slice b109 ((((F_s_SumPosets pp0 pp1 qp0 qp1).1).2).length) c110]) hS122 hE121 (by kernel_rfl) rfl rfl (by kernel_rfl) rfl rfl ?_)
              intro w125 hS128 a126 hE127; clear hS122 hE121
              refine ⟨fun h => Bool.noConfusion (h.symm.trans (show exm _ _ _ = true by kernel_rfl)), ?_⟩
              refine d_pure (fun _ h => h) (v := .int .i64 ((F_s_SumPosets pp0 pp1 qp0 qp1).2)) 10 rfl hE127 (y_assign rfl) rfl (by kernel_rfl) (by kernel_rfl) (by kernel_rfl) rfl rfl (fun _ _ _ h => h) ?_; intro a130 hE131; clear hE127
              refine d_done (by kernel_rfl) ?_
              have hE132 := hE131.sub (L' := [(2, .pointer (some ⟨b3, 0, none⟩)), (3, .pointer (some ⟨b9, 0, none⟩)), (6, .pointer (some ⟨b118, 0, none⟩)), (7, .int .i64 ((F_s_SumPosets pp0 pp1 qp0 qp1).2))]) ⟨rfl, rfl, rfl, rfl, trivial⟩; clear hE131
              refine p_tn ?_
              have hE133 := hE132.sub (L' := [(2, .pointer (some ⟨b3, 0, none⟩)), (3, .pointer (some ⟨b9, 0, none⟩)), (6, .pointer (some ⟨b118, 0, none⟩)), (7, .int .i64 ((F_s_SumPosets pp0 pp1 qp0 qp1).2))]) ⟨rfl, rfl, rfl, rfl, trivial⟩
              have hS134 := (St.pick (Γ' := [.rd 1 qp1A qp1.length qp1C qp1, .blk b9 #[.int .i64 qp0, .slice qp1A qp1.length qp1C] 24, .rd 1 pp1A pp1.length pp1C pp1, .blk b3 #[.int .i64 pp0, .slice pp1A pp1.length pp1C] 24, .own 2 1 b109 ((((F_s_SumPosets pp0 pp1 qp0 qp1).1).2).length) c110 (((F_s_SumPosets pp0 pp1 qp0 qp1).1).2), .blk b118 #[.int .i64 (((F_s_SumPosets pp0 pp1 qp0 qp1).1).1), .slice b109 ((((F_s_SumPosets pp0 pp1 qp0 qp1).1).2).length) c110] 27]) hS128 [6, 4, 7, 5, 1, 0] (by decide) rfl)
              exact ⟨b118, b109, c110, hE133, hS134⟩
            ·
              refine l_alloc (z := .agg #[.int .i64 0, .slice none 0 0]) (cs := #[.int .i64 0, .slice none 0 0]) hS98 hE97 (fun _ => by kernel_rfl) rfl rfl ?_
              intro b135 w136 hS139 he140 a137 hE138; clear hS98 hE97
              refine ⟨fun _ _ => ⟨(St.row (i := 4) hS139 rfl _ (Ext.refl _)), (St.row (i := 3) hS139 rfl _ (Ext.refl _)), trivial⟩, ?_⟩
              refine d_only 4 (by kernel_rfl) rfl hE138 rfl (l_call (f := 37) (argv := [.agg #[.int .i64 pp0, .slice b91 ((pp1).length) c92], .agg #[.int .i64 qp0, .slice b100 ((qp1).length) c101]]) hE138 (fun _ => cf_s_SumPosets _ _) rfl rfl (c_s_SumPosets pp0 b91 ((pp1).length) c92 pp1 qp0 b100 ((qp1).length) c101 qp1 w136 (St.rdO (i := 2) hS139 rfl) (St.rdO (i := 1) hS139 rfl)) ?_)
              rintro _ w142 ⟨b147, c148, rfl, ho149, he146⟩ a143 hE144; clear hE138
              have hS145 := St.own hS139 he146 ho149; clear hS139
              refine ⟨fun h => Bool.noConfusion (h.symm.trans (show exm _ _ _ = true by kernel_rfl)), ?_⟩
              refine d_pure (fun _ h => h) (v := .tuple #[.agg #[.int .i64 (((F_s_SumPosets pp0 pp1 qp0 qp1).1).1), .slice b147 ((((F_s_SumPosets pp0 pp1 qp0 qp1).1).2).length) c148], .int .i64 ((F_s_SumPosets pp0 pp1 qp0 qp1).2)]) 5 rfl hE144 (y_move rfl) rfl (by kernel_rfl) (by kernel_rfl) (by kernel_rfl) rfl rfl (fun _ _ _ h => h) ?_; intro a150 hE151; clear hE144
              refine d_pure (fun _ h => h) (v := .agg #[.int .i64 (((F_s_SumPosets pp0 pp1 qp0 qp1).1).1), .slice b147 ((((F_s_SumPosets pp0 pp1 qp0 qp1).1).2).length) c148]) 6 rfl hE151 (y_extract rfl rfl) rfl (by kernel_rfl) (by kernel_rfl) (by kernel_rfl) rfl rfl (fun _ _ _ h => h) ?_; intro a152 hE153; clear hE151
              refine d_pure (fun _ h => h) (v := .int .i64 ((F_s_SumPosets pp0 pp1 qp0 qp1).2)) 7 rfl hE153 (y_extract rfl rfl) rfl (by kernel_rfl) (by kernel_rfl) (by kernel_rfl) rfl rfl (fun _ _ _ h => h) ?_; intro a154 hE155; clear hE153
              refine d_only 9 (by kernel_rfl) rfl hE155 rfl (l_storeS (k := 1) (cs' := #[.int .i64 (((F_s_SumPosets pp0 pp1 qp0 qp1).1).1), .slice b147 ((((F_s_SumPosets pp0 pp1 qp0 qp1).1).2).length) c148]) hS145 hE155 (by kernel_rfl) rfl rfl (by kernel_rfl) rfl rfl ?_)
              intro w157 hS160 a158 hE159; clear hS145 hE155
              refine ⟨fun h => Bool.noConfusion (h.symm.trans (show exm _ _ _ = true by kernel_rfl)), ?_⟩
              refine d_pure (fun _ h => h) (v := .int .i64 ((F_s_SumPosets pp0 pp1 qp0 qp1).2)) 10 rfl hE159 (y_assign rfl) rfl (by kernel_rfl) (by kernel_rfl) (by kernel_rfl) rfl rfl (fun _ _ _ h => h) ?_; intro a162 hE163; clear hE159
              refine d_done (by kernel_rfl) ?_
              have hE164 := hE163.sub (L' := [(2, .pointer (some ⟨b3, 0, none⟩)), (3, .pointer (some ⟨b9, 0, none⟩)), (6, .pointer (some ⟨b135, 0, none⟩)), (7, .int .i64 ((F_s_SumPosets pp0 pp1 qp0 qp1).2))]) ⟨rfl, rfl, rfl, rfl, trivial⟩; clear hE163
              refine p_tn ?_
              have hE165 := hE164.sub (L' := [(2, .pointer (some ⟨b3, 0, none⟩)), (3, .pointer (some ⟨b9, 0, none⟩)), (6, .pointer (some ⟨b135, 0, none⟩)), (7, .int .i64 ((F_s_SumPosets pp0 pp1 qp0 qp1).2))]) ⟨rfl, rfl, rfl, rfl, trivial⟩
              have hS166 := (St.pick (Γ' := [.rd 1 qp1A qp1.length qp1C qp1, .blk b9 #[.int .i64 qp0, .slice qp1A qp1.length qp1C] 24, .rd 1 pp1A pp1.length pp1C pp1, .blk b3 #[.int .i64 pp0, .slice pp1A pp1.length pp1C] 24, .own 2 1 b147 ((((F_s_SumPosets pp0 pp1 qp0 qp1).1).2).length) c148 (((F_s_SumPosets pp0 pp1 qp0 qp1).1).2), .blk b135 #[.int .i64 (((F_s_SumPosets pp0 pp1 qp0 qp1).1).1), .slice b147 ((((F_s_SumPosets pp0 pp1 qp0 qp1).1).2).length) c148] 27]) hS160 [6, 4, 7, 5, 0, 1] (by decide) rfl)
              exact ⟨b135, b147, c148, hE165, hS166⟩
          ·
            refine l_alloc (z := .agg #[.int .i64 0, .slice none 0 0]) (cs := #[.int .i64 0, .slice none 0 0]) hS89 hE88 (fun _ => by kernel_rfl) rfl rfl ?_
            intro b167 w168 hS171 he172 a169 hE170; clear hS89 hE88
            refine ⟨fun _ _ => ⟨(St.row (i := 3) hS171 rfl _ (Ext.refl _)), (St.row (i := 2) hS171 rfl _ (Ext.refl _)), trivial⟩, ?_⟩
            refine d_only 3 (by kernel_rfl) rfl hE170 rfl (l_call (f := 16) (argv := [.agg #[.int .i64 qp0, .slice qp1A qp1.length qp1C]]) hE170 (fun _ => cf_l_toPoset _ _) rfl rfl (d_l_toPoset qp0 qp1A qp1.length qp1C qp1 w168 (St.rdR (i := 4) hS171 rfl) (by first | omega | (simp only [marked_len]; omega) | (simp only [marked_len] at *; omega))) ?_)
            rintro _ w174 ⟨b179, c180, rfl, ho181, he178⟩ a175 hE176; clear hE170
            have hS177 := St.own hS171 he178 ho181; clear hS171
            refine ⟨fun h => Bool.noConfusion (h.symm.trans (show exm _ _ _ = true by kernel_rfl)), ?_⟩
            refine d_only 4 (by kernel_rfl) rfl hE176 rfl (l_call (f := 37) (argv := [.agg #[.int .i64 pp0, .slice b91 ((pp1).length) c92], .agg #[.int .i64 qp0, .slice b179 ((qp1).length) c180]]) hE176 (fun _ => cf_s_SumPosets _ _) rfl rfl (c_s_SumPosets pp0 b91 ((pp1).length) c92 pp1 qp0 b179 ((qp1).length) c180 qp1 w174 (St.rdO (i := 2) hS177 rfl) (St.rdO (i := 0) hS177 rfl)) ?_)
            rintro _ w183 ⟨b188, c189, rfl, ho190, he187⟩ a184 hE185; clear hE176
            have hS186 := St.own hS177 he187 ho190; clear hS177
            refine ⟨fun h => Bool.noConfusion (h.symm.trans (show exm _ _ _ = true by kernel_rfl)), ?_⟩
            refine d_pure (fun _ h => h) (v := .tuple #[.agg #[.int .i64 (((F_s_SumPosets pp0 pp1 qp0 qp1).1).1), .slice b188 ((((F_s_SumPosets pp0 pp1 qp0 qp1).1).2).length) c189], .int .i64 ((F_s_SumPosets pp0 pp1 qp0 qp1).2)]) 5 rfl hE185 (y_move rfl) rfl (by kernel_rfl) (by kernel_rfl) (by kernel_rfl) rfl rfl (fun _ _ _ h => h) ?_; intro a191 hE192; clear hE185
            refine d_pure (fun _ h => h) (v := .agg #[.int .i64 (((F_s_SumPosets pp0 pp1 qp0 qp1).1).1), .slice b188 ((((F_s_SumPosets pp0 pp1 qp0 qp1).1).2).length) c189]) 6 rfl hE192 (y_extract rfl rfl) rfl (by kernel_rfl) (by kernel_rfl) (by kernel_rfl) rfl rfl (fun _ _ _ h => h) ?_; intro a193 hE194; clear hE192
            refine d_pure (fun _ h => h) (v := .int .i64 ((F_s_SumPosets pp0 pp1 qp0 qp1).2)) 7 rfl hE194 (y_extract rfl rfl) rfl (by kernel_rfl) (by kernel_rfl) (by kernel_rfl) rfl rfl (fun _ _ _ h => h) ?_; intro a195 hE196; clear hE194
            refine d_only 9 (by kernel_rfl) rfl hE196 rfl (l_storeS (k := 2) (cs' := #[.int .i64 (((F_s_SumPosets pp0 pp1 qp0 qp1).1).1), .slice b188 ((((F_s_SumPosets pp0 pp1 qp0 qp1).1).2).length) c189]) hS186 hE196 (by kernel_rfl) rfl rfl (by kernel_rfl) rfl rfl ?_)
            intro w198 hS201 a199 hE200; clear hS186 hE196
            refine ⟨fun h => Bool.noConfusion (h.symm.trans (show exm _ _ _ = true by kernel_rfl)), ?_⟩
            refine d_pure (fun _ h => h) (v := .int .i64 ((F_s_SumPosets pp0 pp1 qp0 qp1).2)) 10 rfl hE200 (y_assign rfl) rfl (by kernel_rfl) (by kernel_rfl) (by kernel_rfl) rfl rfl (fun _ _ _ h => h) ?_; intro a203 hE204; clear hE200
            refine d_done (by kernel_rfl) ?_
            have hE205 := hE204.sub (L' := [(2, .pointer (some ⟨b3, 0, none⟩)), (3, .pointer (some ⟨b9, 0, none⟩)), (6, .pointer (some ⟨b167, 0, none⟩)), (7, .int .i64 ((F_s_SumPosets pp0 pp1 qp0 qp1).2))]) ⟨rfl, rfl, rfl, rfl, trivial⟩; clear hE204
            refine p_tn ?_
            have hE206 := hE205.sub (L' := [(2, .pointer (some ⟨b3, 0, none⟩)), (3, .pointer (some ⟨b9, 0, none⟩)), (6, .pointer (some ⟨b167, 0, none⟩)), (7, .int .i64 ((F_s_SumPosets pp0 pp1 qp0 qp1).2))]) ⟨rfl, rfl, rfl, rfl, trivial⟩
            have hS207 := (St.pick (Γ' := [.rd 1 qp1A qp1.length qp1C qp1, .blk b9 #[.int .i64 qp0, .slice qp1A qp1.length qp1C] 24, .rd 1 pp1A pp1.length pp1C pp1, .blk b3 #[.int .i64 pp0, .slice pp1A pp1.length pp1C] 24, .own 2 1 b188 ((((F_s_SumPosets pp0 pp1 qp0 qp1).1).2).length) c189 (((F_s_SumPosets pp0 pp1 qp0 qp1).1).2), .blk b167 #[.int .i64 (((F_s_SumPosets pp0 pp1 qp0 qp1).1).1), .slice b188 ((((F_s_SumPosets pp0 pp1 qp0 qp1).1).2).length) c189] 27]) hS201 [6, 4, 7, 5, 0, 2] (by decide) rfl)
            exact ⟨b167, b188, c189, hE206, hS207⟩
        ·
          refine l_alloc (z := .agg #[.int .i64 0, .slice none 0 0]) (cs := #[.int .i64 0, .slice none 0 0]) hS80 hE84 (fun _ => by kernel_rfl) rfl rfl ?_
          intro b208 w209 hS212 he213 a210 hE211; clear hS80 hE84
          refine ⟨fun _ _ => ⟨(St.row (i := 2) hS212 rfl _ (Ext.refl _)), (St.row (i := 1) hS212 rfl _ (Ext.refl _)), trivial⟩, ?_⟩
          refine d_only 1 (by kernel_rfl) rfl hE211 rfl (l_call (f := 16) (argv := [.agg #[.int .i64 pp0, .slice pp1A pp1.length pp1C]]) hE211 (fun _ => cf_l_toPoset _ _) rfl rfl (d_l_toPoset pp0 pp1A pp1.length pp1C pp1 w209 (St.rdR (i := 4) hS212 rfl) (by first | omega | (simp only [marked_len]; omega) | (simp only [marked_len] at *; omega))) ?_)
          rintro _ w215 ⟨b220, c221, rfl, ho222, he219⟩ a216 hE217; clear hE211
          have hS218 := St.own hS212 he219 ho222; clear hS212
          refine ⟨fun _ _ => ⟨(St.row (i := 3) hS218 rfl _ (Ext.refl _)), (St.row (i := 2) hS218 rfl _ (Ext.refl _)), trivial⟩, ?_⟩
          refine d_only 3 (by kernel_rfl) rfl hE217 rfl (l_call (f := 16) (argv := [.agg #[.int .i64 qp0, .slice qp1A qp1.length qp1C]]) hE217 (fun _ => cf_l_toPoset _ _) rfl rfl (d_l_toPoset qp0 qp1A qp1.length qp1C qp1 w215 (St.rdR (i := 4) hS218 rfl) (by first | omega | (simp only [marked_len]; omega) | (simp only [marked_len] at *; omega))) ?_)
          rintro _ w224 ⟨b229, c230, rfl, ho231, he228⟩ a225 hE226; clear hE217
          have hS227 := St.own hS218 he228 ho231; clear hS218
          refine ⟨fun h => Bool.noConfusion (h.symm.trans (show exm _ _ _ = true by kernel_rfl)), ?_⟩
          refine d_only 4 (by kernel_rfl) rfl hE226 rfl (l_call (f := 37) (argv := [.agg #[.int .i64 pp0, .slice b220 ((pp1).length) c221], .agg #[.int .i64 qp0, .slice b229 ((qp1).length) c230]]) hE226 (fun _ => cf_s_SumPosets _ _) rfl rfl (c_s_SumPosets pp0 b220 ((pp1).length) c221 pp1 qp0 b229 ((qp1).length) c230 qp1 w224 (St.rdO (i := 1) hS227 rfl) (St.rdO (i := 0) hS227 rfl)) ?_)
          rintro _ w233 ⟨b238, c239, rfl, ho240, he237⟩ a234 hE235; clear hE226
          have hS236 := St.own hS227 he237 ho240; clear hS227
          refine ⟨fun h => Bool.noConfusion (h.symm.trans (show exm _ _ _ = true by kernel_rfl)), ?_⟩
          refine d_pure (fun _ h => h) (v := .tuple #[.agg #[.int .i64 (((F_s_SumPosets pp0 pp1 qp0 qp1).1).1), .slice b238 ((((F_s_SumPosets pp0 pp1 qp0 qp1).1).2).length) c239], .int .i64 ((F_s_SumPosets pp0 pp1 qp0 qp1).2)]) 5 rfl hE235 (y_move rfl) rfl (by kernel_rfl) (by kernel_rfl) (by kernel_rfl) rfl rfl (fun _ _ _ h => h) ?_; intro a241 hE242; clear hE235
          refine d_pure (fun _ h => h) (v := .agg #[.int .i64 (((F_s_SumPosets pp0 pp1 qp0 qp1).1).1), .slice b238 ((((F_s_SumPosets pp0 pp1 qp0 qp1).1).2).length) c239]) 6 rfl hE242 (y_extract rfl rfl) rfl (by kernel_rfl) (by kernel_rfl) (by kernel_rfl) rfl rfl (fun _ _ _ h => h) ?_; intro a243 hE244; clear hE242
          refine d_pure (fun _ h => h) (v := .int .i64 ((F_s_SumPosets pp0 pp1 qp0 qp1).2)) 7 rfl hE244 (y_extract rfl rfl) rfl (by kernel_rfl) (by kernel_rfl) (by kernel_rfl) rfl rfl (fun _ _ _ h => h) ?_; intro a245 hE246; clear hE244
          refine d_only 9 (by kernel_rfl) rfl hE246 rfl (l_storeS (k := 3) (cs' := #[.int .i64 (((F_s_SumPosets pp0 pp1 qp0 qp1).1).1), .slice b238 ((((F_s_SumPosets pp0 pp1 qp0 qp1).1).2).length) c239]) hS236 hE246 (by kernel_rfl) rfl rfl (by kernel_rfl) rfl rfl ?_)
          intro w248 hS251 a249 hE250; clear hS236 hE246
          refine ⟨fun h => Bool.noConfusion (h.symm.trans (show exm _ _ _ = true by kernel_rfl)), ?_⟩
          refine d_pure (fun _ h => h) (v := .int .i64 ((F_s_SumPosets pp0 pp1 qp0 qp1).2)) 10 rfl hE250 (y_assign rfl) rfl (by kernel_rfl) (by kernel_rfl) (by kernel_rfl) rfl rfl (fun _ _ _ h => h) ?_; intro a253 hE254; clear hE250
          refine d_done (by kernel_rfl) ?_
          have hE255 := hE254.sub (L' := [(2, .pointer (some ⟨b3, 0, none⟩)), (3, .pointer (some ⟨b9, 0, none⟩)), (6, .pointer (some ⟨b208, 0, none⟩)), (7, .int .i64 ((F_s_SumPosets pp0 pp1 qp0 qp1).2))]) ⟨rfl, rfl, rfl, rfl, trivial⟩; clear hE254
          refine p_tn ?_
          have hE256 := hE255.sub (L' := [(2, .pointer (some ⟨b3, 0, none⟩)), (3, .pointer (some ⟨b9, 0, none⟩)), (6, .pointer (some ⟨b208, 0, none⟩)), (7, .int .i64 ((F_s_SumPosets pp0 pp1 qp0 qp1).2))]) ⟨rfl, rfl, rfl, rfl, trivial⟩
          have hS257 := (St.pick (Γ' := [.rd 1 qp1A qp1.length qp1C qp1, .blk b9 #[.int .i64 qp0, .slice qp1A qp1.length qp1C] 24, .rd 1 pp1A pp1.length pp1C pp1, .blk b3 #[.int .i64 pp0, .slice pp1A pp1.length pp1C] 24, .own 2 1 b238 ((((F_s_SumPosets pp0 pp1 qp0 qp1).1).2).length) c239 (((F_s_SumPosets pp0 pp1 qp0 qp1).1).2), .blk b208 #[.int .i64 (((F_s_SumPosets pp0 pp1 qp0 qp1).1).1), .slice b238 ((((F_s_SumPosets pp0 pp1 qp0 qp1).1).2).length) c239] 27]) hS251 [6, 4, 7, 5, 0, 3] (by decide) rfl)
          exact ⟨b208, b238, c239, hE256, hS257⟩
      ·
        rintro a258 w259 ⟨b75, b76, c77, hE260, hS261⟩; clear hE74 hS56
        refine c_seq ?_
        refine c_reg ?_
        refine q_step (v := .agg #[.int .i64 pp0, .slice pp1A pp1.length pp1C]) hE260 (y_loadS Try.underlying24 rfl (by kernel_rfl) rfl (St.row (i := 3) hS261 rfl)) rfl rfl rfl ?_; intro a263 hE264; clear hE260
        refine l_step hE264 rfl (l_call (f := 16) (argv := [.agg #[.int .i64 pp0, .slice pp1A pp1.length pp1C]]) hE264 (fun _ => cf_l_toPoset _ _) rfl rfl (d_l_toPoset pp0 pp1A pp1.length pp1C pp1 w259 (St.rdR (i := 2) hS261 rfl) (by first | omega | (simp only [marked_len]; omega) | (simp only [marked_len] at *; omega))) ?_)
        rintro _ w266 ⟨b271, c272, rfl, ho273, he270⟩ a267 hE268; clear hE264
        have hS269 := St.own hS261 he270 ho273; clear hS261
        refine l_step hE268 rfl (l_alloc (z := .agg #[.int .i64 0, .slice none 0 0]) (cs := #[.int .i64 0, .slice none 0 0]) hS269 hE268 (fun _ => by kernel_rfl) rfl rfl ?_)
        intro b274 w275 hS278 he279 a276 hE277; clear hS269 hE268
        refine l_step hE277 rfl (l_storeS (k := 0) (cs' := #[.int .i64 pp0, .slice b271 ((pp1).length) c272]) hS278 hE277 (by kernel_rfl) rfl rfl (by kernel_rfl) rfl rfl ?_)
        intro w281 hS284 a282 hE283; clear hS278 hE277
        refine c_nil ?_
        have hE286 := hE283.sub (L' := [(2, .pointer (some ⟨b3, 0, none⟩)), (3, .pointer (some ⟨b9, 0, none⟩)), (6, .pointer (some ⟨b75, 0, none⟩)), (7, .int .i64 ((F_s_SumPosets pp0 pp1 qp0 qp1).2)), (8, .pointer (some ⟨b274, 0, none⟩))]) ⟨rfl, rfl, rfl, rfl, rfl, trivial⟩; clear hE283
        refine p_tn ?_
        refine c_seq ?_
        refine c_reg ?_
        refine q_step (v := .agg #[.int .i64 qp0, .slice qp1A qp1.length qp1C]) hE286 (y_loadS Try.underlying24 rfl (by kernel_rfl) rfl (St.row (i := 3) hS284 rfl)) rfl rfl rfl ?_; intro a287 hE288; clear hE286
        refine l_step hE288 rfl (l_call (f := 16) (argv := [.agg #[.int .i64 qp0, .slice qp1A qp1.length qp1C]]) hE288 (fun _ => cf_l_toPoset _ _) rfl rfl (d_l_toPoset qp0 qp1A qp1.length qp1C qp1 w281 (St.rdR (i := 2) hS284 rfl) (by first | omega | (simp only [marked_len]; omega) | (simp only [marked_len] at *; omega))) ?_)
        rintro _ w290 ⟨b295, c296, rfl, ho297, he294⟩ a291 hE292; clear hE288
        have hS293 := St.own hS284 he294 ho297; clear hS284
        refine l_step hE292 rfl (l_alloc (z := .agg #[.int .i64 0, .slice none 0 0]) (cs := #[.int .i64 0, .slice none 0 0]) hS293 hE292 (fun _ => by kernel_rfl) rfl rfl ?_)
        intro b298 w299 hS302 he303 a300 hE301; clear hS293 hE292
        refine l_step hE301 rfl (l_storeS (k := 0) (cs' := #[.int .i64 qp0, .slice b295 ((qp1).length) c296]) hS302 hE301 (by kernel_rfl) rfl rfl (by kernel_rfl) rfl rfl ?_)
        intro w305 hS308 a306 hE307; clear hS302 hE301
        refine c_nil ?_
        have hE310 := hE307.sub (L' := [(2, .pointer (some ⟨b3, 0, none⟩)), (3, .pointer (some ⟨b9, 0, none⟩)), (6, .pointer (some ⟨b75, 0, none⟩)), (7, .int .i64 ((F_s_SumPosets pp0 pp1 qp0 qp1).2)), (8, .pointer (some ⟨b274, 0, none⟩)), (9, .pointer (some ⟨b298, 0, none⟩))]) ⟨rfl, rfl, rfl, rfl, rfl, rfl, trivial⟩; clear hE307
        refine p_tn ?_
        refine c_seq ?_
        refine c_reg ?_
        refine q_step (v := .agg #[.int .i64 pp0, .slice b271 ((pp1).length) c272]) hE310 (y_loadS Try.underlying27 rfl (by kernel_rfl) rfl (St.row (i := 2) hS308 rfl)) rfl rfl rfl ?_; intro a311 hE312; clear hE310
        refine q_step (v := .agg #[.int .i64 qp0, .slice b295 ((qp1).length) c296]) hE312 (y_loadS Try.underlying27 rfl (by kernel_rfl) rfl (St.row (i := 0) hS308 rfl)) rfl rfl rfl ?_; intro a313 hE314; clear hE312
        refine l_step hE314 rfl (l_call (f := 38) (argv := [.agg #[.int .i64 pp0, .slice b271 ((pp1).length) c272], .agg #[.int .i64 qp0, .slice b295 ((qp1).length) c296]]) hE314 (fun _ => cf_SumPosets _ _) rfl rfl (c_SumPosets pp0 b271 ((pp1).length) c272 pp1 qp0 b295 ((qp1).length) c296 qp1 w305 (St.rdO (i := 3) hS308 rfl) (St.rdO (i := 1) hS308 rfl)) ?_)
        rintro _ w316 ⟨b321, c322, rfl, ho323, he320⟩ a317 hE318; clear hE314
        have hf324 := SumPosets_len pp0 pp1 qp0 qp1
        have hS319 := St.own hS308 he320 ho323; clear hS308
        refine q_step (v := .tuple #[.agg #[.int .i64 (((F_SumPosets pp0 pp1 qp0 qp1).1).1), .slice b321 ((((F_SumPosets pp0 pp1 qp0 qp1).1).2).length) c322], .int .i64 ((F_SumPosets pp0 pp1 qp0 qp1).2)]) hE318 (y_move rfl) rfl rfl rfl ?_; intro a325 hE326; clear hE318
        refine q_step (v := .agg #[.int .i64 (((F_SumPosets pp0 pp1 qp0 qp1).1).1), .slice b321 ((((F_SumPosets pp0 pp1 qp0 qp1).1).2).length) c322]) hE326 (y_extract rfl rfl) rfl rfl rfl ?_; intro a327 hE328; clear hE326
        refine q_step (v := .int .i64 ((F_SumPosets pp0 pp1 qp0 qp1).2)) hE328 (y_extract rfl rfl) rfl rfl rfl ?_; intro a329 hE330; clear hE328
        refine l_step hE330 rfl (l_alloc (z := .agg #[.int .i64 0, .slice none 0 0]) (cs := #[.int .i64 0, .slice none 0 0]) hS319 hE330 (fun _ => by kernel_rfl) rfl rfl ?_)
        intro b331 w332 hS335 he336 a333 hE334; clear hS319 hE330
        refine l_step hE334 rfl (l_storeS (k := 0) (cs' := #[.int .i64 (((F_SumPosets pp0 pp1 qp0 qp1).1).1), .slice b321 ((((F_SumPosets pp0 pp1 qp0 qp1).1).2).length) c322]) hS335 hE334 (by kernel_rfl) rfl rfl (by kernel_rfl) rfl rfl ?_)
        intro w338 hS341 a339 hE340; clear hS335 hE334
        refine q_step (v := .int .i64 ((F_SumPosets pp0 pp1 qp0 qp1).2)) hE340 (y_assign rfl) rfl rfl rfl ?_; intro a343 hE344; clear hE340
        refine c_nil ?_
        have hE345 := hE344.sub (L' := [(2, .pointer (some ⟨b3, 0, none⟩)), (3, .pointer (some ⟨b9, 0, none⟩)), (6, .pointer (some ⟨b75, 0, none⟩)), (7, .int .i64 ((F_s_SumPosets pp0 pp1 qp0 qp1).2)), (8, .pointer (some ⟨b274, 0, none⟩)), (9, .pointer (some ⟨b298, 0, none⟩)), (10, .pointer (some ⟨b331, 0, none⟩)), (11, .int .i64 ((F_SumPosets pp0 pp1 qp0 qp1).2))]) ⟨rfl, rfl, rfl, rfl, rfl, rfl, rfl, rfl, trivial⟩; clear hE344
        refine p_tn ?_
        refine c_seq ?_
        refine c_cut (fun a' w' => E a' 119 [(2, .pointer (some ⟨b3, 0, none⟩)), (3, .pointer (some ⟨b9, 0, none⟩)), (6, .pointer (some ⟨b75, 0, none⟩)), (7, .int .i64 ((F_s_SumPosets pp0 pp1 qp0 qp1).2)), (8, .pointer (some ⟨b274, 0, none⟩)), (9, .pointer (some ⟨b298, 0, none⟩)), (10, .pointer (some ⟨b331, 0, none⟩)), (11, .int .i64 ((F_SumPosets pp0 pp1 qp0 qp1).2)), (53, .bool ((!(decide (((((F_SumPosets pp0 pp1 qp0 qp1).1).1), (((F_SumPosets pp0 pp1 qp0 qp1).1).2)) = ((((F_s_SumPosets pp0 pp1 qp0 qp1).1).1), (((F_s_SumPosets pp0 pp1 qp0 qp1).1).2))))) || (!decide (((F_SumPosets pp0 pp1 qp0 qp1).2) = ((F_s_SumPosets pp0 pp1 qp0 qp1).2)))))] ∧ St w w' [.own 2 1 b321 ((((F_SumPosets pp0 pp1 qp0 qp1).1).2).length) c322 (((F_SumPosets pp0 pp1 qp0 qp1).1).2), .blk b331 #[.int .i64 (((F_SumPosets pp0 pp1 qp0 qp1).1).1), .slice b321 ((((F_SumPosets pp0 pp1 qp0 qp1).1).2).length) c322] 27, .own 2 1 b295 ((qp1).length) c296 qp1, .blk b298 #[.int .i64 qp0, .slice b295 ((qp1).length) c296] 27, .own 2 1 b271 ((pp1).length) c272 pp1, .blk b274 #[.int .i64 pp0, .slice b271 ((pp1).length) c272] 27, .rd 1 qp1A qp1.length qp1C qp1, .blk b9 #[.int .i64 qp0, .slice qp1A qp1.length qp1C] 24, .rd 1 pp1A pp1.length pp1C pp1, .blk b3 #[.int .i64 pp0, .slice pp1A pp1.length pp1C] 24, .own 2 1 b76 ((((F_s_SumPosets pp0 pp1 qp0 qp1).1).2).length) c77 (((F_s_SumPosets pp0 pp1 qp0 qp1).1).2), .blk b75 #[.int .i64 (((F_s_SumPosets pp0 pp1 qp0 qp1).1).1), .slice b76 ((((F_s_SumPosets pp0 pp1 qp0 qp1).1).2).length) c77] 27]) ?_ ?_
        ·
          refine c_reg ?_
          refine q_step (v := .agg #[.int .i64 (((F_SumPosets pp0 pp1 qp0 qp1).1).1), .slice b321 ((((F_SumPosets pp0 pp1 qp0 qp1).1).2).length) c322]) hE345 (y_loadS Try.underlying27 rfl (by kernel_rfl) rfl (St.row (i := 0) hS341 rfl)) rfl rfl rfl ?_; intro a346 hE347; clear hE345
          refine q_step (v := .agg #[.int .i64 (((F_s_SumPosets pp0 pp1 qp0 qp1).1).1), .slice b76 ((((F_s_SumPosets pp0 pp1 qp0 qp1).1).2).length) c77]) hE347 (y_loadS Try.underlying27 rfl (by kernel_rfl) rfl (St.row (i := 11) hS341 rfl)) rfl rfl rfl ?_; intro a348 hE349; clear hE347
          refine l_step hE349 rfl (l_call (f := 18) (argv := [.agg #[.int .i64 (((F_SumPosets pp0 pp1 qp0 qp1).1).1), .slice b321 ((((F_SumPosets pp0 pp1 qp0 qp1).1).2).length) c322], .agg #[.int .i64 (((F_s_SumPosets pp0 pp1 qp0 qp1).1).1), .slice b76 ((((F_s_SumPosets pp0 pp1 qp0 qp1).1).2).length) c77]]) hE349 (fun _ => cf_l_eqPoset _ _) rfl rfl (d_l_eqPoset (((F_SumPosets pp0 pp1 qp0 qp1).1).1) b321 ((((F_SumPosets pp0 pp1 qp0 qp1).1).2).length) c322 (((F_SumPosets pp0 pp1 qp0 qp1).1).2) (((F_s_SumPosets pp0 pp1 qp0 qp1).1).1) b76 ((((F_s_SumPosets pp0 pp1 qp0 qp1).1).2).length) c77 (((F_s_SumPosets pp0 pp1 qp0 qp1).1).2) w338 (St.rdO (i := 1) hS341 rfl) (St.rdO (i := 10) hS341 rfl)) ?_)
          rintro _ w351 ⟨rfl, he355⟩ a352 hE353; clear hE349
          have hS354 := St.go hS341 he355; clear hS341
          refine q_step (v := .bool (!(decide (((((F_SumPosets pp0 pp1 qp0 qp1).1).1), (((F_SumPosets pp0 pp1 qp0 qp1).1).2)) = ((((F_s_SumPosets pp0 pp1 qp0 qp1).1).1), (((F_s_SumPosets pp0 pp1 qp0 qp1).1).2)))))) hE353 (y_not rfl) rfl rfl rfl ?_; intro a356 hE357; clear hE353
          refine q_step (v := .bool (!(decide (((((F_SumPosets pp0 pp1 qp0 qp1).1).1), (((F_SumPosets pp0 pp1 qp0 qp1).1).2)) = ((((F_s_SumPosets pp0 pp1 qp0 qp1).1).1), (((F_s_SumPosets pp0 pp1 qp0 qp1).1).2)))))) hE357 (y_move rfl) rfl rfl rfl ?_; intro a358 hE359; clear hE357
          rcases Bool.eq_false_or_eq_true (!(decide (((((F_SumPosets pp0 pp1 qp0 qp1).1).1), (((F_SumPosets pp0 pp1 qp0 qp1).1).2)) = ((((F_s_SumPosets pp0 pp1 qp0 qp1).1).1), (((F_s_SumPosets pp0 pp1 qp0 qp1).1).2))))) with hb360 | hb360
          ·
            have hE361 := hE359; rw [hb360] at hE361; clear hE359
            have ht362 := bn_t hb360
            have hp363 := of_decide_eq_false ht362
            refine q_skip hE361 rfl rfl rfl ?_; intro a364 hE365; clear hE361
            refine q_skip hE365 rfl rfl rfl ?_; intro a366 hE367; clear hE365
            refine q_skip hE367 rfl rfl rfl ?_; intro a368 hE369; clear hE367
            refine q_step (v := .bool true) hE369 (y_pick (b := true) rfl rfl) rfl rfl rfl ?_; intro a370 hE371; clear hE369
            refine c_nil ?_
            have hE372 := hE371.sub (L' := [(2, .pointer (some ⟨b3, 0, none⟩)), (3, .pointer (some ⟨b9, 0, none⟩)), (6, .pointer (some ⟨b75, 0, none⟩)), (7, .int .i64 ((F_s_SumPosets pp0 pp1 qp0 qp1).2)), (8, .pointer (some ⟨b274, 0, none⟩)), (9, .pointer (some ⟨b298, 0, none⟩)), (10, .pointer (some ⟨b331, 0, none⟩)), (11, .int .i64 ((F_SumPosets pp0 pp1 qp0 qp1).2)), (53, .bool true)]) ⟨rfl, rfl, rfl, rfl, rfl, rfl, rfl, rfl, rfl, trivial⟩; clear hE371
            refine p_tn ?_
            have hE373 := hE372.sub (L' := [(2, .pointer (some ⟨b3, 0, none⟩)), (3, .pointer (some ⟨b9, 0, none⟩)), (6, .pointer (some ⟨b75, 0, none⟩)), (7, .int .i64 ((F_s_SumPosets pp0 pp1 qp0 qp1).2)), (8, .pointer (some ⟨b274, 0, none⟩)), (9, .pointer (some ⟨b298, 0, none⟩)), (10, .pointer (some ⟨b331, 0, none⟩)), (11, .int .i64 ((F_SumPosets pp0 pp1 qp0 qp1).2)), (53, .bool true)]) ⟨rfl, rfl, rfl, rfl, rfl, rfl, rfl, rfl, rfl, trivial⟩
            have hS374 := (St.pick (Γ' := [.own 2 1 b321 ((((F_SumPosets pp0 pp1 qp0 qp1).1).2).length) c322 (((F_SumPosets pp0 pp1 qp0 qp1).1).2), .blk b331 #[.int .i64 (((F_SumPosets pp0 pp1 qp0 qp1).1).1), .slice b321 ((((F_SumPosets pp0 pp1 qp0 qp1).1).2).length) c322] 27, .own 2 1 b295 ((qp1).length) c296 qp1, .blk b298 #[.int .i64 qp0, .slice b295 ((qp1).length) c296] 27, .own 2 1 b271 ((pp1).length) c272 pp1, .blk b274 #[.int .i64 pp0, .slice b271 ((pp1).length) c272] 27, .rd 1 qp1A qp1.length qp1C qp1, .blk b9 #[.int .i64 qp0, .slice qp1A qp1.length qp1C] 24, .rd 1 pp1A pp1.length pp1C pp1, .blk b3 #[.int .i64 pp0, .slice pp1A pp1.length pp1C] 24, .own 2 1 b76 ((((F_s_SumPosets pp0 pp1 qp0 qp1).1).2).length) c77 (((F_s_SumPosets pp0 pp1 qp0 qp1).1).2), .blk b75 #[.int .i64 (((F_s_SumPosets pp0 pp1 qp0 qp1).1).1), .slice b76 ((((F_s_SumPosets pp0 pp1 qp0 qp1).1).2).length) c77] 27]) hS354 [1, 0, 3, 2, 5, 4, 6, 7, 8, 9, 10, 11] (by decide) rfl)
            exact ⟨(by rw [hb360]; exact hE373), hS374⟩
          ·
            have hE375 := hE359; rw [hb360] at hE375; clear hE359
            have ht376 := bn_f hb360
            have hp377 := of_decide_eq_true ht376
            refine q_step (v := .int .i64 ((F_SumPosets pp0 pp1 qp0 qp1).2)) hE375 (y_move rfl) rfl rfl rfl ?_; intro a378 hE379; clear hE375
            refine q_step (v := .int .i64 ((F_s_SumPosets pp0 pp1 qp0 qp1).2)) hE379 (y_move rfl) rfl rfl rfl ?_; intro a380 hE381; clear hE379
            refine q_step (v := .bool (!decide (((F_SumPosets pp0 pp1 qp0 qp1).2) = ((F_s_SumPosets pp0 pp1 qp0 qp1).2)))) hE381 (y_neq rfl rfl) rfl rfl rfl ?_; intro a382 hE383; clear hE381
            refine q_step (v := .bool (!decide (((F_SumPosets pp0 pp1 qp0 qp1).2) = ((F_s_SumPosets pp0 pp1 qp0 qp1).2)))) hE383 (y_pick (b := false) rfl rfl) rfl rfl rfl ?_; intro a384 hE385; clear hE383
            refine c_nil ?_
            have hE386 := hE385.sub (L' := [(2, .pointer (some ⟨b3, 0, none⟩)), (3, .pointer (some ⟨b9, 0, none⟩)), (6, .pointer (some ⟨b75, 0, none⟩)), (7, .int .i64 ((F_s_SumPosets pp0 pp1 qp0 qp1).2)), (8, .pointer (some ⟨b274, 0, none⟩)), (9, .pointer (some ⟨b298, 0, none⟩)), (10, .pointer (some ⟨b331, 0, none⟩)), (11, .int .i64 ((F_SumPosets pp0 pp1 qp0 qp1).2)), (53, .bool (!decide (((F_SumPosets pp0 pp1 qp0 qp1).2) = ((F_s_SumPosets pp0 pp1 qp0 qp1).2))))]) ⟨rfl, rfl, rfl, rfl, rfl, rfl, rfl, rfl, rfl, trivial⟩; clear hE385
            refine p_tn ?_
            have hE387 := hE386.sub (L' := [(2, .pointer (some ⟨b3, 0, none⟩)), (3, .pointer (some ⟨b9, 0, none⟩)), (6, .pointer (some ⟨b75, 0, none⟩)), (7, .int .i64 ((F_s_SumPosets pp0 pp1 qp0 qp1).2)), (8, .pointer (some ⟨b274, 0, none⟩)), (9, .pointer (some ⟨b298, 0, none⟩)), (10, .pointer (some ⟨b331, 0, none⟩)), (11, .int .i64 ((F_SumPosets pp0 pp1 qp0 qp1).2)), (53, .bool (!decide (((F_SumPosets pp0 pp1 qp0 qp1).2) = ((F_s_SumPosets pp0 pp1 qp0 qp1).2))))]) ⟨rfl, rfl, rfl, rfl, rfl, rfl, rfl, rfl, rfl, trivial⟩
            have hS388 := (St.pick (Γ' := [.own 2 1 b321 ((((F_SumPosets pp0 pp1 qp0 qp1).1).2).length) c322 (((F_SumPosets pp0 pp1 qp0 qp1).1).2), .blk b331 #[.int .i64 (((F_SumPosets pp0 pp1 qp0 qp1).1).1), .slice b321 ((((F_SumPosets pp0 pp1 qp0 qp1).1).2).length) c322] 27, .own 2 1 b295 ((qp1).length) c296 qp1, .blk b298 #[.int .i64 qp0, .slice b295 ((qp1).length) c296] 27, .own 2 1 b271 ((pp1).length) c272 pp1, .blk b274 #[.int .i64 pp0, .slice b271 ((pp1).length) c272] 27, .rd 1 qp1A qp1.length qp1C qp1, .blk b9 #[.int .i64 qp0, .slice qp1A qp1.length qp1C] 24, .rd 1 pp1A pp1.length pp1C pp1, .blk b3 #[.int .i64 pp0, .slice pp1A pp1.length pp1C] 24, .own 2 1 b76 ((((F_s_SumPosets pp0 pp1 qp0 qp1).1).2).length) c77 (((F_s_SumPosets pp0 pp1 qp0 qp1).1).2), .blk b75 #[.int .i64 (((F_s_SumPosets pp0 pp1 qp0 qp1).1).1), .slice b76 ((((F_s_SumPosets pp0 pp1 qp0 qp1).1).2).length) c77] 27]) hS354 [1, 0, 3, 2, 5, 4, 6, 7, 8, 9, 10, 11] (by decide) rfl)
            exact ⟨(by rw [hb360]; exact hE387), hS388⟩
        ·
          rintro a389 w390 ⟨hE391, hS392⟩; clear hE345 hS341
          refine c_cond hE391 rfl (fun ht394 => ?_) (fun ht394 => ?_)
          ·
            have hE395 := hE391; rw [ht394] at hE395; clear hE391
            refine c_seq ?_
            refine c_reg ?_
            refine q_step (v := .bool false) hE395 (y_assign rfl) rfl rfl rfl ?_; intro a396 hE397; clear hE395
            refine c_nil ?_
            have hE398 := hE397.sub (L' := [(4, .bool false)]) ⟨rfl, trivial⟩; clear hE397
            refine p_tn ?_
            refine wp_ret ?_
            refine p_tr ?_
            have hF : F_l_FnExactSumPosets pp0 pp1 qp0 qp1 = false := by unfold F_l_FnExactSumPosets; rw [ht394, ht66, ht39]; first | done | rfl
            refine c_ret1 hE398 rfl rfl ?_
            exact ⟨(by rw [hF]; first | done | rfl), hS392.ext⟩
          ·
            obtain ⟨ht399, ht400⟩ := bor_f ht394
            have ht401 := bn_f ht399
            have hp402 := of_decide_eq_true ht401
            have ht403 := bn_f ht400
            have hp404 := of_decide_eq_true ht403
            have hE405 := hE391; rw [ht394] at hE405; clear hE391
            refine wp_skip ?_
            refine p_tn ?_
            refine c_seq ?_
            refine c_seq ?_
            refine d_start (fun w w' => (fun w' => w'.heap[b274]? = some (.cells #[.int .i64 pp0, .slice b271 ((pp1).length) c272] 27 (0, 0)) ∧ w'.heap[b3]? = some (.cells #[.int .i64 pp0, .slice pp1A pp1.length pp1C] 24 (0, 0)) ∧ True) w → (fun w' => w'.heap[b274]? = some (.cells #[.int .i64 pp0, .slice b271 ((pp1).length) c272] 27 (0, 0)) ∧ w'.heap[b3]? = some (.cells #[.int .i64 pp0, .slice pp1A pp1.length pp1C] 24 (0, 0)) ∧ True) w') [0, 1] 5 (by kernel_rfl) rfl ?_
            intro w406 he407; have hS408 := St.go hS392 he407; clear hS392
            refine d_take (fun _ h => h) (fun _ _ h k => h k) (v := .agg #[.int .i64 pp0, .slice b271 ((pp1).length) c272]) 0 rfl hE405 (S := fun w' => w'.heap[b274]? = some (.cells #[.int .i64 pp0, .slice b271 ((pp1).length) c272] 27 (0, 0)) ∧ w'.heap[b3]? = some (.cells #[.int .i64 pp0, .slice pp1A pp1.length pp1C] 24 (0, 0)) ∧ True) ⟨(St.row (i := 5) hS408 rfl _ (Ext.refl _)), (St.row (i := 9) hS408 rfl _ (Ext.refl _)), trivial⟩ (y_loadS Try.underlying27 rfl (by kernel_rfl) rfl (fun _ h => h.1)) rfl rfl (by kernel_rfl) (by kernel_rfl) (by kernel_rfl) (by kernel_rfl) rfl rfl (fun _ _ _ h => h) ?_; intro a409 hE410; clear hE405
            refine d_take (fun _ h => h) (fun _ _ h k => h k) (v := .agg #[.int .i64 pp0, .slice pp1A pp1.length pp1C]) 1 rfl hE410 (S := fun w' => w'.heap[b274]? = some (.cells #[.int .i64 pp0, .slice b271 ((pp1).length) c272] 27 (0, 0)) ∧ w'.heap[b3]? = some (.cells #[.int .i64 pp0, .slice pp1A pp1.length pp1C] 24 (0, 0)) ∧ True) ⟨(St.row (i := 5) hS408 rfl _ (Ext.refl _)), (St.row (i := 9) hS408 rfl _ (Ext.refl _)), trivial⟩ (y_loadS Try.underlying24 rfl (by kernel_rfl) rfl (fun _ h => h.2.1)) rfl rfl (by kernel_rfl) (by kernel_rfl) (by kernel_rfl) (by kernel_rfl) rfl rfl (fun _ _ _ h => h) ?_; intro a411 hE412; clear hE410
            refine d_only 2 (by kernel_rfl) rfl hE412 rfl (l_call (f := 16) (argv := [.agg #[.int .i64 pp0, .slice pp1A pp1.length pp1C]]) hE412 (fun _ => cf_l_toPoset _ _) rfl rfl (d_l_toPoset pp0 pp1A pp1.length pp1C pp1 w406 (St.rdR (i := 8) hS408 rfl) (by first | omega | (simp only [marked_len]; omega) | (simp only [marked_len] at *; omega))) ?_)
            rintro _ w414 ⟨b419, c420, rfl, ho421, he418⟩ a415 hE416; clear hE412
            have hS417 := St.own hS408 he418 ho421; clear hS408
            refine ⟨fun _ _ => ⟨(St.row (i := 6) hS417 rfl _ (Ext.refl _)), (St.row (i := 10) hS417 rfl _ (Ext.refl _)), trivial⟩, ?_⟩
            refine d_only 3 (by kernel_rfl) rfl hE416 rfl (l_call (f := 18) (argv := [.agg #[.int .i64 pp0, .slice b271 ((pp1).length) c272], .agg #[.int .i64 pp0, .slice b419 ((pp1).length) c420]]) hE416 (fun _ => cf_l_eqPoset _ _) rfl rfl (d_l_eqPoset pp0 b271 ((pp1).length) c272 pp1 pp0 b419 ((pp1).length) c420 pp1 w414 (St.rdO (i := 5) hS417 rfl) (St.rdO (i := 0) hS417 rfl)) ?_)
            rintro _ w423 ⟨rfl, he427⟩ a424 hE425; clear hE416
            have hS426 := St.go hS417 he427; clear hS417
            refine ⟨fun h => Bool.noConfusion (h.symm.trans (show exm _ _ _ = true by kernel_rfl)), ?_⟩
            refine d_pure (fun _ h => h) (v := .bool (!(decide ((pp0, pp1) = (pp0, pp1))))) 4 rfl hE425 (y_not rfl) rfl (by kernel_rfl) (by kernel_rfl) (by kernel_rfl) rfl rfl (fun _ _ _ h => h) ?_; intro a428 hE429; clear hE425
            refine d_done (by kernel_rfl) ?_
            have hE430 := hE429.sub (L' := [(2, .pointer (some ⟨b3, 0, none⟩)), (3, .pointer (some ⟨b9, 0, none⟩)), (6, .pointer (some ⟨b75, 0, none⟩)), (7, .int .i64 ((F_s_SumPosets pp0 pp1 qp0 qp1).2)), (8, .pointer (some ⟨b274, 0, none⟩)), (9, .pointer (some ⟨b298, 0, none⟩)), (10, .pointer (some ⟨b331, 0, none⟩)), (11, .int .i64 ((F_SumPosets pp0 pp1 qp0 qp1).2)), (58, .bool (!(decide ((pp0, pp1) = (pp0, pp1)))))]) ⟨rfl, rfl, rfl, rfl, rfl, rfl, rfl, rfl, rfl, trivial⟩; clear hE429
            refine p_tn ?_
            refine c_cond hE430 rfl (fun ht431 => ?_) (fun ht431 => ?_)
            ·
              have ht432 := bn_t ht431
              have hp433 := of_decide_eq_false ht432
              have hE434 := hE430; rw [ht431] at hE434; clear hE430
              refine c_seq ?_
              refine c_reg ?_
              refine q_step (v := .bool false) hE434 (y_assign rfl) rfl rfl rfl ?_; intro a435 hE436; clear hE434
              refine c_nil ?_
              have hE437 := hE436.sub (L' := [(4, .bool false)]) ⟨rfl, trivial⟩; clear hE436
              refine p_tn ?_
              refine wp_ret ?_
              refine p_tr ?_
              have hF : F_l_FnExactSumPosets pp0 pp1 qp0 qp1 = false := by unfold F_l_FnExactSumPosets; rw [ht431, ht394, ht66, ht39]; first | done | rfl
              refine c_ret1 hE437 rfl rfl ?_
              exact ⟨(by rw [hF]; first | done | rfl), hS426.ext⟩
            ·
              have ht438 := bn_f ht431
              have hp439 := of_decide_eq_true ht438
              have hE440 := hE430; rw [ht431] at hE440; clear hE430
              refine wp_skip ?_
              refine p_tn ?_
              refine c_seq ?_
              refine c_seq ?_
              refine d_start (fun w w' => (fun w' => w'.heap[b298]? = some (.cells #[.int .i64 qp0, .slice b295 ((qp1).length) c296] 27 (0, 0)) ∧ w'.heap[b9]? = some (.cells #[.int .i64 qp0, .slice qp1A qp1.length qp1C] 24 (0, 0)) ∧ True) w → (fun w' => w'.heap[b298]? = some (.cells #[.int .i64 qp0, .slice b295 ((qp1).length) c296] 27 (0, 0)) ∧ w'.heap[b9]? = some (.cells #[.int .i64 qp0, .slice qp1A qp1.length qp1C] 24 (0, 0)) ∧ True) w') [0, 1] 5 (by kernel_rfl) rfl ?_
              intro w441 he442; have hS443 := St.go hS426 he442; clear hS426
              refine d_take (fun _ h => h) (fun _ _ h k => h k) (v := .agg #[.int .i64 qp0, .slice b295 ((qp1).length) c296]) 0 rfl hE440 (S := fun w' => w'.heap[b298]? = some (.cells #[.int .i64 qp0, .slice b295 ((qp1).length) c296] 27 (0, 0)) ∧ w'.heap[b9]? = some (.cells #[.int .i64 qp0, .slice qp1A qp1.length qp1C] 24 (0, 0)) ∧ True) ⟨(St.row (i := 4) hS443 rfl _ (Ext.refl _)), (St.row (i := 8) hS443 rfl _ (Ext.refl _)), trivial⟩ (y_loadS Try.underlying27 rfl (by kernel_rfl) rfl (fun _ h => h.1)) rfl rfl (by kernel_rfl) (by kernel_rfl) (by kernel_rfl) (by kernel_rfl) rfl rfl (fun _ _ _ h => h) ?_; intro a444 hE445; clear hE440
              refine d_take (fun _ h => h) (fun _ _ h k => h k) (v := .agg #[.int .i64 qp0, .slice qp1A qp1.length qp1C]) 1 rfl hE445 (S := fun w' => w'.heap[b298]? = some (.cells #[.int .i64 qp0, .slice b295 ((qp1).length) c296] 27 (0, 0)) ∧ w'.heap[b9]? = some (.cells #[.int .i64 qp0, .slice qp1A qp1.length qp1C] 24 (0, 0)) ∧ True) ⟨(St.row (i := 4) hS443 rfl _ (Ext.refl _)), (St.row (i := 8) hS443 rfl _ (Ext.refl _)), trivial⟩ (y_loadS Try.underlying24 rfl (by kernel_rfl) rfl (fun _ h => h.2.1)) rfl rfl (by kernel_rfl) (by kernel_rfl) (by kernel_rfl) (by kernel_rfl) rfl rfl (fun _ _ _ h => h) ?_; intro a446 hE447; clear hE445
              refine d_only 2 (by kernel_rfl) rfl hE447 rfl (l_call (f := 16) (argv := [.agg #[.int .i64 qp0, .slice qp1A qp1.length qp1C]]) hE447 (fun _ => cf_l_toPoset _ _) rfl rfl (d_l_toPoset qp0 qp1A qp1.length qp1C qp1 w441 (St.rdR (i := 7) hS443 rfl) (by first | omega | (simp only [marked_len]; omega) | (simp only [marked_len] at *; omega))) ?_)
              rintro _ w449 ⟨b454, c455, rfl, ho456, he453⟩ a450 hE451; clear hE447
              have hS452 := St.own hS443 he453 ho456; clear hS443
              refine ⟨fun _ _ => ⟨(St.row (i := 5) hS452 rfl _ (Ext.refl _)), (St.row (i := 9) hS452 rfl _ (Ext.refl _)), trivial⟩, ?_⟩
              refine d_only 3 (by kernel_rfl) rfl hE451 rfl (l_call (f := 18) (argv := [.agg #[.int .i64 qp0, .slice b295 ((qp1).length) c296], .agg #[.int .i64 qp0, .slice b454 ((qp1).length) c455]]) hE451 (fun _ => cf_l_eqPoset _ _) rfl rfl (d_l_eqPoset qp0 b295 ((qp1).length) c296 qp1 qp0 b454 ((qp1).length) c455 qp1 w449 (St.rdO (i := 4) hS452 rfl) (St.rdO (i := 0) hS452 rfl)) ?_)
              rintro _ w458 ⟨rfl, he462⟩ a459 hE460; clear hE451
              have hS461 := St.go hS452 he462; clear hS452
              refine ⟨fun h => Bool.noConfusion (h.symm.trans (show exm _ _ _ = true by kernel_rfl)), ?_⟩
              refine d_pure (fun _ h => h) (v := .bool (!(decide ((qp0, qp1) = (qp0, qp1))))) 4 rfl hE460 (y_not rfl) rfl (by kernel_rfl) (by kernel_rfl) (by kernel_rfl) rfl rfl (fun _ _ _ h => h) ?_; intro a463 hE464; clear hE460
              refine d_done (by kernel_rfl) ?_
              have hE465 := hE464.sub (L' := [(2, .pointer (some ⟨b3, 0, none⟩)), (3, .pointer (some ⟨b9, 0, none⟩)), (6, .pointer (some ⟨b75, 0, none⟩)), (7, .int .i64 ((F_s_SumPosets pp0 pp1 qp0 qp1).2)), (8, .pointer (some ⟨b274, 0, none⟩)), (9, .pointer (some ⟨b298, 0, none⟩)), (10, .pointer (some ⟨b331, 0, none⟩)), (11, .int .i64 ((F_SumPosets pp0 pp1 qp0 qp1).2)), (63, .bool (!(decide ((qp0, qp1) = (qp0, qp1)))))]) ⟨rfl, rfl, rfl, rfl, rfl, rfl, rfl, rfl, rfl, trivial⟩; clear hE464
              refine p_tn ?_
              refine c_cond hE465 rfl (fun ht466 => ?_) (fun ht466 => ?_)
              ·
                have ht467 := bn_t ht466
                have hp468 := of_decide_eq_false ht467
                have hE469 := hE465; rw [ht466] at hE469; clear hE465
                refine c_seq ?_
                refine c_reg ?_
                refine q_step (v := .bool false) hE469 (y_assign rfl) rfl rfl rfl ?_; intro a470 hE471; clear hE469
                refine c_nil ?_
                have hE472 := hE471.sub (L' := [(4, .bool false)]) ⟨rfl, trivial⟩; clear hE471
                refine p_tn ?_
                refine wp_ret ?_
                refine p_tr ?_
                have hF : F_l_FnExactSumPosets pp0 pp1 qp0 qp1 = false := by unfold F_l_FnExactSumPosets; rw [ht466, ht431, ht394, ht66, ht39]; first | done | rfl
                refine c_ret1 hE472 rfl rfl ?_
                exact ⟨(by rw [hF]; first | done | rfl), hS461.ext⟩
              ·
                have ht473 := bn_f ht466
                have hp474 := of_decide_eq_true ht473
                have hE475 := hE465; rw [ht466] at hE475; clear hE465
                refine wp_skip ?_
                refine p_tn ?_
                refine c_seq ?_
                refine c_reg ?_
                refine q_step (v := .int .i64 1) hE475 (y_assign rfl) rfl rfl rfl ?_; intro a476 hE477; clear hE475
                refine c_nil ?_
                have hE478 := hE477.sub (L' := [(2, .pointer (some ⟨b3, 0, none⟩)), (3, .pointer (some ⟨b9, 0, none⟩)), (6, .pointer (some ⟨b75, 0, none⟩)), (7, .int .i64 ((F_s_SumPosets pp0 pp1 qp0 qp1).2)), (8, .pointer (some ⟨b274, 0, none⟩)), (9, .pointer (some ⟨b298, 0, none⟩)), (10, .pointer (some ⟨b331, 0, none⟩)), (11, .int .i64 ((F_SumPosets pp0 pp1 qp0 qp1).2)), (12, .int .i64 1)]) ⟨rfl, rfl, rfl, rfl, rfl, rfl, rfl, rfl, rfl, trivial⟩; clear hE477
                refine p_tn ?_
                refine c_seq ?_
                refine c_reg ?_
                refine q_step (v := .agg #[.int .i64 pp0, .slice b271 ((pp1).length) c272]) hE478 (y_loadS Try.underlying27 rfl (by kernel_rfl) rfl (St.row (i := 7) hS461 rfl)) rfl rfl rfl ?_; intro a479 hE480; clear hE478
                refine q_step (v := .int .i64 1) hE480 (y_move rfl) rfl rfl rfl ?_; intro a481 hE482; clear hE480
                have hS489 := (St.pick (Γ' := [.own 2 1 b271 ((pp1).length) c272 pp1, .own 2 1 b454 ((qp1).length) c455 qp1, .own 2 1 b419 ((pp1).length) c420 pp1, .own 2 1 b321 ((((F_SumPosets pp0 pp1 qp0 qp1).1).2).length) c322 (((F_SumPosets pp0 pp1 qp0 qp1).1).2), .blk b331 #[.int .i64 (((F_SumPosets pp0 pp1 qp0 qp1).1).1), .slice b321 ((((F_SumPosets pp0 pp1 qp0 qp1).1).2).length) c322] 27, .own 2 1 b295 ((qp1).length) c296 qp1, .blk b298 #[.int .i64 qp0, .slice b295 ((qp1).length) c296] 27, .blk b274 #[.int .i64 pp0, .slice b271 ((pp1).length) c272] 27, .rd 1 qp1A qp1.length qp1C qp1, .blk b9 #[.int .i64 qp0, .slice qp1A qp1.length qp1C] 24, .rd 1 pp1A pp1.length pp1C pp1, .blk b3 #[.int .i64 pp0, .slice pp1A pp1.length pp1C] 24, .own 2 1 b76 ((((F_s_SumPosets pp0 pp1 qp0 qp1).1).2).length) c77 (((F_s_SumPosets pp0 pp1 qp0 qp1).1).2), .blk b75 #[.int .i64 (((F_s_SumPosets pp0 pp1 qp0 qp1).1).1), .slice b76 ((((F_s_SumPosets pp0 pp1 qp0 qp1).1).2).length) c77] 27]) hS461 [6, 0, 1, 2, 3, 4, 5, 7, 8, 9, 10, 11, 12, 13] (by decide) rfl); clear hS461
                refine l_step hE482 rfl (l_call (f := 25) (argv := [.agg #[.int .i64 pp0, .slice b271 ((pp1).length) c272], .int .i64 1]) hE482 (fun _ => cf_l_markPoset _ _) rfl rfl (d_l_markPoset pp0 b271 ((pp1).length) c272 pp1 1 w458 w [.own 2 1 b454 ((qp1).length) c455 qp1, .own 2 1 b419 ((pp1).length) c420 pp1, .own 2 1 b321 ((((F_SumPosets pp0 pp1 qp0 qp1).1).2).length) c322 (((F_SumPosets pp0 pp1 qp0 qp1).1).2), .blk b331 #[.int .i64 (((F_SumPosets pp0 pp1 qp0 qp1).1).1), .slice b321 ((((F_SumPosets pp0 pp1 qp0 qp1).1).2).length) c322] 27, .own 2 1 b295 ((qp1).length) c296 qp1, .blk b298 #[.int .i64 qp0, .slice b295 ((qp1).length) c296] 27, .blk b274 #[.int .i64 pp0, .slice b271 ((pp1).length) c272] 27, .rd 1 qp1A qp1.length qp1C qp1, .blk b9 #[.int .i64 qp0, .slice qp1A qp1.length qp1C] 24, .rd 1 pp1A pp1.length pp1C pp1, .blk b3 #[.int .i64 pp0, .slice pp1A pp1.length pp1C] 24, .own 2 1 b76 ((((F_s_SumPosets pp0 pp1 qp0 qp1).1).2).length) c77 (((F_s_SumPosets pp0 pp1 qp0 qp1).1).2), .blk b75 #[.int .i64 (((F_s_SumPosets pp0 pp1 qp0 qp1).1).1), .slice b76 ((((F_s_SumPosets pp0 pp1 qp0 qp1).1).2).length) c77] 27] hS489 (by first | omega | (simp only [marked_len]; omega) | (simp only [marked_len] at *; omega)) (by first | omega | (simp only [marked_len]; omega) | (simp only [marked_len] at *; omega)) (by first | omega | (simp only [marked_len]; omega) | (simp only [marked_len] at *; omega))) ?_)
                rintro _ w484 ⟨rfl, hS487⟩ a485 hE486; clear hE482 hS489
                refine q_step (v := .int .i64 (1 + (pp1.length : Int))) hE486 (y_assign rfl) rfl rfl rfl ?_; intro a490 hE491; clear hE486
                refine c_nil ?_
                have hE492 := hE491.sub (L' := [(2, .pointer (some ⟨b3, 0, none⟩)), (3, .pointer (some ⟨b9, 0, none⟩)), (6, .pointer (some ⟨b75, 0, none⟩)), (7, .int .i64 ((F_s_SumPosets pp0 pp1 qp0 qp1).2)), (9, .pointer (some ⟨b298, 0, none⟩)), (10, .pointer (some ⟨b331, 0, none⟩)), (11, .int .i64 ((F_SumPosets pp0 pp1 qp0 qp1).2)), (12, .int .i64 (1 + (pp1.length : Int)))]) ⟨rfl, rfl, rfl, rfl, rfl, rfl, rfl, rfl, trivial⟩; clear hE491
                refine p_tn ?_
                refine c_seq ?_
                refine c_reg ?_
                refine q_step (v := .agg #[.int .i64 qp0, .slice b295 ((qp1).length) c296]) hE492 (y_loadS Try.underlying27 rfl (by kernel_rfl) rfl (St.row (i := 6) hS487 rfl)) rfl rfl rfl ?_; intro a493 hE494; clear hE492
                refine q_step (v := .int .i64 (1 + (pp1.length : Int))) hE494 (y_move rfl) rfl rfl rfl ?_; intro a495 hE496; clear hE494
                have hS503 := (St.pick (Γ' := [.own 2 1 b295 ((qp1).length) c296 qp1, .own 2 1 b271 ((pp1).length) c272 (marked pp1.length 1), .own 2 1 b454 ((qp1).length) c455 qp1, .own 2 1 b419 ((pp1).length) c420 pp1, .own 2 1 b321 ((((F_SumPosets pp0 pp1 qp0 qp1).1).2).length) c322 (((F_SumPosets pp0 pp1 qp0 qp1).1).2), .blk b331 #[.int .i64 (((F_SumPosets pp0 pp1 qp0 qp1).1).1), .slice b321 ((((F_SumPosets pp0 pp1 qp0 qp1).1).2).length) c322] 27, .blk b298 #[.int .i64 qp0, .slice b295 ((qp1).length) c296] 27, .blk b274 #[.int .i64 pp0, .slice b271 ((pp1).length) c272] 27, .rd 1 qp1A qp1.length qp1C qp1, .blk b9 #[.int .i64 qp0, .slice qp1A qp1.length qp1C] 24, .rd 1 pp1A pp1.length pp1C pp1, .blk b3 #[.int .i64 pp0, .slice pp1A pp1.length pp1C] 24, .own 2 1 b76 ((((F_s_SumPosets pp0 pp1 qp0 qp1).1).2).length) c77 (((F_s_SumPosets pp0 pp1 qp0 qp1).1).2), .blk b75 #[.int .i64 (((F_s_SumPosets pp0 pp1 qp0 qp1).1).1), .slice b76 ((((F_s_SumPosets pp0 pp1 qp0 qp1).1).2).length) c77] 27]) hS487 [5, 0, 1, 2, 3, 4, 6, 7, 8, 9, 10, 11, 12, 13] (by decide) rfl); clear hS487
                refine l_step hE496 rfl (l_call (f := 25) (argv := [.agg #[.int .i64 qp0, .slice b295 ((qp1).length) c296], .int .i64 (1 + (pp1.length : Int))]) hE496 (fun _ => cf_l_markPoset _ _) rfl rfl (d_l_markPoset qp0 b295 ((qp1).length) c296 qp1 (1 + (pp1.length : Int)) w484 w [.own 2 1 b271 ((pp1).length) c272 (marked pp1.length 1), .own 2 1 b454 ((qp1).length) c455 qp1, .own 2 1 b419 ((pp1).length) c420 pp1, .own 2 1 b321 ((((F_SumPosets pp0 pp1 qp0 qp1).1).2).length) c322 (((F_SumPosets pp0 pp1 qp0 qp1).1).2), .blk b331 #[.int .i64 (((F_SumPosets pp0 pp1 qp0 qp1).1).1), .slice b321 ((((F_SumPosets pp0 pp1 qp0 qp1).1).2).length) c322] 27, .blk b298 #[.int .i64 qp0, .slice b295 ((qp1).length) c296] 27, .blk b274 #[.int .i64 pp0, .slice b271 ((pp1).length) c272] 27, .rd 1 qp1A qp1.length qp1C qp1, .blk b9 #[.int .i64 qp0, .slice qp1A qp1.length qp1C] 24, .rd 1 pp1A pp1.length pp1C pp1, .blk b3 #[.int .i64 pp0, .slice pp1A pp1.length pp1C] 24, .own 2 1 b76 ((((F_s_SumPosets pp0 pp1 qp0 qp1).1).2).length) c77 (((F_s_SumPosets pp0 pp1 qp0 qp1).1).2), .blk b75 #[.int .i64 (((F_s_SumPosets pp0 pp1 qp0 qp1).1).1), .slice b76 ((((F_s_SumPosets pp0 pp1 qp0 qp1).1).2).length) c77] 27] hS503 (by first | omega | (simp only [marked_len]; omega) | (simp only [marked_len] at *; omega)) (by first | omega | (simp only [marked_len]; omega) | (simp only [marked_len] at *; omega)) (by first | omega | (simp only [marked_len]; omega) | (simp only [marked_len] at *; omega))) ?_)
                rintro _ w498 ⟨rfl, hS501⟩ a499 hE500; clear hE496 hS503
                refine q_step (v := .int .i64 ((1 + (pp1.length : Int)) + (qp1.length : Int))) hE500 (y_assign rfl) rfl rfl rfl ?_; intro a504 hE505; clear hE500
                refine c_nil ?_
                have hE506 := hE505.sub (L' := [(2, .pointer (some ⟨b3, 0, none⟩)), (3, .pointer (some ⟨b9, 0, none⟩)), (6, .pointer (some ⟨b75, 0, none⟩)), (7, .int .i64 ((F_s_SumPosets pp0 pp1 qp0 qp1).2)), (10, .pointer (some ⟨b331, 0, none⟩)), (11, .int .i64 ((F_SumPosets pp0 pp1 qp0 qp1).2)), (12, .int .i64 ((1 + (pp1.length : Int)) + (qp1.length : Int)))]) ⟨rfl, rfl, rfl, rfl, rfl, rfl, rfl, trivial⟩; clear hE505
                refine p_tn ?_
                refine c_seq ?_
                refine c_cut (fun a' w' => E a' 119 [(2, .pointer (some ⟨b3, 0, none⟩)), (3, .pointer (some ⟨b9, 0, none⟩)), (6, .pointer (some ⟨b75, 0, none⟩)), (7, .int .i64 ((F_s_SumPosets pp0 pp1 qp0 qp1).2)), (10, .pointer (some ⟨b331, 0, none⟩)), (82, .bool ((decide (((1 + (pp1.length : Int)) + (qp1.length : Int)) < 0)) || ((!(decide (((((F_SumPosets pp0 pp1 qp0 qp1).1).1), (((F_SumPosets pp0 pp1 qp0 qp1).1).2)) = ((((F_s_SumPosets pp0 pp1 qp0 qp1).1).1), (((F_s_SumPosets pp0 pp1 qp0 qp1).1).2))))) || (!decide (((F_SumPosets pp0 pp1 qp0 qp1).2) = ((F_s_SumPosets pp0 pp1 qp0 qp1).2))))))] ∧ St w w' [.own 2 1 b295 ((qp1).length) c296 (marked qp1.length (1 + (pp1.length : Int))), .own 2 1 b271 ((pp1).length) c272 (marked pp1.length 1), .own 2 1 b454 ((qp1).length) c455 qp1, .own 2 1 b419 ((pp1).length) c420 pp1, .own 2 1 b321 ((((F_SumPosets pp0 pp1 qp0 qp1).1).2).length) c322 (((F_SumPosets pp0 pp1 qp0 qp1).1).2), .blk b331 #[.int .i64 (((F_SumPosets pp0 pp1 qp0 qp1).1).1), .slice b321 ((((F_SumPosets pp0 pp1 qp0 qp1).1).2).length) c322] 27, .blk b298 #[.int .i64 qp0, .slice b295 ((qp1).length) c296] 27, .blk b274 #[.int .i64 pp0, .slice b271 ((pp1).length) c272] 27, .rd 1 qp1A qp1.length qp1C qp1, .blk b9 #[.int .i64 qp0, .slice qp1A qp1.length qp1C] 24, .rd 1 pp1A pp1.length pp1C pp1, .blk b3 #[.int .i64 pp0, .slice pp1A pp1.length pp1C] 24, .own 2 1 b76 ((((F_s_SumPosets pp0 pp1 qp0 qp1).1).2).length) c77 (((F_s_SumPosets pp0 pp1 qp0 qp1).1).2), .blk b75 #[.int .i64 (((F_s_SumPosets pp0 pp1 qp0 qp1).1).1), .slice b76 ((((F_s_SumPosets pp0 pp1 qp0 qp1).1).2).length) c77] 27]) ?_ ?_
                ·
                  refine c_reg ?_
                  refine q_step (v := .int .i64 ((1 + (pp1.length : Int)) + (qp1.length : Int))) hE506 (y_move rfl) rfl rfl rfl ?_; intro a507 hE508; clear hE506
                  refine q_step (v := .bool (decide (((1 + (pp1.length : Int)) + (qp1.length : Int)) < 0))) hE508 (y_lss rfl rfl) rfl rfl rfl ?_; intro a509 hE510; clear hE508
                  refine q_step (v := .bool (decide (((1 + (pp1.length : Int)) + (qp1.length : Int)) < 0))) hE510 (y_move rfl) rfl rfl rfl ?_; intro a511 hE512; clear hE510
                  rcases Bool.eq_false_or_eq_true (decide (((1 + (pp1.length : Int)) + (qp1.length : Int)) < 0)) with hb513 | hb513
                  ·
                    have hE514 := hE512; rw [hb513] at hE514; clear hE512
                    have hp515 := of_decide_eq_true hb513
                    refine q_skip hE514 rfl rfl rfl ?_; intro a516 hE517; clear hE514
                    refine q_skip hE517 rfl rfl rfl ?_; intro a518 hE519; clear hE517
                    refine q_skip hE519 rfl rfl rfl ?_; intro a520 hE521; clear hE519
                    refine q_skip hE521 rfl rfl rfl ?_; intro a522 hE523; clear hE521
                    refine q_step (v := .bool true) hE523 (y_pick (b := true) rfl rfl) rfl rfl rfl ?_; intro a524 hE525; clear hE523
                    refine q_step (v := .bool true) hE525 (y_move rfl) rfl rfl rfl ?_; intro a526 hE527; clear hE525
                    refine q_skip hE527 rfl rfl rfl ?_; intro a528 hE529; clear hE527
                    refine q_skip hE529 rfl rfl rfl ?_; intro a530 hE531; clear hE529
                    refine q_skip hE531 rfl rfl rfl ?_; intro a532 hE533; clear hE531
                    refine q_step (v := .bool true) hE533 (y_pick (b := true) rfl rfl) rfl rfl rfl ?_; intro a534 hE535; clear hE533
                    refine c_nil ?_
                    have hE536 := hE535.sub (L' := [(2, .pointer (some ⟨b3, 0, none⟩)), (3, .pointer (some ⟨b9, 0, none⟩)), (6, .pointer (some ⟨b75, 0, none⟩)), (7, .int .i64 ((F_s_SumPosets pp0 pp1 qp0 qp1).2)), (10, .pointer (some ⟨b331, 0, none⟩)), (82, .bool true)]) ⟨rfl, rfl, rfl, rfl, rfl, rfl, trivial⟩; clear hE535
                    refine p_tn ?_
                    have hE537 := hE536.sub (L' := [(2, .pointer (some ⟨b3, 0, none⟩)), (3, .pointer (some ⟨b9, 0, none⟩)), (6, .pointer (some ⟨b75, 0, none⟩)), (7, .int .i64 ((F_s_SumPosets pp0 pp1 qp0 qp1).2)), (10, .pointer (some ⟨b331, 0, none⟩)), (82, .bool true)]) ⟨rfl, rfl, rfl, rfl, rfl, rfl, trivial⟩
                    have hS538 := (St.pick (Γ' := [.own 2 1 b295 ((qp1).length) c296 (marked qp1.length (1 + (pp1.length : Int))), .own 2 1 b271 ((pp1).length) c272 (marked pp1.length 1), .own 2 1 b454 ((qp1).length) c455 qp1, .own 2 1 b419 ((pp1).length) c420 pp1, .own 2 1 b321 ((((F_SumPosets pp0 pp1 qp0 qp1).1).2).length) c322 (((F_SumPosets pp0 pp1 qp0 qp1).1).2), .blk b331 #[.int .i64 (((F_SumPosets pp0 pp1 qp0 qp1).1).1), .slice b321 ((((F_SumPosets pp0 pp1 qp0 qp1).1).2).length) c322] 27, .blk b298 #[.int .i64 qp0, .slice b295 ((qp1).length) c296] 27, .blk b274 #[.int .i64 pp0, .slice b271 ((pp1).length) c272] 27, .rd 1 qp1A qp1.length qp1C qp1, .blk b9 #[.int .i64 qp0, .slice qp1A qp1.length qp1C] 24, .rd 1 pp1A pp1.length pp1C pp1, .blk b3 #[.int .i64 pp0, .slice pp1A pp1.length pp1C] 24, .own 2 1 b76 ((((F_s_SumPosets pp0 pp1 qp0 qp1).1).2).length) c77 (((F_s_SumPosets pp0 pp1 qp0 qp1).1).2), .blk b75 #[.int .i64 (((F_s_SumPosets pp0 pp1 qp0 qp1).1).1), .slice b76 ((((F_s_SumPosets pp0 pp1 qp0 qp1).1).2).length) c77] 27]) hS501 [0, 1, 2, 3, 4, 5, 6, 7, 8, 9, 10, 11, 12, 13] (by decide) rfl)
                    exact ⟨(by rw [hb513]; exact hE537), hS538⟩
                  ·
                    have hE539 := hE512; rw [hb513] at hE539; clear hE512
                    have hp540 := of_decide_eq_false hb513
                    refine q_step (v := .agg #[.int .i64 (((F_SumPosets pp0 pp1 qp0 qp1).1).1), .slice b321 ((((F_SumPosets pp0 pp1 qp0 qp1).1).2).length) c322]) hE539 (y_loadS Try.underlying27 rfl (by kernel_rfl) rfl (St.row (i := 5) hS501 rfl)) rfl rfl rfl ?_; intro a541 hE542; clear hE539
                    refine q_step (v := .agg #[.int .i64 (((F_s_SumPosets pp0 pp1 qp0 qp1).1).1), .slice b76 ((((F_s_SumPosets pp0 pp1 qp0 qp1).1).2).length) c77]) hE542 (y_loadS Try.underlying27 rfl (by kernel_rfl) rfl (St.row (i := 13) hS501 rfl)) rfl rfl rfl ?_; intro a543 hE544; clear hE542
                    refine l_step hE544 rfl (l_call (f := 18) (argv := [.agg #[.int .i64 (((F_SumPosets pp0 pp1 qp0 qp1).1).1), .slice b321 ((((F_SumPosets pp0 pp1 qp0 qp1).1).2).length) c322], .agg #[.int .i64 (((F_s_SumPosets pp0 pp1 qp0 qp1).1).1), .slice b76 ((((F_s_SumPosets pp0 pp1 qp0 qp1).1).2).length) c77]]) hE544 (fun _ => cf_l_eqPoset _ _) rfl rfl (d_l_eqPoset (((F_SumPosets pp0 pp1 qp0 qp1).1).1) b321 ((((F_SumPosets pp0 pp1 qp0 qp1).1).2).length) c322 (((F_SumPosets pp0 pp1 qp0 qp1).1).2) (((F_s_SumPosets pp0 pp1 qp0 qp1).1).1) b76 ((((F_s_SumPosets pp0 pp1 qp0 qp1).1).2).length) c77 (((F_s_SumPosets pp0 pp1 qp0 qp1).1).2) w498 (St.rdO (i := 4) hS501 rfl) (St.rdO (i := 12) hS501 rfl)) ?_)
                    rintro _ w546 ⟨rfl, he550⟩ a547 hE548; clear hE544
                    have hS549 := St.go hS501 he550; clear hS501
                    refine q_step (v := .bool (!(decide (((((F_SumPosets pp0 pp1 qp0 qp1).1).1), (((F_SumPosets pp0 pp1 qp0 qp1).1).2)) = ((((F_s_SumPosets pp0 pp1 qp0 qp1).1).1), (((F_s_SumPosets pp0 pp1 qp0 qp1).1).2)))))) hE548 (y_not rfl) rfl rfl rfl ?_; intro a551 hE552; clear hE548
                    refine q_step (v := .bool (!(decide (((((F_SumPosets pp0 pp1 qp0 qp1).1).1), (((F_SumPosets pp0 pp1 qp0 qp1).1).2)) = ((((F_s_SumPosets pp0 pp1 qp0 qp1).1).1), (((F_s_SumPosets pp0 pp1 qp0 qp1).1).2)))))) hE552 (y_pick (b := false) rfl rfl) rfl rfl rfl ?_; intro a553 hE554; clear hE552
                    refine q_step (v := .bool (!(decide (((((F_SumPosets pp0 pp1 qp0 qp1).1).1), (((F_SumPosets pp0 pp1 qp0 qp1).1).2)) = ((((F_s_SumPosets pp0 pp1 qp0 qp1).1).1), (((F_s_SumPosets pp0 pp1 qp0 qp1).1).2)))))) hE554 (y_move rfl) rfl rfl rfl ?_; intro a555 hE556; clear hE554
                    rcases Bool.eq_false_or_eq_true (!(decide (((((F_SumPosets pp0 pp1 qp0 qp1).1).1), (((F_SumPosets pp0 pp1 qp0 qp1).1).2)) = ((((F_s_SumPosets pp0 pp1 qp0 qp1).1).1), (((F_s_SumPosets pp0 pp1 qp0 qp1).1).2))))) with hb557 | hb557
                    ·
                      have hE558 := hE556; rw [hb557] at hE558; clear hE556
                      have ht559 := bn_t hb557
                      have hp560 := of_decide_eq_false ht559
                      refine q_skip hE558 rfl rfl rfl ?_; intro a561 hE562; clear hE558
                      refine q_skip hE562 rfl rfl rfl ?_; intro a563 hE564; clear hE562
                      refine q_skip hE564 rfl rfl rfl ?_; intro a565 hE566; clear hE564
                      refine q_step (v := .bool true) hE566 (y_pick (b := true) rfl rfl) rfl rfl rfl ?_; intro a567 hE568; clear hE566
                      refine c_nil ?_
                      have hE569 := hE568.sub (L' := [(2, .pointer (some ⟨b3, 0, none⟩)), (3, .pointer (some ⟨b9, 0, none⟩)), (6, .pointer (some ⟨b75, 0, none⟩)), (7, .int .i64 ((F_s_SumPosets pp0 pp1 qp0 qp1).2)), (10, .pointer (some ⟨b331, 0, none⟩)), (82, .bool true)]) ⟨rfl, rfl, rfl, rfl, rfl, rfl, trivial⟩; clear hE568
                      refine p_tn ?_
                      have hE570 := hE569.sub (L' := [(2, .pointer (some ⟨b3, 0, none⟩)), (3, .pointer (some ⟨b9, 0, none⟩)), (6, .pointer (some ⟨b75, 0, none⟩)), (7, .int .i64 ((F_s_SumPosets pp0 pp1 qp0 qp1).2)), (10, .pointer (some ⟨b331, 0, none⟩)), (82, .bool true)]) ⟨rfl, rfl, rfl, rfl, rfl, rfl, trivial⟩
                      have hS571 := (St.pick (Γ' := [.own 2 1 b295 ((qp1).length) c296 (marked qp1.length (1 + (pp1.length : Int))), .own 2 1 b271 ((pp1).length) c272 (marked pp1.length 1), .own 2 1 b454 ((qp1).length) c455 qp1, .own 2 1 b419 ((pp1).length) c420 pp1, .own 2 1 b321 ((((F_SumPosets pp0 pp1 qp0 qp1).1).2).length) c322 (((F_SumPosets pp0 pp1 qp0 qp1).1).2), .blk b331 #[.int .i64 (((F_SumPosets pp0 pp1 qp0 qp1).1).1), .slice b321 ((((F_SumPosets pp0 pp1 qp0 qp1).1).2).length) c322] 27, .blk b298 #[.int .i64 qp0, .slice b295 ((qp1).length) c296] 27, .blk b274 #[.int .i64 pp0, .slice b271 ((pp1).length) c272] 27, .rd 1 qp1A qp1.length qp1C qp1, .blk b9 #[.int .i64 qp0, .slice qp1A qp1.length qp1C] 24, .rd 1 pp1A pp1.length pp1C pp1, .blk b3 #[.int .i64 pp0, .slice pp1A pp1.length pp1C] 24, .own 2 1 b76 ((((F_s_SumPosets pp0 pp1 qp0 qp1).1).2).length) c77 (((F_s_SumPosets pp0 pp1 qp0 qp1).1).2), .blk b75 #[.int .i64 (((F_s_SumPosets pp0 pp1 qp0 qp1).1).1), .slice b76 ((((F_s_SumPosets pp0 pp1 qp0 qp1).1).2).length) c77] 27]) hS549 [0, 1, 2, 3, 4, 5, 6, 7, 8, 9, 10, 11, 12, 13] (by decide) rfl)
                      exact ⟨(by rw [hb557, hb513]; exact hE570), hS571⟩
                    ·
                      have hE572 := hE556; rw [hb557] at hE572; clear hE556
                      have ht573 := bn_f hb557
                      have hp574 := of_decide_eq_true ht573
                      refine q_step (v := .int .i64 ((F_SumPosets pp0 pp1 qp0 qp1).2)) hE572 (y_move rfl) rfl rfl rfl ?_; intro a575 hE576; clear hE572
                      refine q_step (v := .int .i64 ((F_s_SumPosets pp0 pp1 qp0 qp1).2)) hE576 (y_move rfl) rfl rfl rfl ?_; intro a577 hE578; clear hE576
                      refine q_step (v := .bool (!decide (((F_SumPosets pp0 pp1 qp0 qp1).2) = ((F_s_SumPosets pp0 pp1 qp0 qp1).2)))) hE578 (y_neq rfl rfl) rfl rfl rfl ?_; intro a579 hE580; clear hE578
                      refine q_step (v := .bool (!decide (((F_SumPosets pp0 pp1 qp0 qp1).2) = ((F_s_SumPosets pp0 pp1 qp0 qp1).2)))) hE580 (y_pick (b := false) rfl rfl) rfl rfl rfl ?_; intro a581 hE582; clear hE580
                      refine c_nil ?_
                      have hE583 := hE582.sub (L' := [(2, .pointer (some ⟨b3, 0, none⟩)), (3, .pointer (some ⟨b9, 0, none⟩)), (6, .pointer (some ⟨b75, 0, none⟩)), (7, .int .i64 ((F_s_SumPosets pp0 pp1 qp0 qp1).2)), (10, .pointer (some ⟨b331, 0, none⟩)), (82, .bool (!decide (((F_SumPosets pp0 pp1 qp0 qp1).2) = ((F_s_SumPosets pp0 pp1 qp0 qp1).2))))]) ⟨rfl, rfl, rfl, rfl, rfl, rfl, trivial⟩; clear hE582
                      refine p_tn ?_
                      have hE584 := hE583.sub (L' := [(2, .pointer (some ⟨b3, 0, none⟩)), (3, .pointer (some ⟨b9, 0, none⟩)), (6, .pointer (some ⟨b75, 0, none⟩)), (7, .int .i64 ((F_s_SumPosets pp0 pp1 qp0 qp1).2)), (10, .pointer (some ⟨b331, 0, none⟩)), (82, .bool (!decide (((F_SumPosets pp0 pp1 qp0 qp1).2) = ((F_s_SumPosets pp0 pp1 qp0 qp1).2))))]) ⟨rfl, rfl, rfl, rfl, rfl, rfl, trivial⟩
                      have hS585 := (St.pick (Γ' := [.own 2 1 b295 ((qp1).length) c296 (marked qp1.length (1 + (pp1.length : Int))), .own 2 1 b271 ((pp1).length) c272 (marked pp1.length 1), .own 2 1 b454 ((qp1).length) c455 qp1, .own 2 1 b419 ((pp1).length) c420 pp1, .own 2 1 b321 ((((F_SumPosets pp0 pp1 qp0 qp1).1).2).length) c322 (((F_SumPosets pp0 pp1 qp0 qp1).1).2), .blk b331 #[.int .i64 (((F_SumPosets pp0 pp1 qp0 qp1).1).1), .slice b321 ((((F_SumPosets pp0 pp1 qp0 qp1).1).2).length) c322] 27, .blk b298 #[.int .i64 qp0, .slice b295 ((qp1).length) c296] 27, .blk b274 #[.int .i64 pp0, .slice b271 ((pp1).length) c272] 27, .rd 1 qp1A qp1.length qp1C qp1, .blk b9 #[.int .i64 qp0, .slice qp1A qp1.length qp1C] 24, .rd 1 pp1A pp1.length pp1C pp1, .blk b3 #[.int .i64 pp0, .slice pp1A pp1.length pp1C] 24, .own 2 1 b76 ((((F_s_SumPosets pp0 pp1 qp0 qp1).1).2).length) c77 (((F_s_SumPosets pp0 pp1 qp0 qp1).1).2), .blk b75 #[.int .i64 (((F_s_SumPosets pp0 pp1 qp0 qp1).1).1), .slice b76 ((((F_s_SumPosets pp0 pp1 qp0 qp1).1).2).length) c77] 27]) hS549 [0, 1, 2, 3, 4, 5, 6, 7, 8, 9, 10, 11, 12, 13] (by decide) rfl)
                      exact ⟨(by rw [hb557, hb513]; exact hE584), hS585⟩
                ·
                  rintro a586 w587 ⟨hE588, hS589⟩; clear hE506 hS501
                  refine c_cond hE588 rfl (fun ht591 => ?_) (fun ht591 => ?_)
                  ·
                    have hE592 := hE588; rw [ht591] at hE592; clear hE588
                    refine c_seq ?_
                    refine c_reg ?_
                    refine q_step (v := .bool false) hE592 (y_assign rfl) rfl rfl rfl ?_; intro a593 hE594; clear hE592
                    refine c_nil ?_
                    have hE595 := hE594.sub (L' := [(4, .bool false)]) ⟨rfl, trivial⟩; clear hE594
                    refine p_tn ?_
                    refine wp_ret ?_
                    refine p_tr ?_
                    have hF : F_l_FnExactSumPosets pp0 pp1 qp0 qp1 = false := by unfold F_l_FnExactSumPosets; rw [ht591, ht466, ht431, ht394, ht66, ht39]; first | done | rfl
                    refine c_ret1 hE595 rfl rfl ?_
                    exact ⟨(by rw [hF]; first | done | rfl), hS589.ext⟩
                  ·
                    obtain ⟨ht596, ht597⟩ := bor_f ht591
                    have hp598 := of_decide_eq_false ht596
                    obtain ⟨ht599, ht600⟩ := bor_f ht597
                    have ht601 := bn_f ht599
                    have hp602 := of_decide_eq_true ht601
                    have ht603 := bn_f ht600
                    have hp604 := of_decide_eq_true ht603
                    have hE605 := hE588; rw [ht591] at hE605; clear hE588
                    refine wp_skip ?_
                    refine p_tn ?_
                    refine c_seq ?_
                    refine c_reg ?_
                    refine q_step (v := .int .i64 1) hE605 (y_assign rfl) rfl rfl rfl ?_; intro a606 hE607; clear hE605
                    refine c_nil ?_
                    have hE608 := hE607.sub (L' := [(2, .pointer (some ⟨b3, 0, none⟩)), (3, .pointer (some ⟨b9, 0, none⟩)), (6, .pointer (some ⟨b75, 0, none⟩)), (7, .int .i64 ((F_s_SumPosets pp0 pp1 qp0 qp1).2)), (10, .pointer (some ⟨b331, 0, none⟩)), (13, .int .i64 1)]) ⟨rfl, rfl, rfl, rfl, rfl, rfl, trivial⟩; clear hE607
                    refine p_tn ?_
                    refine c_seq ?_
                    refine c_reg ?_
                    refine q_step (v := .agg #[.int .i64 (((F_SumPosets pp0 pp1 qp0 qp1).1).1), .slice b321 ((((F_SumPosets pp0 pp1 qp0 qp1).1).2).length) c322]) hE608 (y_loadS Try.underlying27 rfl (by kernel_rfl) rfl (St.row (i := 5) hS589 rfl)) rfl rfl rfl ?_; intro a609 hE610; clear hE608
                    refine q_step (v := .int .i64 1) hE610 (y_move rfl) rfl rfl rfl ?_; intro a611 hE612; clear hE610
                    have hS619 := (St.pick (Γ' := [.own 2 1 b321 ((((F_SumPosets pp0 pp1 qp0 qp1).1).2).length) c322 (((F_SumPosets pp0 pp1 qp0 qp1).1).2), .own 2 1 b295 ((qp1).length) c296 (marked qp1.length (1 + (pp1.length : Int))), .own 2 1 b271 ((pp1).length) c272 (marked pp1.length 1), .own 2 1 b454 ((qp1).length) c455 qp1, .own 2 1 b419 ((pp1).length) c420 pp1, .blk b331 #[.int .i64 (((F_SumPosets pp0 pp1 qp0 qp1).1).1), .slice b321 ((((F_SumPosets pp0 pp1 qp0 qp1).1).2).length) c322] 27, .blk b298 #[.int .i64 qp0, .slice b295 ((qp1).length) c296] 27, .blk b274 #[.int .i64 pp0, .slice b271 ((pp1).length) c272] 27, .rd 1 qp1A qp1.length qp1C qp1, .blk b9 #[.int .i64 qp0, .slice qp1A qp1.length qp1C] 24, .rd 1 pp1A pp1.length pp1C pp1, .blk b3 #[.int .i64 pp0, .slice pp1A pp1.length pp1C] 24, .own 2 1 b76 ((((F_s_SumPosets pp0 pp1 qp0 qp1).1).2).length) c77 (((F_s_SumPosets pp0 pp1 qp0 qp1).1).2), .blk b75 #[.int .i64 (((F_s_SumPosets pp0 pp1 qp0 qp1).1).1), .slice b76 ((((F_s_SumPosets pp0 pp1 qp0 qp1).1).2).length) c77] 27]) hS589 [4, 0, 1, 2, 3, 5, 6, 7, 8, 9, 10, 11, 12, 13] (by decide) rfl); clear hS589
                    refine l_step hE612 rfl (l_call (f := 25) (argv := [.agg #[.int .i64 (((F_SumPosets pp0 pp1 qp0 qp1).1).1), .slice b321 ((((F_SumPosets pp0 pp1 qp0 qp1).1).2).length) c322], .int .i64 1]) hE612 (fun _ => cf_l_markPoset _ _) rfl rfl (d_l_markPoset (((F_SumPosets pp0 pp1 qp0 qp1).1).1) b321 ((((F_SumPosets pp0 pp1 qp0 qp1).1).2).length) c322 (((F_SumPosets pp0 pp1 qp0 qp1).1).2) 1 w587 w [.own 2 1 b295 ((qp1).length) c296 (marked qp1.length (1 + (pp1.length : Int))), .own 2 1 b271 ((pp1).length) c272 (marked pp1.length 1), .own 2 1 b454 ((qp1).length) c455 qp1, .own 2 1 b419 ((pp1).length) c420 pp1, .blk b331 #[.int .i64 (((F_SumPosets pp0 pp1 qp0 qp1).1).1), .slice b321 ((((F_SumPosets pp0 pp1 qp0 qp1).1).2).length) c322] 27, .blk b298 #[.int .i64 qp0, .slice b295 ((qp1).length) c296] 27, .blk b274 #[.int .i64 pp0, .slice b271 ((pp1).length) c272] 27, .rd 1 qp1A qp1.length qp1C qp1, .blk b9 #[.int .i64 qp0, .slice qp1A qp1.length qp1C] 24, .rd 1 pp1A pp1.length pp1C pp1, .blk b3 #[.int .i64 pp0, .slice pp1A pp1.length pp1C] 24, .own 2 1 b76 ((((F_s_SumPosets pp0 pp1 qp0 qp1).1).2).length) c77 (((F_s_SumPosets pp0 pp1 qp0 qp1).1).2), .blk b75 #[.int .i64 (((F_s_SumPosets pp0 pp1 qp0 qp1).1).1), .slice b76 ((((F_s_SumPosets pp0 pp1 qp0 qp1).1).2).length) c77] 27] hS619 (by first | omega | (simp only [marked_len]; omega) | (simp only [marked_len] at *; omega)) (by first | omega | (simp only [marked_len]; omega) | (simp only [marked_len] at *; omega)) (by first | omega | (simp only [marked_len]; omega) | (simp only [marked_len] at *; omega))) ?_)
                    rintro _ w614 ⟨rfl, hS617⟩ a615 hE616; clear hE612 hS619
                    refine q_step (v := .int .i64 (1 + ((((F_SumPosets pp0 pp1 qp0 qp1).1).2).length : Int))) hE616 (y_assign rfl) rfl rfl rfl ?_; intro a620 hE621; clear hE616
                    refine c_nil ?_
                    have hE622 := hE621.sub (L' := [(2, .pointer (some ⟨b3, 0, none⟩)), (3, .pointer (some ⟨b9, 0, none⟩)), (6, .pointer (some ⟨b75, 0, none⟩)), (7, .int .i64 ((F_s_SumPosets pp0 pp1 qp0 qp1).2)), (10, .pointer (some ⟨b331, 0, none⟩)), (13, .int .i64 (1 + ((((F_SumPosets pp0 pp1 qp0 qp1).1).2).length : Int)))]) ⟨rfl, rfl, rfl, rfl, rfl, rfl, trivial⟩; clear hE621
                    refine p_tn ?_
                    refine c_seq ?_
                    refine c_reg ?_
                    refine q_step (v := .int .i64 1) hE622 (y_assign rfl) rfl rfl rfl ?_; intro a623 hE624; clear hE622
                    refine c_nil ?_
                    have hE625 := hE624.sub (L' := [(2, .pointer (some ⟨b3, 0, none⟩)), (3, .pointer (some ⟨b9, 0, none⟩)), (6, .pointer (some ⟨b75, 0, none⟩)), (7, .int .i64 ((F_s_SumPosets pp0 pp1 qp0 qp1).2)), (10, .pointer (some ⟨b331, 0, none⟩)), (13, .int .i64 (1 + ((((F_SumPosets pp0 pp1 qp0 qp1).1).2).length : Int))), (14, .int .i64 1)]) ⟨rfl, rfl, rfl, rfl, rfl, rfl, rfl, trivial⟩; clear hE624
                    refine p_tn ?_
                    refine c_seq ?_
                    refine c_reg ?_
                    refine q_step (v := .agg #[.int .i64 (((F_SumPosets pp0 pp1 qp0 qp1).1).1), .slice b321 ((((F_SumPosets pp0 pp1 qp0 qp1).1).2).length) c322]) hE625 (y_loadS Try.underlying27 rfl (by kernel_rfl) rfl (St.row (i := 5) hS617 rfl)) rfl rfl rfl ?_; intro a626 hE627; clear hE625
                    refine q_step (v := .int .i64 1) hE627 (y_move rfl) rfl rfl rfl ?_; intro a628 hE629; clear hE627
                    refine l_step hE629 rfl (l_call (f := 26) (argv := [.agg #[.int .i64 (((F_SumPosets pp0 pp1 qp0 qp1).1).1), .slice b321 ((((F_SumPosets pp0 pp1 qp0 qp1).1).2).length) c322], .int .i64 1]) hE629 (fun _ => cf_l_heldPoset _ _) rfl rfl (c_l_heldPoset (((F_SumPosets pp0 pp1 qp0 qp1).1).1) b321 ((((F_SumPosets pp0 pp1 qp0 qp1).1).2).length) c322 (marked (((F_SumPosets pp0 pp1 qp0 qp1).1).2).length 1) 1 w614 (St.rdO (i := 0) hS617 rfl) (by first | omega | (simp only [marked_len]; omega) | (simp only [marked_len] at *; omega)) (by first | omega | (simp only [marked_len]; omega) | (simp only [marked_len] at *; omega)) (by first | omega | (simp only [marked_len]; omega) | (simp only [marked_len] at *; omega))) ?_)
                    rintro _ w631 ⟨rfl, he635⟩ a632 hE633; clear hE629
                    have hS634 := St.go hS617 he635; clear hS617
                    refine q_step (v := .int .i64 (F_l_heldPoset (((F_SumPosets pp0 pp1 qp0 qp1).1).1) (marked (((F_SumPosets pp0 pp1 qp0 qp1).1).2).length 1) 1)) hE633 (y_assign rfl) rfl rfl rfl ?_; intro a636 hE637; clear hE633
                    refine c_nil ?_
                    have hE638 := hE637.sub (L' := [(2, .pointer (some ⟨b3, 0, none⟩)), (3, .pointer (some ⟨b9, 0, none⟩)), (6, .pointer (some ⟨b75, 0, none⟩)), (7, .int .i64 ((F_s_SumPosets pp0 pp1 qp0 qp1).2)), (10, .pointer (some ⟨b331, 0, none⟩)), (13, .int .i64 (1 + ((((F_SumPosets pp0 pp1 qp0 qp1).1).2).length : Int))), (14, .int .i64 (F_l_heldPoset (((F_SumPosets pp0 pp1 qp0 qp1).1).1) (marked (((F_SumPosets pp0 pp1 qp0 qp1).1).2).length 1) 1))]) ⟨rfl, rfl, rfl, rfl, rfl, rfl, rfl, trivial⟩; clear hE637
                    refine p_tn ?_
                    refine c_seq ?_
                    refine c_seq ?_
                    refine c_reg ?_
                    refine q_step (v := .int .i64 (F_l_heldPoset (((F_SumPosets pp0 pp1 qp0 qp1).1).1) (marked (((F_SumPosets pp0 pp1 qp0 qp1).1).2).length 1) 1)) hE638 (y_move rfl) rfl rfl rfl ?_; intro a639 hE640; clear hE638
                    refine q_step (v := .bool (decide ((F_l_heldPoset (((F_SumPosets pp0 pp1 qp0 qp1).1).1) (marked (((F_SumPosets pp0 pp1 qp0 qp1).1).2).length 1) 1) < 0))) hE640 (y_lss rfl rfl) rfl rfl rfl ?_; intro a641 hE642; clear hE640
                    refine c_nil ?_
                    have hE643 := hE642.sub (L' := [(2, .pointer (some ⟨b3, 0, none⟩)), (3, .pointer (some ⟨b9, 0, none⟩)), (6, .pointer (some ⟨b75, 0, none⟩)), (7, .int .i64 ((F_s_SumPosets pp0 pp1 qp0 qp1).2)), (10, .pointer (some ⟨b331, 0, none⟩)), (13, .int .i64 (1 + ((((F_SumPosets pp0 pp1 qp0 qp1).1).2).length : Int))), (14, .int .i64 (F_l_heldPoset (((F_SumPosets pp0 pp1 qp0 qp1).1).1) (marked (((F_SumPosets pp0 pp1 qp0 qp1).1).2).length 1) 1)), (90, .bool (decide ((F_l_heldPoset (((F_SumPosets pp0 pp1 qp0 qp1).1).1) (marked (((F_SumPosets pp0 pp1 qp0 qp1).1).2).length 1) 1) < 0)))]) ⟨rfl, rfl, rfl, rfl, rfl, rfl, rfl, rfl, trivial⟩; clear hE642
                    refine p_tn ?_
                    refine c_cond hE643 rfl (fun ht644 => ?_) (fun ht644 => ?_)
                    ·
                      have hp645 := of_decide_eq_true ht644
                      have hE646 := hE643; rw [ht644] at hE646; clear hE643
                      refine c_seq ?_
                      refine c_reg ?_
                      refine q_step (v := .bool false) hE646 (y_assign rfl) rfl rfl rfl ?_; intro a647 hE648; clear hE646
                      refine c_nil ?_
                      have hE649 := hE648.sub (L' := [(4, .bool false)]) ⟨rfl, trivial⟩; clear hE648
                      refine p_tn ?_
                      refine wp_ret ?_
                      refine p_tr ?_
                      have hF : F_l_FnExactSumPosets pp0 pp1 qp0 qp1 = false := by unfold F_l_FnExactSumPosets; rw [ht644, ht591, ht466, ht431, ht394, ht66, ht39]; first | done | rfl
                      refine c_ret1 hE649 rfl rfl ?_
                      exact ⟨(by rw [hF]; first | done | rfl), hS634.ext⟩
                    ·
                      have hp650 := of_decide_eq_false ht644
                      have hE651 := hE643; rw [ht644] at hE651; clear hE643
                      refine wp_skip ?_
                      refine p_tn ?_
                      refine c_seq ?_
                      refine c_seq ?_
                      refine c_reg ?_
                      refine q_step (v := .int .i64 (F_l_heldPoset (((F_SumPosets pp0 pp1 qp0 qp1).1).1) (marked (((F_SumPosets pp0 pp1 qp0 qp1).1).2).length 1) 1)) hE651 (y_move rfl) rfl rfl rfl ?_; intro a652 hE653; clear hE651
                      refine q_step (v := .int .i64 (1 + ((((F_SumPosets pp0 pp1 qp0 qp1).1).2).length : Int))) hE653 (y_move rfl) rfl rfl rfl ?_; intro a654 hE655; clear hE653
                      refine q_step (v := .bool (!decide ((F_l_heldPoset (((F_SumPosets pp0 pp1 qp0 qp1).1).1) (marked (((F_SumPosets pp0 pp1 qp0 qp1).1).2).length 1) 1) = (1 + ((((F_SumPosets pp0 pp1 qp0 qp1).1).2).length : Int))))) hE655 (y_neq rfl rfl) rfl rfl rfl ?_; intro a656 hE657; clear hE655
                      refine c_nil ?_
                      have hE658 := hE657.sub (L' := [(2, .pointer (some ⟨b3, 0, none⟩)), (3, .pointer (some ⟨b9, 0, none⟩)), (6, .pointer (some ⟨b75, 0, none⟩)), (7, .int .i64 ((F_s_SumPosets pp0 pp1 qp0 qp1).2)), (10, .pointer (some ⟨b331, 0, none⟩)), (13, .int .i64 (1 + ((((F_SumPosets pp0 pp1 qp0 qp1).1).2).length : Int))), (93, .bool (!decide ((F_l_heldPoset (((F_SumPosets pp0 pp1 qp0 qp1).1).1) (marked (((F_SumPosets pp0 pp1 qp0 qp1).1).2).length 1) 1) = (1 + ((((F_SumPosets pp0 pp1 qp0 qp1).1).2).length : Int)))))]) ⟨rfl, rfl, rfl, rfl, rfl, rfl, rfl, trivial⟩; clear hE657
                      refine p_tn ?_
                      refine c_cond hE658 rfl (fun ht659 => ?_) (fun ht659 => ?_)
                      ·
                        have ht660 := bn_t ht659
                        have hp661 := of_decide_eq_false ht660
                        have hE662 := hE658; rw [ht659] at hE662; clear hE658
                        refine c_seq ?_
                        refine c_reg ?_
                        refine q_step (v := .bool false) hE662 (y_assign rfl) rfl rfl rfl ?_; intro a663 hE664; clear hE662
                        refine c_nil ?_
                        have hE665 := hE664.sub (L' := [(4, .bool false)]) ⟨rfl, trivial⟩; clear hE664
                        refine p_tn ?_
                        refine wp_ret ?_
                        refine p_tr ?_
                        have hF : F_l_FnExactSumPosets pp0 pp1 qp0 qp1 = false := by unfold F_l_FnExactSumPosets; rw [ht659, ht644, ht591, ht466, ht431, ht394, ht66, ht39]; first | done | rfl
                        refine c_ret1 hE665 rfl rfl ?_
                        exact ⟨(by rw [hF]; first | done | rfl), hS634.ext⟩
                      ·
                        have ht666 := bn_f ht659
                        have hp667 := of_decide_eq_true ht666
                        have hE668 := hE658; rw [ht659] at hE668; clear hE658
                        refine wp_skip ?_
                        refine p_tn ?_
                        refine c_cut (fun a' w' => ∃ b669 : Nat, ∃ b670 : Option Addr, ∃ c671 : Nat, E a' 119 [(6, .pointer (some ⟨b75, 0, none⟩)), (7, .int .i64 ((F_s_SumPosets pp0 pp1 qp0 qp1).2)), (10, .pointer (some ⟨b331, 0, none⟩)), (13, .int .i64 (1 + ((((F_SumPosets pp0 pp1 qp0 qp1).1).2).length : Int))), (15, .pointer (some ⟨b669, 0, none⟩)), (16, .int .i64 ((F_SumPosets pp0 pp1 qp0 qp1).2))] ∧ St w w' [.own 2 1 b321 ((((F_SumPosets pp0 pp1 qp0 qp1).1).2).length) c322 (marked (((F_SumPosets pp0 pp1 qp0 qp1).1).2).length 1), .own 2 1 b295 ((qp1).length) c296 (marked qp1.length (1 + (pp1.length : Int))), .own 2 1 b271 ((pp1).length) c272 (marked pp1.length 1), .own 2 1 b454 ((qp1).length) c455 qp1, .own 2 1 b419 ((pp1).length) c420 pp1, .blk b331 #[.int .i64 (((F_SumPosets pp0 pp1 qp0 qp1).1).1), .slice b321 ((((F_SumPosets pp0 pp1 qp0 qp1).1).2).length) c322] 27, .blk b298 #[.int .i64 qp0, .slice b295 ((qp1).length) c296] 27, .blk b274 #[.int .i64 pp0, .slice b271 ((pp1).length) c272] 27, .rd 1 qp1A qp1.length qp1C qp1, .blk b9 #[.int .i64 qp0, .slice qp1A qp1.length qp1C] 24, .rd 1 pp1A pp1.length pp1C pp1, .blk b3 #[.int .i64 pp0, .slice pp1A pp1.length pp1C] 24, .own 2 1 b76 ((((F_s_SumPosets pp0 pp1 qp0 qp1).1).2).length) c77 (((F_s_SumPosets pp0 pp1 qp0 qp1).1).2), .blk b75 #[.int .i64 (((F_s_SumPosets pp0 pp1 qp0 qp1).1).1), .slice b76 ((((F_s_SumPosets pp0 pp1 qp0 qp1).1).2).length) c77] 27, .own 2 1 b670 ((((F_SumPosets pp0 pp1 qp0 qp1).1).2).length) c671 (((F_SumPosets pp0 pp1 qp0 qp1).1).2), .blk b669 #[.int .i64 (((F_SumPosets pp0 pp1 qp0 qp1).1).1), .slice b670 ((((F_SumPosets pp0 pp1 qp0 qp1).1).2).length) c671] 27]) ?_ ?_
                        ·
                          refine d_start (fun w w' => (fun w' => w'.heap[b3]? = some (.cells #[.int .i64 pp0, .slice pp1A pp1.length pp1C] 24 (0, 0)) ∧ w'.heap[b9]? = some (.cells #[.int .i64 qp0, .slice qp1A qp1.length qp1C] 24 (0, 0)) ∧ True) w → (fun w' => w'.heap[b3]? = some (.cells #[.int .i64 pp0, .slice pp1A pp1.length pp1C] 24 (0, 0)) ∧ w'.heap[b9]? = some (.cells #[.int .i64 qp0, .slice qp1A qp1.length qp1C] 24 (0, 0)) ∧ True) w') [0, 2] 11 (by kernel_rfl) rfl ?_
                          intro w672 he673; have hS674 := St.go hS634 he673; clear hS634
                          refine d_take (fun _ h => h) (fun _ _ h k => h k) (v := .agg #[.int .i64 pp0, .slice pp1A pp1.length pp1C]) 0 rfl hE668 (S := fun w' => w'.heap[b3]? = some (.cells #[.int .i64 pp0, .slice pp1A pp1.length pp1C] 24 (0, 0)) ∧ w'.heap[b9]? = some (.cells #[.int .i64 qp0, .slice qp1A qp1.length qp1C] 24 (0, 0)) ∧ True) ⟨(St.row (i := 11) hS674 rfl _ (Ext.refl _)), (St.row (i := 9) hS674 rfl _ (Ext.refl _)), trivial⟩ (y_loadS Try.underlying24 rfl (by kernel_rfl) rfl (fun _ h => h.1)) rfl rfl (by kernel_rfl) (by kernel_rfl) (by kernel_rfl) (by kernel_rfl) rfl rfl (fun _ _ _ h => h) ?_; intro a675 hE676; clear hE668
                          refine d_take (fun _ h => h) (fun _ _ h k => h k) (v := .agg #[.int .i64 qp0, .slice qp1A qp1.length qp1C]) 2 rfl hE676 (S := fun w' => w'.heap[b3]? = some (.cells #[.int .i64 pp0, .slice pp1A pp1.length pp1C] 24 (0, 0)) ∧ w'.heap[b9]? = some (.cells #[.int .i64 qp0, .slice qp1A qp1.length qp1C] 24 (0, 0)) ∧ True) ⟨(St.row (i := 11) hS674 rfl _ (Ext.refl _)), (St.row (i := 9) hS674 rfl _ (Ext.refl _)), trivial⟩ (y_loadS Try.underlying24 rfl (by kernel_rfl) rfl (fun _ h => h.2.1)) rfl rfl (by kernel_rfl) (by kernel_rfl) (by kernel_rfl) (by kernel_rfl) rfl rfl (fun _ _ _ h => h) ?_; intro a677 hE678; clear hE676
                          refine d_two 1 8 (by kernel_rfl) rfl rfl hE678 rfl rfl ?_ ?_
                          ·
                            refine l_call (f := 16) (argv := [.agg #[.int .i64 pp0, .slice pp1A pp1.length pp1C]]) hE678 (fun _ => cf_l_toPoset _ _) rfl rfl (d_l_toPoset pp0 pp1A pp1.length pp1C pp1 w672 (St.rdR (i := 10) hS674 rfl) (by first | omega | (simp only [marked_len]; omega) | (simp only [marked_len] at *; omega))) ?_
                            rintro _ w680 ⟨b685, c686, rfl, ho687, he684⟩ a681 hE682; clear hE678
                            have hS683 := St.own hS674 he684 ho687; clear hS674
                            refine ⟨fun _ _ => ⟨(St.row (i := 12) hS683 rfl _ (Ext.refl _)), (St.row (i := 10) hS683 rfl _ (Ext.refl _)), trivial⟩, ?_⟩
                            refine d_two 3 8 (by kernel_rfl) rfl rfl hE682 rfl rfl ?_ ?_
                            ·
                              refine l_call (f := 16) (argv := [.agg #[.int .i64 qp0, .slice qp1A qp1.length qp1C]]) hE682 (fun _ => cf_l_toPoset _ _) rfl rfl (d_l_toPoset qp0 qp1A qp1.length qp1C qp1 w680 (St.rdR (i := 9) hS683 rfl) (by first | omega | (simp only [marked_len]; omega) | (simp only [marked_len] at *; omega))) ?_
                              rintro _ w689 ⟨b694, c695, rfl, ho696, he693⟩ a690 hE691; clear hE682
                              have hS692 := St.own hS683 he693 ho696; clear hS683
                              refine ⟨fun h => Bool.noConfusion (h.symm.trans (show exm _ _ _ = true by kernel_rfl)), ?_⟩
                              refine d_two 4 8 (by kernel_rfl) rfl rfl hE691 rfl rfl ?_ ?_
                              ·
                                refine l_call (f := 38) (argv := [.agg #[.int .i64 pp0, .slice b685 ((pp1).length) c686], .agg #[.int .i64 qp0, .slice b694 ((qp1).length) c695]]) hE691 (fun _ => cf_SumPosets _ _) rfl rfl (c_SumPosets pp0 b685 ((pp1).length) c686 pp1 qp0 b694 ((qp1).length) c695 qp1 w689 (St.rdO (i := 1) hS692 rfl) (St.rdO (i := 0) hS692 rfl)) ?_
                                rintro _ w698 ⟨b703, c704, rfl, ho705, he702⟩ a699 hE700; clear hE691
                                have hf706 := SumPosets_len pp0 pp1 qp0 qp1
                                have hS701 := St.own hS692 he702 ho705; clear hS692
                                refine ⟨fun h => Bool.noConfusion (h.symm.trans (show exm _ _ _ = true by kernel_rfl)), ?_⟩
                                refine d_pure (fun _ h => h) (v := .tuple #[.agg #[.int .i64 (((F_SumPosets pp0 pp1 qp0 qp1).1).1), .slice b703 ((((F_SumPosets pp0 pp1 qp0 qp1).1).2).length) c704], .int .i64 ((F_SumPosets pp0 pp1 qp0 qp1).2)]) 5 rfl hE700 (y_move rfl) rfl (by kernel_rfl) (by kernel_rfl) (by kernel_rfl) rfl rfl (fun _ _ _ h => h) ?_; intro a707 hE708; clear hE700
                                refine d_pure (fun _ h => h) (v := .agg #[.int .i64 (((F_SumPosets pp0 pp1 qp0 qp1).1).1), .slice b703 ((((F_SumPosets pp0 pp1 qp0 qp1).1).2).length) c704]) 6 rfl hE708 (y_extract rfl rfl) rfl (by kernel_rfl) (by kernel_rfl) (by kernel_rfl) rfl rfl (fun _ _ _ h => h) ?_; intro a709 hE710; clear hE708
                                refine d_pure (fun _ h => h) (v := .int .i64 ((F_SumPosets pp0 pp1 qp0 qp1).2)) 7 rfl hE710 (y_extract rfl rfl) rfl (by kernel_rfl) (by kernel_rfl) (by kernel_rfl) rfl rfl (fun _ _ _ h => h) ?_; intro a711 hE712; clear hE710
                                refine d_only 8 (by kernel_rfl) rfl hE712 rfl (l_alloc (z := .agg #[.int .i64 0, .slice none 0 0]) (cs := #[.int .i64 0, .slice none 0 0]) hS701 hE712 (fun _ => by kernel_rfl) rfl rfl ?_)
                                intro b713 w714 hS717 he718 a715 hE716; clear hS701 hE712
                                refine ⟨fun _ _ => ⟨(St.row (i := 15) hS717 rfl _ (Ext.refl _)), (St.row (i := 13) hS717 rfl _ (Ext.refl _)), trivial⟩, ?_⟩
                                refine d_only 9 (by kernel_rfl) rfl hE716 rfl (l_storeS (k := 0) (cs' := #[.int .i64 (((F_SumPosets pp0 pp1 qp0 qp1).1).1), .slice b703 ((((F_SumPosets pp0 pp1 qp0 qp1).1).2).length) c704]) hS717 hE716 (by kernel_rfl) rfl rfl (by kernel_rfl) rfl rfl ?_)
                                intro w720 hS723 a721 hE722; clear hS717 hE716
                                refine ⟨fun h => Bool.noConfusion (h.symm.trans (show exm _ _ _ = true by kernel_rfl)), ?_⟩
                                refine d_pure (fun _ h => h) (v := .int .i64 ((F_SumPosets pp0 pp1 qp0 qp1).2)) 10 rfl hE722 (y_assign rfl) rfl (by kernel_rfl) (by kernel_rfl) (by kernel_rfl) rfl rfl (fun _ _ _ h => h) ?_; intro a725 hE726; clear hE722
                                refine d_done (by kernel_rfl) ?_
                                have hE727 := hE726.sub (L' := [(6, .pointer (some ⟨b75, 0, none⟩)), (7, .int .i64 ((F_s_SumPosets pp0 pp1 qp0 qp1).2)), (10, .pointer (some ⟨b331, 0, none⟩)), (13, .int .i64 (1 + ((((F_SumPosets pp0 pp1 qp0 qp1).1).2).length : Int))), (15, .pointer (some ⟨b713, 0, none⟩)), (16, .int .i64 ((F_SumPosets pp0 pp1 qp0 qp1).2))]) ⟨rfl, rfl, rfl, rfl, rfl, rfl, trivial⟩; clear hE726
                                refine p_tn ?_
                                have hE728 := hE727.sub (L' := [(6, .pointer (some ⟨b75, 0, none⟩)), (7, .int .i64 ((F_s_SumPosets pp0 pp1 qp0 qp1).2)), (10, .pointer (some ⟨b331, 0, none⟩)), (13, .int .i64 (1 + ((((F_SumPosets pp0 pp1 qp0 qp1).1).2).length : Int))), (15, .pointer (some ⟨b713, 0, none⟩)), (16, .int .i64 ((F_SumPosets pp0 pp1 qp0 qp1).2))]) ⟨rfl, rfl, rfl, rfl, rfl, rfl, trivial⟩
                                have hS729 := (St.pick (Γ' := [.own 2 1 b321 ((((F_SumPosets pp0 pp1 qp0 qp1).1).2).length) c322 (marked (((F_SumPosets pp0 pp1 qp0 qp1).1).2).length 1), .own 2 1 b295 ((qp1).length) c296 (marked qp1.length (1 + (pp1.length : Int))), .own 2 1 b271 ((pp1).length) c272 (marked pp1.length 1), .own 2 1 b454 ((qp1).length) c455 qp1, .own 2 1 b419 ((pp1).length) c420 pp1, .blk b331 #[.int .i64 (((F_SumPosets pp0 pp1 qp0 qp1).1).1), .slice b321 ((((F_SumPosets pp0 pp1 qp0 qp1).1).2).length) c322] 27, .blk b298 #[.int .i64 qp0, .slice b295 ((qp1).length) c296] 27, .blk b274 #[.int .i64 pp0, .slice b271 ((pp1).length) c272] 27, .rd 1 qp1A qp1.length qp1C qp1, .blk b9 #[.int .i64 qp0, .slice qp1A qp1.length qp1C] 24, .rd 1 pp1A pp1.length pp1C pp1, .blk b3 #[.int .i64 pp0, .slice pp1A pp1.length pp1C] 24, .own 2 1 b76 ((((F_s_SumPosets pp0 pp1 qp0 qp1).1).2).length) c77 (((F_s_SumPosets pp0 pp1 qp0 qp1).1).2), .blk b75 #[.int .i64 (((F_s_SumPosets pp0 pp1 qp0 qp1).1).1), .slice b76 ((((F_s_SumPosets pp0 pp1 qp0 qp1).1).2).length) c77] 27, .own 2 1 b703 ((((F_SumPosets pp0 pp1 qp0 qp1).1).2).length) c704 (((F_SumPosets pp0 pp1 qp0 qp1).1).2), .blk b713 #[.int .i64 (((F_SumPosets pp0 pp1 qp0 qp1).1).1), .slice b703 ((((F_SumPosets pp0 pp1 qp0 qp1).1).2).length) c704] 27]) hS723 [4, 5, 6, 7, 8, 9, 10, 11, 12, 13, 14, 15, 16, 17, 1, 0] (by decide) rfl)
                                exact ⟨b713, b703, c704, hE728, hS729⟩
                              ·
                                refine l_alloc (z := .agg #[.int .i64 0, .slice none 0 0]) (cs := #[.int .i64 0, .slice none 0 0]) hS692 hE691 (fun _ => by kernel_rfl) rfl rfl ?_
                                intro b730 w731 hS734 he735 a732 hE733; clear hS692 hE691
                                refine ⟨fun _ _ => ⟨(St.row (i := 14) hS734 rfl _ (Ext.refl _)), (St.row (i := 12) hS734 rfl _ (Ext.refl _)), trivial⟩, ?_⟩
                                refine d_only 4 (by kernel_rfl) rfl hE733 rfl (l_call (f := 38) (argv := [.agg #[.int .i64 pp0, .slice b685 ((pp1).length) c686], .agg #[.int .i64 qp0, .slice b694 ((qp1).length) c695]]) hE733 (fun _ => cf_SumPosets _ _) rfl rfl (c_SumPosets pp0 b685 ((pp1).length) c686 pp1 qp0 b694 ((qp1).length) c695 qp1 w731 (St.rdO (i := 2) hS734 rfl) (St.rdO (i := 1) hS734 rfl)) ?_)
                                rintro _ w737 ⟨b742, c743, rfl, ho744, he741⟩ a738 hE739; clear hE733
                                have hf745 := SumPosets_len pp0 pp1 qp0 qp1
                                have hS740 := St.own hS734 he741 ho744; clear hS734
                                refine ⟨fun h => Bool.noConfusion (h.symm.trans (show exm _ _ _ = true by kernel_rfl)), ?_⟩
                                refine d_pure (fun _ h => h) (v := .tuple #[.agg #[.int .i64 (((F_SumPosets pp0 pp1 qp0 qp1).1).1), .slice b742 ((((F_SumPosets pp0 pp1 qp0 qp1).1).2).length) c743], .int .i64 ((F_SumPosets pp0 pp1 qp0 qp1).2)]) 5 rfl hE739 (y_move rfl) rfl (by kernel_rfl) (by kernel_rfl) (by kernel_rfl) rfl rfl (fun _ _ _ h => h) ?_; intro a746 hE747; clear hE739
                                refine d_pure (fun _ h => h) (v := .agg #[.int .i64 (((F_SumPosets pp0 pp1 qp0 qp1).1).1), .slice b742 ((((F_SumPosets pp0 pp1 qp0 qp1).1).2).length) c743]) 6 rfl hE747 (y_extract rfl rfl) rfl (by kernel_rfl) (by kernel_rfl) (by kernel_rfl) rfl rfl (fun _ _ _ h => h) ?_; intro a748 hE749; clear hE747
                                refine d_pure (fun _ h => h) (v := .int .i64 ((F_SumPosets pp0 pp1 qp0 qp1).2)) 7 rfl hE749 (y_extract rfl rfl) rfl (by kernel_rfl) (by kernel_rfl) (by kernel_rfl) rfl rfl (fun _ _ _ h => h) ?_; intro a750 hE751; clear hE749
                                refine d_only 9 (by kernel_rfl) rfl hE751 rfl (l_storeS (k := 1) (cs' := #[.int .i64 (((F_SumPosets pp0 pp1 qp0 qp1).1).1), .slice b742 ((((F_SumPosets pp0 pp1 qp0 qp1).1).2).length) c743]) hS740 hE751 (by kernel_rfl) rfl rfl (by kernel_rfl) rfl rfl ?_)
                                intro w753 hS756 a754 hE755; clear hS740 hE751
                                refine ⟨fun h => Bool.noConfusion (h.symm.trans (show exm _ _ _ = true by kernel_rfl)), ?_⟩
                                refine d_pure (fun _ h => h) (v := .int .i64 ((F_SumPosets pp0 pp1 qp0 qp1).2)) 10 rfl hE755 (y_assign rfl) rfl (by kernel_rfl) (by kernel_rfl) (by kernel_rfl) rfl rfl (fun _ _ _ h => h) ?_; intro a758 hE759; clear hE755
                                refine d_done (by kernel_rfl) ?_
                                have hE760 := hE759.sub (L' := [(6, .pointer (some ⟨b75, 0, none⟩)), (7, .int .i64 ((F_s_SumPosets pp0 pp1 qp0 qp1).2)), (10, .pointer (some ⟨b331, 0, none⟩)), (13, .int .i64 (1 + ((((F_SumPosets pp0 pp1 qp0 qp1).1).2).length : Int))), (15, .pointer (some ⟨b730, 0, none⟩)), (16, .int .i64 ((F_SumPosets pp0 pp1 qp0 qp1).2))]) ⟨rfl, rfl, rfl, rfl, rfl, rfl, trivial⟩; clear hE759
                                refine p_tn ?_
                                have hE761 := hE760.sub (L' := [(6, .pointer (some ⟨b75, 0, none⟩)), (7, .int .i64 ((F_s_SumPosets pp0 pp1 qp0 qp1).2)), (10, .pointer (some ⟨b331, 0, none⟩)), (13, .int .i64 (1 + ((((F_SumPosets pp0 pp1 qp0 qp1).1).2).length : Int))), (15, .pointer (some ⟨b730, 0, none⟩)), (16, .int .i64 ((F_SumPosets pp0 pp1 qp0 qp1).2))]) ⟨rfl, rfl, rfl, rfl, rfl, rfl, trivial⟩
                                have hS762 := (St.pick (Γ' := [.own 2 1 b321 ((((F_SumPosets pp0 pp1 qp0 qp1).1).2).length) c322 (marked (((F_SumPosets pp0 pp1 qp0 qp1).1).2).length 1), .own 2 1 b295 ((qp1).length) c296 (marked qp1.length (1 + (pp1.length : Int))), .own 2 1 b271 ((pp1).length) c272 (marked pp1.length 1), .own 2 1 b454 ((qp1).length) c455 qp1, .own 2 1 b419 ((pp1).length) c420 pp1, .blk b331 #[.int .i64 (((F_SumPosets pp0 pp1 qp0 qp1).1).1), .slice b321 ((((F_SumPosets pp0 pp1 qp0 qp1).1).2).length) c322] 27, .blk b298 #[.int .i64 qp0, .slice b295 ((qp1).length) c296] 27, .blk b274 #[.int .i64 pp0, .slice b271 ((pp1).length) c272] 27, .rd 1 qp1A qp1.length qp1C qp1, .blk b9 #[.int .i64 qp0, .slice qp1A qp1.length qp1C] 24, .rd 1 pp1A pp1.length pp1C pp1, .blk b3 #[.int .i64 pp0, .slice pp1A pp1.length pp1C] 24, .own 2 1 b76 ((((F_s_SumPosets pp0 pp1 qp0 qp1).1).2).length) c77 (((F_s_SumPosets pp0 pp1 qp0 qp1).1).2), .blk b75 #[.int .i64 (((F_s_SumPosets pp0 pp1 qp0 qp1).1).1), .slice b76 ((((F_s_SumPosets pp0 pp1 qp0 qp1).1).2).length) c77] 27, .own 2 1 b742 ((((F_SumPosets pp0 pp1 qp0 qp1).1).2).length) c743 (((F_SumPosets pp0 pp1 qp0 qp1).1).2), .blk b730 #[.int .i64 (((F_SumPosets pp0 pp1 qp0 qp1).1).1), .slice b742 ((((F_SumPosets pp0 pp1 qp0 qp1).1).2).length) c743] 27]) hS756 [4, 5, 6, 7, 8, 9, 10, 11, 12, 13, 14, 15, 16, 17, 0, 1] (by decide) rfl)
                                exact ⟨b730, b742, c743, hE761, hS762⟩
                            ·
                              refine l_alloc (z := .agg #[.int .i64 0, .slice none 0 0]) (cs := #[.int .i64 0, .slice none 0 0]) hS683 hE682 (fun _ => by kernel_rfl) rfl rfl ?_
                              intro b763 w764 hS767 he768 a765 hE766; clear hS683 hE682
                              refine ⟨fun _ _ => ⟨(St.row (i := 13) hS767 rfl _ (Ext.refl _)), (St.row (i := 11) hS767 rfl _ (Ext.refl _)), trivial⟩, ?_⟩
                              refine d_only 3 (by kernel_rfl) rfl hE766 rfl (l_call (f := 16) (argv := [.agg #[.int .i64 qp0, .slice qp1A qp1.length qp1C]]) hE766 (fun _ => cf_l_toPoset _ _) rfl rfl (d_l_toPoset qp0 qp1A qp1.length qp1C qp1 w764 (St.rdR (i := 10) hS767 rfl) (by first | omega | (simp only [marked_len]; omega) | (simp only [marked_len] at *; omega))) ?_)
                              rintro _ w770 ⟨b775, c776, rfl, ho777, he774⟩ a771 hE772; clear hE766
                              have hS773 := St.own hS767 he774 ho777; clear hS767
                              refine ⟨fun h => Bool.noConfusion (h.symm.trans (show exm _ _ _ = true by kernel_rfl)), ?_⟩
                              refine d_only 4 (by kernel_rfl) rfl hE772 rfl (l_call (f := 38) (argv := [.agg #[.int .i64 pp0, .slice b685 ((pp1).length) c686], .agg #[.int .i64 qp0, .slice b775 ((qp1).length) c776]]) hE772 (fun _ => cf_SumPosets _ _) rfl rfl (c_SumPosets pp0 b685 ((pp1).length) c686 pp1 qp0 b775 ((qp1).length) c776 qp1 w770 (St.rdO (i := 2) hS773 rfl) (St.rdO (i := 0) hS773 rfl)) ?_)
                              rintro _ w779 ⟨b784, c785, rfl, ho786, he783⟩ a780 hE781; clear hE772
                              have hf787 := SumPosets_len pp0 pp1 qp0 qp1
                              have hS782 := St.own hS773 he783 ho786; clear hS773
                              refine ⟨fun h => Bool.noConfusion (h.symm.trans (show exm _ _ _ = true by kernel_rfl)), ?_⟩
                              refine d_pure (fun _ h => h) (v := .tuple #[.agg #[.int .i64 (((F_SumPosets pp0 pp1 qp0 qp1).1).1), .slice b784 ((((F_SumPosets pp0 pp1 qp0 qp1).1).2).length) c785], .int .i64 ((F_SumPosets pp0 pp1 qp0 qp1).2)]) 5 rfl hE781 (y_move rfl) rfl (by kernel_rfl) (by kernel_rfl) (by kernel_rfl) rfl rfl (fun _ _ _ h => h) ?_; intro a788 hE789; clear hE781
                              refine d_pure (fun _ h => h) (v := .agg #[.int .i64 (((F_SumPosets pp0 pp1 qp0 qp1).1).1), .slice b784 ((((F_SumPosets pp0 pp1 qp0 qp1).1).2).length) c785]) 6 rfl hE789 (y_extract rfl rfl) rfl (by kernel_rfl) (by kernel_rfl) (by kernel_rfl) rfl rfl (fun _ _ _ h => h) ?_; intro a790 hE791; clear hE789
                              refine d_pure (fun _ h => h) (v := .int .i64 ((F_SumPosets pp0 pp1 qp0 qp1).2)) 7 rfl hE791 (y_extract rfl rfl) rfl (by kernel_rfl) (by kernel_rfl) (by kernel_rfl) rfl rfl (fun _ _ _ h => h) ?_; intro a792 hE793; clear hE791
                              refine d_only 9 (by kernel_rfl) rfl hE793 rfl (l_storeS (k := 2) (cs' := #[.int .i64 (((F_SumPosets pp0 pp1 qp0 qp1).1).1), .slice b784 ((((F_SumPosets pp0 pp1 qp0 qp1).1).2).length) c785]) hS782 hE793 (by kernel_rfl) rfl rfl (by kernel_rfl) rfl rfl ?_)
                              intro w795 hS798 a796 hE797; clear hS782 hE793
                              refine ⟨fun h => Bool.noConfusion (h.symm.trans (show exm _ _ _ = true by kernel_rfl)), ?_⟩
                              refine d_pure (fun _ h => h) (v := .int .i64 ((F_SumPosets pp0 pp1 qp0 qp1).2)) 10 rfl hE797 (y_assign rfl) rfl (by kernel_rfl) (by kernel_rfl) (by kernel_rfl) rfl rfl (fun _ _ _ h => h) ?_; intro a800 hE801; clear hE797
                              refine d_done (by kernel_rfl) ?_
                              have hE802 := hE801.sub (L' := [(6, .pointer (some ⟨b75, 0, none⟩)), (7, .int .i64 ((F_s_SumPosets pp0 pp1 qp0 qp1).2)), (10, .pointer (some ⟨b331, 0, none⟩)), (13, .int .i64 (1 + ((((F_SumPosets pp0 pp1 qp0 qp1).1).2).length : Int))), (15, .pointer (some ⟨b763, 0, none⟩)), (16, .int .i64 ((F_SumPosets pp0 pp1 qp0 qp1).2))]) ⟨rfl, rfl, rfl, rfl, rfl, rfl, trivial⟩; clear hE801
                              refine p_tn ?_
                              have hE803 := hE802.sub (L' := [(6, .pointer (some ⟨b75, 0, none⟩)), (7, .int .i64 ((F_s_SumPosets pp0 pp1 qp0 qp1).2)), (10, .pointer (some ⟨b331, 0, none⟩)), (13, .int .i64 (1 + ((((F_SumPosets pp0 pp1 qp0 qp1).1).2).length : Int))), (15, .pointer (some ⟨b763, 0, none⟩)), (16, .int .i64 ((F_SumPosets pp0 pp1 qp0 qp1).2))]) ⟨rfl, rfl, rfl, rfl, rfl, rfl, trivial⟩
                              have hS804 := (St.pick (Γ' := [.own 2 1 b321 ((((F_SumPosets pp0 pp1 qp0 qp1).1).2).length) c322 (marked (((F_SumPosets pp0 pp1 qp0 qp1).1).2).length 1), .own 2 1 b295 ((qp1).length) c296 (marked qp1.length (1 + (pp1.length : Int))), .own 2 1 b271 ((pp1).length) c272 (marked pp1.length 1), .own 2 1 b454 ((qp1).length) c455 qp1, .own 2 1 b419 ((pp1).length) c420 pp1, .blk b331 #[.int .i64 (((F_SumPosets pp0 pp1 qp0 qp1).1).1), .slice b321 ((((F_SumPosets pp0 pp1 qp0 qp1).1).2).length) c322] 27, .blk b298 #[.int .i64 qp0, .slice b295 ((qp1).length) c296] 27, .blk b274 #[.int .i64 pp0, .slice b271 ((pp1).length) c272] 27, .rd 1 qp1A qp1.length qp1C qp1, .blk b9 #[.int .i64 qp0, .slice qp1A qp1.length qp1C] 24, .rd 1 pp1A pp1.length pp1C pp1, .blk b3 #[.int .i64 pp0, .slice pp1A pp1.length pp1C] 24, .own 2 1 b76 ((((F_s_SumPosets pp0 pp1 qp0 qp1).1).2).length) c77 (((F_s_SumPosets pp0 pp1 qp0 qp1).1).2), .blk b75 #[.int .i64 (((F_s_SumPosets pp0 pp1 qp0 qp1).1).1), .slice b76 ((((F_s_SumPosets pp0 pp1 qp0 qp1).1).2).length) c77] 27, .own 2 1 b784 ((((F_SumPosets pp0 pp1 qp0 qp1).1).2).length) c785 (((F_SumPosets pp0 pp1 qp0 qp1).1).2), .blk b763 #[.int .i64 (((F_SumPosets pp0 pp1 qp0 qp1).1).1), .slice b784 ((((F_SumPosets pp0 pp1 qp0 qp1).1).2).length) c785] 27]) hS798 [4, 5, 6, 7, 8, 9, 10, 11, 12, 13, 14, 15, 16, 17, 0, 2] (by decide) rfl)
                              exact ⟨b763, b784, c785, hE803, hS804⟩
                          ·
                            refine l_alloc (z := .agg #[.int .i64 0, .slice none 0 0]) (cs := #[.int .i64 0, .slice none 0 0]) hS674 hE678 (fun _ => by kernel_rfl) rfl rfl ?_
                            intro b805 w806 hS809 he810 a807 hE808; clear hS674 hE678
                            refine ⟨fun _ _ => ⟨(St.row (i := 12) hS809 rfl _ (Ext.refl _)), (St.row (i := 10) hS809 rfl _ (Ext.refl _)), trivial⟩, ?_⟩
                            refine d_only 1 (by kernel_rfl) rfl hE808 rfl (l_call (f := 16) (argv := [.agg #[.int .i64 pp0, .slice pp1A pp1.length pp1C]]) hE808 (fun _ => cf_l_toPoset _ _) rfl rfl (d_l_toPoset pp0 pp1A pp1.length pp1C pp1 w806 (St.rdR (i := 11) hS809 rfl) (by first | omega | (simp only [marked_len]; omega) | (simp only [marked_len] at *; omega))) ?_)
                            rintro _ w812 ⟨b817, c818, rfl, ho819, he816⟩ a813 hE814; clear hE808
                            have hS815 := St.own hS809 he816 ho819; clear hS809
                            refine ⟨fun _ _ => ⟨(St.row (i := 13) hS815 rfl _ (Ext.refl _)), (St.row (i := 11) hS815 rfl _ (Ext.refl _)), trivial⟩, ?_⟩
                            refine d_only 3 (by kernel_rfl) rfl hE814 rfl (l_call (f := 16) (argv := [.agg #[.int .i64 qp0, .slice qp1A qp1.length qp1C]]) hE814 (fun _ => cf_l_toPoset _ _) rfl rfl (d_l_toPoset qp0 qp1A qp1.length qp1C qp1 w812 (St.rdR (i := 10) hS815 rfl) (by first | omega | (simp only [marked_len]; omega) | (simp only [marked_len] at *; omega))) ?_)
                            rintro _ w821 ⟨b826, c827, rfl, ho828, he825⟩ a822 hE823; clear hE814
                            have hS824 := St.own hS815 he825 ho828; clear hS815
                            refine ⟨fun h => Bool.noConfusion (h.symm.trans (show exm _ _ _ = true by kernel_rfl)), ?_⟩
                            refine d_only 4 (by kernel_rfl) rfl hE823 rfl (l_call (f := 38) (argv := [.agg #[.int .i64 pp0, .slice b817 ((pp1).length) c818], .agg #[.int .i64 qp0, .slice b826 ((qp1).length) c827]]) hE823 (fun _ => cf_SumPosets _ _) rfl rfl (c_SumPosets pp0 b817 ((pp1).length) c818 pp1 qp0 b826 ((qp1).length) c827 qp1 w821 (St.rdO (i := 1) hS824 rfl) (St.rdO (i := 0) hS824 rfl)) ?_)
                            rintro _ w830 ⟨b835, c836, rfl, ho837, he834⟩ a831 hE832; clear hE823
                            have hf838 := SumPosets_len pp0 pp1 qp0 qp1
                            have hS833 := St.own hS824 he834 ho837; clear hS824
                            refine ⟨fun h => Bool.noConfusion (h.symm.trans (show exm _ _ _ = true by kernel_rfl)), ?_⟩
                            refine d_pure (fun _ h => h) (v := .tuple #[.agg #[.int .i64 (((F_SumPosets pp0 pp1 qp0 qp1).1).1), .slice b835 ((((F_SumPosets pp0 pp1 qp0 qp1).1).2).length) c836], .int .i64 ((F_SumPosets pp0 pp1 qp0 qp1).2)]) 5 rfl hE832 (y_move rfl) rfl (by kernel_rfl) (by kernel_rfl) (by kernel_rfl) rfl rfl (fun _ _ _ h => h) ?_; intro a839 hE840; clear hE832
                            refine d_pure (fun _ h => h) (v := .agg #[.int .i64 (((F_SumPosets pp0 pp1 qp0 qp1).1).1), .slice b835 ((((F_SumPosets pp0 pp1 qp0 qp1).1).2).length) c836]) 6 rfl hE840 (y_extract rfl rfl) rfl (by kernel_rfl) (by kernel_rfl) (by kernel_rfl) rfl rfl (fun _ _ _ h => h) ?_; intro a841 hE842; clear hE840
                            refine d_pure (fun _ h => h) (v := .int .i64 ((F_SumPosets pp0 pp1 qp0 qp1).2)) 7 rfl hE842 (y_extract rfl rfl) rfl (by kernel_rfl) (by kernel_rfl) (by kernel_rfl) rfl rfl (fun _ _ _ h => h) ?_; intro a843 hE844; clear hE842
                            refine d_only 9 (by kernel_rfl) rfl hE844 rfl (l_storeS (k := 3) (cs' := #[.int .i64 (((F_SumPosets pp0 pp1 qp0 qp1).1).1), .slice b835 ((((F_SumPosets pp0 pp1 qp0 qp1).1).2).length) c836]) hS833 hE844 (by kernel_rfl) rfl rfl (by kernel_rfl) rfl rfl ?_)
                            intro w846 hS849 a847 hE848; clear hS833 hE844
                            refine ⟨fun h => Bool.noConfusion (h.symm.trans (show exm _ _ _ = true by kernel_rfl)), ?_⟩
                            refine d_pure (fun _ h => h) (v := .int .i64 ((F_SumPosets pp0 pp1 qp0 qp1).2)) 10 rfl hE848 (y_assign rfl) rfl (by kernel_rfl) (by kernel_rfl) (by kernel_rfl) rfl rfl (fun _ _ _ h => h) ?_; intro a851 hE852; clear hE848
                            refine d_done (by kernel_rfl) ?_
                            have hE853 := hE852.sub (L' := [(6, .pointer (some ⟨b75, 0, none⟩)), (7, .int .i64 ((F_s_SumPosets pp0 pp1 qp0 qp1).2)), (10, .pointer (some ⟨b331, 0, none⟩)), (13, .int .i64 (1 + ((((F_SumPosets pp0 pp1 qp0 qp1).1).2).length : Int))), (15, .pointer (some ⟨b805, 0, none⟩)), (16, .int .i64 ((F_SumPosets pp0 pp1 qp0 qp1).2))]) ⟨rfl, rfl, rfl, rfl, rfl, rfl, trivial⟩; clear hE852
                            refine p_tn ?_
                            have hE854 := hE853.sub (L' := [(6, .pointer (some ⟨b75, 0, none⟩)), (7, .int .i64 ((F_s_SumPosets pp0 pp1 qp0 qp1).2)), (10, .pointer (some ⟨b331, 0, none⟩)), (13, .int .i64 (1 + ((((F_SumPosets pp0 pp1 qp0 qp1).1).2).length : Int))), (15, .pointer (some ⟨b805, 0, none⟩)), (16, .int .i64 ((F_SumPosets pp0 pp1 qp0 qp1).2))]) ⟨rfl, rfl, rfl, rfl, rfl, rfl, trivial⟩
                            have hS855 := (St.pick (Γ' := [.own 2 1 b321 ((((F_SumPosets pp0 pp1 qp0 qp1).1).2).length) c322 (marked (((F_SumPosets pp0 pp1 qp0 qp1).1).2).length 1), .own 2 1 b295 ((qp1).length) c296 (marked qp1.length (1 + (pp1.length : Int))), .own 2 1 b271 ((pp1).length) c272 (marked pp1.length 1), .own 2 1 b454 ((qp1).length) c455 qp1, .own 2 1 b419 ((pp1).length) c420 pp1, .blk b331 #[.int .i64 (((F_SumPosets pp0 pp1 qp0 qp1).1).1), .slice b321 ((((F_SumPosets pp0 pp1 qp0 qp1).1).2).length) c322] 27, .blk b298 #[.int .i64 qp0, .slice b295 ((qp1).length) c296] 27, .blk b274 #[.int .i64 pp0, .slice b271 ((pp1).length) c272] 27, .rd 1 qp1A qp1.length qp1C qp1, .blk b9 #[.int .i64 qp0, .slice qp1A qp1.length qp1C] 24, .rd 1 pp1A pp1.length pp1C pp1, .blk b3 #[.int .i64 pp0, .slice pp1A pp1.length pp1C] 24, .own 2 1 b76 ((((F_s_SumPosets pp0 pp1 qp0 qp1).1).2).length) c77 (((F_s_SumPosets pp0 pp1 qp0 qp1).1).2), .blk b75 #[.int .i64 (((F_s_SumPosets pp0 pp1 qp0 qp1).1).1), .slice b76 ((((F_s_SumPosets pp0 pp1 qp0 qp1).1).2).length) c77] 27, .own 2 1 b835 ((((F_SumPosets pp0 pp1 qp0 qp1).1).2).length) c836 (((F_SumPosets pp0 pp1 qp0 qp1).1).2), .blk b805 #[.int .i64 (((F_SumPosets pp0 pp1 qp0 qp1).1).1), .slice b835 ((((F_SumPosets pp0 pp1 qp0 qp1).1).2).length) c836] 27]) hS849 [4, 5, 6, 7, 8, 9, 10, 11, 12, 13, 14, 15, 16, 17, 0, 3] (by decide) rfl)
                            exact ⟨b805, b835, c836, hE854, hS855⟩
                        ·
                          rintro a856 w857 ⟨b669, b670, c671, hE858, hS859⟩; clear hE668 hS634
                          refine c_seq ?_
                          refine c_cut (fun a' w' => E a' 119 [(10, .pointer (some ⟨b331, 0, none⟩)), (13, .int .i64 (1 + ((((F_SumPosets pp0 pp1 qp0 qp1).1).2).length : Int))), (110, .bool ((!(decide (((((F_SumPosets pp0 pp1 qp0 qp1).1).1), (((F_SumPosets pp0 pp1 qp0 qp1).1).2)) = ((((F_s_SumPosets pp0 pp1 qp0 qp1).1).1), (((F_s_SumPosets pp0 pp1 qp0 qp1).1).2))))) || (!decide (((F_SumPosets pp0 pp1 qp0 qp1).2) = ((F_s_SumPosets pp0 pp1 qp0 qp1).2)))))] ∧ St w w' [.own 2 1 b321 ((((F_SumPosets pp0 pp1 qp0 qp1).1).2).length) c322 (marked (((F_SumPosets pp0 pp1 qp0 qp1).1).2).length 1), .own 2 1 b295 ((qp1).length) c296 (marked qp1.length (1 + (pp1.length : Int))), .own 2 1 b271 ((pp1).length) c272 (marked pp1.length 1), .own 2 1 b454 ((qp1).length) c455 qp1, .own 2 1 b419 ((pp1).length) c420 pp1, .blk b331 #[.int .i64 (((F_SumPosets pp0 pp1 qp0 qp1).1).1), .slice b321 ((((F_SumPosets pp0 pp1 qp0 qp1).1).2).length) c322] 27, .blk b298 #[.int .i64 qp0, .slice b295 ((qp1).length) c296] 27, .blk b274 #[.int .i64 pp0, .slice b271 ((pp1).length) c272] 27, .rd 1 qp1A qp1.length qp1C qp1, .blk b9 #[.int .i64 qp0, .slice qp1A qp1.length qp1C] 24, .rd 1 pp1A pp1.length pp1C pp1, .blk b3 #[.int .i64 pp0, .slice pp1A pp1.length pp1C] 24, .own 2 1 b76 ((((F_s_SumPosets pp0 pp1 qp0 qp1).1).2).length) c77 (((F_s_SumPosets pp0 pp1 qp0 qp1).1).2), .blk b75 #[.int .i64 (((F_s_SumPosets pp0 pp1 qp0 qp1).1).1), .slice b76 ((((F_s_SumPosets pp0 pp1 qp0 qp1).1).2).length) c77] 27, .own 2 1 b670 ((((F_SumPosets pp0 pp1 qp0 qp1).1).2).length) c671 (((F_SumPosets pp0 pp1 qp0 qp1).1).2), .blk b669 #[.int .i64 (((F_SumPosets pp0 pp1 qp0 qp1).1).1), .slice b670 ((((F_SumPosets pp0 pp1 qp0 qp1).1).2).length) c671] 27]) ?_ ?_
                          ·
                            refine c_reg ?_
                            refine q_step (v := .agg #[.int .i64 (((F_SumPosets pp0 pp1 qp0 qp1).1).1), .slice b670 ((((F_SumPosets pp0 pp1 qp0 qp1).1).2).length) c671]) hE858 (y_loadS Try.underlying27 rfl (by kernel_rfl) rfl (St.row (i := 15) hS859 rfl)) rfl rfl rfl ?_; intro a861 hE862; clear hE858
                            refine q_step (v := .agg #[.int .i64 (((F_s_SumPosets pp0 pp1 qp0 qp1).1).1), .slice b76 ((((F_s_SumPosets pp0 pp1 qp0 qp1).1).2).length) c77]) hE862 (y_loadS Try.underlying27 rfl (by kernel_rfl) rfl (St.row (i := 13) hS859 rfl)) rfl rfl rfl ?_; intro a863 hE864; clear hE862
                            refine l_step hE864 rfl (l_call (f := 18) (argv := [.agg #[.int .i64 (((F_SumPosets pp0 pp1 qp0 qp1).1).1), .slice b670 ((((F_SumPosets pp0 pp1 qp0 qp1).1).2).length) c671], .agg #[.int .i64 (((F_s_SumPosets pp0 pp1 qp0 qp1).1).1), .slice b76 ((((F_s_SumPosets pp0 pp1 qp0 qp1).1).2).length) c77]]) hE864 (fun _ => cf_l_eqPoset _ _) rfl rfl (d_l_eqPoset (((F_SumPosets pp0 pp1 qp0 qp1).1).1) b670 ((((F_SumPosets pp0 pp1 qp0 qp1).1).2).length) c671 (((F_SumPosets pp0 pp1 qp0 qp1).1).2) (((F_s_SumPosets pp0 pp1 qp0 qp1).1).1) b76 ((((F_s_SumPosets pp0 pp1 qp0 qp1).1).2).length) c77 (((F_s_SumPosets pp0 pp1 qp0 qp1).1).2) w857 (St.rdO (i := 14) hS859 rfl) (St.rdO (i := 12) hS859 rfl)) ?_)
                            rintro _ w866 ⟨rfl, he870⟩ a867 hE868; clear hE864
                            have hS869 := St.go hS859 he870; clear hS859
                            refine q_step (v := .bool (!(decide (((((F_SumPosets pp0 pp1 qp0 qp1).1).1), (((F_SumPosets pp0 pp1 qp0 qp1).1).2)) = ((((F_s_SumPosets pp0 pp1 qp0 qp1).1).1), (((F_s_SumPosets pp0 pp1 qp0 qp1).1).2)))))) hE868 (y_not rfl) rfl rfl rfl ?_; intro a871 hE872; clear hE868
                            refine q_step (v := .bool (!(decide (((((F_SumPosets pp0 pp1 qp0 qp1).1).1), (((F_SumPosets pp0 pp1 qp0 qp1).1).2)) = ((((F_s_SumPosets pp0 pp1 qp0 qp1).1).1), (((F_s_SumPosets pp0 pp1 qp0 qp1).1).2)))))) hE872 (y_move rfl) rfl rfl rfl ?_; intro a873 hE874; clear hE872
                            rcases Bool.eq_false_or_eq_true (!(decide (((((F_SumPosets pp0 pp1 qp0 qp1).1).1), (((F_SumPosets pp0 pp1 qp0 qp1).1).2)) = ((((F_s_SumPosets pp0 pp1 qp0 qp1).1).1), (((F_s_SumPosets pp0 pp1 qp0 qp1).1).2))))) with hb875 | hb875
                            ·
                              have hE876 := hE874; rw [hb875] at hE876; clear hE874
                              have ht877 := bn_t hb875
                              have hp878 := of_decide_eq_false ht877
                              refine q_skip hE876 rfl rfl rfl ?_; intro a879 hE880; clear hE876
                              refine q_skip hE880 rfl rfl rfl ?_; intro a881 hE882; clear hE880
                              refine q_skip hE882 rfl rfl rfl ?_; intro a883 hE884; clear hE882
                              refine q_step (v := .bool true) hE884 (y_pick (b := true) rfl rfl) rfl rfl rfl ?_; intro a885 hE886; clear hE884
                              refine c_nil ?_
                              have hE887 := hE886.sub (L' := [(10, .pointer (some ⟨b331, 0, none⟩)), (13, .int .i64 (1 + ((((F_SumPosets pp0 pp1 qp0 qp1).1).2).length : Int))), (110, .bool true)]) ⟨rfl, rfl, rfl, trivial⟩; clear hE886
                              refine p_tn ?_
                              have hE888 := hE887.sub (L' := [(10, .pointer (some ⟨b331, 0, none⟩)), (13, .int .i64 (1 + ((((F_SumPosets pp0 pp1 qp0 qp1).1).2).length : Int))), (110, .bool true)]) ⟨rfl, rfl, rfl, trivial⟩
                              have hS889 := (St.pick (Γ' := [.own 2 1 b321 ((((F_SumPosets pp0 pp1 qp0 qp1).1).2).length) c322 (marked (((F_SumPosets pp0 pp1 qp0 qp1).1).2).length 1), .own 2 1 b295 ((qp1).length) c296 (marked qp1.length (1 + (pp1.length : Int))), .own 2 1 b271 ((pp1).length) c272 (marked pp1.length 1), .own 2 1 b454 ((qp1).length) c455 qp1, .own 2 1 b419 ((pp1).length) c420 pp1, .blk b331 #[.int .i64 (((F_SumPosets pp0 pp1 qp0 qp1).1).1), .slice b321 ((((F_SumPosets pp0 pp1 qp0 qp1).1).2).length) c322] 27, .blk b298 #[.int .i64 qp0, .slice b295 ((qp1).length) c296] 27, .blk b274 #[.int .i64 pp0, .slice b271 ((pp1).length) c272] 27, .rd 1 qp1A qp1.length qp1C qp1, .blk b9 #[.int .i64 qp0, .slice qp1A qp1.length qp1C] 24, .rd 1 pp1A pp1.length pp1C pp1, .blk b3 #[.int .i64 pp0, .slice pp1A pp1.length pp1C] 24, .own 2 1 b76 ((((F_s_SumPosets pp0 pp1 qp0 qp1).1).2).length) c77 (((F_s_SumPosets pp0 pp1 qp0 qp1).1).2), .blk b75 #[.int .i64 (((F_s_SumPosets pp0 pp1 qp0 qp1).1).1), .slice b76 ((((F_s_SumPosets pp0 pp1 qp0 qp1).1).2).length) c77] 27, .own 2 1 b670 ((((F_SumPosets pp0 pp1 qp0 qp1).1).2).length) c671 (((F_SumPosets pp0 pp1 qp0 qp1).1).2), .blk b669 #[.int .i64 (((F_SumPosets pp0 pp1 qp0 qp1).1).1), .slice b670 ((((F_SumPosets pp0 pp1 qp0 qp1).1).2).length) c671] 27]) hS869 [0, 1, 2, 3, 4, 5, 6, 7, 8, 9, 10, 11, 12, 13, 14, 15] (by decide) rfl)
                              exact ⟨(by rw [hb875]; exact hE888), hS889⟩
                            ·
                              have hE890 := hE874; rw [hb875] at hE890; clear hE874
                              have ht891 := bn_f hb875
                              have hp892 := of_decide_eq_true ht891
                              refine q_step (v := .int .i64 ((F_SumPosets pp0 pp1 qp0 qp1).2)) hE890 (y_move rfl) rfl rfl rfl ?_; intro a893 hE894; clear hE890
                              refine q_step (v := .int .i64 ((F_s_SumPosets pp0 pp1 qp0 qp1).2)) hE894 (y_move rfl) rfl rfl rfl ?_; intro a895 hE896; clear hE894
                              refine q_step (v := .bool (!decide (((F_SumPosets pp0 pp1 qp0 qp1).2) = ((F_s_SumPosets pp0 pp1 qp0 qp1).2)))) hE896 (y_neq rfl rfl) rfl rfl rfl ?_; intro a897 hE898; clear hE896
                              refine q_step (v := .bool (!decide (((F_SumPosets pp0 pp1 qp0 qp1).2) = ((F_s_SumPosets pp0 pp1 qp0 qp1).2)))) hE898 (y_pick (b := false) rfl rfl) rfl rfl rfl ?_; intro a899 hE900; clear hE898
                              refine c_nil ?_
                              have hE901 := hE900.sub (L' := [(10, .pointer (some ⟨b331, 0, none⟩)), (13, .int .i64 (1 + ((((F_SumPosets pp0 pp1 qp0 qp1).1).2).length : Int))), (110, .bool (!decide (((F_SumPosets pp0 pp1 qp0 qp1).2) = ((F_s_SumPosets pp0 pp1 qp0 qp1).2))))]) ⟨rfl, rfl, rfl, trivial⟩; clear hE900
                              refine p_tn ?_
                              have hE902 := hE901.sub (L' := [(10, .pointer (some ⟨b331, 0, none⟩)), (13, .int .i64 (1 + ((((F_SumPosets pp0 pp1 qp0 qp1).1).2).length : Int))), (110, .bool (!decide (((F_SumPosets pp0 pp1 qp0 qp1).2) = ((F_s_SumPosets pp0 pp1 qp0 qp1).2))))]) ⟨rfl, rfl, rfl, trivial⟩
                              have hS903 := (St.pick (Γ' := [.own 2 1 b321 ((((F_SumPosets pp0 pp1 qp0 qp1).1).2).length) c322 (marked (((F_SumPosets pp0 pp1 qp0 qp1).1).2).length 1), .own 2 1 b295 ((qp1).length) c296 (marked qp1.length (1 + (pp1.length : Int))), .own 2 1 b271 ((pp1).length) c272 (marked pp1.length 1), .own 2 1 b454 ((qp1).length) c455 qp1, .own 2 1 b419 ((pp1).length) c420 pp1, .blk b331 #[.int .i64 (((F_SumPosets pp0 pp1 qp0 qp1).1).1), .slice b321 ((((F_SumPosets pp0 pp1 qp0 qp1).1).2).length) c322] 27, .blk b298 #[.int .i64 qp0, .slice b295 ((qp1).length) c296] 27, .blk b274 #[.int .i64 pp0, .slice b271 ((pp1).length) c272] 27, .rd 1 qp1A qp1.length qp1C qp1, .blk b9 #[.int .i64 qp0, .slice qp1A qp1.length qp1C] 24, .rd 1 pp1A pp1.length pp1C pp1, .blk b3 #[.int .i64 pp0, .slice pp1A pp1.length pp1C] 24, .own 2 1 b76 ((((F_s_SumPosets pp0 pp1 qp0 qp1).1).2).length) c77 (((F_s_SumPosets pp0 pp1 qp0 qp1).1).2), .blk b75 #[.int .i64 (((F_s_SumPosets pp0 pp1 qp0 qp1).1).1), .slice b76 ((((F_s_SumPosets pp0 pp1 qp0 qp1).1).2).length) c77] 27, .own 2 1 b670 ((((F_SumPosets pp0 pp1 qp0 qp1).1).2).length) c671 (((F_SumPosets pp0 pp1 qp0 qp1).1).2), .blk b669 #[.int .i64 (((F_SumPosets pp0 pp1 qp0 qp1).1).1), .slice b670 ((((F_SumPosets pp0 pp1 qp0 qp1).1).2).length) c671] 27]) hS869 [0, 1, 2, 3, 4, 5, 6, 7, 8, 9, 10, 11, 12, 13, 14, 15] (by decide) rfl)
                              exact ⟨(by rw [hb875]; exact hE902), hS903⟩
                          ·
                            rintro a904 w905 ⟨hE906, hS907⟩; clear hE858 hS859
                            have hE909 := hE906; rw [ht394] at hE909; clear hE906
                            refine c_false hE909 rfl ?_
                            refine wp_skip ?_
                            refine p_tn ?_
                            refine c_seq ?_
                            refine c_reg ?_
                            refine q_step (v := .int .i64 1) hE909 (y_assign rfl) rfl rfl rfl ?_; intro a910 hE911; clear hE909
                            refine c_nil ?_
                            have hE912 := hE911.sub (L' := [(10, .pointer (some ⟨b331, 0, none⟩)), (13, .int .i64 (1 + ((((F_SumPosets pp0 pp1 qp0 qp1).1).2).length : Int))), (14, .int .i64 1)]) ⟨rfl, rfl, rfl, trivial⟩; clear hE911
                            refine p_tn ?_
                            refine c_seq ?_
                            refine c_reg ?_
                            refine q_step (v := .agg #[.int .i64 (((F_SumPosets pp0 pp1 qp0 qp1).1).1), .slice b321 ((((F_SumPosets pp0 pp1 qp0 qp1).1).2).length) c322]) hE912 (y_loadS Try.underlying27 rfl (by kernel_rfl) rfl (St.row (i := 5) hS907 rfl)) rfl rfl rfl ?_; intro a913 hE914; clear hE912
                            refine q_step (v := .int .i64 1) hE914 (y_move rfl) rfl rfl rfl ?_; intro a915 hE916; clear hE914
                            refine l_step hE916 rfl (l_call (f := 26) (argv := [.agg #[.int .i64 (((F_SumPosets pp0 pp1 qp0 qp1).1).1), .slice b321 ((((F_SumPosets pp0 pp1 qp0 qp1).1).2).length) c322], .int .i64 1]) hE916 (fun _ => cf_l_heldPoset _ _) rfl rfl (c_l_heldPoset (((F_SumPosets pp0 pp1 qp0 qp1).1).1) b321 ((((F_SumPosets pp0 pp1 qp0 qp1).1).2).length) c322 (marked (((F_SumPosets pp0 pp1 qp0 qp1).1).2).length 1) 1 w905 (St.rdO (i := 0) hS907 rfl) (by first | omega | (simp only [marked_len]; omega) | (simp only [marked_len] at *; omega)) (by first | omega | (simp only [marked_len]; omega) | (simp only [marked_len] at *; omega)) (by first | omega | (simp only [marked_len]; omega) | (simp only [marked_len] at *; omega))) ?_)
                            rintro _ w918 ⟨rfl, he922⟩ a919 hE920; clear hE916
                            have hS921 := St.go hS907 he922; clear hS907
                            refine q_step (v := .int .i64 (F_l_heldPoset (((F_SumPosets pp0 pp1 qp0 qp1).1).1) (marked (((F_SumPosets pp0 pp1 qp0 qp1).1).2).length 1) 1)) hE920 (y_assign rfl) rfl rfl rfl ?_; intro a923 hE924; clear hE920
                            refine c_nil ?_
                            have hE925 := hE924.sub (L' := [(13, .int .i64 (1 + ((((F_SumPosets pp0 pp1 qp0 qp1).1).2).length : Int))), (14, .int .i64 (F_l_heldPoset (((F_SumPosets pp0 pp1 qp0 qp1).1).1) (marked (((F_SumPosets pp0 pp1 qp0 qp1).1).2).length 1) 1))]) ⟨rfl, rfl, trivial⟩; clear hE924
                            refine p_tn ?_
                            refine c_seq ?_
                            refine c_seq ?_
                            refine c_reg ?_
                            refine q_step (v := .int .i64 (F_l_heldPoset (((F_SumPosets pp0 pp1 qp0 qp1).1).1) (marked (((F_SumPosets pp0 pp1 qp0 qp1).1).2).length 1) 1)) hE925 (y_move rfl) rfl rfl rfl ?_; intro a926 hE927; clear hE925
                            refine q_step (v := .bool (decide ((F_l_heldPoset (((F_SumPosets pp0 pp1 qp0 qp1).1).1) (marked (((F_SumPosets pp0 pp1 qp0 qp1).1).2).length 1) 1) < 0))) hE927 (y_lss rfl rfl) rfl rfl rfl ?_; intro a928 hE929; clear hE927
                            refine c_nil ?_
                            have hE930 := hE929.sub (L' := [(13, .int .i64 (1 + ((((F_SumPosets pp0 pp1 qp0 qp1).1).2).length : Int))), (14, .int .i64 (F_l_heldPoset (((F_SumPosets pp0 pp1 qp0 qp1).1).1) (marked (((F_SumPosets pp0 pp1 qp0 qp1).1).2).length 1) 1)), (115, .bool (decide ((F_l_heldPoset (((F_SumPosets pp0 pp1 qp0 qp1).1).1) (marked (((F_SumPosets pp0 pp1 qp0 qp1).1).2).length 1) 1) < 0)))]) ⟨rfl, rfl, rfl, trivial⟩; clear hE929
                            refine p_tn ?_
                            have hE931 := hE930; rw [ht644] at hE931; clear hE930
                            refine c_false hE931 rfl ?_
                            refine wp_skip ?_
                            refine p_tn ?_
                            refine c_seq ?_
                            refine c_seq ?_
                            refine c_reg ?_
                            refine q_step (v := .int .i64 (F_l_heldPoset (((F_SumPosets pp0 pp1 qp0 qp1).1).1) (marked (((F_SumPosets pp0 pp1 qp0 qp1).1).2).length 1) 1)) hE931 (y_move rfl) rfl rfl rfl ?_; intro a932 hE933; clear hE931
                            refine q_step (v := .int .i64 (1 + ((((F_SumPosets pp0 pp1 qp0 qp1).1).2).length : Int))) hE933 (y_move rfl) rfl rfl rfl ?_; intro a934 hE935; clear hE933
                            refine q_step (v := .bool (!decide ((F_l_heldPoset (((F_SumPosets pp0 pp1 qp0 qp1).1).1) (marked (((F_SumPosets pp0 pp1 qp0 qp1).1).2).length 1) 1) = (1 + ((((F_SumPosets pp0 pp1 qp0 qp1).1).2).length : Int))))) hE935 (y_neq rfl rfl) rfl rfl rfl ?_; intro a936 hE937; clear hE935
                            refine c_nil ?_
                            have hE938 := hE937.sub (L' := [(118, .bool (!decide ((F_l_heldPoset (((F_SumPosets pp0 pp1 qp0 qp1).1).1) (marked (((F_SumPosets pp0 pp1 qp0 qp1).1).2).length 1) 1) = (1 + ((((F_SumPosets pp0 pp1 qp0 qp1).1).2).length : Int)))))]) ⟨rfl, trivial⟩; clear hE937
                            refine p_tn ?_
                            have hE939 := hE938; rw [ht659] at hE939; clear hE938
                            refine c_false hE939 rfl ?_
                            refine wp_skip ?_
                            refine p_tn ?_
                            refine c_seq ?_
                            refine c_reg ?_
                            refine q_step (v := .bool true) hE939 (y_assign rfl) rfl rfl rfl ?_; intro a940 hE941; clear hE939
                            refine c_nil ?_
                            have hE942 := hE941.sub (L' := [(4, .bool true)]) ⟨rfl, trivial⟩; clear hE941
                            refine p_tn ?_
                            refine wp_ret ?_
                            have hF : F_l_FnExactSumPosets pp0 pp1 qp0 qp1 = true := by unfold F_l_FnExactSumPosets; rw [ht659, ht644, ht591, ht466, ht431, ht394, ht66, ht39]; first | done | rfl
                            refine c_ret1 hE942 rfl rfl ?_
                            exact ⟨(by rw [hF]; first | done | rfl), hS921.ext⟩

theorem FnExactSumPosets_true (pp0 : Int) (pp1 : List Int) (qp0 : Int) (qp1 : List Int) : F_l_FnExactSumPosets pp0 pp1 qp0 qp1 = true := by
  unfold F_l_FnExactSumPosets
  rw [SumPosets_eq, heldPoset_eq _ _ _ (by omega)]
  have h1 : decide (1 + (pp1.length : Int) + (qp1.length : Int) < 0) = false := decide_eq_false (by omega)
  have h2 : decide ((1 : Int) + ((F_s_SumPosets pp0 pp1 qp0 qp1).1.2.length : Int) < 0) = false := decide_eq_false (by omega)
  simp [h1, h2]

end Go.Proofs.Ythogljcjjmclcaa
