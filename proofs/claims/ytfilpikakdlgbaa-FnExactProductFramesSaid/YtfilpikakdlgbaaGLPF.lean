/- GLPF: models and contracts, printed by wip/gen/gen.py -/
import Derived.Test.YtfilpikakdlgbaaGA
import Derived.Test.YtfilpikakdlgbaaGK
set_option linter.unusedVariables false
set_option linter.unusedSimpArgs false
namespace Go.Proofs.Ytfilpikakdlgbaa
open Go.RowKit

def F_l_FnExactProductFrames (fp0 : Int) (fp1 : List Int) (gp0 : Int) (gp1 : List Int) : Bool :=
  bif (decide ((F_l_szFrame fp0 fp1 1048576) < 0)) then true else (bif (decide ((F_l_szFrame gp0 gp1 (F_l_szFrame fp0 fp1 1048576)) < 0)) then true else (bif ((!(decide (((((F_ProductFrames fp0 fp1 gp0 gp1).1).1), (((F_ProductFrames fp0 fp1 gp0 gp1).1).2)) = ((((F_s_ProductFrames fp0 fp1 gp0 gp1).1).1), (((F_s_ProductFrames fp0 fp1 gp0 gp1).1).2))))) || (!decide (((F_ProductFrames fp0 fp1 gp0 gp1).2) = ((F_s_ProductFrames fp0 fp1 gp0 gp1).2)))) then false else (bif (!(decide ((fp0, fp1) = (fp0, fp1)))) then false else (bif (!(decide ((gp0, gp1) = (gp0, gp1)))) then false else (bif ((decide (((1 + (fp1.length : Int)) + (gp1.length : Int)) < 0)) || ((!(decide (((((F_ProductFrames fp0 fp1 gp0 gp1).1).1), (((F_ProductFrames fp0 fp1 gp0 gp1).1).2)) = ((((F_s_ProductFrames fp0 fp1 gp0 gp1).1).1), (((F_s_ProductFrames fp0 fp1 gp0 gp1).1).2))))) || (!decide (((F_ProductFrames fp0 fp1 gp0 gp1).2) = ((F_s_ProductFrames fp0 fp1 gp0 gp1).2))))) then false else (bif (decide ((F_l_heldFrame (((F_ProductFrames fp0 fp1 gp0 gp1).1).1) (marked (((F_ProductFrames fp0 fp1 gp0 gp1).1).2).length 1) 1) < 0)) then false else (bif (!decide ((F_l_heldFrame (((F_ProductFrames fp0 fp1 gp0 gp1).1).1) (marked (((F_ProductFrames fp0 fp1 gp0 gp1).1).2).length 1) 1) = (1 + ((((F_ProductFrames fp0 fp1 gp0 gp1).1).2).length : Int)))) then false else true)))))))
theorem cf_l_FnExactProductFrames (args : Array Value) (w : World) : (callFunc 10 args).run Try.prog w = .ok (.enter 10 args) w := by kernel_rfl
set_option maxRecDepth 100000 in
theorem c_l_FnExactProductFrames (fp0 : Int) (fp1A : Option Addr) (fp1N fp1C : Nat) (fp1 : List Int) (gp0 : Int) (gp1A : Option Addr) (gp1N gp1C : Nat) (gp1 : List Int) (w : World) (fp1R : RdS w 1 fp1A fp1N fp1C fp1) (gp1R : RdS w 1 gp1A gp1N gp1C gp1) :
    Calls Try.prog 10 #[.agg #[.int .i64 fp0, .slice fp1A fp1N fp1C], .agg #[.int .i64 gp0, .slice gp1A gp1N gp1C]] w (Ret fun v w' => v = .bool (F_l_FnExactProductFrames fp0 fp1 gp0 gp1) ∧ Ext w w') := by
  obtain rfl : fp1N = fp1.length := fp1R.len1.symm
  have fp1Le := fp1R.le
  obtain rfl : gp1N = gp1.length := gp1R.len1.symm
  have gp1Le := gp1R.le
  have hS := St.nil w
  have hS1 := St.rd0 hS rfl fp1R; clear hS
  have hS2 := St.rd0 hS1 rfl gp1R; clear hS1
  refine enter (args := [.agg #[.int .i64 fp0, .slice fp1A fp1.length fp1C], .agg #[.int .i64 gp0, .slice gp1A gp1.length gp1C]]) Try.func10 rfl rfl ?_
  rw [Try.ntmps10]; intro a hE
  have hE := hE.sub (L' := [(0, .agg #[.int .i64 fp0, .slice fp1A fp1.length fp1C]), (1, .agg #[.int .i64 gp0, .slice gp1A gp1.length gp1C])]) ⟨rfl, rfl, trivial⟩
  refine c_seq ?_
  refine c_reg ?_
  refine l_step hE rfl (l_box (v := .agg #[.int .i64 fp0, .slice fp1A fp1.length fp1C]) (cs := #[.int .i64 fp0, .slice fp1A fp1.length fp1C]) hS2 hE rfl rfl rfl ?_)
  intro b3 w4 hS7 he8 a5 hE6; clear hS2 hE
  refine l_step hE6 rfl (l_box (v := .agg #[.int .i64 gp0, .slice gp1A gp1.length gp1C]) (cs := #[.int .i64 gp0, .slice gp1A gp1.length gp1C]) hS7 hE6 rfl rfl rfl ?_)
  intro b9 w10 hS13 he14 a11 hE12; clear hS7 hE6
  refine q_step (v := .bool false) hE12 (y_assign rfl) rfl rfl rfl ?_; intro a15 hE16; clear hE12
  refine c_nil ?_
  have hE17 := hE16.sub (L' := [(2, .pointer (some ⟨b3, 0, none⟩)), (3, .pointer (some ⟨b9, 0, none⟩))]) ⟨rfl, rfl, trivial⟩; clear hE16
  refine p_tn ?_
  refine c_seq ?_
  refine c_reg ?_
  refine q_step (v := .int .i64 1048576) hE17 (y_assign rfl) rfl rfl rfl ?_; intro a18 hE19; clear hE17
  refine c_nil ?_
  have hE20 := hE19.sub (L' := [(2, .pointer (some ⟨b3, 0, none⟩)), (3, .pointer (some ⟨b9, 0, none⟩)), (5, .int .i64 1048576)]) ⟨rfl, rfl, rfl, trivial⟩; clear hE19
  refine p_tn ?_
  refine c_seq ?_
  refine c_reg ?_
  refine q_step (v := .agg #[.int .i64 fp0, .slice fp1A fp1.length fp1C]) hE20 (y_loadS Try.underlying51 rfl (by kernel_rfl) rfl (St.row (i := 1) hS13 rfl)) rfl rfl rfl ?_; intro a21 hE22; clear hE20
  refine q_step (v := .int .i64 1048576) hE22 (y_move rfl) rfl rfl rfl ?_; intro a23 hE24; clear hE22
  refine l_step hE24 rfl (l_call (f := 36) (argv := [.agg #[.int .i64 fp0, .slice fp1A fp1.length fp1C], .int .i64 1048576]) hE24 (fun _ => cf_l_szFrame _ _) rfl rfl (c_l_szFrame fp0 fp1A fp1.length fp1C fp1 1048576 w10 (St.rdR (i := 3) hS13 rfl) (by first | omega | (simp only [marked_len]; omega)) (by first | omega | (simp only [marked_len]; omega))) ?_)
  rintro _ w26 ⟨rfl, he30⟩ a27 hE28; clear hE24
  have hS29 := St.go hS13 he30; clear hS13
  refine q_step (v := .int .i64 (F_l_szFrame fp0 fp1 1048576)) hE28 (y_assign rfl) rfl rfl rfl ?_; intro a31 hE32; clear hE28
  refine c_nil ?_
  have hE33 := hE32.sub (L' := [(2, .pointer (some ⟨b3, 0, none⟩)), (3, .pointer (some ⟨b9, 0, none⟩)), (5, .int .i64 (F_l_szFrame fp0 fp1 1048576))]) ⟨rfl, rfl, rfl, trivial⟩; clear hE32
  refine p_tn ?_
  refine c_seq ?_
  refine c_seq ?_
  refine c_reg ?_
  refine q_step (v := .int .i64 (F_l_szFrame fp0 fp1 1048576)) hE33 (y_move rfl) rfl rfl rfl ?_; intro a34 hE35; clear hE33
  refine q_step (v := .bool (decide ((F_l_szFrame fp0 fp1 1048576) < 0))) hE35 (y_lss rfl rfl) rfl rfl rfl ?_; intro a36 hE37; clear hE35
  refine c_nil ?_
  have hE38 := hE37.sub (L' := [(2, .pointer (some ⟨b3, 0, none⟩)), (3, .pointer (some ⟨b9, 0, none⟩)), (5, .int .i64 (F_l_szFrame fp0 fp1 1048576)), (21, .bool (decide ((F_l_szFrame fp0 fp1 1048576) < 0)))]) ⟨rfl, rfl, rfl, rfl, trivial⟩; clear hE37
  refine p_tn ?_
  refine c_cond hE38 rfl (fun ht39 => ?_) (fun ht39 => ?_)
  ·
    have hp40 := of_decide_eq_true ht39
    have hE41 := hE38; rw [ht39] at hE41; clear hE38
    refine c_seq ?_
    refine c_reg ?_
    refine q_step (v := .bool true) hE41 (y_assign rfl) rfl rfl rfl ?_; intro a42 hE43; clear hE41
    refine c_nil ?_
    have hE44 := hE43.sub (L' := [(4, .bool true)]) ⟨rfl, trivial⟩; clear hE43
    refine p_tn ?_
    refine wp_ret ?_
    refine p_tr ?_
    have hF : F_l_FnExactProductFrames fp0 fp1 gp0 gp1 = true := by unfold F_l_FnExactProductFrames; rw [ht39]; first | done | rfl
    refine c_ret1 hE44 rfl rfl ?_
    exact ⟨(by rw [hF]; first | done | rfl), hS29.ext⟩
  ·
    have hp45 := of_decide_eq_false ht39
    have hq46 := szFrame_bound hp45
    have hE47 := hE38; rw [ht39] at hE47; clear hE38
    refine wp_skip ?_
    refine p_tn ?_
    refine c_seq ?_
    refine c_reg ?_
    refine q_step (v := .agg #[.int .i64 gp0, .slice gp1A gp1.length gp1C]) hE47 (y_loadS Try.underlying51 rfl (by kernel_rfl) rfl (St.row (i := 0) hS29 rfl)) rfl rfl rfl ?_; intro a48 hE49; clear hE47
    refine q_step (v := .int .i64 (F_l_szFrame fp0 fp1 1048576)) hE49 (y_move rfl) rfl rfl rfl ?_; intro a50 hE51; clear hE49
    refine l_step hE51 rfl (l_call (f := 36) (argv := [.agg #[.int .i64 gp0, .slice gp1A gp1.length gp1C], .int .i64 (F_l_szFrame fp0 fp1 1048576)]) hE51 (fun _ => cf_l_szFrame _ _) rfl rfl (c_l_szFrame gp0 gp1A gp1.length gp1C gp1 (F_l_szFrame fp0 fp1 1048576) w26 (St.rdR (i := 2) hS29 rfl) (by first | omega | (simp only [marked_len]; omega)) (by first | omega | (simp only [marked_len]; omega))) ?_)
    rintro _ w53 ⟨rfl, he57⟩ a54 hE55; clear hE51
    have hS56 := St.go hS29 he57; clear hS29
    refine q_step (v := .int .i64 (F_l_szFrame gp0 gp1 (F_l_szFrame fp0 fp1 1048576))) hE55 (y_assign rfl) rfl rfl rfl ?_; intro a58 hE59; clear hE55
    refine c_nil ?_
    have hE60 := hE59.sub (L' := [(2, .pointer (some ⟨b3, 0, none⟩)), (3, .pointer (some ⟨b9, 0, none⟩)), (5, .int .i64 (F_l_szFrame gp0 gp1 (F_l_szFrame fp0 fp1 1048576)))]) ⟨rfl, rfl, rfl, trivial⟩; clear hE59
    refine p_tn ?_
    refine c_seq ?_
    refine c_seq ?_
    refine c_reg ?_
    refine q_step (v := .int .i64 (F_l_szFrame gp0 gp1 (F_l_szFrame fp0 fp1 1048576))) hE60 (y_move rfl) rfl rfl rfl ?_; intro a61 hE62; clear hE60
    refine q_step (v := .bool (decide ((F_l_szFrame gp0 gp1 (F_l_szFrame fp0 fp1 1048576)) < 0))) hE62 (y_lss rfl rfl) rfl rfl rfl ?_; intro a63 hE64; clear hE62
    refine c_nil ?_
    have hE65 := hE64.sub (L' := [(2, .pointer (some ⟨b3, 0, none⟩)), (3, .pointer (some ⟨b9, 0, none⟩)), (26, .bool (decide ((F_l_szFrame gp0 gp1 (F_l_szFrame fp0 fp1 1048576)) < 0)))]) ⟨rfl, rfl, rfl, trivial⟩; clear hE64
    refine p_tn ?_
    refine c_cond hE65 rfl (fun ht66 => ?_) (fun ht66 => ?_)
    ·
      have hp67 := of_decide_eq_true ht66
      have hE68 := hE65; rw [ht66] at hE68; clear hE65
      refine c_seq ?_
      refine c_reg ?_
      refine q_step (v := .bool true) hE68 (y_assign rfl) rfl rfl rfl ?_; intro a69 hE70; clear hE68
      refine c_nil ?_
      have hE71 := hE70.sub (L' := [(4, .bool true)]) ⟨rfl, trivial⟩; clear hE70
      refine p_tn ?_
      refine wp_ret ?_
      refine p_tr ?_
      have hF : F_l_FnExactProductFrames fp0 fp1 gp0 gp1 = true := by unfold F_l_FnExactProductFrames; rw [ht66, ht39]; first | done | rfl
      refine c_ret1 hE71 rfl rfl ?_
      exact ⟨(by rw [hF]; first | done | rfl), hS56.ext⟩
    ·
      have hp72 := of_decide_eq_false ht66
      have hq73 := szFrame_bound hp72
      have hE74 := hE65; rw [ht66] at hE74; clear hE65
      refine wp_skip ?_
      refine p_tn ?_
      refine c_cut (fun a' w' => ∃ b75 : Nat, ∃ b76 : Option Addr, ∃ c77 : Nat, E a' 119 [(2, .pointer (some ⟨b3, 0, none⟩)), (3, .pointer (some ⟨b9, 0, none⟩)), (6, .pointer (some ⟨b75, 0, none⟩)), (7, .int .i64 ((F_s_ProductFrames fp0 fp1 gp0 gp1).2))] ∧ St w w' [.rd 1 gp1A gp1.length gp1C gp1, .blk b9 #[.int .i64 gp0, .slice gp1A gp1.length gp1C] 51, .rd 1 fp1A fp1.length fp1C fp1, .blk b3 #[.int .i64 fp0, .slice fp1A fp1.length fp1C] 51, .own 2 1 b76 ((((F_s_ProductFrames fp0 fp1 gp0 gp1).1).2).length) c77 (((F_s_ProductFrames fp0 fp1 gp0 gp1).1).2), .blk b75 #[.int .i64 (((F_s_ProductFrames fp0 fp1 gp0 gp1).1).1), .slice b76 ((((F_s_ProductFrames fp0 fp1 gp0 gp1).1).2).length) c77] 53]) ?_ ?_
      ·
        refine d_start (fun w' => w'.heap[b3]? = some (.cells #[.int .i64 fp0, .slice fp1A fp1.length fp1C] 51 (0, 0)) ∧ w'.heap[b9]? = some (.cells #[.int .i64 gp0, .slice gp1A gp1.length gp1C] 51 (0, 0)) ∧ True) [0, 2] 11 (by kernel_rfl) rfl ?_
        intro w78 he79; have hS80 := St.go hS56 he79; clear hS56
        refine d_take (v := .agg #[.int .i64 fp0, .slice fp1A fp1.length fp1C]) 0 rfl hE74 ⟨(St.row (i := 1) hS80 rfl _ (Ext.refl _)), (St.row (i := 0) hS80 rfl _ (Ext.refl _)), trivial⟩ (y_loadS Try.underlying51 rfl (by kernel_rfl) rfl (fun _ h => h.1)) rfl rfl (by kernel_rfl) (by kernel_rfl) (by kernel_rfl) rfl rfl (fun _ _ _ h => h) ?_; intro a81 hE82; clear hE74
        refine d_take (v := .agg #[.int .i64 gp0, .slice gp1A gp1.length gp1C]) 2 rfl hE82 ⟨(St.row (i := 1) hS80 rfl _ (Ext.refl _)), (St.row (i := 0) hS80 rfl _ (Ext.refl _)), trivial⟩ (y_loadS Try.underlying51 rfl (by kernel_rfl) rfl (fun _ h => h.2.1)) rfl rfl (by kernel_rfl) (by kernel_rfl) (by kernel_rfl) rfl rfl (fun _ _ _ h => h) ?_; intro a83 hE84; clear hE82
        refine d_two 1 8 (by kernel_rfl) rfl rfl hE84 rfl rfl ?_ ?_
        ·
          refine l_call (f := 38) (argv := [.agg #[.int .i64 fp0, .slice fp1A fp1.length fp1C]]) hE84 (fun _ => cf_l_toFrame _ _) rfl rfl (d_l_toFrame fp0 fp1A fp1.length fp1C fp1 w78 (St.rdR (i := 3) hS80 rfl) (by first | omega | (simp only [marked_len]; omega))) ?_
          rintro _ w86 ⟨b91, c92, rfl, ho93, he90⟩ a87 hE88; clear hE84
          have hS89 := St.own hS80 he90 ho93; clear hS80
          refine ⟨fun _ _ => ⟨(St.row (i := 2) hS89 rfl _ (Ext.refl _)), (St.row (i := 1) hS89 rfl _ (Ext.refl _)), trivial⟩, ?_⟩
          refine d_two 3 8 (by kernel_rfl) rfl rfl hE88 rfl rfl ?_ ?_
          ·
            refine l_call (f := 38) (argv := [.agg #[.int .i64 gp0, .slice gp1A gp1.length gp1C]]) hE88 (fun _ => cf_l_toFrame _ _) rfl rfl (d_l_toFrame gp0 gp1A gp1.length gp1C gp1 w86 (St.rdR (i := 3) hS89 rfl) (by first | omega | (simp only [marked_len]; omega))) ?_
            rintro _ w95 ⟨b100, c101, rfl, ho102, he99⟩ a96 hE97; clear hE88
            have hS98 := St.own hS89 he99 ho102; clear hS89
            refine ⟨fun _ _ => ⟨(St.row (i := 3) hS98 rfl _ (Ext.refl _)), (St.row (i := 2) hS98 rfl _ (Ext.refl _)), trivial⟩, ?_⟩
            refine d_two 4 8 (by kernel_rfl) rfl rfl hE97 rfl rfl ?_ ?_
            ·
              refine l_call (f := 46) (argv := [.agg #[.int .i64 fp0, .slice b91 ((fp1).length) c92], .agg #[.int .i64 gp0, .slice b100 ((gp1).length) c101]]) hE97 (fun _ => cf_s_ProductFrames _ _) rfl rfl (c_s_ProductFrames fp0 b91 ((fp1).length) c92 fp1 gp0 b100 ((gp1).length) c101 gp1 w95 (St.rdO (i := 1) hS98 rfl) (St.rdO (i := 0) hS98 rfl)) ?_
              rintro _ w104 ⟨b109, c110, rfl, ho111, he108⟩ a105 hE106; clear hE97
              have hS107 := St.own hS98 he108 ho111; clear hS98
              refine ⟨fun _ _ => ⟨(St.row (i := 4) hS107 rfl _ (Ext.refl _)), (St.row (i := 3) hS107 rfl _ (Ext.refl _)), trivial⟩, ?_⟩
              refine d_pure (v := .tuple #[.agg #[.int .i64 (((F_s_ProductFrames fp0 fp1 gp0 gp1).1).1), .slice b109 ((((F_s_ProductFrames fp0 fp1 gp0 gp1).1).2).length) c110], .int .i64 ((F_s_ProductFrames fp0 fp1 gp0 gp1).2)]) 5 rfl hE106 (y_move rfl) rfl (by kernel_rfl) (by kernel_rfl) (by kernel_rfl) rfl rfl (fun _ _ _ h => h) ?_; intro a112 hE113; clear hE106
              refine d_pure (v := .agg #[.int .i64 (((F_s_ProductFrames fp0 fp1 gp0 gp1).1).1), .slice b109 ((((F_s_ProductFrames fp0 fp1 gp0 gp1).1).2).length) c110]) 6 rfl hE113 (y_extract rfl rfl) rfl (by kernel_rfl) (by kernel_rfl) (by kernel_rfl) rfl rfl (fun _ _ _ h => h) ?_; intro a114 hE115; clear hE113
              refine d_pure (v := .int .i64 ((F_s_ProductFrames fp0 fp1 gp0 gp1).2)) 7 rfl hE115 (y_extract rfl rfl) rfl (by kernel_rfl) (by kernel_rfl) (by kernel_rfl) rfl rfl (fun _ _ _ h => h) ?_; intro a116 hE117; clear hE115
              refine d_only 8 (by kernel_rfl) rfl hE117 rfl (l_alloc (z := .agg #[.int .i64 0, .slice none 0 0]) (cs := #[.int .i64 0, .slice none 0 0]) hS107 hE117 (fun _ => by kernel_rfl) rfl rfl ?_)
              intro b118 w119 hS122 he123 a120 hE121; clear hS107 hE117
              refine ⟨fun _ _ => ⟨(St.row (i := 5) hS122 rfl _ (Ext.refl _)), (St.row (i := 4) hS122 rfl _ (Ext.refl _)), trivial⟩, ?_⟩
              refine d_only 9 (by kernel_rfl) rfl hE121 rfl (l_storeS (k := 0) (cs' := #[.int .i64 (((F_s_ProductFrames fp0 fp1 gp0 gp1).1).1), .slice b109 ((((F_s_ProductFrames fp0 fp1 gp0 gp1).1).2).length) c110]) hS122 hE121 (by kernel_rfl) rfl rfl (by kernel_rfl) rfl rfl ?_)
              intro w125 hS128 a126 hE127; clear hS122 hE121
              refine ⟨fun h => Bool.noConfusion (h.symm.trans (show exm _ _ _ = true by kernel_rfl)), ?_⟩
              refine d_pure (v := .int .i64 ((F_s_ProductFrames fp0 fp1 gp0 gp1).2)) 10 rfl hE127 (y_assign rfl) rfl (by kernel_rfl) (by kernel_rfl) (by kernel_rfl) rfl rfl (fun _ _ _ h => h) ?_; intro a130 hE131; clear hE127
              refine d_done (by kernel_rfl) ?_
              have hE132 := hE131.sub (L' := [(2, .pointer (some ⟨b3, 0, none⟩)), (3, .pointer (some ⟨b9, 0, none⟩)), (6, .pointer (some ⟨b118, 0, none⟩)), (7, .int .i64 ((F_s_ProductFrames fp0 fp1 gp0 gp1).2))]) ⟨rfl, rfl, rfl, rfl, trivial⟩; clear hE131
              refine p_tn ?_
              have hE133 := hE132.sub (L' := [(2, .pointer (some ⟨b3, 0, none⟩)), (3, .pointer (some ⟨b9, 0, none⟩)), (6, .pointer (some ⟨b118, 0, none⟩)), (7, .int .i64 ((F_s_ProductFrames fp0 fp1 gp0 gp1).2))]) ⟨rfl, rfl, rfl, rfl, trivial⟩
              have hS134 := (St.pick (Γ' := [.rd 1 gp1A gp1.length gp1C gp1, .blk b9 #[.int .i64 gp0, .slice gp1A gp1.length gp1C] 51, .rd 1 fp1A fp1.length fp1C fp1, .blk b3 #[.int .i64 fp0, .slice fp1A fp1.length fp1C] 51, .own 2 1 b109 ((((F_s_ProductFrames fp0 fp1 gp0 gp1).1).2).length) c110 (((F_s_ProductFrames fp0 fp1 gp0 gp1).1).2), .blk b118 #[.int .i64 (((F_s_ProductFrames fp0 fp1 gp0 gp1).1).1), .slice b109 ((((F_s_ProductFrames fp0 fp1 gp0 gp1).1).2).length) c110] 53]) hS128 [6, 4, 7, 5, 1, 0] (by decide) rfl)
              exact ⟨b118, b109, c110, hE133, hS134⟩
            ·
              refine l_alloc (z := .agg #[.int .i64 0, .slice none 0 0]) (cs := #[.int .i64 0, .slice none 0 0]) hS98 hE97 (fun _ => by kernel_rfl) rfl rfl ?_
              intro b135 w136 hS139 he140 a137 hE138; clear hS98 hE97
              refine ⟨fun _ _ => ⟨(St.row (i := 4) hS139 rfl _ (Ext.refl _)), (St.row (i := 3) hS139 rfl _ (Ext.refl _)), trivial⟩, ?_⟩
              refine d_only 4 (by kernel_rfl) rfl hE138 rfl (l_call (f := 46) (argv := [.agg #[.int .i64 fp0, .slice b91 ((fp1).length) c92], .agg #[.int .i64 gp0, .slice b100 ((gp1).length) c101]]) hE138 (fun _ => cf_s_ProductFrames _ _) rfl rfl (c_s_ProductFrames fp0 b91 ((fp1).length) c92 fp1 gp0 b100 ((gp1).length) c101 gp1 w136 (St.rdO (i := 2) hS139 rfl) (St.rdO (i := 1) hS139 rfl)) ?_)
              rintro _ w142 ⟨b147, c148, rfl, ho149, he146⟩ a143 hE144; clear hE138
              have hS145 := St.own hS139 he146 ho149; clear hS139
              refine ⟨fun _ _ => ⟨(St.row (i := 5) hS145 rfl _ (Ext.refl _)), (St.row (i := 4) hS145 rfl _ (Ext.refl _)), trivial⟩, ?_⟩
              refine d_pure (v := .tuple #[.agg #[.int .i64 (((F_s_ProductFrames fp0 fp1 gp0 gp1).1).1), .slice b147 ((((F_s_ProductFrames fp0 fp1 gp0 gp1).1).2).length) c148], .int .i64 ((F_s_ProductFrames fp0 fp1 gp0 gp1).2)]) 5 rfl hE144 (y_move rfl) rfl (by kernel_rfl) (by kernel_rfl) (by kernel_rfl) rfl rfl (fun _ _ _ h => h) ?_; intro a150 hE151; clear hE144
              refine d_pure (v := .agg #[.int .i64 (((F_s_ProductFrames fp0 fp1 gp0 gp1).1).1), .slice b147 ((((F_s_ProductFrames fp0 fp1 gp0 gp1).1).2).length) c148]) 6 rfl hE151 (y_extract rfl rfl) rfl (by kernel_rfl) (by kernel_rfl) (by kernel_rfl) rfl rfl (fun _ _ _ h => h) ?_; intro a152 hE153; clear hE151
              refine d_pure (v := .int .i64 ((F_s_ProductFrames fp0 fp1 gp0 gp1).2)) 7 rfl hE153 (y_extract rfl rfl) rfl (by kernel_rfl) (by kernel_rfl) (by kernel_rfl) rfl rfl (fun _ _ _ h => h) ?_; intro a154 hE155; clear hE153
              refine d_only 9 (by kernel_rfl) rfl hE155 rfl (l_storeS (k := 1) (cs' := #[.int .i64 (((F_s_ProductFrames fp0 fp1 gp0 gp1).1).1), .slice b147 ((((F_s_ProductFrames fp0 fp1 gp0 gp1).1).2).length) c148]) hS145 hE155 (by kernel_rfl) rfl rfl (by kernel_rfl) rfl rfl ?_)
              intro w157 hS160 a158 hE159; clear hS145 hE155
              refine ⟨fun h => Bool.noConfusion (h.symm.trans (show exm _ _ _ = true by kernel_rfl)), ?_⟩
              refine d_pure (v := .int .i64 ((F_s_ProductFrames fp0 fp1 gp0 gp1).2)) 10 rfl hE159 (y_assign rfl) rfl (by kernel_rfl) (by kernel_rfl) (by kernel_rfl) rfl rfl (fun _ _ _ h => h) ?_; intro a162 hE163; clear hE159
              refine d_done (by kernel_rfl) ?_
              have hE164 := hE163.sub (L' := [(2, .pointer (some ⟨b3, 0, none⟩)), (3, .pointer (some ⟨b9, 0, none⟩)), (6, .pointer (some ⟨b135, 0, none⟩)), (7, .int .i64 ((F_s_ProductFrames fp0 fp1 gp0 gp1).2))]) ⟨rfl, rfl, rfl, rfl, trivial⟩; clear hE163
              refine p_tn ?_
              have hE165 := hE164.sub (L' := [(2, .pointer (some ⟨b3, 0, none⟩)), (3, .pointer (some ⟨b9, 0, none⟩)), (6, .pointer (some ⟨b135, 0, none⟩)), (7, .int .i64 ((F_s_ProductFrames fp0 fp1 gp0 gp1).2))]) ⟨rfl, rfl, rfl, rfl, trivial⟩
              have hS166 := (St.pick (Γ' := [.rd 1 gp1A gp1.length gp1C gp1, .blk b9 #[.int .i64 gp0, .slice gp1A gp1.length gp1C] 51, .rd 1 fp1A fp1.length fp1C fp1, .blk b3 #[.int .i64 fp0, .slice fp1A fp1.length fp1C] 51, .own 2 1 b147 ((((F_s_ProductFrames fp0 fp1 gp0 gp1).1).2).length) c148 (((F_s_ProductFrames fp0 fp1 gp0 gp1).1).2), .blk b135 #[.int .i64 (((F_s_ProductFrames fp0 fp1 gp0 gp1).1).1), .slice b147 ((((F_s_ProductFrames fp0 fp1 gp0 gp1).1).2).length) c148] 53]) hS160 [6, 4, 7, 5, 0, 1] (by decide) rfl)
              exact ⟨b135, b147, c148, hE165, hS166⟩
          ·
            refine l_alloc (z := .agg #[.int .i64 0, .slice none 0 0]) (cs := #[.int .i64 0, .slice none 0 0]) hS89 hE88 (fun _ => by kernel_rfl) rfl rfl ?_
            intro b167 w168 hS171 he172 a169 hE170; clear hS89 hE88
            refine ⟨fun _ _ => ⟨(St.row (i := 3) hS171 rfl _ (Ext.refl _)), (St.row (i := 2) hS171 rfl _ (Ext.refl _)), trivial⟩, ?_⟩
            refine d_only 3 (by kernel_rfl) rfl hE170 rfl (l_call (f := 38) (argv := [.agg #[.int .i64 gp0, .slice gp1A gp1.length gp1C]]) hE170 (fun _ => cf_l_toFrame _ _) rfl rfl (d_l_toFrame gp0 gp1A gp1.length gp1C gp1 w168 (St.rdR (i := 4) hS171 rfl) (by first | omega | (simp only [marked_len]; omega))) ?_)
            rintro _ w174 ⟨b179, c180, rfl, ho181, he178⟩ a175 hE176; clear hE170
            have hS177 := St.own hS171 he178 ho181; clear hS171
            refine ⟨fun _ _ => ⟨(St.row (i := 4) hS177 rfl _ (Ext.refl _)), (St.row (i := 3) hS177 rfl _ (Ext.refl _)), trivial⟩, ?_⟩
            refine d_only 4 (by kernel_rfl) rfl hE176 rfl (l_call (f := 46) (argv := [.agg #[.int .i64 fp0, .slice b91 ((fp1).length) c92], .agg #[.int .i64 gp0, .slice b179 ((gp1).length) c180]]) hE176 (fun _ => cf_s_ProductFrames _ _) rfl rfl (c_s_ProductFrames fp0 b91 ((fp1).length) c92 fp1 gp0 b179 ((gp1).length) c180 gp1 w174 (St.rdO (i := 2) hS177 rfl) (St.rdO (i := 0) hS177 rfl)) ?_)
            rintro _ w183 ⟨b188, c189, rfl, ho190, he187⟩ a184 hE185; clear hE176
            have hS186 := St.own hS177 he187 ho190; clear hS177
            refine ⟨fun _ _ => ⟨(St.row (i := 5) hS186 rfl _ (Ext.refl _)), (St.row (i := 4) hS186 rfl _ (Ext.refl _)), trivial⟩, ?_⟩
            refine d_pure (v := .tuple #[.agg #[.int .i64 (((F_s_ProductFrames fp0 fp1 gp0 gp1).1).1), .slice b188 ((((F_s_ProductFrames fp0 fp1 gp0 gp1).1).2).length) c189], .int .i64 ((F_s_ProductFrames fp0 fp1 gp0 gp1).2)]) 5 rfl hE185 (y_move rfl) rfl (by kernel_rfl) (by kernel_rfl) (by kernel_rfl) rfl rfl (fun _ _ _ h => h) ?_; intro a191 hE192; clear hE185
            refine d_pure (v := .agg #[.int .i64 (((F_s_ProductFrames fp0 fp1 gp0 gp1).1).1), .slice b188 ((((F_s_ProductFrames fp0 fp1 gp0 gp1).1).2).length) c189]) 6 rfl hE192 (y_extract rfl rfl) rfl (by kernel_rfl) (by kernel_rfl) (by kernel_rfl) rfl rfl (fun _ _ _ h => h) ?_; intro a193 hE194; clear hE192
            refine d_pure (v := .int .i64 ((F_s_ProductFrames fp0 fp1 gp0 gp1).2)) 7 rfl hE194 (y_extract rfl rfl) rfl (by kernel_rfl) (by kernel_rfl) (by kernel_rfl) rfl rfl (fun _ _ _ h => h) ?_; intro a195 hE196; clear hE194
            refine d_only 9 (by kernel_rfl) rfl hE196 rfl (l_storeS (k := 2) (cs' := #[.int .i64 (((F_s_ProductFrames fp0 fp1 gp0 gp1).1).1), .slice b188 ((((F_s_ProductFrames fp0 fp1 gp0 gp1).1).2).length) c189]) hS186 hE196 (by kernel_rfl) rfl rfl (by kernel_rfl) rfl rfl ?_)
            intro w198 hS201 a199 hE200; clear hS186 hE196
            refine ⟨fun h => Bool.noConfusion (h.symm.trans (show exm _ _ _ = true by kernel_rfl)), ?_⟩
            refine d_pure (v := .int .i64 ((F_s_ProductFrames fp0 fp1 gp0 gp1).2)) 10 rfl hE200 (y_assign rfl) rfl (by kernel_rfl) (by kernel_rfl) (by kernel_rfl) rfl rfl (fun _ _ _ h => h) ?_; intro a203 hE204; clear hE200
            refine d_done (by kernel_rfl) ?_
            have hE205 := hE204.sub (L' := [(2, .pointer (some ⟨b3, 0, none⟩)), (3, .pointer (some ⟨b9, 0, none⟩)), (6, .pointer (some ⟨b167, 0, none⟩)), (7, .int .i64 ((F_s_ProductFrames fp0 fp1 gp0 gp1).2))]) ⟨rfl, rfl, rfl, rfl, trivial⟩; clear hE204
            refine p_tn ?_
            have hE206 := hE205.sub (L' := [(2, .pointer (some ⟨b3, 0, none⟩)), (3, .pointer (some ⟨b9, 0, none⟩)), (6, .pointer (some ⟨b167, 0, none⟩)), (7, .int .i64 ((F_s_ProductFrames fp0 fp1 gp0 gp1).2))]) ⟨rfl, rfl, rfl, rfl, trivial⟩
            have hS207 := (St.pick (Γ' := [.rd 1 gp1A gp1.length gp1C gp1, .blk b9 #[.int .i64 gp0, .slice gp1A gp1.length gp1C] 51, .rd 1 fp1A fp1.length fp1C fp1, .blk b3 #[.int .i64 fp0, .slice fp1A fp1.length fp1C] 51, .own 2 1 b188 ((((F_s_ProductFrames fp0 fp1 gp0 gp1).1).2).length) c189 (((F_s_ProductFrames fp0 fp1 gp0 gp1).1).2), .blk b167 #[.int .i64 (((F_s_ProductFrames fp0 fp1 gp0 gp1).1).1), .slice b188 ((((F_s_ProductFrames fp0 fp1 gp0 gp1).1).2).length) c189] 53]) hS201 [6, 4, 7, 5, 0, 2] (by decide) rfl)
            exact ⟨b167, b188, c189, hE206, hS207⟩
        ·
          refine l_alloc (z := .agg #[.int .i64 0, .slice none 0 0]) (cs := #[.int .i64 0, .slice none 0 0]) hS80 hE84 (fun _ => by kernel_rfl) rfl rfl ?_
          intro b208 w209 hS212 he213 a210 hE211; clear hS80 hE84
          refine ⟨fun _ _ => ⟨(St.row (i := 2) hS212 rfl _ (Ext.refl _)), (St.row (i := 1) hS212 rfl _ (Ext.refl _)), trivial⟩, ?_⟩
          refine d_only 1 (by kernel_rfl) rfl hE211 rfl (l_call (f := 38) (argv := [.agg #[.int .i64 fp0, .slice fp1A fp1.length fp1C]]) hE211 (fun _ => cf_l_toFrame _ _) rfl rfl (d_l_toFrame fp0 fp1A fp1.length fp1C fp1 w209 (St.rdR (i := 4) hS212 rfl) (by first | omega | (simp only [marked_len]; omega))) ?_)
          rintro _ w215 ⟨b220, c221, rfl, ho222, he219⟩ a216 hE217; clear hE211
          have hS218 := St.own hS212 he219 ho222; clear hS212
          refine ⟨fun _ _ => ⟨(St.row (i := 3) hS218 rfl _ (Ext.refl _)), (St.row (i := 2) hS218 rfl _ (Ext.refl _)), trivial⟩, ?_⟩
          refine d_only 3 (by kernel_rfl) rfl hE217 rfl (l_call (f := 38) (argv := [.agg #[.int .i64 gp0, .slice gp1A gp1.length gp1C]]) hE217 (fun _ => cf_l_toFrame _ _) rfl rfl (d_l_toFrame gp0 gp1A gp1.length gp1C gp1 w215 (St.rdR (i := 4) hS218 rfl) (by first | omega | (simp only [marked_len]; omega))) ?_)
          rintro _ w224 ⟨b229, c230, rfl, ho231, he228⟩ a225 hE226; clear hE217
          have hS227 := St.own hS218 he228 ho231; clear hS218
          refine ⟨fun _ _ => ⟨(St.row (i := 4) hS227 rfl _ (Ext.refl _)), (St.row (i := 3) hS227 rfl _ (Ext.refl _)), trivial⟩, ?_⟩
          refine d_only 4 (by kernel_rfl) rfl hE226 rfl (l_call (f := 46) (argv := [.agg #[.int .i64 fp0, .slice b220 ((fp1).length) c221], .agg #[.int .i64 gp0, .slice b229 ((gp1).length) c230]]) hE226 (fun _ => cf_s_ProductFrames _ _) rfl rfl (c_s_ProductFrames fp0 b220 ((fp1).length) c221 fp1 gp0 b229 ((gp1).length) c230 gp1 w224 (St.rdO (i := 1) hS227 rfl) (St.rdO (i := 0) hS227 rfl)) ?_)
          rintro _ w233 ⟨b238, c239, rfl, ho240, he237⟩ a234 hE235; clear hE226
          have hS236 := St.own hS227 he237 ho240; clear hS227
          refine ⟨fun _ _ => ⟨(St.row (i := 5) hS236 rfl _ (Ext.refl _)), (St.row (i := 4) hS236 rfl _ (Ext.refl _)), trivial⟩, ?_⟩
          refine d_pure (v := .tuple #[.agg #[.int .i64 (((F_s_ProductFrames fp0 fp1 gp0 gp1).1).1), .slice b238 ((((F_s_ProductFrames fp0 fp1 gp0 gp1).1).2).length) c239], .int .i64 ((F_s_ProductFrames fp0 fp1 gp0 gp1).2)]) 5 rfl hE235 (y_move rfl) rfl (by kernel_rfl) (by kernel_rfl) (by kernel_rfl) rfl rfl (fun _ _ _ h => h) ?_; intro a241 hE242; clear hE235
          refine d_pure (v := .agg #[.int .i64 (((F_s_ProductFrames fp0 fp1 gp0 gp1).1).1), .slice b238 ((((F_s_ProductFrames fp0 fp1 gp0 gp1).1).2).length) c239]) 6 rfl hE242 (y_extract rfl rfl) rfl (by kernel_rfl) (by kernel_rfl) (by kernel_rfl) rfl rfl (fun _ _ _ h => h) ?_; intro a243 hE244; clear hE242
          refine d_pure (v := .int .i64 ((F_s_ProductFrames fp0 fp1 gp0 gp1).2)) 7 rfl hE244 (y_extract rfl rfl) rfl (by kernel_rfl) (by kernel_rfl) (by kernel_rfl) rfl rfl (fun _ _ _ h => h) ?_; intro a245 hE246; clear hE244
          refine d_only 9 (by kernel_rfl) rfl hE246 rfl (l_storeS (k := 3) (cs' := #[.int .i64 (((F_s_ProductFrames fp0 fp1 gp0 gp1).1).1), .slice b238 ((((F_s_ProductFrames fp0 fp1 gp0 gp1).1).2).length) c239]) hS236 hE246 (by kernel_rfl) rfl rfl (by kernel_rfl) rfl rfl ?_)
          intro w248 hS251 a249 hE250; clear hS236 hE246
          refine ⟨fun h => Bool.noConfusion (h.symm.trans (show exm _ _ _ = true by kernel_rfl)), ?_⟩
          refine d_pure (v := .int .i64 ((F_s_ProductFrames fp0 fp1 gp0 gp1).2)) 10 rfl hE250 (y_assign rfl) rfl (by kernel_rfl) (by kernel_rfl) (by kernel_rfl) rfl rfl (fun _ _ _ h => h) ?_; intro a253 hE254; clear hE250
          refine d_done (by kernel_rfl) ?_
          have hE255 := hE254.sub (L' := [(2, .pointer (some ⟨b3, 0, none⟩)), (3, .pointer (some ⟨b9, 0, none⟩)), (6, .pointer (some ⟨b208, 0, none⟩)), (7, .int .i64 ((F_s_ProductFrames fp0 fp1 gp0 gp1).2))]) ⟨rfl, rfl, rfl, rfl, trivial⟩; clear hE254
          refine p_tn ?_
          have hE256 := hE255.sub (L' := [(2, .pointer (some ⟨b3, 0, none⟩)), (3, .pointer (some ⟨b9, 0, none⟩)), (6, .pointer (some ⟨b208, 0, none⟩)), (7, .int .i64 ((F_s_ProductFrames fp0 fp1 gp0 gp1).2))]) ⟨rfl, rfl, rfl, rfl, trivial⟩
          have hS257 := (St.pick (Γ' := [.rd 1 gp1A gp1.length gp1C gp1, .blk b9 #[.int .i64 gp0, .slice gp1A gp1.length gp1C] 51, .rd 1 fp1A fp1.length fp1C fp1, .blk b3 #[.int .i64 fp0, .slice fp1A fp1.length fp1C] 51, .own 2 1 b238 ((((F_s_ProductFrames fp0 fp1 gp0 gp1).1).2).length) c239 (((F_s_ProductFrames fp0 fp1 gp0 gp1).1).2), .blk b208 #[.int .i64 (((F_s_ProductFrames fp0 fp1 gp0 gp1).1).1), .slice b238 ((((F_s_ProductFrames fp0 fp1 gp0 gp1).1).2).length) c239] 53]) hS251 [6, 4, 7, 5, 0, 3] (by decide) rfl)
          exact ⟨b208, b238, c239, hE256, hS257⟩
      ·
        rintro a258 w259 ⟨b75, b76, c77, hE260, hS261⟩; clear hE74 hS56
        refine c_seq ?_
        refine c_reg ?_
        refine q_step (v := .agg #[.int .i64 fp0, .slice fp1A fp1.length fp1C]) hE260 (y_loadS Try.underlying51 rfl (by kernel_rfl) rfl (St.row (i := 3) hS261 rfl)) rfl rfl rfl ?_; intro a262 hE263; clear hE260
        refine l_step hE263 rfl (l_call (f := 38) (argv := [.agg #[.int .i64 fp0, .slice fp1A fp1.length fp1C]]) hE263 (fun _ => cf_l_toFrame _ _) rfl rfl (d_l_toFrame fp0 fp1A fp1.length fp1C fp1 w259 (St.rdR (i := 2) hS261 rfl) (by first | omega | (simp only [marked_len]; omega))) ?_)
        rintro _ w265 ⟨b270, c271, rfl, ho272, he269⟩ a266 hE267; clear hE263
        have hS268 := St.own hS261 he269 ho272; clear hS261
        refine l_step hE267 rfl (l_alloc (z := .agg #[.int .i64 0, .slice none 0 0]) (cs := #[.int .i64 0, .slice none 0 0]) hS268 hE267 (fun _ => by kernel_rfl) rfl rfl ?_)
        intro b273 w274 hS277 he278 a275 hE276; clear hS268 hE267
        refine l_step hE276 rfl (l_storeS (k := 0) (cs' := #[.int .i64 fp0, .slice b270 ((fp1).length) c271]) hS277 hE276 (by kernel_rfl) rfl rfl (by kernel_rfl) rfl rfl ?_)
        intro w280 hS283 a281 hE282; clear hS277 hE276
        refine c_nil ?_
        have hE285 := hE282.sub (L' := [(2, .pointer (some ⟨b3, 0, none⟩)), (3, .pointer (some ⟨b9, 0, none⟩)), (6, .pointer (some ⟨b75, 0, none⟩)), (7, .int .i64 ((F_s_ProductFrames fp0 fp1 gp0 gp1).2)), (8, .pointer (some ⟨b273, 0, none⟩))]) ⟨rfl, rfl, rfl, rfl, rfl, trivial⟩; clear hE282
        refine p_tn ?_
        refine c_seq ?_
        refine c_reg ?_
        refine q_step (v := .agg #[.int .i64 gp0, .slice gp1A gp1.length gp1C]) hE285 (y_loadS Try.underlying51 rfl (by kernel_rfl) rfl (St.row (i := 3) hS283 rfl)) rfl rfl rfl ?_; intro a286 hE287; clear hE285
        refine l_step hE287 rfl (l_call (f := 38) (argv := [.agg #[.int .i64 gp0, .slice gp1A gp1.length gp1C]]) hE287 (fun _ => cf_l_toFrame _ _) rfl rfl (d_l_toFrame gp0 gp1A gp1.length gp1C gp1 w280 (St.rdR (i := 2) hS283 rfl) (by first | omega | (simp only [marked_len]; omega))) ?_)
        rintro _ w289 ⟨b294, c295, rfl, ho296, he293⟩ a290 hE291; clear hE287
        have hS292 := St.own hS283 he293 ho296; clear hS283
        refine l_step hE291 rfl (l_alloc (z := .agg #[.int .i64 0, .slice none 0 0]) (cs := #[.int .i64 0, .slice none 0 0]) hS292 hE291 (fun _ => by kernel_rfl) rfl rfl ?_)
        intro b297 w298 hS301 he302 a299 hE300; clear hS292 hE291
        refine l_step hE300 rfl (l_storeS (k := 0) (cs' := #[.int .i64 gp0, .slice b294 ((gp1).length) c295]) hS301 hE300 (by kernel_rfl) rfl rfl (by kernel_rfl) rfl rfl ?_)
        intro w304 hS307 a305 hE306; clear hS301 hE300
        refine c_nil ?_
        have hE309 := hE306.sub (L' := [(2, .pointer (some ⟨b3, 0, none⟩)), (3, .pointer (some ⟨b9, 0, none⟩)), (6, .pointer (some ⟨b75, 0, none⟩)), (7, .int .i64 ((F_s_ProductFrames fp0 fp1 gp0 gp1).2)), (8, .pointer (some ⟨b273, 0, none⟩)), (9, .pointer (some ⟨b297, 0, none⟩))]) ⟨rfl, rfl, rfl, rfl, rfl, rfl, trivial⟩; clear hE306
        refine p_tn ?_
        refine c_seq ?_
        refine c_reg ?_
        refine q_step (v := .agg #[.int .i64 fp0, .slice b270 ((fp1).length) c271]) hE309 (y_loadS Try.underlying53 rfl (by kernel_rfl) rfl (St.row (i := 2) hS307 rfl)) rfl rfl rfl ?_; intro a310 hE311; clear hE309
        refine q_step (v := .agg #[.int .i64 gp0, .slice b294 ((gp1).length) c295]) hE311 (y_loadS Try.underlying53 rfl (by kernel_rfl) rfl (St.row (i := 0) hS307 rfl)) rfl rfl rfl ?_; intro a312 hE313; clear hE311
        refine l_step hE313 rfl (l_call (f := 47) (argv := [.agg #[.int .i64 fp0, .slice b270 ((fp1).length) c271], .agg #[.int .i64 gp0, .slice b294 ((gp1).length) c295]]) hE313 (fun _ => cf_ProductFrames _ _) rfl rfl (c_ProductFrames fp0 b270 ((fp1).length) c271 fp1 gp0 b294 ((gp1).length) c295 gp1 w304 (St.rdO (i := 3) hS307 rfl) (St.rdO (i := 1) hS307 rfl)) ?_)
        rintro _ w315 ⟨b320, c321, rfl, ho322, he319⟩ a316 hE317; clear hE313
        have hf323 := ProductFrames_len fp0 fp1 gp0 gp1
        have hS318 := St.own hS307 he319 ho322; clear hS307
        refine q_step (v := .tuple #[.agg #[.int .i64 (((F_ProductFrames fp0 fp1 gp0 gp1).1).1), .slice b320 ((((F_ProductFrames fp0 fp1 gp0 gp1).1).2).length) c321], .int .i64 ((F_ProductFrames fp0 fp1 gp0 gp1).2)]) hE317 (y_move rfl) rfl rfl rfl ?_; intro a324 hE325; clear hE317
        refine q_step (v := .agg #[.int .i64 (((F_ProductFrames fp0 fp1 gp0 gp1).1).1), .slice b320 ((((F_ProductFrames fp0 fp1 gp0 gp1).1).2).length) c321]) hE325 (y_extract rfl rfl) rfl rfl rfl ?_; intro a326 hE327; clear hE325
        refine q_step (v := .int .i64 ((F_ProductFrames fp0 fp1 gp0 gp1).2)) hE327 (y_extract rfl rfl) rfl rfl rfl ?_; intro a328 hE329; clear hE327
        refine l_step hE329 rfl (l_alloc (z := .agg #[.int .i64 0, .slice none 0 0]) (cs := #[.int .i64 0, .slice none 0 0]) hS318 hE329 (fun _ => by kernel_rfl) rfl rfl ?_)
        intro b330 w331 hS334 he335 a332 hE333; clear hS318 hE329
        refine l_step hE333 rfl (l_storeS (k := 0) (cs' := #[.int .i64 (((F_ProductFrames fp0 fp1 gp0 gp1).1).1), .slice b320 ((((F_ProductFrames fp0 fp1 gp0 gp1).1).2).length) c321]) hS334 hE333 (by kernel_rfl) rfl rfl (by kernel_rfl) rfl rfl ?_)
        intro w337 hS340 a338 hE339; clear hS334 hE333
        refine q_step (v := .int .i64 ((F_ProductFrames fp0 fp1 gp0 gp1).2)) hE339 (y_assign rfl) rfl rfl rfl ?_; intro a342 hE343; clear hE339
        refine c_nil ?_
        have hE344 := hE343.sub (L' := [(2, .pointer (some ⟨b3, 0, none⟩)), (3, .pointer (some ⟨b9, 0, none⟩)), (6, .pointer (some ⟨b75, 0, none⟩)), (7, .int .i64 ((F_s_ProductFrames fp0 fp1 gp0 gp1).2)), (8, .pointer (some ⟨b273, 0, none⟩)), (9, .pointer (some ⟨b297, 0, none⟩)), (10, .pointer (some ⟨b330, 0, none⟩)), (11, .int .i64 ((F_ProductFrames fp0 fp1 gp0 gp1).2))]) ⟨rfl, rfl, rfl, rfl, rfl, rfl, rfl, rfl, trivial⟩; clear hE343
        refine p_tn ?_
        refine c_seq ?_
        refine c_cut (fun a' w' => E a' 119 [(2, .pointer (some ⟨b3, 0, none⟩)), (3, .pointer (some ⟨b9, 0, none⟩)), (6, .pointer (some ⟨b75, 0, none⟩)), (7, .int .i64 ((F_s_ProductFrames fp0 fp1 gp0 gp1).2)), (8, .pointer (some ⟨b273, 0, none⟩)), (9, .pointer (some ⟨b297, 0, none⟩)), (10, .pointer (some ⟨b330, 0, none⟩)), (11, .int .i64 ((F_ProductFrames fp0 fp1 gp0 gp1).2)), (53, .bool ((!(decide (((((F_ProductFrames fp0 fp1 gp0 gp1).1).1), (((F_ProductFrames fp0 fp1 gp0 gp1).1).2)) = ((((F_s_ProductFrames fp0 fp1 gp0 gp1).1).1), (((F_s_ProductFrames fp0 fp1 gp0 gp1).1).2))))) || (!decide (((F_ProductFrames fp0 fp1 gp0 gp1).2) = ((F_s_ProductFrames fp0 fp1 gp0 gp1).2)))))] ∧ St w w' [.own 2 1 b320 ((((F_ProductFrames fp0 fp1 gp0 gp1).1).2).length) c321 (((F_ProductFrames fp0 fp1 gp0 gp1).1).2), .blk b330 #[.int .i64 (((F_ProductFrames fp0 fp1 gp0 gp1).1).1), .slice b320 ((((F_ProductFrames fp0 fp1 gp0 gp1).1).2).length) c321] 53, .own 2 1 b294 ((gp1).length) c295 gp1, .blk b297 #[.int .i64 gp0, .slice b294 ((gp1).length) c295] 53, .own 2 1 b270 ((fp1).length) c271 fp1, .blk b273 #[.int .i64 fp0, .slice b270 ((fp1).length) c271] 53, .rd 1 gp1A gp1.length gp1C gp1, .blk b9 #[.int .i64 gp0, .slice gp1A gp1.length gp1C] 51, .rd 1 fp1A fp1.length fp1C fp1, .blk b3 #[.int .i64 fp0, .slice fp1A fp1.length fp1C] 51, .own 2 1 b76 ((((F_s_ProductFrames fp0 fp1 gp0 gp1).1).2).length) c77 (((F_s_ProductFrames fp0 fp1 gp0 gp1).1).2), .blk b75 #[.int .i64 (((F_s_ProductFrames fp0 fp1 gp0 gp1).1).1), .slice b76 ((((F_s_ProductFrames fp0 fp1 gp0 gp1).1).2).length) c77] 53]) ?_ ?_
        ·
          refine c_reg ?_
          refine q_step (v := .agg #[.int .i64 (((F_ProductFrames fp0 fp1 gp0 gp1).1).1), .slice b320 ((((F_ProductFrames fp0 fp1 gp0 gp1).1).2).length) c321]) hE344 (y_loadS Try.underlying53 rfl (by kernel_rfl) rfl (St.row (i := 0) hS340 rfl)) rfl rfl rfl ?_; intro a345 hE346; clear hE344
          refine q_step (v := .agg #[.int .i64 (((F_s_ProductFrames fp0 fp1 gp0 gp1).1).1), .slice b76 ((((F_s_ProductFrames fp0 fp1 gp0 gp1).1).2).length) c77]) hE346 (y_loadS Try.underlying53 rfl (by kernel_rfl) rfl (St.row (i := 11) hS340 rfl)) rfl rfl rfl ?_; intro a347 hE348; clear hE346
          refine l_step hE348 rfl (l_call (f := 40) (argv := [.agg #[.int .i64 (((F_ProductFrames fp0 fp1 gp0 gp1).1).1), .slice b320 ((((F_ProductFrames fp0 fp1 gp0 gp1).1).2).length) c321], .agg #[.int .i64 (((F_s_ProductFrames fp0 fp1 gp0 gp1).1).1), .slice b76 ((((F_s_ProductFrames fp0 fp1 gp0 gp1).1).2).length) c77]]) hE348 (fun _ => cf_l_eqFrame _ _) rfl rfl (d_l_eqFrame (((F_ProductFrames fp0 fp1 gp0 gp1).1).1) b320 ((((F_ProductFrames fp0 fp1 gp0 gp1).1).2).length) c321 (((F_ProductFrames fp0 fp1 gp0 gp1).1).2) (((F_s_ProductFrames fp0 fp1 gp0 gp1).1).1) b76 ((((F_s_ProductFrames fp0 fp1 gp0 gp1).1).2).length) c77 (((F_s_ProductFrames fp0 fp1 gp0 gp1).1).2) w337 (St.rdO (i := 1) hS340 rfl) (St.rdO (i := 10) hS340 rfl)) ?_)
          rintro _ w350 ⟨rfl, he354⟩ a351 hE352; clear hE348
          have hS353 := St.go hS340 he354; clear hS340
          refine q_step (v := .bool (!(decide (((((F_ProductFrames fp0 fp1 gp0 gp1).1).1), (((F_ProductFrames fp0 fp1 gp0 gp1).1).2)) = ((((F_s_ProductFrames fp0 fp1 gp0 gp1).1).1), (((F_s_ProductFrames fp0 fp1 gp0 gp1).1).2)))))) hE352 (y_not rfl) rfl rfl rfl ?_; intro a355 hE356; clear hE352
          refine q_step (v := .bool (!(decide (((((F_ProductFrames fp0 fp1 gp0 gp1).1).1), (((F_ProductFrames fp0 fp1 gp0 gp1).1).2)) = ((((F_s_ProductFrames fp0 fp1 gp0 gp1).1).1), (((F_s_ProductFrames fp0 fp1 gp0 gp1).1).2)))))) hE356 (y_move rfl) rfl rfl rfl ?_; intro a357 hE358; clear hE356
          rcases Bool.eq_false_or_eq_true (!(decide (((((F_ProductFrames fp0 fp1 gp0 gp1).1).1), (((F_ProductFrames fp0 fp1 gp0 gp1).1).2)) = ((((F_s_ProductFrames fp0 fp1 gp0 gp1).1).1), (((F_s_ProductFrames fp0 fp1 gp0 gp1).1).2))))) with hb359 | hb359
          ·
            have hE360 := hE358; rw [hb359] at hE360; clear hE358
            have ht361 := bn_t hb359
            have hp362 := of_decide_eq_false ht361
            refine q_skip hE360 rfl rfl rfl ?_; intro a363 hE364; clear hE360
            refine q_skip hE364 rfl rfl rfl ?_; intro a365 hE366; clear hE364
            refine q_skip hE366 rfl rfl rfl ?_; intro a367 hE368; clear hE366
            refine q_step (v := .bool true) hE368 (y_pick (b := true) rfl rfl) rfl rfl rfl ?_; intro a369 hE370; clear hE368
            refine c_nil ?_
            have hE371 := hE370.sub (L' := [(2, .pointer (some ⟨b3, 0, none⟩)), (3, .pointer (some ⟨b9, 0, none⟩)), (6, .pointer (some ⟨b75, 0, none⟩)), (7, .int .i64 ((F_s_ProductFrames fp0 fp1 gp0 gp1).2)), (8, .pointer (some ⟨b273, 0, none⟩)), (9, .pointer (some ⟨b297, 0, none⟩)), (10, .pointer (some ⟨b330, 0, none⟩)), (11, .int .i64 ((F_ProductFrames fp0 fp1 gp0 gp1).2)), (53, .bool true)]) ⟨rfl, rfl, rfl, rfl, rfl, rfl, rfl, rfl, rfl, trivial⟩; clear hE370
            refine p_tn ?_
            have hE372 := hE371.sub (L' := [(2, .pointer (some ⟨b3, 0, none⟩)), (3, .pointer (some ⟨b9, 0, none⟩)), (6, .pointer (some ⟨b75, 0, none⟩)), (7, .int .i64 ((F_s_ProductFrames fp0 fp1 gp0 gp1).2)), (8, .pointer (some ⟨b273, 0, none⟩)), (9, .pointer (some ⟨b297, 0, none⟩)), (10, .pointer (some ⟨b330, 0, none⟩)), (11, .int .i64 ((F_ProductFrames fp0 fp1 gp0 gp1).2)), (53, .bool true)]) ⟨rfl, rfl, rfl, rfl, rfl, rfl, rfl, rfl, rfl, trivial⟩
            have hS373 := (St.pick (Γ' := [.own 2 1 b320 ((((F_ProductFrames fp0 fp1 gp0 gp1).1).2).length) c321 (((F_ProductFrames fp0 fp1 gp0 gp1).1).2), .blk b330 #[.int .i64 (((F_ProductFrames fp0 fp1 gp0 gp1).1).1), .slice b320 ((((F_ProductFrames fp0 fp1 gp0 gp1).1).2).length) c321] 53, .own 2 1 b294 ((gp1).length) c295 gp1, .blk b297 #[.int .i64 gp0, .slice b294 ((gp1).length) c295] 53, .own 2 1 b270 ((fp1).length) c271 fp1, .blk b273 #[.int .i64 fp0, .slice b270 ((fp1).length) c271] 53, .rd 1 gp1A gp1.length gp1C gp1, .blk b9 #[.int .i64 gp0, .slice gp1A gp1.length gp1C] 51, .rd 1 fp1A fp1.length fp1C fp1, .blk b3 #[.int .i64 fp0, .slice fp1A fp1.length fp1C] 51, .own 2 1 b76 ((((F_s_ProductFrames fp0 fp1 gp0 gp1).1).2).length) c77 (((F_s_ProductFrames fp0 fp1 gp0 gp1).1).2), .blk b75 #[.int .i64 (((F_s_ProductFrames fp0 fp1 gp0 gp1).1).1), .slice b76 ((((F_s_ProductFrames fp0 fp1 gp0 gp1).1).2).length) c77] 53]) hS353 [1, 0, 3, 2, 5, 4, 6, 7, 8, 9, 10, 11] (by decide) rfl)
            exact ⟨(by rw [hb359]; exact hE372), hS373⟩
          ·
            have hE374 := hE358; rw [hb359] at hE374; clear hE358
            have ht375 := bn_f hb359
            have hp376 := of_decide_eq_true ht375
            refine q_step (v := .int .i64 ((F_ProductFrames fp0 fp1 gp0 gp1).2)) hE374 (y_move rfl) rfl rfl rfl ?_; intro a377 hE378; clear hE374
            refine q_step (v := .int .i64 ((F_s_ProductFrames fp0 fp1 gp0 gp1).2)) hE378 (y_move rfl) rfl rfl rfl ?_; intro a379 hE380; clear hE378
            refine q_step (v := .bool (!decide (((F_ProductFrames fp0 fp1 gp0 gp1).2) = ((F_s_ProductFrames fp0 fp1 gp0 gp1).2)))) hE380 (y_neq rfl rfl) rfl rfl rfl ?_; intro a381 hE382; clear hE380
            refine q_step (v := .bool (!decide (((F_ProductFrames fp0 fp1 gp0 gp1).2) = ((F_s_ProductFrames fp0 fp1 gp0 gp1).2)))) hE382 (y_pick (b := false) rfl rfl) rfl rfl rfl ?_; intro a383 hE384; clear hE382
            refine c_nil ?_
            have hE385 := hE384.sub (L' := [(2, .pointer (some ⟨b3, 0, none⟩)), (3, .pointer (some ⟨b9, 0, none⟩)), (6, .pointer (some ⟨b75, 0, none⟩)), (7, .int .i64 ((F_s_ProductFrames fp0 fp1 gp0 gp1).2)), (8, .pointer (some ⟨b273, 0, none⟩)), (9, .pointer (some ⟨b297, 0, none⟩)), (10, .pointer (some ⟨b330, 0, none⟩)), (11, .int .i64 ((F_ProductFrames fp0 fp1 gp0 gp1).2)), (53, .bool (!decide (((F_ProductFrames fp0 fp1 gp0 gp1).2) = ((F_s_ProductFrames fp0 fp1 gp0 gp1).2))))]) ⟨rfl, rfl, rfl, rfl, rfl, rfl, rfl, rfl, rfl, trivial⟩; clear hE384
            refine p_tn ?_
            have hE386 := hE385.sub (L' := [(2, .pointer (some ⟨b3, 0, none⟩)), (3, .pointer (some ⟨b9, 0, none⟩)), (6, .pointer (some ⟨b75, 0, none⟩)), (7, .int .i64 ((F_s_ProductFrames fp0 fp1 gp0 gp1).2)), (8, .pointer (some ⟨b273, 0, none⟩)), (9, .pointer (some ⟨b297, 0, none⟩)), (10, .pointer (some ⟨b330, 0, none⟩)), (11, .int .i64 ((F_ProductFrames fp0 fp1 gp0 gp1).2)), (53, .bool (!decide (((F_ProductFrames fp0 fp1 gp0 gp1).2) = ((F_s_ProductFrames fp0 fp1 gp0 gp1).2))))]) ⟨rfl, rfl, rfl, rfl, rfl, rfl, rfl, rfl, rfl, trivial⟩
            have hS387 := (St.pick (Γ' := [.own 2 1 b320 ((((F_ProductFrames fp0 fp1 gp0 gp1).1).2).length) c321 (((F_ProductFrames fp0 fp1 gp0 gp1).1).2), .blk b330 #[.int .i64 (((F_ProductFrames fp0 fp1 gp0 gp1).1).1), .slice b320 ((((F_ProductFrames fp0 fp1 gp0 gp1).1).2).length) c321] 53, .own 2 1 b294 ((gp1).length) c295 gp1, .blk b297 #[.int .i64 gp0, .slice b294 ((gp1).length) c295] 53, .own 2 1 b270 ((fp1).length) c271 fp1, .blk b273 #[.int .i64 fp0, .slice b270 ((fp1).length) c271] 53, .rd 1 gp1A gp1.length gp1C gp1, .blk b9 #[.int .i64 gp0, .slice gp1A gp1.length gp1C] 51, .rd 1 fp1A fp1.length fp1C fp1, .blk b3 #[.int .i64 fp0, .slice fp1A fp1.length fp1C] 51, .own 2 1 b76 ((((F_s_ProductFrames fp0 fp1 gp0 gp1).1).2).length) c77 (((F_s_ProductFrames fp0 fp1 gp0 gp1).1).2), .blk b75 #[.int .i64 (((F_s_ProductFrames fp0 fp1 gp0 gp1).1).1), .slice b76 ((((F_s_ProductFrames fp0 fp1 gp0 gp1).1).2).length) c77] 53]) hS353 [1, 0, 3, 2, 5, 4, 6, 7, 8, 9, 10, 11] (by decide) rfl)
            exact ⟨(by rw [hb359]; exact hE386), hS387⟩
        ·
          rintro a388 w389 ⟨hE390, hS391⟩; clear hE344 hS340
          refine c_cond hE390 rfl (fun ht392 => ?_) (fun ht392 => ?_)
          ·
            have hE393 := hE390; rw [ht392] at hE393; clear hE390
            refine c_seq ?_
            refine c_reg ?_
            refine q_step (v := .bool false) hE393 (y_assign rfl) rfl rfl rfl ?_; intro a394 hE395; clear hE393
            refine c_nil ?_
            have hE396 := hE395.sub (L' := [(4, .bool false)]) ⟨rfl, trivial⟩; clear hE395
            refine p_tn ?_
            refine wp_ret ?_
            refine p_tr ?_
            have hF : F_l_FnExactProductFrames fp0 fp1 gp0 gp1 = false := by unfold F_l_FnExactProductFrames; rw [ht392, ht66, ht39]; first | done | rfl
            refine c_ret1 hE396 rfl rfl ?_
            exact ⟨(by rw [hF]; first | done | rfl), hS391.ext⟩
          ·
            obtain ⟨ht397, ht398⟩ := bor_f ht392
            have ht399 := bn_f ht397
            have hp400 := of_decide_eq_true ht399
            have ht401 := bn_f ht398
            have hp402 := of_decide_eq_true ht401
            have hE403 := hE390; rw [ht392] at hE403; clear hE390
            refine wp_skip ?_
            refine p_tn ?_
            refine c_seq ?_
            refine c_seq ?_
            refine d_start (fun w' => w'.heap[b273]? = some (.cells #[.int .i64 fp0, .slice b270 ((fp1).length) c271] 53 (0, 0)) ∧ w'.heap[b3]? = some (.cells #[.int .i64 fp0, .slice fp1A fp1.length fp1C] 51 (0, 0)) ∧ True) [0, 1] 5 (by kernel_rfl) rfl ?_
            intro w404 he405; have hS406 := St.go hS391 he405; clear hS391
            refine d_take (v := .agg #[.int .i64 fp0, .slice b270 ((fp1).length) c271]) 0 rfl hE403 ⟨(St.row (i := 5) hS406 rfl _ (Ext.refl _)), (St.row (i := 9) hS406 rfl _ (Ext.refl _)), trivial⟩ (y_loadS Try.underlying53 rfl (by kernel_rfl) rfl (fun _ h => h.1)) rfl rfl (by kernel_rfl) (by kernel_rfl) (by kernel_rfl) rfl rfl (fun _ _ _ h => h) ?_; intro a407 hE408; clear hE403
            refine d_take (v := .agg #[.int .i64 fp0, .slice fp1A fp1.length fp1C]) 1 rfl hE408 ⟨(St.row (i := 5) hS406 rfl _ (Ext.refl _)), (St.row (i := 9) hS406 rfl _ (Ext.refl _)), trivial⟩ (y_loadS Try.underlying51 rfl (by kernel_rfl) rfl (fun _ h => h.2.1)) rfl rfl (by kernel_rfl) (by kernel_rfl) (by kernel_rfl) rfl rfl (fun _ _ _ h => h) ?_; intro a409 hE410; clear hE408
            refine d_only 2 (by kernel_rfl) rfl hE410 rfl (l_call (f := 38) (argv := [.agg #[.int .i64 fp0, .slice fp1A fp1.length fp1C]]) hE410 (fun _ => cf_l_toFrame _ _) rfl rfl (d_l_toFrame fp0 fp1A fp1.length fp1C fp1 w404 (St.rdR (i := 8) hS406 rfl) (by first | omega | (simp only [marked_len]; omega))) ?_)
            rintro _ w412 ⟨b417, c418, rfl, ho419, he416⟩ a413 hE414; clear hE410
            have hS415 := St.own hS406 he416 ho419; clear hS406
            refine ⟨fun _ _ => ⟨(St.row (i := 6) hS415 rfl _ (Ext.refl _)), (St.row (i := 10) hS415 rfl _ (Ext.refl _)), trivial⟩, ?_⟩
            refine d_only 3 (by kernel_rfl) rfl hE414 rfl (l_call (f := 40) (argv := [.agg #[.int .i64 fp0, .slice b270 ((fp1).length) c271], .agg #[.int .i64 fp0, .slice b417 ((fp1).length) c418]]) hE414 (fun _ => cf_l_eqFrame _ _) rfl rfl (d_l_eqFrame fp0 b270 ((fp1).length) c271 fp1 fp0 b417 ((fp1).length) c418 fp1 w412 (St.rdO (i := 5) hS415 rfl) (St.rdO (i := 0) hS415 rfl)) ?_)
            rintro _ w421 ⟨rfl, he425⟩ a422 hE423; clear hE414
            have hS424 := St.go hS415 he425; clear hS415
            refine ⟨fun _ _ => ⟨(St.row (i := 6) hS424 rfl _ (Ext.refl _)), (St.row (i := 10) hS424 rfl _ (Ext.refl _)), trivial⟩, ?_⟩
            refine d_pure (v := .bool (!(decide ((fp0, fp1) = (fp0, fp1))))) 4 rfl hE423 (y_not rfl) rfl (by kernel_rfl) (by kernel_rfl) (by kernel_rfl) rfl rfl (fun _ _ _ h => h) ?_; intro a426 hE427; clear hE423
            refine d_done (by kernel_rfl) ?_
            have hE428 := hE427.sub (L' := [(2, .pointer (some ⟨b3, 0, none⟩)), (3, .pointer (some ⟨b9, 0, none⟩)), (6, .pointer (some ⟨b75, 0, none⟩)), (7, .int .i64 ((F_s_ProductFrames fp0 fp1 gp0 gp1).2)), (8, .pointer (some ⟨b273, 0, none⟩)), (9, .pointer (some ⟨b297, 0, none⟩)), (10, .pointer (some ⟨b330, 0, none⟩)), (11, .int .i64 ((F_ProductFrames fp0 fp1 gp0 gp1).2)), (58, .bool (!(decide ((fp0, fp1) = (fp0, fp1)))))]) ⟨rfl, rfl, rfl, rfl, rfl, rfl, rfl, rfl, rfl, trivial⟩; clear hE427
            refine p_tn ?_
            refine c_cond hE428 rfl (fun ht429 => ?_) (fun ht429 => ?_)
            ·
              have ht430 := bn_t ht429
              have hp431 := of_decide_eq_false ht430
              have hE432 := hE428; rw [ht429] at hE432; clear hE428
              refine c_seq ?_
              refine c_reg ?_
              refine q_step (v := .bool false) hE432 (y_assign rfl) rfl rfl rfl ?_; intro a433 hE434; clear hE432
              refine c_nil ?_
              have hE435 := hE434.sub (L' := [(4, .bool false)]) ⟨rfl, trivial⟩; clear hE434
              refine p_tn ?_
              refine wp_ret ?_
              refine p_tr ?_
              have hF : F_l_FnExactProductFrames fp0 fp1 gp0 gp1 = false := by unfold F_l_FnExactProductFrames; rw [ht429, ht392, ht66, ht39]; first | done | rfl
              refine c_ret1 hE435 rfl rfl ?_
              exact ⟨(by rw [hF]; first | done | rfl), hS424.ext⟩
            ·
              have ht436 := bn_f ht429
              have hp437 := of_decide_eq_true ht436
              have hE438 := hE428; rw [ht429] at hE438; clear hE428
              refine wp_skip ?_
              refine p_tn ?_
              refine c_seq ?_
              refine c_seq ?_
              refine d_start (fun w' => w'.heap[b297]? = some (.cells #[.int .i64 gp0, .slice b294 ((gp1).length) c295] 53 (0, 0)) ∧ w'.heap[b9]? = some (.cells #[.int .i64 gp0, .slice gp1A gp1.length gp1C] 51 (0, 0)) ∧ True) [0, 1] 5 (by kernel_rfl) rfl ?_
              intro w439 he440; have hS441 := St.go hS424 he440; clear hS424
              refine d_take (v := .agg #[.int .i64 gp0, .slice b294 ((gp1).length) c295]) 0 rfl hE438 ⟨(St.row (i := 4) hS441 rfl _ (Ext.refl _)), (St.row (i := 8) hS441 rfl _ (Ext.refl _)), trivial⟩ (y_loadS Try.underlying53 rfl (by kernel_rfl) rfl (fun _ h => h.1)) rfl rfl (by kernel_rfl) (by kernel_rfl) (by kernel_rfl) rfl rfl (fun _ _ _ h => h) ?_; intro a442 hE443; clear hE438
              refine d_take (v := .agg #[.int .i64 gp0, .slice gp1A gp1.length gp1C]) 1 rfl hE443 ⟨(St.row (i := 4) hS441 rfl _ (Ext.refl _)), (St.row (i := 8) hS441 rfl _ (Ext.refl _)), trivial⟩ (y_loadS Try.underlying51 rfl (by kernel_rfl) rfl (fun _ h => h.2.1)) rfl rfl (by kernel_rfl) (by kernel_rfl) (by kernel_rfl) rfl rfl (fun _ _ _ h => h) ?_; intro a444 hE445; clear hE443
              refine d_only 2 (by kernel_rfl) rfl hE445 rfl (l_call (f := 38) (argv := [.agg #[.int .i64 gp0, .slice gp1A gp1.length gp1C]]) hE445 (fun _ => cf_l_toFrame _ _) rfl rfl (d_l_toFrame gp0 gp1A gp1.length gp1C gp1 w439 (St.rdR (i := 7) hS441 rfl) (by first | omega | (simp only [marked_len]; omega))) ?_)
              rintro _ w447 ⟨b452, c453, rfl, ho454, he451⟩ a448 hE449; clear hE445
              have hS450 := St.own hS441 he451 ho454; clear hS441
              refine ⟨fun _ _ => ⟨(St.row (i := 5) hS450 rfl _ (Ext.refl _)), (St.row (i := 9) hS450 rfl _ (Ext.refl _)), trivial⟩, ?_⟩
              refine d_only 3 (by kernel_rfl) rfl hE449 rfl (l_call (f := 40) (argv := [.agg #[.int .i64 gp0, .slice b294 ((gp1).length) c295], .agg #[.int .i64 gp0, .slice b452 ((gp1).length) c453]]) hE449 (fun _ => cf_l_eqFrame _ _) rfl rfl (d_l_eqFrame gp0 b294 ((gp1).length) c295 gp1 gp0 b452 ((gp1).length) c453 gp1 w447 (St.rdO (i := 4) hS450 rfl) (St.rdO (i := 0) hS450 rfl)) ?_)
              rintro _ w456 ⟨rfl, he460⟩ a457 hE458; clear hE449
              have hS459 := St.go hS450 he460; clear hS450
              refine ⟨fun _ _ => ⟨(St.row (i := 5) hS459 rfl _ (Ext.refl _)), (St.row (i := 9) hS459 rfl _ (Ext.refl _)), trivial⟩, ?_⟩
              refine d_pure (v := .bool (!(decide ((gp0, gp1) = (gp0, gp1))))) 4 rfl hE458 (y_not rfl) rfl (by kernel_rfl) (by kernel_rfl) (by kernel_rfl) rfl rfl (fun _ _ _ h => h) ?_; intro a461 hE462; clear hE458
              refine d_done (by kernel_rfl) ?_
              have hE463 := hE462.sub (L' := [(2, .pointer (some ⟨b3, 0, none⟩)), (3, .pointer (some ⟨b9, 0, none⟩)), (6, .pointer (some ⟨b75, 0, none⟩)), (7, .int .i64 ((F_s_ProductFrames fp0 fp1 gp0 gp1).2)), (8, .pointer (some ⟨b273, 0, none⟩)), (9, .pointer (some ⟨b297, 0, none⟩)), (10, .pointer (some ⟨b330, 0, none⟩)), (11, .int .i64 ((F_ProductFrames fp0 fp1 gp0 gp1).2)), (63, .bool (!(decide ((gp0, gp1) = (gp0, gp1)))))]) ⟨rfl, rfl, rfl, rfl, rfl, rfl, rfl, rfl, rfl, trivial⟩; clear hE462
              refine p_tn ?_
              refine c_cond hE463 rfl (fun ht464 => ?_) (fun ht464 => ?_)
              ·
                have ht465 := bn_t ht464
                have hp466 := of_decide_eq_false ht465
                have hE467 := hE463; rw [ht464] at hE467; clear hE463
                refine c_seq ?_
                refine c_reg ?_
                refine q_step (v := .bool false) hE467 (y_assign rfl) rfl rfl rfl ?_; intro a468 hE469; clear hE467
                refine c_nil ?_
                have hE470 := hE469.sub (L' := [(4, .bool false)]) ⟨rfl, trivial⟩; clear hE469
                refine p_tn ?_
                refine wp_ret ?_
                refine p_tr ?_
                have hF : F_l_FnExactProductFrames fp0 fp1 gp0 gp1 = false := by unfold F_l_FnExactProductFrames; rw [ht464, ht429, ht392, ht66, ht39]; first | done | rfl
                refine c_ret1 hE470 rfl rfl ?_
                exact ⟨(by rw [hF]; first | done | rfl), hS459.ext⟩
              ·
                have ht471 := bn_f ht464
                have hp472 := of_decide_eq_true ht471
                have hE473 := hE463; rw [ht464] at hE473; clear hE463
                refine wp_skip ?_
                refine p_tn ?_
                refine c_seq ?_
                refine c_reg ?_
                refine q_step (v := .int .i64 1) hE473 (y_assign rfl) rfl rfl rfl ?_; intro a474 hE475; clear hE473
                refine c_nil ?_
                have hE476 := hE475.sub (L' := [(2, .pointer (some ⟨b3, 0, none⟩)), (3, .pointer (some ⟨b9, 0, none⟩)), (6, .pointer (some ⟨b75, 0, none⟩)), (7, .int .i64 ((F_s_ProductFrames fp0 fp1 gp0 gp1).2)), (8, .pointer (some ⟨b273, 0, none⟩)), (9, .pointer (some ⟨b297, 0, none⟩)), (10, .pointer (some ⟨b330, 0, none⟩)), (11, .int .i64 ((F_ProductFrames fp0 fp1 gp0 gp1).2)), (12, .int .i64 1)]) ⟨rfl, rfl, rfl, rfl, rfl, rfl, rfl, rfl, rfl, trivial⟩; clear hE475
                refine p_tn ?_
                refine c_seq ?_
                refine c_reg ?_
                refine q_step (v := .agg #[.int .i64 fp0, .slice b270 ((fp1).length) c271]) hE476 (y_loadS Try.underlying53 rfl (by kernel_rfl) rfl (St.row (i := 7) hS459 rfl)) rfl rfl rfl ?_; intro a477 hE478; clear hE476
                refine q_step (v := .int .i64 1) hE478 (y_move rfl) rfl rfl rfl ?_; intro a479 hE480; clear hE478
                have hS487 := (St.pick (Γ' := [.own 2 1 b270 ((fp1).length) c271 fp1, .own 2 1 b452 ((gp1).length) c453 gp1, .own 2 1 b417 ((fp1).length) c418 fp1, .own 2 1 b320 ((((F_ProductFrames fp0 fp1 gp0 gp1).1).2).length) c321 (((F_ProductFrames fp0 fp1 gp0 gp1).1).2), .blk b330 #[.int .i64 (((F_ProductFrames fp0 fp1 gp0 gp1).1).1), .slice b320 ((((F_ProductFrames fp0 fp1 gp0 gp1).1).2).length) c321] 53, .own 2 1 b294 ((gp1).length) c295 gp1, .blk b297 #[.int .i64 gp0, .slice b294 ((gp1).length) c295] 53, .blk b273 #[.int .i64 fp0, .slice b270 ((fp1).length) c271] 53, .rd 1 gp1A gp1.length gp1C gp1, .blk b9 #[.int .i64 gp0, .slice gp1A gp1.length gp1C] 51, .rd 1 fp1A fp1.length fp1C fp1, .blk b3 #[.int .i64 fp0, .slice fp1A fp1.length fp1C] 51, .own 2 1 b76 ((((F_s_ProductFrames fp0 fp1 gp0 gp1).1).2).length) c77 (((F_s_ProductFrames fp0 fp1 gp0 gp1).1).2), .blk b75 #[.int .i64 (((F_s_ProductFrames fp0 fp1 gp0 gp1).1).1), .slice b76 ((((F_s_ProductFrames fp0 fp1 gp0 gp1).1).2).length) c77] 53]) hS459 [6, 0, 1, 2, 3, 4, 5, 7, 8, 9, 10, 11, 12, 13] (by decide) rfl); clear hS459
                refine l_step hE480 rfl (l_call (f := 41) (argv := [.agg #[.int .i64 fp0, .slice b270 ((fp1).length) c271], .int .i64 1]) hE480 (fun _ => cf_l_markFrame _ _) rfl rfl (d_l_markFrame fp0 b270 ((fp1).length) c271 fp1 1 w456 w [.own 2 1 b452 ((gp1).length) c453 gp1, .own 2 1 b417 ((fp1).length) c418 fp1, .own 2 1 b320 ((((F_ProductFrames fp0 fp1 gp0 gp1).1).2).length) c321 (((F_ProductFrames fp0 fp1 gp0 gp1).1).2), .blk b330 #[.int .i64 (((F_ProductFrames fp0 fp1 gp0 gp1).1).1), .slice b320 ((((F_ProductFrames fp0 fp1 gp0 gp1).1).2).length) c321] 53, .own 2 1 b294 ((gp1).length) c295 gp1, .blk b297 #[.int .i64 gp0, .slice b294 ((gp1).length) c295] 53, .blk b273 #[.int .i64 fp0, .slice b270 ((fp1).length) c271] 53, .rd 1 gp1A gp1.length gp1C gp1, .blk b9 #[.int .i64 gp0, .slice gp1A gp1.length gp1C] 51, .rd 1 fp1A fp1.length fp1C fp1, .blk b3 #[.int .i64 fp0, .slice fp1A fp1.length fp1C] 51, .own 2 1 b76 ((((F_s_ProductFrames fp0 fp1 gp0 gp1).1).2).length) c77 (((F_s_ProductFrames fp0 fp1 gp0 gp1).1).2), .blk b75 #[.int .i64 (((F_s_ProductFrames fp0 fp1 gp0 gp1).1).1), .slice b76 ((((F_s_ProductFrames fp0 fp1 gp0 gp1).1).2).length) c77] 53] hS487 (by first | omega | (simp only [marked_len]; omega)) (by first | omega | (simp only [marked_len]; omega)) (by first | omega | (simp only [marked_len]; omega))) ?_)
                rintro _ w482 ⟨rfl, hS485⟩ a483 hE484; clear hE480 hS487
                refine q_step (v := .int .i64 (1 + (fp1.length : Int))) hE484 (y_assign rfl) rfl rfl rfl ?_; intro a488 hE489; clear hE484
                refine c_nil ?_
                have hE490 := hE489.sub (L' := [(2, .pointer (some ⟨b3, 0, none⟩)), (3, .pointer (some ⟨b9, 0, none⟩)), (6, .pointer (some ⟨b75, 0, none⟩)), (7, .int .i64 ((F_s_ProductFrames fp0 fp1 gp0 gp1).2)), (9, .pointer (some ⟨b297, 0, none⟩)), (10, .pointer (some ⟨b330, 0, none⟩)), (11, .int .i64 ((F_ProductFrames fp0 fp1 gp0 gp1).2)), (12, .int .i64 (1 + (fp1.length : Int)))]) ⟨rfl, rfl, rfl, rfl, rfl, rfl, rfl, rfl, trivial⟩; clear hE489
                refine p_tn ?_
                refine c_seq ?_
                refine c_reg ?_
                refine q_step (v := .agg #[.int .i64 gp0, .slice b294 ((gp1).length) c295]) hE490 (y_loadS Try.underlying53 rfl (by kernel_rfl) rfl (St.row (i := 6) hS485 rfl)) rfl rfl rfl ?_; intro a491 hE492; clear hE490
                refine q_step (v := .int .i64 (1 + (fp1.length : Int))) hE492 (y_move rfl) rfl rfl rfl ?_; intro a493 hE494; clear hE492
                have hS501 := (St.pick (Γ' := [.own 2 1 b294 ((gp1).length) c295 gp1, .own 2 1 b270 ((fp1).length) c271 (marked fp1.length 1), .own 2 1 b452 ((gp1).length) c453 gp1, .own 2 1 b417 ((fp1).length) c418 fp1, .own 2 1 b320 ((((F_ProductFrames fp0 fp1 gp0 gp1).1).2).length) c321 (((F_ProductFrames fp0 fp1 gp0 gp1).1).2), .blk b330 #[.int .i64 (((F_ProductFrames fp0 fp1 gp0 gp1).1).1), .slice b320 ((((F_ProductFrames fp0 fp1 gp0 gp1).1).2).length) c321] 53, .blk b297 #[.int .i64 gp0, .slice b294 ((gp1).length) c295] 53, .blk b273 #[.int .i64 fp0, .slice b270 ((fp1).length) c271] 53, .rd 1 gp1A gp1.length gp1C gp1, .blk b9 #[.int .i64 gp0, .slice gp1A gp1.length gp1C] 51, .rd 1 fp1A fp1.length fp1C fp1, .blk b3 #[.int .i64 fp0, .slice fp1A fp1.length fp1C] 51, .own 2 1 b76 ((((F_s_ProductFrames fp0 fp1 gp0 gp1).1).2).length) c77 (((F_s_ProductFrames fp0 fp1 gp0 gp1).1).2), .blk b75 #[.int .i64 (((F_s_ProductFrames fp0 fp1 gp0 gp1).1).1), .slice b76 ((((F_s_ProductFrames fp0 fp1 gp0 gp1).1).2).length) c77] 53]) hS485 [5, 0, 1, 2, 3, 4, 6, 7, 8, 9, 10, 11, 12, 13] (by decide) rfl); clear hS485
                refine l_step hE494 rfl (l_call (f := 41) (argv := [.agg #[.int .i64 gp0, .slice b294 ((gp1).length) c295], .int .i64 (1 + (fp1.length : Int))]) hE494 (fun _ => cf_l_markFrame _ _) rfl rfl (d_l_markFrame gp0 b294 ((gp1).length) c295 gp1 (1 + (fp1.length : Int)) w482 w [.own 2 1 b270 ((fp1).length) c271 (marked fp1.length 1), .own 2 1 b452 ((gp1).length) c453 gp1, .own 2 1 b417 ((fp1).length) c418 fp1, .own 2 1 b320 ((((F_ProductFrames fp0 fp1 gp0 gp1).1).2).length) c321 (((F_ProductFrames fp0 fp1 gp0 gp1).1).2), .blk b330 #[.int .i64 (((F_ProductFrames fp0 fp1 gp0 gp1).1).1), .slice b320 ((((F_ProductFrames fp0 fp1 gp0 gp1).1).2).length) c321] 53, .blk b297 #[.int .i64 gp0, .slice b294 ((gp1).length) c295] 53, .blk b273 #[.int .i64 fp0, .slice b270 ((fp1).length) c271] 53, .rd 1 gp1A gp1.length gp1C gp1, .blk b9 #[.int .i64 gp0, .slice gp1A gp1.length gp1C] 51, .rd 1 fp1A fp1.length fp1C fp1, .blk b3 #[.int .i64 fp0, .slice fp1A fp1.length fp1C] 51, .own 2 1 b76 ((((F_s_ProductFrames fp0 fp1 gp0 gp1).1).2).length) c77 (((F_s_ProductFrames fp0 fp1 gp0 gp1).1).2), .blk b75 #[.int .i64 (((F_s_ProductFrames fp0 fp1 gp0 gp1).1).1), .slice b76 ((((F_s_ProductFrames fp0 fp1 gp0 gp1).1).2).length) c77] 53] hS501 (by first | omega | (simp only [marked_len]; omega)) (by first | omega | (simp only [marked_len]; omega)) (by first | omega | (simp only [marked_len]; omega))) ?_)
                rintro _ w496 ⟨rfl, hS499⟩ a497 hE498; clear hE494 hS501
                refine q_step (v := .int .i64 ((1 + (fp1.length : Int)) + (gp1.length : Int))) hE498 (y_assign rfl) rfl rfl rfl ?_; intro a502 hE503; clear hE498
                refine c_nil ?_
                have hE504 := hE503.sub (L' := [(2, .pointer (some ⟨b3, 0, none⟩)), (3, .pointer (some ⟨b9, 0, none⟩)), (6, .pointer (some ⟨b75, 0, none⟩)), (7, .int .i64 ((F_s_ProductFrames fp0 fp1 gp0 gp1).2)), (10, .pointer (some ⟨b330, 0, none⟩)), (11, .int .i64 ((F_ProductFrames fp0 fp1 gp0 gp1).2)), (12, .int .i64 ((1 + (fp1.length : Int)) + (gp1.length : Int)))]) ⟨rfl, rfl, rfl, rfl, rfl, rfl, rfl, trivial⟩; clear hE503
                refine p_tn ?_
                refine c_seq ?_
                refine c_cut (fun a' w' => E a' 119 [(2, .pointer (some ⟨b3, 0, none⟩)), (3, .pointer (some ⟨b9, 0, none⟩)), (6, .pointer (some ⟨b75, 0, none⟩)), (7, .int .i64 ((F_s_ProductFrames fp0 fp1 gp0 gp1).2)), (10, .pointer (some ⟨b330, 0, none⟩)), (82, .bool ((decide (((1 + (fp1.length : Int)) + (gp1.length : Int)) < 0)) || ((!(decide (((((F_ProductFrames fp0 fp1 gp0 gp1).1).1), (((F_ProductFrames fp0 fp1 gp0 gp1).1).2)) = ((((F_s_ProductFrames fp0 fp1 gp0 gp1).1).1), (((F_s_ProductFrames fp0 fp1 gp0 gp1).1).2))))) || (!decide (((F_ProductFrames fp0 fp1 gp0 gp1).2) = ((F_s_ProductFrames fp0 fp1 gp0 gp1).2))))))] ∧ St w w' [.own 2 1 b294 ((gp1).length) c295 (marked gp1.length (1 + (fp1.length : Int))), .own 2 1 b270 ((fp1).length) c271 (marked fp1.length 1), .own 2 1 b452 ((gp1).length) c453 gp1, .own 2 1 b417 ((fp1).length) c418 fp1, .own 2 1 b320 ((((F_ProductFrames fp0 fp1 gp0 gp1).1).2).length) c321 (((F_ProductFrames fp0 fp1 gp0 gp1).1).2), .blk b330 #[.int .i64 (((F_ProductFrames fp0 fp1 gp0 gp1).1).1), .slice b320 ((((F_ProductFrames fp0 fp1 gp0 gp1).1).2).length) c321] 53, .blk b297 #[.int .i64 gp0, .slice b294 ((gp1).length) c295] 53, .blk b273 #[.int .i64 fp0, .slice b270 ((fp1).length) c271] 53, .rd 1 gp1A gp1.length gp1C gp1, .blk b9 #[.int .i64 gp0, .slice gp1A gp1.length gp1C] 51, .rd 1 fp1A fp1.length fp1C fp1, .blk b3 #[.int .i64 fp0, .slice fp1A fp1.length fp1C] 51, .own 2 1 b76 ((((F_s_ProductFrames fp0 fp1 gp0 gp1).1).2).length) c77 (((F_s_ProductFrames fp0 fp1 gp0 gp1).1).2), .blk b75 #[.int .i64 (((F_s_ProductFrames fp0 fp1 gp0 gp1).1).1), .slice b76 ((((F_s_ProductFrames fp0 fp1 gp0 gp1).1).2).length) c77] 53]) ?_ ?_
                ·
                  refine c_reg ?_
                  refine q_step (v := .int .i64 ((1 + (fp1.length : Int)) + (gp1.length : Int))) hE504 (y_move rfl) rfl rfl rfl ?_; intro a505 hE506; clear hE504
                  refine q_step (v := .bool (decide (((1 + (fp1.length : Int)) + (gp1.length : Int)) < 0))) hE506 (y_lss rfl rfl) rfl rfl rfl ?_; intro a507 hE508; clear hE506
                  refine q_step (v := .bool (decide (((1 + (fp1.length : Int)) + (gp1.length : Int)) < 0))) hE508 (y_move rfl) rfl rfl rfl ?_; intro a509 hE510; clear hE508
                  rcases Bool.eq_false_or_eq_true (decide (((1 + (fp1.length : Int)) + (gp1.length : Int)) < 0)) with hb511 | hb511
                  ·
                    have hE512 := hE510; rw [hb511] at hE512; clear hE510
                    have hp513 := of_decide_eq_true hb511
                    refine q_skip hE512 rfl rfl rfl ?_; intro a514 hE515; clear hE512
                    refine q_skip hE515 rfl rfl rfl ?_; intro a516 hE517; clear hE515
                    refine q_skip hE517 rfl rfl rfl ?_; intro a518 hE519; clear hE517
                    refine q_skip hE519 rfl rfl rfl ?_; intro a520 hE521; clear hE519
                    refine q_step (v := .bool true) hE521 (y_pick (b := true) rfl rfl) rfl rfl rfl ?_; intro a522 hE523; clear hE521
                    refine q_step (v := .bool true) hE523 (y_move rfl) rfl rfl rfl ?_; intro a524 hE525; clear hE523
                    refine q_skip hE525 rfl rfl rfl ?_; intro a526 hE527; clear hE525
                    refine q_skip hE527 rfl rfl rfl ?_; intro a528 hE529; clear hE527
                    refine q_skip hE529 rfl rfl rfl ?_; intro a530 hE531; clear hE529
                    refine q_step (v := .bool true) hE531 (y_pick (b := true) rfl rfl) rfl rfl rfl ?_; intro a532 hE533; clear hE531
                    refine c_nil ?_
                    have hE534 := hE533.sub (L' := [(2, .pointer (some ⟨b3, 0, none⟩)), (3, .pointer (some ⟨b9, 0, none⟩)), (6, .pointer (some ⟨b75, 0, none⟩)), (7, .int .i64 ((F_s_ProductFrames fp0 fp1 gp0 gp1).2)), (10, .pointer (some ⟨b330, 0, none⟩)), (82, .bool true)]) ⟨rfl, rfl, rfl, rfl, rfl, rfl, trivial⟩; clear hE533
                    refine p_tn ?_
                    have hE535 := hE534.sub (L' := [(2, .pointer (some ⟨b3, 0, none⟩)), (3, .pointer (some ⟨b9, 0, none⟩)), (6, .pointer (some ⟨b75, 0, none⟩)), (7, .int .i64 ((F_s_ProductFrames fp0 fp1 gp0 gp1).2)), (10, .pointer (some ⟨b330, 0, none⟩)), (82, .bool true)]) ⟨rfl, rfl, rfl, rfl, rfl, rfl, trivial⟩
                    have hS536 := (St.pick (Γ' := [.own 2 1 b294 ((gp1).length) c295 (marked gp1.length (1 + (fp1.length : Int))), .own 2 1 b270 ((fp1).length) c271 (marked fp1.length 1), .own 2 1 b452 ((gp1).length) c453 gp1, .own 2 1 b417 ((fp1).length) c418 fp1, .own 2 1 b320 ((((F_ProductFrames fp0 fp1 gp0 gp1).1).2).length) c321 (((F_ProductFrames fp0 fp1 gp0 gp1).1).2), .blk b330 #[.int .i64 (((F_ProductFrames fp0 fp1 gp0 gp1).1).1), .slice b320 ((((F_ProductFrames fp0 fp1 gp0 gp1).1).2).length) c321] 53, .blk b297 #[.int .i64 gp0, .slice b294 ((gp1).length) c295] 53, .blk b273 #[.int .i64 fp0, .slice b270 ((fp1).length) c271] 53, .rd 1 gp1A gp1.length gp1C gp1, .blk b9 #[.int .i64 gp0, .slice gp1A gp1.length gp1C] 51, .rd 1 fp1A fp1.length fp1C fp1, .blk b3 #[.int .i64 fp0, .slice fp1A fp1.length fp1C] 51, .own 2 1 b76 ((((F_s_ProductFrames fp0 fp1 gp0 gp1).1).2).length) c77 (((F_s_ProductFrames fp0 fp1 gp0 gp1).1).2), .blk b75 #[.int .i64 (((F_s_ProductFrames fp0 fp1 gp0 gp1).1).1), .slice b76 ((((F_s_ProductFrames fp0 fp1 gp0 gp1).1).2).length) c77] 53]) hS499 [0, 1, 2, 3, 4, 5, 6, 7, 8, 9, 10, 11, 12, 13] (by decide) rfl)
                    exact ⟨(by rw [hb511]; exact hE535), hS536⟩
                  ·
                    have hE537 := hE510; rw [hb511] at hE537; clear hE510
                    have hp538 := of_decide_eq_false hb511
                    refine q_step (v := .agg #[.int .i64 (((F_ProductFrames fp0 fp1 gp0 gp1).1).1), .slice b320 ((((F_ProductFrames fp0 fp1 gp0 gp1).1).2).length) c321]) hE537 (y_loadS Try.underlying53 rfl (by kernel_rfl) rfl (St.row (i := 5) hS499 rfl)) rfl rfl rfl ?_; intro a539 hE540; clear hE537
                    refine q_step (v := .agg #[.int .i64 (((F_s_ProductFrames fp0 fp1 gp0 gp1).1).1), .slice b76 ((((F_s_ProductFrames fp0 fp1 gp0 gp1).1).2).length) c77]) hE540 (y_loadS Try.underlying53 rfl (by kernel_rfl) rfl (St.row (i := 13) hS499 rfl)) rfl rfl rfl ?_; intro a541 hE542; clear hE540
                    refine l_step hE542 rfl (l_call (f := 40) (argv := [.agg #[.int .i64 (((F_ProductFrames fp0 fp1 gp0 gp1).1).1), .slice b320 ((((F_ProductFrames fp0 fp1 gp0 gp1).1).2).length) c321], .agg #[.int .i64 (((F_s_ProductFrames fp0 fp1 gp0 gp1).1).1), .slice b76 ((((F_s_ProductFrames fp0 fp1 gp0 gp1).1).2).length) c77]]) hE542 (fun _ => cf_l_eqFrame _ _) rfl rfl (d_l_eqFrame (((F_ProductFrames fp0 fp1 gp0 gp1).1).1) b320 ((((F_ProductFrames fp0 fp1 gp0 gp1).1).2).length) c321 (((F_ProductFrames fp0 fp1 gp0 gp1).1).2) (((F_s_ProductFrames fp0 fp1 gp0 gp1).1).1) b76 ((((F_s_ProductFrames fp0 fp1 gp0 gp1).1).2).length) c77 (((F_s_ProductFrames fp0 fp1 gp0 gp1).1).2) w496 (St.rdO (i := 4) hS499 rfl) (St.rdO (i := 12) hS499 rfl)) ?_)
                    rintro _ w544 ⟨rfl, he548⟩ a545 hE546; clear hE542
                    have hS547 := St.go hS499 he548; clear hS499
                    refine q_step (v := .bool (!(decide (((((F_ProductFrames fp0 fp1 gp0 gp1).1).1), (((F_ProductFrames fp0 fp1 gp0 gp1).1).2)) = ((((F_s_ProductFrames fp0 fp1 gp0 gp1).1).1), (((F_s_ProductFrames fp0 fp1 gp0 gp1).1).2)))))) hE546 (y_not rfl) rfl rfl rfl ?_; intro a549 hE550; clear hE546
                    refine q_step (v := .bool (!(decide (((((F_ProductFrames fp0 fp1 gp0 gp1).1).1), (((F_ProductFrames fp0 fp1 gp0 gp1).1).2)) = ((((F_s_ProductFrames fp0 fp1 gp0 gp1).1).1), (((F_s_ProductFrames fp0 fp1 gp0 gp1).1).2)))))) hE550 (y_pick (b := false) rfl rfl) rfl rfl rfl ?_; intro a551 hE552; clear hE550
                    refine q_step (v := .bool (!(decide (((((F_ProductFrames fp0 fp1 gp0 gp1).1).1), (((F_ProductFrames fp0 fp1 gp0 gp1).1).2)) = ((((F_s_ProductFrames fp0 fp1 gp0 gp1).1).1), (((F_s_ProductFrames fp0 fp1 gp0 gp1).1).2)))))) hE552 (y_move rfl) rfl rfl rfl ?_; intro a553 hE554; clear hE552
                    rcases Bool.eq_false_or_eq_true (!(decide (((((F_ProductFrames fp0 fp1 gp0 gp1).1).1), (((F_ProductFrames fp0 fp1 gp0 gp1).1).2)) = ((((F_s_ProductFrames fp0 fp1 gp0 gp1).1).1), (((F_s_ProductFrames fp0 fp1 gp0 gp1).1).2))))) with hb555 | hb555
                    ·
                      have hE556 := hE554; rw [hb555] at hE556; clear hE554
                      have ht557 := bn_t hb555
                      have hp558 := of_decide_eq_false ht557
                      refine q_skip hE556 rfl rfl rfl ?_; intro a559 hE560; clear hE556
                      refine q_skip hE560 rfl rfl rfl ?_; intro a561 hE562; clear hE560
                      refine q_skip hE562 rfl rfl rfl ?_; intro a563 hE564; clear hE562
                      refine q_step (v := .bool true) hE564 (y_pick (b := true) rfl rfl) rfl rfl rfl ?_; intro a565 hE566; clear hE564
                      refine c_nil ?_
                      have hE567 := hE566.sub (L' := [(2, .pointer (some ⟨b3, 0, none⟩)), (3, .pointer (some ⟨b9, 0, none⟩)), (6, .pointer (some ⟨b75, 0, none⟩)), (7, .int .i64 ((F_s_ProductFrames fp0 fp1 gp0 gp1).2)), (10, .pointer (some ⟨b330, 0, none⟩)), (82, .bool true)]) ⟨rfl, rfl, rfl, rfl, rfl, rfl, trivial⟩; clear hE566
                      refine p_tn ?_
                      have hE568 := hE567.sub (L' := [(2, .pointer (some ⟨b3, 0, none⟩)), (3, .pointer (some ⟨b9, 0, none⟩)), (6, .pointer (some ⟨b75, 0, none⟩)), (7, .int .i64 ((F_s_ProductFrames fp0 fp1 gp0 gp1).2)), (10, .pointer (some ⟨b330, 0, none⟩)), (82, .bool true)]) ⟨rfl, rfl, rfl, rfl, rfl, rfl, trivial⟩
                      have hS569 := (St.pick (Γ' := [.own 2 1 b294 ((gp1).length) c295 (marked gp1.length (1 + (fp1.length : Int))), .own 2 1 b270 ((fp1).length) c271 (marked fp1.length 1), .own 2 1 b452 ((gp1).length) c453 gp1, .own 2 1 b417 ((fp1).length) c418 fp1, .own 2 1 b320 ((((F_ProductFrames fp0 fp1 gp0 gp1).1).2).length) c321 (((F_ProductFrames fp0 fp1 gp0 gp1).1).2), .blk b330 #[.int .i64 (((F_ProductFrames fp0 fp1 gp0 gp1).1).1), .slice b320 ((((F_ProductFrames fp0 fp1 gp0 gp1).1).2).length) c321] 53, .blk b297 #[.int .i64 gp0, .slice b294 ((gp1).length) c295] 53, .blk b273 #[.int .i64 fp0, .slice b270 ((fp1).length) c271] 53, .rd 1 gp1A gp1.length gp1C gp1, .blk b9 #[.int .i64 gp0, .slice gp1A gp1.length gp1C] 51, .rd 1 fp1A fp1.length fp1C fp1, .blk b3 #[.int .i64 fp0, .slice fp1A fp1.length fp1C] 51, .own 2 1 b76 ((((F_s_ProductFrames fp0 fp1 gp0 gp1).1).2).length) c77 (((F_s_ProductFrames fp0 fp1 gp0 gp1).1).2), .blk b75 #[.int .i64 (((F_s_ProductFrames fp0 fp1 gp0 gp1).1).1), .slice b76 ((((F_s_ProductFrames fp0 fp1 gp0 gp1).1).2).length) c77] 53]) hS547 [0, 1, 2, 3, 4, 5, 6, 7, 8, 9, 10, 11, 12, 13] (by decide) rfl)
                      exact ⟨(by rw [hb555, hb511]; exact hE568), hS569⟩
                    ·
                      have hE570 := hE554; rw [hb555] at hE570; clear hE554
                      have ht571 := bn_f hb555
                      have hp572 := of_decide_eq_true ht571
                      refine q_step (v := .int .i64 ((F_ProductFrames fp0 fp1 gp0 gp1).2)) hE570 (y_move rfl) rfl rfl rfl ?_; intro a573 hE574; clear hE570
                      refine q_step (v := .int .i64 ((F_s_ProductFrames fp0 fp1 gp0 gp1).2)) hE574 (y_move rfl) rfl rfl rfl ?_; intro a575 hE576; clear hE574
                      refine q_step (v := .bool (!decide (((F_ProductFrames fp0 fp1 gp0 gp1).2) = ((F_s_ProductFrames fp0 fp1 gp0 gp1).2)))) hE576 (y_neq rfl rfl) rfl rfl rfl ?_; intro a577 hE578; clear hE576
                      refine q_step (v := .bool (!decide (((F_ProductFrames fp0 fp1 gp0 gp1).2) = ((F_s_ProductFrames fp0 fp1 gp0 gp1).2)))) hE578 (y_pick (b := false) rfl rfl) rfl rfl rfl ?_; intro a579 hE580; clear hE578
                      refine c_nil ?_
                      have hE581 := hE580.sub (L' := [(2, .pointer (some ⟨b3, 0, none⟩)), (3, .pointer (some ⟨b9, 0, none⟩)), (6, .pointer (some ⟨b75, 0, none⟩)), (7, .int .i64 ((F_s_ProductFrames fp0 fp1 gp0 gp1).2)), (10, .pointer (some ⟨b330, 0, none⟩)), (82, .bool (!decide (((F_ProductFrames fp0 fp1 gp0 gp1).2) = ((F_s_ProductFrames fp0 fp1 gp0 gp1).2))))]) ⟨rfl, rfl, rfl, rfl, rfl, rfl, trivial⟩; clear hE580
                      refine p_tn ?_
                      have hE582 := hE581.sub (L' := [(2, .pointer (some ⟨b3, 0, none⟩)), (3, .pointer (some ⟨b9, 0, none⟩)), (6, .pointer (some ⟨b75, 0, none⟩)), (7, .int .i64 ((F_s_ProductFrames fp0 fp1 gp0 gp1).2)), (10, .pointer (some ⟨b330, 0, none⟩)), (82, .bool (!decide (((F_ProductFrames fp0 fp1 gp0 gp1).2) = ((F_s_ProductFrames fp0 fp1 gp0 gp1).2))))]) ⟨rfl, rfl, rfl, rfl, rfl, rfl, trivial⟩
                      have hS583 := (St.pick (Γ' := [.own 2 1 b294 ((gp1).length) c295 (marked gp1.length (1 + (fp1.length : Int))), .own 2 1 b270 ((fp1).length) c271 (marked fp1.length 1), .own 2 1 b452 ((gp1).length) c453 gp1, .own 2 1 b417 ((fp1).length) c418 fp1, .own 2 1 b320 ((((F_ProductFrames fp0 fp1 gp0 gp1).1).2).length) c321 (((F_ProductFrames fp0 fp1 gp0 gp1).1).2), .blk b330 #[.int .i64 (((F_ProductFrames fp0 fp1 gp0 gp1).1).1), .slice b320 ((((F_ProductFrames fp0 fp1 gp0 gp1).1).2).length) c321] 53, .blk b297 #[.int .i64 gp0, .slice b294 ((gp1).length) c295] 53, .blk b273 #[.int .i64 fp0, .slice b270 ((fp1).length) c271] 53, .rd 1 gp1A gp1.length gp1C gp1, .blk b9 #[.int .i64 gp0, .slice gp1A gp1.length gp1C] 51, .rd 1 fp1A fp1.length fp1C fp1, .blk b3 #[.int .i64 fp0, .slice fp1A fp1.length fp1C] 51, .own 2 1 b76 ((((F_s_ProductFrames fp0 fp1 gp0 gp1).1).2).length) c77 (((F_s_ProductFrames fp0 fp1 gp0 gp1).1).2), .blk b75 #[.int .i64 (((F_s_ProductFrames fp0 fp1 gp0 gp1).1).1), .slice b76 ((((F_s_ProductFrames fp0 fp1 gp0 gp1).1).2).length) c77] 53]) hS547 [0, 1, 2, 3, 4, 5, 6, 7, 8, 9, 10, 11, 12, 13] (by decide) rfl)
                      exact ⟨(by rw [hb555, hb511]; exact hE582), hS583⟩
                ·
                  rintro a584 w585 ⟨hE586, hS587⟩; clear hE504 hS499
                  refine c_cond hE586 rfl (fun ht588 => ?_) (fun ht588 => ?_)
                  ·
                    have hE589 := hE586; rw [ht588] at hE589; clear hE586
                    refine c_seq ?_
                    refine c_reg ?_
                    refine q_step (v := .bool false) hE589 (y_assign rfl) rfl rfl rfl ?_; intro a590 hE591; clear hE589
                    refine c_nil ?_
                    have hE592 := hE591.sub (L' := [(4, .bool false)]) ⟨rfl, trivial⟩; clear hE591
                    refine p_tn ?_
                    refine wp_ret ?_
                    refine p_tr ?_
                    have hF : F_l_FnExactProductFrames fp0 fp1 gp0 gp1 = false := by unfold F_l_FnExactProductFrames; rw [ht588, ht464, ht429, ht392, ht66, ht39]; first | done | rfl
                    refine c_ret1 hE592 rfl rfl ?_
                    exact ⟨(by rw [hF]; first | done | rfl), hS587.ext⟩
                  ·
                    obtain ⟨ht593, ht594⟩ := bor_f ht588
                    have hp595 := of_decide_eq_false ht593
                    obtain ⟨ht596, ht597⟩ := bor_f ht594
                    have ht598 := bn_f ht596
                    have hp599 := of_decide_eq_true ht598
                    have ht600 := bn_f ht597
                    have hp601 := of_decide_eq_true ht600
                    have hE602 := hE586; rw [ht588] at hE602; clear hE586
                    refine wp_skip ?_
                    refine p_tn ?_
                    refine c_seq ?_
                    refine c_reg ?_
                    refine q_step (v := .int .i64 1) hE602 (y_assign rfl) rfl rfl rfl ?_; intro a603 hE604; clear hE602
                    refine c_nil ?_
                    have hE605 := hE604.sub (L' := [(2, .pointer (some ⟨b3, 0, none⟩)), (3, .pointer (some ⟨b9, 0, none⟩)), (6, .pointer (some ⟨b75, 0, none⟩)), (7, .int .i64 ((F_s_ProductFrames fp0 fp1 gp0 gp1).2)), (10, .pointer (some ⟨b330, 0, none⟩)), (13, .int .i64 1)]) ⟨rfl, rfl, rfl, rfl, rfl, rfl, trivial⟩; clear hE604
                    refine p_tn ?_
                    refine c_seq ?_
                    refine c_reg ?_
                    refine q_step (v := .agg #[.int .i64 (((F_ProductFrames fp0 fp1 gp0 gp1).1).1), .slice b320 ((((F_ProductFrames fp0 fp1 gp0 gp1).1).2).length) c321]) hE605 (y_loadS Try.underlying53 rfl (by kernel_rfl) rfl (St.row (i := 5) hS587 rfl)) rfl rfl rfl ?_; intro a606 hE607; clear hE605
                    refine q_step (v := .int .i64 1) hE607 (y_move rfl) rfl rfl rfl ?_; intro a608 hE609; clear hE607
                    have hS616 := (St.pick (Γ' := [.own 2 1 b320 ((((F_ProductFrames fp0 fp1 gp0 gp1).1).2).length) c321 (((F_ProductFrames fp0 fp1 gp0 gp1).1).2), .own 2 1 b294 ((gp1).length) c295 (marked gp1.length (1 + (fp1.length : Int))), .own 2 1 b270 ((fp1).length) c271 (marked fp1.length 1), .own 2 1 b452 ((gp1).length) c453 gp1, .own 2 1 b417 ((fp1).length) c418 fp1, .blk b330 #[.int .i64 (((F_ProductFrames fp0 fp1 gp0 gp1).1).1), .slice b320 ((((F_ProductFrames fp0 fp1 gp0 gp1).1).2).length) c321] 53, .blk b297 #[.int .i64 gp0, .slice b294 ((gp1).length) c295] 53, .blk b273 #[.int .i64 fp0, .slice b270 ((fp1).length) c271] 53, .rd 1 gp1A gp1.length gp1C gp1, .blk b9 #[.int .i64 gp0, .slice gp1A gp1.length gp1C] 51, .rd 1 fp1A fp1.length fp1C fp1, .blk b3 #[.int .i64 fp0, .slice fp1A fp1.length fp1C] 51, .own 2 1 b76 ((((F_s_ProductFrames fp0 fp1 gp0 gp1).1).2).length) c77 (((F_s_ProductFrames fp0 fp1 gp0 gp1).1).2), .blk b75 #[.int .i64 (((F_s_ProductFrames fp0 fp1 gp0 gp1).1).1), .slice b76 ((((F_s_ProductFrames fp0 fp1 gp0 gp1).1).2).length) c77] 53]) hS587 [4, 0, 1, 2, 3, 5, 6, 7, 8, 9, 10, 11, 12, 13] (by decide) rfl); clear hS587
                    refine l_step hE609 rfl (l_call (f := 41) (argv := [.agg #[.int .i64 (((F_ProductFrames fp0 fp1 gp0 gp1).1).1), .slice b320 ((((F_ProductFrames fp0 fp1 gp0 gp1).1).2).length) c321], .int .i64 1]) hE609 (fun _ => cf_l_markFrame _ _) rfl rfl (d_l_markFrame (((F_ProductFrames fp0 fp1 gp0 gp1).1).1) b320 ((((F_ProductFrames fp0 fp1 gp0 gp1).1).2).length) c321 (((F_ProductFrames fp0 fp1 gp0 gp1).1).2) 1 w585 w [.own 2 1 b294 ((gp1).length) c295 (marked gp1.length (1 + (fp1.length : Int))), .own 2 1 b270 ((fp1).length) c271 (marked fp1.length 1), .own 2 1 b452 ((gp1).length) c453 gp1, .own 2 1 b417 ((fp1).length) c418 fp1, .blk b330 #[.int .i64 (((F_ProductFrames fp0 fp1 gp0 gp1).1).1), .slice b320 ((((F_ProductFrames fp0 fp1 gp0 gp1).1).2).length) c321] 53, .blk b297 #[.int .i64 gp0, .slice b294 ((gp1).length) c295] 53, .blk b273 #[.int .i64 fp0, .slice b270 ((fp1).length) c271] 53, .rd 1 gp1A gp1.length gp1C gp1, .blk b9 #[.int .i64 gp0, .slice gp1A gp1.length gp1C] 51, .rd 1 fp1A fp1.length fp1C fp1, .blk b3 #[.int .i64 fp0, .slice fp1A fp1.length fp1C] 51, .own 2 1 b76 ((((F_s_ProductFrames fp0 fp1 gp0 gp1).1).2).length) c77 (((F_s_ProductFrames fp0 fp1 gp0 gp1).1).2), .blk b75 #[.int .i64 (((F_s_ProductFrames fp0 fp1 gp0 gp1).1).1), .slice b76 ((((F_s_ProductFrames fp0 fp1 gp0 gp1).1).2).length) c77] 53] hS616 (by first | omega | (simp only [marked_len]; omega)) (by first | omega | (simp only [marked_len]; omega)) (by first | omega | (simp only [marked_len]; omega))) ?_)
                    rintro _ w611 ⟨rfl, hS614⟩ a612 hE613; clear hE609 hS616
                    refine q_step (v := .int .i64 (1 + ((((F_ProductFrames fp0 fp1 gp0 gp1).1).2).length : Int))) hE613 (y_assign rfl) rfl rfl rfl ?_; intro a617 hE618; clear hE613
                    refine c_nil ?_
                    have hE619 := hE618.sub (L' := [(2, .pointer (some ⟨b3, 0, none⟩)), (3, .pointer (some ⟨b9, 0, none⟩)), (6, .pointer (some ⟨b75, 0, none⟩)), (7, .int .i64 ((F_s_ProductFrames fp0 fp1 gp0 gp1).2)), (10, .pointer (some ⟨b330, 0, none⟩)), (13, .int .i64 (1 + ((((F_ProductFrames fp0 fp1 gp0 gp1).1).2).length : Int)))]) ⟨rfl, rfl, rfl, rfl, rfl, rfl, trivial⟩; clear hE618
                    refine p_tn ?_
                    refine c_seq ?_
                    refine c_reg ?_
                    refine q_step (v := .int .i64 1) hE619 (y_assign rfl) rfl rfl rfl ?_; intro a620 hE621; clear hE619
                    refine c_nil ?_
                    have hE622 := hE621.sub (L' := [(2, .pointer (some ⟨b3, 0, none⟩)), (3, .pointer (some ⟨b9, 0, none⟩)), (6, .pointer (some ⟨b75, 0, none⟩)), (7, .int .i64 ((F_s_ProductFrames fp0 fp1 gp0 gp1).2)), (10, .pointer (some ⟨b330, 0, none⟩)), (13, .int .i64 (1 + ((((F_ProductFrames fp0 fp1 gp0 gp1).1).2).length : Int))), (14, .int .i64 1)]) ⟨rfl, rfl, rfl, rfl, rfl, rfl, rfl, trivial⟩; clear hE621
                    refine p_tn ?_
                    refine c_seq ?_
                    refine c_reg ?_
                    refine q_step (v := .agg #[.int .i64 (((F_ProductFrames fp0 fp1 gp0 gp1).1).1), .slice b320 ((((F_ProductFrames fp0 fp1 gp0 gp1).1).2).length) c321]) hE622 (y_loadS Try.underlying53 rfl (by kernel_rfl) rfl (St.row (i := 5) hS614 rfl)) rfl rfl rfl ?_; intro a623 hE624; clear hE622
                    refine q_step (v := .int .i64 1) hE624 (y_move rfl) rfl rfl rfl ?_; intro a625 hE626; clear hE624
                    refine l_step hE626 rfl (l_call (f := 42) (argv := [.agg #[.int .i64 (((F_ProductFrames fp0 fp1 gp0 gp1).1).1), .slice b320 ((((F_ProductFrames fp0 fp1 gp0 gp1).1).2).length) c321], .int .i64 1]) hE626 (fun _ => cf_l_heldFrame _ _) rfl rfl (c_l_heldFrame (((F_ProductFrames fp0 fp1 gp0 gp1).1).1) b320 ((((F_ProductFrames fp0 fp1 gp0 gp1).1).2).length) c321 (marked (((F_ProductFrames fp0 fp1 gp0 gp1).1).2).length 1) 1 w611 (St.rdO (i := 0) hS614 rfl) (by first | omega | (simp only [marked_len]; omega)) (by first | omega | (simp only [marked_len]; omega)) (by first | omega | (simp only [marked_len]; omega))) ?_)
                    rintro _ w628 ⟨rfl, he632⟩ a629 hE630; clear hE626
                    have hS631 := St.go hS614 he632; clear hS614
                    refine q_step (v := .int .i64 (F_l_heldFrame (((F_ProductFrames fp0 fp1 gp0 gp1).1).1) (marked (((F_ProductFrames fp0 fp1 gp0 gp1).1).2).length 1) 1)) hE630 (y_assign rfl) rfl rfl rfl ?_; intro a633 hE634; clear hE630
                    refine c_nil ?_
                    have hE635 := hE634.sub (L' := [(2, .pointer (some ⟨b3, 0, none⟩)), (3, .pointer (some ⟨b9, 0, none⟩)), (6, .pointer (some ⟨b75, 0, none⟩)), (7, .int .i64 ((F_s_ProductFrames fp0 fp1 gp0 gp1).2)), (10, .pointer (some ⟨b330, 0, none⟩)), (13, .int .i64 (1 + ((((F_ProductFrames fp0 fp1 gp0 gp1).1).2).length : Int))), (14, .int .i64 (F_l_heldFrame (((F_ProductFrames fp0 fp1 gp0 gp1).1).1) (marked (((F_ProductFrames fp0 fp1 gp0 gp1).1).2).length 1) 1))]) ⟨rfl, rfl, rfl, rfl, rfl, rfl, rfl, trivial⟩; clear hE634
                    refine p_tn ?_
                    refine c_seq ?_
                    refine c_seq ?_
                    refine c_reg ?_
                    refine q_step (v := .int .i64 (F_l_heldFrame (((F_ProductFrames fp0 fp1 gp0 gp1).1).1) (marked (((F_ProductFrames fp0 fp1 gp0 gp1).1).2).length 1) 1)) hE635 (y_move rfl) rfl rfl rfl ?_; intro a636 hE637; clear hE635
                    refine q_step (v := .bool (decide ((F_l_heldFrame (((F_ProductFrames fp0 fp1 gp0 gp1).1).1) (marked (((F_ProductFrames fp0 fp1 gp0 gp1).1).2).length 1) 1) < 0))) hE637 (y_lss rfl rfl) rfl rfl rfl ?_; intro a638 hE639; clear hE637
                    refine c_nil ?_
                    have hE640 := hE639.sub (L' := [(2, .pointer (some ⟨b3, 0, none⟩)), (3, .pointer (some ⟨b9, 0, none⟩)), (6, .pointer (some ⟨b75, 0, none⟩)), (7, .int .i64 ((F_s_ProductFrames fp0 fp1 gp0 gp1).2)), (10, .pointer (some ⟨b330, 0, none⟩)), (13, .int .i64 (1 + ((((F_ProductFrames fp0 fp1 gp0 gp1).1).2).length : Int))), (14, .int .i64 (F_l_heldFrame (((F_ProductFrames fp0 fp1 gp0 gp1).1).1) (marked (((F_ProductFrames fp0 fp1 gp0 gp1).1).2).length 1) 1)), (90, .bool (decide ((F_l_heldFrame (((F_ProductFrames fp0 fp1 gp0 gp1).1).1) (marked (((F_ProductFrames fp0 fp1 gp0 gp1).1).2).length 1) 1) < 0)))]) ⟨rfl, rfl, rfl, rfl, rfl, rfl, rfl, rfl, trivial⟩; clear hE639
                    refine p_tn ?_
                    refine c_cond hE640 rfl (fun ht641 => ?_) (fun ht641 => ?_)
                    ·
                      have hp642 := of_decide_eq_true ht641
                      have hE643 := hE640; rw [ht641] at hE643; clear hE640
                      refine c_seq ?_
                      refine c_reg ?_
                      refine q_step (v := .bool false) hE643 (y_assign rfl) rfl rfl rfl ?_; intro a644 hE645; clear hE643
                      refine c_nil ?_
                      have hE646 := hE645.sub (L' := [(4, .bool false)]) ⟨rfl, trivial⟩; clear hE645
                      refine p_tn ?_
                      refine wp_ret ?_
                      refine p_tr ?_
                      have hF : F_l_FnExactProductFrames fp0 fp1 gp0 gp1 = false := by unfold F_l_FnExactProductFrames; rw [ht641, ht588, ht464, ht429, ht392, ht66, ht39]; first | done | rfl
                      refine c_ret1 hE646 rfl rfl ?_
                      exact ⟨(by rw [hF]; first | done | rfl), hS631.ext⟩
                    ·
                      have hp647 := of_decide_eq_false ht641
                      have hE648 := hE640; rw [ht641] at hE648; clear hE640
                      refine wp_skip ?_
                      refine p_tn ?_
                      refine c_seq ?_
                      refine c_seq ?_
                      refine c_reg ?_
                      refine q_step (v := .int .i64 (F_l_heldFrame (((F_ProductFrames fp0 fp1 gp0 gp1).1).1) (marked (((F_ProductFrames fp0 fp1 gp0 gp1).1).2).length 1) 1)) hE648 (y_move rfl) rfl rfl rfl ?_; intro a649 hE650; clear hE648
                      refine q_step (v := .int .i64 (1 + ((((F_ProductFrames fp0 fp1 gp0 gp1).1).2).length : Int))) hE650 (y_move rfl) rfl rfl rfl ?_; intro a651 hE652; clear hE650
                      refine q_step (v := .bool (!decide ((F_l_heldFrame (((F_ProductFrames fp0 fp1 gp0 gp1).1).1) (marked (((F_ProductFrames fp0 fp1 gp0 gp1).1).2).length 1) 1) = (1 + ((((F_ProductFrames fp0 fp1 gp0 gp1).1).2).length : Int))))) hE652 (y_neq rfl rfl) rfl rfl rfl ?_; intro a653 hE654; clear hE652
                      refine c_nil ?_
                      have hE655 := hE654.sub (L' := [(2, .pointer (some ⟨b3, 0, none⟩)), (3, .pointer (some ⟨b9, 0, none⟩)), (6, .pointer (some ⟨b75, 0, none⟩)), (7, .int .i64 ((F_s_ProductFrames fp0 fp1 gp0 gp1).2)), (10, .pointer (some ⟨b330, 0, none⟩)), (13, .int .i64 (1 + ((((F_ProductFrames fp0 fp1 gp0 gp1).1).2).length : Int))), (93, .bool (!decide ((F_l_heldFrame (((F_ProductFrames fp0 fp1 gp0 gp1).1).1) (marked (((F_ProductFrames fp0 fp1 gp0 gp1).1).2).length 1) 1) = (1 + ((((F_ProductFrames fp0 fp1 gp0 gp1).1).2).length : Int)))))]) ⟨rfl, rfl, rfl, rfl, rfl, rfl, rfl, trivial⟩; clear hE654
                      refine p_tn ?_
                      refine c_cond hE655 rfl (fun ht656 => ?_) (fun ht656 => ?_)
                      ·
                        have ht657 := bn_t ht656
                        have hp658 := of_decide_eq_false ht657
                        have hE659 := hE655; rw [ht656] at hE659; clear hE655
                        refine c_seq ?_
                        refine c_reg ?_
                        refine q_step (v := .bool false) hE659 (y_assign rfl) rfl rfl rfl ?_; intro a660 hE661; clear hE659
                        refine c_nil ?_
                        have hE662 := hE661.sub (L' := [(4, .bool false)]) ⟨rfl, trivial⟩; clear hE661
                        refine p_tn ?_
                        refine wp_ret ?_
                        refine p_tr ?_
                        have hF : F_l_FnExactProductFrames fp0 fp1 gp0 gp1 = false := by unfold F_l_FnExactProductFrames; rw [ht656, ht641, ht588, ht464, ht429, ht392, ht66, ht39]; first | done | rfl
                        refine c_ret1 hE662 rfl rfl ?_
                        exact ⟨(by rw [hF]; first | done | rfl), hS631.ext⟩
                      ·
                        have ht663 := bn_f ht656
                        have hp664 := of_decide_eq_true ht663
                        have hE665 := hE655; rw [ht656] at hE665; clear hE655
                        refine wp_skip ?_
                        refine p_tn ?_
                        refine c_cut (fun a' w' => ∃ b666 : Nat, ∃ b667 : Option Addr, ∃ c668 : Nat, E a' 119 [(6, .pointer (some ⟨b75, 0, none⟩)), (7, .int .i64 ((F_s_ProductFrames fp0 fp1 gp0 gp1).2)), (10, .pointer (some ⟨b330, 0, none⟩)), (13, .int .i64 (1 + ((((F_ProductFrames fp0 fp1 gp0 gp1).1).2).length : Int))), (15, .pointer (some ⟨b666, 0, none⟩)), (16, .int .i64 ((F_ProductFrames fp0 fp1 gp0 gp1).2))] ∧ St w w' [.own 2 1 b320 ((((F_ProductFrames fp0 fp1 gp0 gp1).1).2).length) c321 (marked (((F_ProductFrames fp0 fp1 gp0 gp1).1).2).length 1), .own 2 1 b294 ((gp1).length) c295 (marked gp1.length (1 + (fp1.length : Int))), .own 2 1 b270 ((fp1).length) c271 (marked fp1.length 1), .own 2 1 b452 ((gp1).length) c453 gp1, .own 2 1 b417 ((fp1).length) c418 fp1, .blk b330 #[.int .i64 (((F_ProductFrames fp0 fp1 gp0 gp1).1).1), .slice b320 ((((F_ProductFrames fp0 fp1 gp0 gp1).1).2).length) c321] 53, .blk b297 #[.int .i64 gp0, .slice b294 ((gp1).length) c295] 53, .blk b273 #[.int .i64 fp0, .slice b270 ((fp1).length) c271] 53, .rd 1 gp1A gp1.length gp1C gp1, .blk b9 #[.int .i64 gp0, .slice gp1A gp1.length gp1C] 51, .rd 1 fp1A fp1.length fp1C fp1, .blk b3 #[.int .i64 fp0, .slice fp1A fp1.length fp1C] 51, .own 2 1 b76 ((((F_s_ProductFrames fp0 fp1 gp0 gp1).1).2).length) c77 (((F_s_ProductFrames fp0 fp1 gp0 gp1).1).2), .blk b75 #[.int .i64 (((F_s_ProductFrames fp0 fp1 gp0 gp1).1).1), .slice b76 ((((F_s_ProductFrames fp0 fp1 gp0 gp1).1).2).length) c77] 53, .own 2 1 b667 ((((F_ProductFrames fp0 fp1 gp0 gp1).1).2).length) c668 (((F_ProductFrames fp0 fp1 gp0 gp1).1).2), .blk b666 #[.int .i64 (((F_ProductFrames fp0 fp1 gp0 gp1).1).1), .slice b667 ((((F_ProductFrames fp0 fp1 gp0 gp1).1).2).length) c668] 53]) ?_ ?_
                        ·
                          refine d_start (fun w' => w'.heap[b3]? = some (.cells #[.int .i64 fp0, .slice fp1A fp1.length fp1C] 51 (0, 0)) ∧ w'.heap[b9]? = some (.cells #[.int .i64 gp0, .slice gp1A gp1.length gp1C] 51 (0, 0)) ∧ True) [0, 2] 11 (by kernel_rfl) rfl ?_
                          intro w669 he670; have hS671 := St.go hS631 he670; clear hS631
                          refine d_take (v := .agg #[.int .i64 fp0, .slice fp1A fp1.length fp1C]) 0 rfl hE665 ⟨(St.row (i := 11) hS671 rfl _ (Ext.refl _)), (St.row (i := 9) hS671 rfl _ (Ext.refl _)), trivial⟩ (y_loadS Try.underlying51 rfl (by kernel_rfl) rfl (fun _ h => h.1)) rfl rfl (by kernel_rfl) (by kernel_rfl) (by kernel_rfl) rfl rfl (fun _ _ _ h => h) ?_; intro a672 hE673; clear hE665
                          refine d_take (v := .agg #[.int .i64 gp0, .slice gp1A gp1.length gp1C]) 2 rfl hE673 ⟨(St.row (i := 11) hS671 rfl _ (Ext.refl _)), (St.row (i := 9) hS671 rfl _ (Ext.refl _)), trivial⟩ (y_loadS Try.underlying51 rfl (by kernel_rfl) rfl (fun _ h => h.2.1)) rfl rfl (by kernel_rfl) (by kernel_rfl) (by kernel_rfl) rfl rfl (fun _ _ _ h => h) ?_; intro a674 hE675; clear hE673
                          refine d_two 1 8 (by kernel_rfl) rfl rfl hE675 rfl rfl ?_ ?_
                          ·
                            refine l_call (f := 38) (argv := [.agg #[.int .i64 fp0, .slice fp1A fp1.length fp1C]]) hE675 (fun _ => cf_l_toFrame _ _) rfl rfl (d_l_toFrame fp0 fp1A fp1.length fp1C fp1 w669 (St.rdR (i := 10) hS671 rfl) (by first | omega | (simp only [marked_len]; omega))) ?_
                            rintro _ w677 ⟨b682, c683, rfl, ho684, he681⟩ a678 hE679; clear hE675
                            have hS680 := St.own hS671 he681 ho684; clear hS671
                            refine ⟨fun _ _ => ⟨(St.row (i := 12) hS680 rfl _ (Ext.refl _)), (St.row (i := 10) hS680 rfl _ (Ext.refl _)), trivial⟩, ?_⟩
                            refine d_two 3 8 (by kernel_rfl) rfl rfl hE679 rfl rfl ?_ ?_
                            ·
                              refine l_call (f := 38) (argv := [.agg #[.int .i64 gp0, .slice gp1A gp1.length gp1C]]) hE679 (fun _ => cf_l_toFrame _ _) rfl rfl (d_l_toFrame gp0 gp1A gp1.length gp1C gp1 w677 (St.rdR (i := 9) hS680 rfl) (by first | omega | (simp only [marked_len]; omega))) ?_
                              rintro _ w686 ⟨b691, c692, rfl, ho693, he690⟩ a687 hE688; clear hE679
                              have hS689 := St.own hS680 he690 ho693; clear hS680
                              refine ⟨fun _ _ => ⟨(St.row (i := 13) hS689 rfl _ (Ext.refl _)), (St.row (i := 11) hS689 rfl _ (Ext.refl _)), trivial⟩, ?_⟩
                              refine d_two 4 8 (by kernel_rfl) rfl rfl hE688 rfl rfl ?_ ?_
                              ·
                                refine l_call (f := 47) (argv := [.agg #[.int .i64 fp0, .slice b682 ((fp1).length) c683], .agg #[.int .i64 gp0, .slice b691 ((gp1).length) c692]]) hE688 (fun _ => cf_ProductFrames _ _) rfl rfl (c_ProductFrames fp0 b682 ((fp1).length) c683 fp1 gp0 b691 ((gp1).length) c692 gp1 w686 (St.rdO (i := 1) hS689 rfl) (St.rdO (i := 0) hS689 rfl)) ?_
                                rintro _ w695 ⟨b700, c701, rfl, ho702, he699⟩ a696 hE697; clear hE688
                                have hf703 := ProductFrames_len fp0 fp1 gp0 gp1
                                have hS698 := St.own hS689 he699 ho702; clear hS689
                                refine ⟨fun _ _ => ⟨(St.row (i := 14) hS698 rfl _ (Ext.refl _)), (St.row (i := 12) hS698 rfl _ (Ext.refl _)), trivial⟩, ?_⟩
                                refine d_pure (v := .tuple #[.agg #[.int .i64 (((F_ProductFrames fp0 fp1 gp0 gp1).1).1), .slice b700 ((((F_ProductFrames fp0 fp1 gp0 gp1).1).2).length) c701], .int .i64 ((F_ProductFrames fp0 fp1 gp0 gp1).2)]) 5 rfl hE697 (y_move rfl) rfl (by kernel_rfl) (by kernel_rfl) (by kernel_rfl) rfl rfl (fun _ _ _ h => h) ?_; intro a704 hE705; clear hE697
                                refine d_pure (v := .agg #[.int .i64 (((F_ProductFrames fp0 fp1 gp0 gp1).1).1), .slice b700 ((((F_ProductFrames fp0 fp1 gp0 gp1).1).2).length) c701]) 6 rfl hE705 (y_extract rfl rfl) rfl (by kernel_rfl) (by kernel_rfl) (by kernel_rfl) rfl rfl (fun _ _ _ h => h) ?_; intro a706 hE707; clear hE705
                                refine d_pure (v := .int .i64 ((F_ProductFrames fp0 fp1 gp0 gp1).2)) 7 rfl hE707 (y_extract rfl rfl) rfl (by kernel_rfl) (by kernel_rfl) (by kernel_rfl) rfl rfl (fun _ _ _ h => h) ?_; intro a708 hE709; clear hE707
                                refine d_only 8 (by kernel_rfl) rfl hE709 rfl (l_alloc (z := .agg #[.int .i64 0, .slice none 0 0]) (cs := #[.int .i64 0, .slice none 0 0]) hS698 hE709 (fun _ => by kernel_rfl) rfl rfl ?_)
                                intro b710 w711 hS714 he715 a712 hE713; clear hS698 hE709
                                refine ⟨fun _ _ => ⟨(St.row (i := 15) hS714 rfl _ (Ext.refl _)), (St.row (i := 13) hS714 rfl _ (Ext.refl _)), trivial⟩, ?_⟩
                                refine d_only 9 (by kernel_rfl) rfl hE713 rfl (l_storeS (k := 0) (cs' := #[.int .i64 (((F_ProductFrames fp0 fp1 gp0 gp1).1).1), .slice b700 ((((F_ProductFrames fp0 fp1 gp0 gp1).1).2).length) c701]) hS714 hE713 (by kernel_rfl) rfl rfl (by kernel_rfl) rfl rfl ?_)
                                intro w717 hS720 a718 hE719; clear hS714 hE713
                                refine ⟨fun h => Bool.noConfusion (h.symm.trans (show exm _ _ _ = true by kernel_rfl)), ?_⟩
                                refine d_pure (v := .int .i64 ((F_ProductFrames fp0 fp1 gp0 gp1).2)) 10 rfl hE719 (y_assign rfl) rfl (by kernel_rfl) (by kernel_rfl) (by kernel_rfl) rfl rfl (fun _ _ _ h => h) ?_; intro a722 hE723; clear hE719
                                refine d_done (by kernel_rfl) ?_
                                have hE724 := hE723.sub (L' := [(6, .pointer (some ⟨b75, 0, none⟩)), (7, .int .i64 ((F_s_ProductFrames fp0 fp1 gp0 gp1).2)), (10, .pointer (some ⟨b330, 0, none⟩)), (13, .int .i64 (1 + ((((F_ProductFrames fp0 fp1 gp0 gp1).1).2).length : Int))), (15, .pointer (some ⟨b710, 0, none⟩)), (16, .int .i64 ((F_ProductFrames fp0 fp1 gp0 gp1).2))]) ⟨rfl, rfl, rfl, rfl, rfl, rfl, trivial⟩; clear hE723
                                refine p_tn ?_
                                have hE725 := hE724.sub (L' := [(6, .pointer (some ⟨b75, 0, none⟩)), (7, .int .i64 ((F_s_ProductFrames fp0 fp1 gp0 gp1).2)), (10, .pointer (some ⟨b330, 0, none⟩)), (13, .int .i64 (1 + ((((F_ProductFrames fp0 fp1 gp0 gp1).1).2).length : Int))), (15, .pointer (some ⟨b710, 0, none⟩)), (16, .int .i64 ((F_ProductFrames fp0 fp1 gp0 gp1).2))]) ⟨rfl, rfl, rfl, rfl, rfl, rfl, trivial⟩
                                have hS726 := (St.pick (Γ' := [.own 2 1 b320 ((((F_ProductFrames fp0 fp1 gp0 gp1).1).2).length) c321 (marked (((F_ProductFrames fp0 fp1 gp0 gp1).1).2).length 1), .own 2 1 b294 ((gp1).length) c295 (marked gp1.length (1 + (fp1.length : Int))), .own 2 1 b270 ((fp1).length) c271 (marked fp1.length 1), .own 2 1 b452 ((gp1).length) c453 gp1, .own 2 1 b417 ((fp1).length) c418 fp1, .blk b330 #[.int .i64 (((F_ProductFrames fp0 fp1 gp0 gp1).1).1), .slice b320 ((((F_ProductFrames fp0 fp1 gp0 gp1).1).2).length) c321] 53, .blk b297 #[.int .i64 gp0, .slice b294 ((gp1).length) c295] 53, .blk b273 #[.int .i64 fp0, .slice b270 ((fp1).length) c271] 53, .rd 1 gp1A gp1.length gp1C gp1, .blk b9 #[.int .i64 gp0, .slice gp1A gp1.length gp1C] 51, .rd 1 fp1A fp1.length fp1C fp1, .blk b3 #[.int .i64 fp0, .slice fp1A fp1.length fp1C] 51, .own 2 1 b76 ((((F_s_ProductFrames fp0 fp1 gp0 gp1).1).2).length) c77 (((F_s_ProductFrames fp0 fp1 gp0 gp1).1).2), .blk b75 #[.int .i64 (((F_s_ProductFrames fp0 fp1 gp0 gp1).1).1), .slice b76 ((((F_s_ProductFrames fp0 fp1 gp0 gp1).1).2).length) c77] 53, .own 2 1 b700 ((((F_ProductFrames fp0 fp1 gp0 gp1).1).2).length) c701 (((F_ProductFrames fp0 fp1 gp0 gp1).1).2), .blk b710 #[.int .i64 (((F_ProductFrames fp0 fp1 gp0 gp1).1).1), .slice b700 ((((F_ProductFrames fp0 fp1 gp0 gp1).1).2).length) c701] 53]) hS720 [4, 5, 6, 7, 8, 9, 10, 11, 12, 13, 14, 15, 16, 17, 1, 0] (by decide) rfl)
                                exact ⟨b710, b700, c701, hE725, hS726⟩
                              ·
                                refine l_alloc (z := .agg #[.int .i64 0, .slice none 0 0]) (cs := #[.int .i64 0, .slice none 0 0]) hS689 hE688 (fun _ => by kernel_rfl) rfl rfl ?_
                                intro b727 w728 hS731 he732 a729 hE730; clear hS689 hE688
                                refine ⟨fun _ _ => ⟨(St.row (i := 14) hS731 rfl _ (Ext.refl _)), (St.row (i := 12) hS731 rfl _ (Ext.refl _)), trivial⟩, ?_⟩
                                refine d_only 4 (by kernel_rfl) rfl hE730 rfl (l_call (f := 47) (argv := [.agg #[.int .i64 fp0, .slice b682 ((fp1).length) c683], .agg #[.int .i64 gp0, .slice b691 ((gp1).length) c692]]) hE730 (fun _ => cf_ProductFrames _ _) rfl rfl (c_ProductFrames fp0 b682 ((fp1).length) c683 fp1 gp0 b691 ((gp1).length) c692 gp1 w728 (St.rdO (i := 2) hS731 rfl) (St.rdO (i := 1) hS731 rfl)) ?_)
                                rintro _ w734 ⟨b739, c740, rfl, ho741, he738⟩ a735 hE736; clear hE730
                                have hf742 := ProductFrames_len fp0 fp1 gp0 gp1
                                have hS737 := St.own hS731 he738 ho741; clear hS731
                                refine ⟨fun _ _ => ⟨(St.row (i := 15) hS737 rfl _ (Ext.refl _)), (St.row (i := 13) hS737 rfl _ (Ext.refl _)), trivial⟩, ?_⟩
                                refine d_pure (v := .tuple #[.agg #[.int .i64 (((F_ProductFrames fp0 fp1 gp0 gp1).1).1), .slice b739 ((((F_ProductFrames fp0 fp1 gp0 gp1).1).2).length) c740], .int .i64 ((F_ProductFrames fp0 fp1 gp0 gp1).2)]) 5 rfl hE736 (y_move rfl) rfl (by kernel_rfl) (by kernel_rfl) (by kernel_rfl) rfl rfl (fun _ _ _ h => h) ?_; intro a743 hE744; clear hE736
                                refine d_pure (v := .agg #[.int .i64 (((F_ProductFrames fp0 fp1 gp0 gp1).1).1), .slice b739 ((((F_ProductFrames fp0 fp1 gp0 gp1).1).2).length) c740]) 6 rfl hE744 (y_extract rfl rfl) rfl (by kernel_rfl) (by kernel_rfl) (by kernel_rfl) rfl rfl (fun _ _ _ h => h) ?_; intro a745 hE746; clear hE744
                                refine d_pure (v := .int .i64 ((F_ProductFrames fp0 fp1 gp0 gp1).2)) 7 rfl hE746 (y_extract rfl rfl) rfl (by kernel_rfl) (by kernel_rfl) (by kernel_rfl) rfl rfl (fun _ _ _ h => h) ?_; intro a747 hE748; clear hE746
                                refine d_only 9 (by kernel_rfl) rfl hE748 rfl (l_storeS (k := 1) (cs' := #[.int .i64 (((F_ProductFrames fp0 fp1 gp0 gp1).1).1), .slice b739 ((((F_ProductFrames fp0 fp1 gp0 gp1).1).2).length) c740]) hS737 hE748 (by kernel_rfl) rfl rfl (by kernel_rfl) rfl rfl ?_)
                                intro w750 hS753 a751 hE752; clear hS737 hE748
                                refine ⟨fun h => Bool.noConfusion (h.symm.trans (show exm _ _ _ = true by kernel_rfl)), ?_⟩
                                refine d_pure (v := .int .i64 ((F_ProductFrames fp0 fp1 gp0 gp1).2)) 10 rfl hE752 (y_assign rfl) rfl (by kernel_rfl) (by kernel_rfl) (by kernel_rfl) rfl rfl (fun _ _ _ h => h) ?_; intro a755 hE756; clear hE752
                                refine d_done (by kernel_rfl) ?_
                                have hE757 := hE756.sub (L' := [(6, .pointer (some ⟨b75, 0, none⟩)), (7, .int .i64 ((F_s_ProductFrames fp0 fp1 gp0 gp1).2)), (10, .pointer (some ⟨b330, 0, none⟩)), (13, .int .i64 (1 + ((((F_ProductFrames fp0 fp1 gp0 gp1).1).2).length : Int))), (15, .pointer (some ⟨b727, 0, none⟩)), (16, .int .i64 ((F_ProductFrames fp0 fp1 gp0 gp1).2))]) ⟨rfl, rfl, rfl, rfl, rfl, rfl, trivial⟩; clear hE756
                                refine p_tn ?_
                                have hE758 := hE757.sub (L' := [(6, .pointer (some ⟨b75, 0, none⟩)), (7, .int .i64 ((F_s_ProductFrames fp0 fp1 gp0 gp1).2)), (10, .pointer (some ⟨b330, 0, none⟩)), (13, .int .i64 (1 + ((((F_ProductFrames fp0 fp1 gp0 gp1).1).2).length : Int))), (15, .pointer (some ⟨b727, 0, none⟩)), (16, .int .i64 ((F_ProductFrames fp0 fp1 gp0 gp1).2))]) ⟨rfl, rfl, rfl, rfl, rfl, rfl, trivial⟩
                                have hS759 := (St.pick (Γ' := [.own 2 1 b320 ((((F_ProductFrames fp0 fp1 gp0 gp1).1).2).length) c321 (marked (((F_ProductFrames fp0 fp1 gp0 gp1).1).2).length 1), .own 2 1 b294 ((gp1).length) c295 (marked gp1.length (1 + (fp1.length : Int))), .own 2 1 b270 ((fp1).length) c271 (marked fp1.length 1), .own 2 1 b452 ((gp1).length) c453 gp1, .own 2 1 b417 ((fp1).length) c418 fp1, .blk b330 #[.int .i64 (((F_ProductFrames fp0 fp1 gp0 gp1).1).1), .slice b320 ((((F_ProductFrames fp0 fp1 gp0 gp1).1).2).length) c321] 53, .blk b297 #[.int .i64 gp0, .slice b294 ((gp1).length) c295] 53, .blk b273 #[.int .i64 fp0, .slice b270 ((fp1).length) c271] 53, .rd 1 gp1A gp1.length gp1C gp1, .blk b9 #[.int .i64 gp0, .slice gp1A gp1.length gp1C] 51, .rd 1 fp1A fp1.length fp1C fp1, .blk b3 #[.int .i64 fp0, .slice fp1A fp1.length fp1C] 51, .own 2 1 b76 ((((F_s_ProductFrames fp0 fp1 gp0 gp1).1).2).length) c77 (((F_s_ProductFrames fp0 fp1 gp0 gp1).1).2), .blk b75 #[.int .i64 (((F_s_ProductFrames fp0 fp1 gp0 gp1).1).1), .slice b76 ((((F_s_ProductFrames fp0 fp1 gp0 gp1).1).2).length) c77] 53, .own 2 1 b739 ((((F_ProductFrames fp0 fp1 gp0 gp1).1).2).length) c740 (((F_ProductFrames fp0 fp1 gp0 gp1).1).2), .blk b727 #[.int .i64 (((F_ProductFrames fp0 fp1 gp0 gp1).1).1), .slice b739 ((((F_ProductFrames fp0 fp1 gp0 gp1).1).2).length) c740] 53]) hS753 [4, 5, 6, 7, 8, 9, 10, 11, 12, 13, 14, 15, 16, 17, 0, 1] (by decide) rfl)
                                exact ⟨b727, b739, c740, hE758, hS759⟩
                            ·
                              refine l_alloc (z := .agg #[.int .i64 0, .slice none 0 0]) (cs := #[.int .i64 0, .slice none 0 0]) hS680 hE679 (fun _ => by kernel_rfl) rfl rfl ?_
                              intro b760 w761 hS764 he765 a762 hE763; clear hS680 hE679
                              refine ⟨fun _ _ => ⟨(St.row (i := 13) hS764 rfl _ (Ext.refl _)), (St.row (i := 11) hS764 rfl _ (Ext.refl _)), trivial⟩, ?_⟩
                              refine d_only 3 (by kernel_rfl) rfl hE763 rfl (l_call (f := 38) (argv := [.agg #[.int .i64 gp0, .slice gp1A gp1.length gp1C]]) hE763 (fun _ => cf_l_toFrame _ _) rfl rfl (d_l_toFrame gp0 gp1A gp1.length gp1C gp1 w761 (St.rdR (i := 10) hS764 rfl) (by first | omega | (simp only [marked_len]; omega))) ?_)
                              rintro _ w767 ⟨b772, c773, rfl, ho774, he771⟩ a768 hE769; clear hE763
                              have hS770 := St.own hS764 he771 ho774; clear hS764
                              refine ⟨fun _ _ => ⟨(St.row (i := 14) hS770 rfl _ (Ext.refl _)), (St.row (i := 12) hS770 rfl _ (Ext.refl _)), trivial⟩, ?_⟩
                              refine d_only 4 (by kernel_rfl) rfl hE769 rfl (l_call (f := 47) (argv := [.agg #[.int .i64 fp0, .slice b682 ((fp1).length) c683], .agg #[.int .i64 gp0, .slice b772 ((gp1).length) c773]]) hE769 (fun _ => cf_ProductFrames _ _) rfl rfl (c_ProductFrames fp0 b682 ((fp1).length) c683 fp1 gp0 b772 ((gp1).length) c773 gp1 w767 (St.rdO (i := 2) hS770 rfl) (St.rdO (i := 0) hS770 rfl)) ?_)
                              rintro _ w776 ⟨b781, c782, rfl, ho783, he780⟩ a777 hE778; clear hE769
                              have hf784 := ProductFrames_len fp0 fp1 gp0 gp1
                              have hS779 := St.own hS770 he780 ho783; clear hS770
                              refine ⟨fun _ _ => ⟨(St.row (i := 15) hS779 rfl _ (Ext.refl _)), (St.row (i := 13) hS779 rfl _ (Ext.refl _)), trivial⟩, ?_⟩
                              refine d_pure (v := .tuple #[.agg #[.int .i64 (((F_ProductFrames fp0 fp1 gp0 gp1).1).1), .slice b781 ((((F_ProductFrames fp0 fp1 gp0 gp1).1).2).length) c782], .int .i64 ((F_ProductFrames fp0 fp1 gp0 gp1).2)]) 5 rfl hE778 (y_move rfl) rfl (by kernel_rfl) (by kernel_rfl) (by kernel_rfl) rfl rfl (fun _ _ _ h => h) ?_; intro a785 hE786; clear hE778
                              refine d_pure (v := .agg #[.int .i64 (((F_ProductFrames fp0 fp1 gp0 gp1).1).1), .slice b781 ((((F_ProductFrames fp0 fp1 gp0 gp1).1).2).length) c782]) 6 rfl hE786 (y_extract rfl rfl) rfl (by kernel_rfl) (by kernel_rfl) (by kernel_rfl) rfl rfl (fun _ _ _ h => h) ?_; intro a787 hE788; clear hE786
                              refine d_pure (v := .int .i64 ((F_ProductFrames fp0 fp1 gp0 gp1).2)) 7 rfl hE788 (y_extract rfl rfl) rfl (by kernel_rfl) (by kernel_rfl) (by kernel_rfl) rfl rfl (fun _ _ _ h => h) ?_; intro a789 hE790; clear hE788
                              refine d_only 9 (by kernel_rfl) rfl hE790 rfl (l_storeS (k := 2) (cs' := #[.int .i64 (((F_ProductFrames fp0 fp1 gp0 gp1).1).1), .slice b781 ((((F_ProductFrames fp0 fp1 gp0 gp1).1).2).length) c782]) hS779 hE790 (by kernel_rfl) rfl rfl (by kernel_rfl) rfl rfl ?_)
                              intro w792 hS795 a793 hE794; clear hS779 hE790
                              refine ⟨fun h => Bool.noConfusion (h.symm.trans (show exm _ _ _ = true by kernel_rfl)), ?_⟩
                              refine d_pure (v := .int .i64 ((F_ProductFrames fp0 fp1 gp0 gp1).2)) 10 rfl hE794 (y_assign rfl) rfl (by kernel_rfl) (by kernel_rfl) (by kernel_rfl) rfl rfl (fun _ _ _ h => h) ?_; intro a797 hE798; clear hE794
                              refine d_done (by kernel_rfl) ?_
                              have hE799 := hE798.sub (L' := [(6, .pointer (some ⟨b75, 0, none⟩)), (7, .int .i64 ((F_s_ProductFrames fp0 fp1 gp0 gp1).2)), (10, .pointer (some ⟨b330, 0, none⟩)), (13, .int .i64 (1 + ((((F_ProductFrames fp0 fp1 gp0 gp1).1).2).length : Int))), (15, .pointer (some ⟨b760, 0, none⟩)), (16, .int .i64 ((F_ProductFrames fp0 fp1 gp0 gp1).2))]) ⟨rfl, rfl, rfl, rfl, rfl, rfl, trivial⟩; clear hE798
                              refine p_tn ?_
                              have hE800 := hE799.sub (L' := [(6, .pointer (some ⟨b75, 0, none⟩)), (7, .int .i64 ((F_s_ProductFrames fp0 fp1 gp0 gp1).2)), (10, .pointer (some ⟨b330, 0, none⟩)), (13, .int .i64 (1 + ((((F_ProductFrames fp0 fp1 gp0 gp1).1).2).length : Int))), (15, .pointer (some ⟨b760, 0, none⟩)), (16, .int .i64 ((F_ProductFrames fp0 fp1 gp0 gp1).2))]) ⟨rfl, rfl, rfl, rfl, rfl, rfl, trivial⟩
                              have hS801 := (St.pick (Γ' := [.own 2 1 b320 ((((F_ProductFrames fp0 fp1 gp0 gp1).1).2).length) c321 (marked (((F_ProductFrames fp0 fp1 gp0 gp1).1).2).length 1), .own 2 1 b294 ((gp1).length) c295 (marked gp1.length (1 + (fp1.length : Int))), .own 2 1 b270 ((fp1).length) c271 (marked fp1.length 1), .own 2 1 b452 ((gp1).length) c453 gp1, .own 2 1 b417 ((fp1).length) c418 fp1, .blk b330 #[.int .i64 (((F_ProductFrames fp0 fp1 gp0 gp1).1).1), .slice b320 ((((F_ProductFrames fp0 fp1 gp0 gp1).1).2).length) c321] 53, .blk b297 #[.int .i64 gp0, .slice b294 ((gp1).length) c295] 53, .blk b273 #[.int .i64 fp0, .slice b270 ((fp1).length) c271] 53, .rd 1 gp1A gp1.length gp1C gp1, .blk b9 #[.int .i64 gp0, .slice gp1A gp1.length gp1C] 51, .rd 1 fp1A fp1.length fp1C fp1, .blk b3 #[.int .i64 fp0, .slice fp1A fp1.length fp1C] 51, .own 2 1 b76 ((((F_s_ProductFrames fp0 fp1 gp0 gp1).1).2).length) c77 (((F_s_ProductFrames fp0 fp1 gp0 gp1).1).2), .blk b75 #[.int .i64 (((F_s_ProductFrames fp0 fp1 gp0 gp1).1).1), .slice b76 ((((F_s_ProductFrames fp0 fp1 gp0 gp1).1).2).length) c77] 53, .own 2 1 b781 ((((F_ProductFrames fp0 fp1 gp0 gp1).1).2).length) c782 (((F_ProductFrames fp0 fp1 gp0 gp1).1).2), .blk b760 #[.int .i64 (((F_ProductFrames fp0 fp1 gp0 gp1).1).1), .slice b781 ((((F_ProductFrames fp0 fp1 gp0 gp1).1).2).length) c782] 53]) hS795 [4, 5, 6, 7, 8, 9, 10, 11, 12, 13, 14, 15, 16, 17, 0, 2] (by decide) rfl)
                              exact ⟨b760, b781, c782, hE800, hS801⟩
                          ·
                            refine l_alloc (z := .agg #[.int .i64 0, .slice none 0 0]) (cs := #[.int .i64 0, .slice none 0 0]) hS671 hE675 (fun _ => by kernel_rfl) rfl rfl ?_
                            intro b802 w803 hS806 he807 a804 hE805; clear hS671 hE675
                            refine ⟨fun _ _ => ⟨(St.row (i := 12) hS806 rfl _ (Ext.refl _)), (St.row (i := 10) hS806 rfl _ (Ext.refl _)), trivial⟩, ?_⟩
                            refine d_only 1 (by kernel_rfl) rfl hE805 rfl (l_call (f := 38) (argv := [.agg #[.int .i64 fp0, .slice fp1A fp1.length fp1C]]) hE805 (fun _ => cf_l_toFrame _ _) rfl rfl (d_l_toFrame fp0 fp1A fp1.length fp1C fp1 w803 (St.rdR (i := 11) hS806 rfl) (by first | omega | (simp only [marked_len]; omega))) ?_)
                            rintro _ w809 ⟨b814, c815, rfl, ho816, he813⟩ a810 hE811; clear hE805
                            have hS812 := St.own hS806 he813 ho816; clear hS806
                            refine ⟨fun _ _ => ⟨(St.row (i := 13) hS812 rfl _ (Ext.refl _)), (St.row (i := 11) hS812 rfl _ (Ext.refl _)), trivial⟩, ?_⟩
                            refine d_only 3 (by kernel_rfl) rfl hE811 rfl (l_call (f := 38) (argv := [.agg #[.int .i64 gp0, .slice gp1A gp1.length gp1C]]) hE811 (fun _ => cf_l_toFrame _ _) rfl rfl (d_l_toFrame gp0 gp1A gp1.length gp1C gp1 w809 (St.rdR (i := 10) hS812 rfl) (by first | omega | (simp only [marked_len]; omega))) ?_)
                            rintro _ w818 ⟨b823, c824, rfl, ho825, he822⟩ a819 hE820; clear hE811
                            have hS821 := St.own hS812 he822 ho825; clear hS812
                            refine ⟨fun _ _ => ⟨(St.row (i := 14) hS821 rfl _ (Ext.refl _)), (St.row (i := 12) hS821 rfl _ (Ext.refl _)), trivial⟩, ?_⟩
                            refine d_only 4 (by kernel_rfl) rfl hE820 rfl (l_call (f := 47) (argv := [.agg #[.int .i64 fp0, .slice b814 ((fp1).length) c815], .agg #[.int .i64 gp0, .slice b823 ((gp1).length) c824]]) hE820 (fun _ => cf_ProductFrames _ _) rfl rfl (c_ProductFrames fp0 b814 ((fp1).length) c815 fp1 gp0 b823 ((gp1).length) c824 gp1 w818 (St.rdO (i := 1) hS821 rfl) (St.rdO (i := 0) hS821 rfl)) ?_)
                            rintro _ w827 ⟨b832, c833, rfl, ho834, he831⟩ a828 hE829; clear hE820
                            have hf835 := ProductFrames_len fp0 fp1 gp0 gp1
                            have hS830 := St.own hS821 he831 ho834; clear hS821
                            refine ⟨fun _ _ => ⟨(St.row (i := 15) hS830 rfl _ (Ext.refl _)), (St.row (i := 13) hS830 rfl _ (Ext.refl _)), trivial⟩, ?_⟩
                            refine d_pure (v := .tuple #[.agg #[.int .i64 (((F_ProductFrames fp0 fp1 gp0 gp1).1).1), .slice b832 ((((F_ProductFrames fp0 fp1 gp0 gp1).1).2).length) c833], .int .i64 ((F_ProductFrames fp0 fp1 gp0 gp1).2)]) 5 rfl hE829 (y_move rfl) rfl (by kernel_rfl) (by kernel_rfl) (by kernel_rfl) rfl rfl (fun _ _ _ h => h) ?_; intro a836 hE837; clear hE829
                            refine d_pure (v := .agg #[.int .i64 (((F_ProductFrames fp0 fp1 gp0 gp1).1).1), .slice b832 ((((F_ProductFrames fp0 fp1 gp0 gp1).1).2).length) c833]) 6 rfl hE837 (y_extract rfl rfl) rfl (by kernel_rfl) (by kernel_rfl) (by kernel_rfl) rfl rfl (fun _ _ _ h => h) ?_; intro a838 hE839; clear hE837
                            refine d_pure (v := .int .i64 ((F_ProductFrames fp0 fp1 gp0 gp1).2)) 7 rfl hE839 (y_extract rfl rfl) rfl (by kernel_rfl) (by kernel_rfl) (by kernel_rfl) rfl rfl (fun _ _ _ h => h) ?_; intro a840 hE841; clear hE839
                            refine d_only 9 (by kernel_rfl) rfl hE841 rfl (l_storeS (k := 3) (cs' := #[.int .i64 (((F_ProductFrames fp0 fp1 gp0 gp1).1).1), .slice b832 ((((F_ProductFrames fp0 fp1 gp0 gp1).1).2).length) c833]) hS830 hE841 (by kernel_rfl) rfl rfl (by kernel_rfl) rfl rfl ?_)
                            intro w843 hS846 a844 hE845; clear hS830 hE841
                            refine ⟨fun h => Bool.noConfusion (h.symm.trans (show exm _ _ _ = true by kernel_rfl)), ?_⟩
                            refine d_pure (v := .int .i64 ((F_ProductFrames fp0 fp1 gp0 gp1).2)) 10 rfl hE845 (y_assign rfl) rfl (by kernel_rfl) (by kernel_rfl) (by kernel_rfl) rfl rfl (fun _ _ _ h => h) ?_; intro a848 hE849; clear hE845
                            refine d_done (by kernel_rfl) ?_
                            have hE850 := hE849.sub (L' := [(6, .pointer (some ⟨b75, 0, none⟩)), (7, .int .i64 ((F_s_ProductFrames fp0 fp1 gp0 gp1).2)), (10, .pointer (some ⟨b330, 0, none⟩)), (13, .int .i64 (1 + ((((F_ProductFrames fp0 fp1 gp0 gp1).1).2).length : Int))), (15, .pointer (some ⟨b802, 0, none⟩)), (16, .int .i64 ((F_ProductFrames fp0 fp1 gp0 gp1).2))]) ⟨rfl, rfl, rfl, rfl, rfl, rfl, trivial⟩; clear hE849
                            refine p_tn ?_
                            have hE851 := hE850.sub (L' := [(6, .pointer (some ⟨b75, 0, none⟩)), (7, .int .i64 ((F_s_ProductFrames fp0 fp1 gp0 gp1).2)), (10, .pointer (some ⟨b330, 0, none⟩)), (13, .int .i64 (1 + ((((F_ProductFrames fp0 fp1 gp0 gp1).1).2).length : Int))), (15, .pointer (some ⟨b802, 0, none⟩)), (16, .int .i64 ((F_ProductFrames fp0 fp1 gp0 gp1).2))]) ⟨rfl, rfl, rfl, rfl, rfl, rfl, trivial⟩
                            have hS852 := (St.pick (Γ' := [.own 2 1 b320 ((((F_ProductFrames fp0 fp1 gp0 gp1).1).2).length) c321 (marked (((F_ProductFrames fp0 fp1 gp0 gp1).1).2).length 1), .own 2 1 b294 ((gp1).length) c295 (marked gp1.length (1 + (fp1.length : Int))), .own 2 1 b270 ((fp1).length) c271 (marked fp1.length 1), .own 2 1 b452 ((gp1).length) c453 gp1, .own 2 1 b417 ((fp1).length) c418 fp1, .blk b330 #[.int .i64 (((F_ProductFrames fp0 fp1 gp0 gp1).1).1), .slice b320 ((((F_ProductFrames fp0 fp1 gp0 gp1).1).2).length) c321] 53, .blk b297 #[.int .i64 gp0, .slice b294 ((gp1).length) c295] 53, .blk b273 #[.int .i64 fp0, .slice b270 ((fp1).length) c271] 53, .rd 1 gp1A gp1.length gp1C gp1, .blk b9 #[.int .i64 gp0, .slice gp1A gp1.length gp1C] 51, .rd 1 fp1A fp1.length fp1C fp1, .blk b3 #[.int .i64 fp0, .slice fp1A fp1.length fp1C] 51, .own 2 1 b76 ((((F_s_ProductFrames fp0 fp1 gp0 gp1).1).2).length) c77 (((F_s_ProductFrames fp0 fp1 gp0 gp1).1).2), .blk b75 #[.int .i64 (((F_s_ProductFrames fp0 fp1 gp0 gp1).1).1), .slice b76 ((((F_s_ProductFrames fp0 fp1 gp0 gp1).1).2).length) c77] 53, .own 2 1 b832 ((((F_ProductFrames fp0 fp1 gp0 gp1).1).2).length) c833 (((F_ProductFrames fp0 fp1 gp0 gp1).1).2), .blk b802 #[.int .i64 (((F_ProductFrames fp0 fp1 gp0 gp1).1).1), .slice b832 ((((F_ProductFrames fp0 fp1 gp0 gp1).1).2).length) c833] 53]) hS846 [4, 5, 6, 7, 8, 9, 10, 11, 12, 13, 14, 15, 16, 17, 0, 3] (by decide) rfl)
                            exact ⟨b802, b832, c833, hE851, hS852⟩
                        ·
                          rintro a853 w854 ⟨b666, b667, c668, hE855, hS856⟩; clear hE665 hS631
                          refine c_seq ?_
                          refine c_cut (fun a' w' => E a' 119 [(10, .pointer (some ⟨b330, 0, none⟩)), (13, .int .i64 (1 + ((((F_ProductFrames fp0 fp1 gp0 gp1).1).2).length : Int))), (110, .bool ((!(decide (((((F_ProductFrames fp0 fp1 gp0 gp1).1).1), (((F_ProductFrames fp0 fp1 gp0 gp1).1).2)) = ((((F_s_ProductFrames fp0 fp1 gp0 gp1).1).1), (((F_s_ProductFrames fp0 fp1 gp0 gp1).1).2))))) || (!decide (((F_ProductFrames fp0 fp1 gp0 gp1).2) = ((F_s_ProductFrames fp0 fp1 gp0 gp1).2)))))] ∧ St w w' [.own 2 1 b320 ((((F_ProductFrames fp0 fp1 gp0 gp1).1).2).length) c321 (marked (((F_ProductFrames fp0 fp1 gp0 gp1).1).2).length 1), .own 2 1 b294 ((gp1).length) c295 (marked gp1.length (1 + (fp1.length : Int))), .own 2 1 b270 ((fp1).length) c271 (marked fp1.length 1), .own 2 1 b452 ((gp1).length) c453 gp1, .own 2 1 b417 ((fp1).length) c418 fp1, .blk b330 #[.int .i64 (((F_ProductFrames fp0 fp1 gp0 gp1).1).1), .slice b320 ((((F_ProductFrames fp0 fp1 gp0 gp1).1).2).length) c321] 53, .blk b297 #[.int .i64 gp0, .slice b294 ((gp1).length) c295] 53, .blk b273 #[.int .i64 fp0, .slice b270 ((fp1).length) c271] 53, .rd 1 gp1A gp1.length gp1C gp1, .blk b9 #[.int .i64 gp0, .slice gp1A gp1.length gp1C] 51, .rd 1 fp1A fp1.length fp1C fp1, .blk b3 #[.int .i64 fp0, .slice fp1A fp1.length fp1C] 51, .own 2 1 b76 ((((F_s_ProductFrames fp0 fp1 gp0 gp1).1).2).length) c77 (((F_s_ProductFrames fp0 fp1 gp0 gp1).1).2), .blk b75 #[.int .i64 (((F_s_ProductFrames fp0 fp1 gp0 gp1).1).1), .slice b76 ((((F_s_ProductFrames fp0 fp1 gp0 gp1).1).2).length) c77] 53, .own 2 1 b667 ((((F_ProductFrames fp0 fp1 gp0 gp1).1).2).length) c668 (((F_ProductFrames fp0 fp1 gp0 gp1).1).2), .blk b666 #[.int .i64 (((F_ProductFrames fp0 fp1 gp0 gp1).1).1), .slice b667 ((((F_ProductFrames fp0 fp1 gp0 gp1).1).2).length) c668] 53]) ?_ ?_
                          ·
                            refine c_reg ?_
                            refine q_step (v := .agg #[.int .i64 (((F_ProductFrames fp0 fp1 gp0 gp1).1).1), .slice b667 ((((F_ProductFrames fp0 fp1 gp0 gp1).1).2).length) c668]) hE855 (y_loadS Try.underlying53 rfl (by kernel_rfl) rfl (St.row (i := 15) hS856 rfl)) rfl rfl rfl ?_; intro a857 hE858; clear hE855
                            refine q_step (v := .agg #[.int .i64 (((F_s_ProductFrames fp0 fp1 gp0 gp1).1).1), .slice b76 ((((F_s_ProductFrames fp0 fp1 gp0 gp1).1).2).length) c77]) hE858 (y_loadS Try.underlying53 rfl (by kernel_rfl) rfl (St.row (i := 13) hS856 rfl)) rfl rfl rfl ?_; intro a859 hE860; clear hE858
                            refine l_step hE860 rfl (l_call (f := 40) (argv := [.agg #[.int .i64 (((F_ProductFrames fp0 fp1 gp0 gp1).1).1), .slice b667 ((((F_ProductFrames fp0 fp1 gp0 gp1).1).2).length) c668], .agg #[.int .i64 (((F_s_ProductFrames fp0 fp1 gp0 gp1).1).1), .slice b76 ((((F_s_ProductFrames fp0 fp1 gp0 gp1).1).2).length) c77]]) hE860 (fun _ => cf_l_eqFrame _ _) rfl rfl (d_l_eqFrame (((F_ProductFrames fp0 fp1 gp0 gp1).1).1) b667 ((((F_ProductFrames fp0 fp1 gp0 gp1).1).2).length) c668 (((F_ProductFrames fp0 fp1 gp0 gp1).1).2) (((F_s_ProductFrames fp0 fp1 gp0 gp1).1).1) b76 ((((F_s_ProductFrames fp0 fp1 gp0 gp1).1).2).length) c77 (((F_s_ProductFrames fp0 fp1 gp0 gp1).1).2) w854 (St.rdO (i := 14) hS856 rfl) (St.rdO (i := 12) hS856 rfl)) ?_)
                            rintro _ w862 ⟨rfl, he866⟩ a863 hE864; clear hE860
                            have hS865 := St.go hS856 he866; clear hS856
                            refine q_step (v := .bool (!(decide (((((F_ProductFrames fp0 fp1 gp0 gp1).1).1), (((F_ProductFrames fp0 fp1 gp0 gp1).1).2)) = ((((F_s_ProductFrames fp0 fp1 gp0 gp1).1).1), (((F_s_ProductFrames fp0 fp1 gp0 gp1).1).2)))))) hE864 (y_not rfl) rfl rfl rfl ?_; intro a867 hE868; clear hE864
                            refine q_step (v := .bool (!(decide (((((F_ProductFrames fp0 fp1 gp0 gp1).1).1), (((F_ProductFrames fp0 fp1 gp0 gp1).1).2)) = ((((F_s_ProductFrames fp0 fp1 gp0 gp1).1).1), (((F_s_ProductFrames fp0 fp1 gp0 gp1).1).2)))))) hE868 (y_move rfl) rfl rfl rfl ?_; intro a869 hE870; clear hE868
                            rcases Bool.eq_false_or_eq_true (!(decide (((((F_ProductFrames fp0 fp1 gp0 gp1).1).1), (((F_ProductFrames fp0 fp1 gp0 gp1).1).2)) = ((((F_s_ProductFrames fp0 fp1 gp0 gp1).1).1), (((F_s_ProductFrames fp0 fp1 gp0 gp1).1).2))))) with hb871 | hb871
                            ·
                              have hE872 := hE870; rw [hb871] at hE872; clear hE870
                              have ht873 := bn_t hb871
                              have hp874 := of_decide_eq_false ht873
                              refine q_skip hE872 rfl rfl rfl ?_; intro a875 hE876; clear hE872
                              refine q_skip hE876 rfl rfl rfl ?_; intro a877 hE878; clear hE876
                              refine q_skip hE878 rfl rfl rfl ?_; intro a879 hE880; clear hE878
                              refine q_step (v := .bool true) hE880 (y_pick (b := true) rfl rfl) rfl rfl rfl ?_; intro a881 hE882; clear hE880
                              refine c_nil ?_
                              have hE883 := hE882.sub (L' := [(10, .pointer (some ⟨b330, 0, none⟩)), (13, .int .i64 (1 + ((((F_ProductFrames fp0 fp1 gp0 gp1).1).2).length : Int))), (110, .bool true)]) ⟨rfl, rfl, rfl, trivial⟩; clear hE882
                              refine p_tn ?_
                              have hE884 := hE883.sub (L' := [(10, .pointer (some ⟨b330, 0, none⟩)), (13, .int .i64 (1 + ((((F_ProductFrames fp0 fp1 gp0 gp1).1).2).length : Int))), (110, .bool true)]) ⟨rfl, rfl, rfl, trivial⟩
                              have hS885 := (St.pick (Γ' := [.own 2 1 b320 ((((F_ProductFrames fp0 fp1 gp0 gp1).1).2).length) c321 (marked (((F_ProductFrames fp0 fp1 gp0 gp1).1).2).length 1), .own 2 1 b294 ((gp1).length) c295 (marked gp1.length (1 + (fp1.length : Int))), .own 2 1 b270 ((fp1).length) c271 (marked fp1.length 1), .own 2 1 b452 ((gp1).length) c453 gp1, .own 2 1 b417 ((fp1).length) c418 fp1, .blk b330 #[.int .i64 (((F_ProductFrames fp0 fp1 gp0 gp1).1).1), .slice b320 ((((F_ProductFrames fp0 fp1 gp0 gp1).1).2).length) c321] 53, .blk b297 #[.int .i64 gp0, .slice b294 ((gp1).length) c295] 53, .blk b273 #[.int .i64 fp0, .slice b270 ((fp1).length) c271] 53, .rd 1 gp1A gp1.length gp1C gp1, .blk b9 #[.int .i64 gp0, .slice gp1A gp1.length gp1C] 51, .rd 1 fp1A fp1.length fp1C fp1, .blk b3 #[.int .i64 fp0, .slice fp1A fp1.length fp1C] 51, .own 2 1 b76 ((((F_s_ProductFrames fp0 fp1 gp0 gp1).1).2).length) c77 (((F_s_ProductFrames fp0 fp1 gp0 gp1).1).2), .blk b75 #[.int .i64 (((F_s_ProductFrames fp0 fp1 gp0 gp1).1).1), .slice b76 ((((F_s_ProductFrames fp0 fp1 gp0 gp1).1).2).length) c77] 53, .own 2 1 b667 ((((F_ProductFrames fp0 fp1 gp0 gp1).1).2).length) c668 (((F_ProductFrames fp0 fp1 gp0 gp1).1).2), .blk b666 #[.int .i64 (((F_ProductFrames fp0 fp1 gp0 gp1).1).1), .slice b667 ((((F_ProductFrames fp0 fp1 gp0 gp1).1).2).length) c668] 53]) hS865 [0, 1, 2, 3, 4, 5, 6, 7, 8, 9, 10, 11, 12, 13, 14, 15] (by decide) rfl)
                              exact ⟨(by rw [hb871]; exact hE884), hS885⟩
                            ·
                              have hE886 := hE870; rw [hb871] at hE886; clear hE870
                              have ht887 := bn_f hb871
                              have hp888 := of_decide_eq_true ht887
                              refine q_step (v := .int .i64 ((F_ProductFrames fp0 fp1 gp0 gp1).2)) hE886 (y_move rfl) rfl rfl rfl ?_; intro a889 hE890; clear hE886
                              refine q_step (v := .int .i64 ((F_s_ProductFrames fp0 fp1 gp0 gp1).2)) hE890 (y_move rfl) rfl rfl rfl ?_; intro a891 hE892; clear hE890
                              refine q_step (v := .bool (!decide (((F_ProductFrames fp0 fp1 gp0 gp1).2) = ((F_s_ProductFrames fp0 fp1 gp0 gp1).2)))) hE892 (y_neq rfl rfl) rfl rfl rfl ?_; intro a893 hE894; clear hE892
                              refine q_step (v := .bool (!decide (((F_ProductFrames fp0 fp1 gp0 gp1).2) = ((F_s_ProductFrames fp0 fp1 gp0 gp1).2)))) hE894 (y_pick (b := false) rfl rfl) rfl rfl rfl ?_; intro a895 hE896; clear hE894
                              refine c_nil ?_
                              have hE897 := hE896.sub (L' := [(10, .pointer (some ⟨b330, 0, none⟩)), (13, .int .i64 (1 + ((((F_ProductFrames fp0 fp1 gp0 gp1).1).2).length : Int))), (110, .bool (!decide (((F_ProductFrames fp0 fp1 gp0 gp1).2) = ((F_s_ProductFrames fp0 fp1 gp0 gp1).2))))]) ⟨rfl, rfl, rfl, trivial⟩; clear hE896
                              refine p_tn ?_
                              have hE898 := hE897.sub (L' := [(10, .pointer (some ⟨b330, 0, none⟩)), (13, .int .i64 (1 + ((((F_ProductFrames fp0 fp1 gp0 gp1).1).2).length : Int))), (110, .bool (!decide (((F_ProductFrames fp0 fp1 gp0 gp1).2) = ((F_s_ProductFrames fp0 fp1 gp0 gp1).2))))]) ⟨rfl, rfl, rfl, trivial⟩
                              have hS899 := (St.pick (Γ' := [.own 2 1 b320 ((((F_ProductFrames fp0 fp1 gp0 gp1).1).2).length) c321 (marked (((F_ProductFrames fp0 fp1 gp0 gp1).1).2).length 1), .own 2 1 b294 ((gp1).length) c295 (marked gp1.length (1 + (fp1.length : Int))), .own 2 1 b270 ((fp1).length) c271 (marked fp1.length 1), .own 2 1 b452 ((gp1).length) c453 gp1, .own 2 1 b417 ((fp1).length) c418 fp1, .blk b330 #[.int .i64 (((F_ProductFrames fp0 fp1 gp0 gp1).1).1), .slice b320 ((((F_ProductFrames fp0 fp1 gp0 gp1).1).2).length) c321] 53, .blk b297 #[.int .i64 gp0, .slice b294 ((gp1).length) c295] 53, .blk b273 #[.int .i64 fp0, .slice b270 ((fp1).length) c271] 53, .rd 1 gp1A gp1.length gp1C gp1, .blk b9 #[.int .i64 gp0, .slice gp1A gp1.length gp1C] 51, .rd 1 fp1A fp1.length fp1C fp1, .blk b3 #[.int .i64 fp0, .slice fp1A fp1.length fp1C] 51, .own 2 1 b76 ((((F_s_ProductFrames fp0 fp1 gp0 gp1).1).2).length) c77 (((F_s_ProductFrames fp0 fp1 gp0 gp1).1).2), .blk b75 #[.int .i64 (((F_s_ProductFrames fp0 fp1 gp0 gp1).1).1), .slice b76 ((((F_s_ProductFrames fp0 fp1 gp0 gp1).1).2).length) c77] 53, .own 2 1 b667 ((((F_ProductFrames fp0 fp1 gp0 gp1).1).2).length) c668 (((F_ProductFrames fp0 fp1 gp0 gp1).1).2), .blk b666 #[.int .i64 (((F_ProductFrames fp0 fp1 gp0 gp1).1).1), .slice b667 ((((F_ProductFrames fp0 fp1 gp0 gp1).1).2).length) c668] 53]) hS865 [0, 1, 2, 3, 4, 5, 6, 7, 8, 9, 10, 11, 12, 13, 14, 15] (by decide) rfl)
                              exact ⟨(by rw [hb871]; exact hE898), hS899⟩
                          ·
                            rintro a900 w901 ⟨hE902, hS903⟩; clear hE855 hS856
                            have hE904 := hE902; rw [ht392] at hE904; clear hE902
                            refine c_false hE904 rfl ?_
                            refine wp_skip ?_
                            refine p_tn ?_
                            refine c_seq ?_
                            refine c_reg ?_
                            refine q_step (v := .int .i64 1) hE904 (y_assign rfl) rfl rfl rfl ?_; intro a905 hE906; clear hE904
                            refine c_nil ?_
                            have hE907 := hE906.sub (L' := [(10, .pointer (some ⟨b330, 0, none⟩)), (13, .int .i64 (1 + ((((F_ProductFrames fp0 fp1 gp0 gp1).1).2).length : Int))), (14, .int .i64 1)]) ⟨rfl, rfl, rfl, trivial⟩; clear hE906
                            refine p_tn ?_
                            refine c_seq ?_
                            refine c_reg ?_
                            refine q_step (v := .agg #[.int .i64 (((F_ProductFrames fp0 fp1 gp0 gp1).1).1), .slice b320 ((((F_ProductFrames fp0 fp1 gp0 gp1).1).2).length) c321]) hE907 (y_loadS Try.underlying53 rfl (by kernel_rfl) rfl (St.row (i := 5) hS903 rfl)) rfl rfl rfl ?_; intro a908 hE909; clear hE907
                            refine q_step (v := .int .i64 1) hE909 (y_move rfl) rfl rfl rfl ?_; intro a910 hE911; clear hE909
                            refine l_step hE911 rfl (l_call (f := 42) (argv := [.agg #[.int .i64 (((F_ProductFrames fp0 fp1 gp0 gp1).1).1), .slice b320 ((((F_ProductFrames fp0 fp1 gp0 gp1).1).2).length) c321], .int .i64 1]) hE911 (fun _ => cf_l_heldFrame _ _) rfl rfl (c_l_heldFrame (((F_ProductFrames fp0 fp1 gp0 gp1).1).1) b320 ((((F_ProductFrames fp0 fp1 gp0 gp1).1).2).length) c321 (marked (((F_ProductFrames fp0 fp1 gp0 gp1).1).2).length 1) 1 w901 (St.rdO (i := 0) hS903 rfl) (by first | omega | (simp only [marked_len]; omega)) (by first | omega | (simp only [marked_len]; omega)) (by first | omega | (simp only [marked_len]; omega))) ?_)
                            rintro _ w913 ⟨rfl, he917⟩ a914 hE915; clear hE911
                            have hS916 := St.go hS903 he917; clear hS903
                            refine q_step (v := .int .i64 (F_l_heldFrame (((F_ProductFrames fp0 fp1 gp0 gp1).1).1) (marked (((F_ProductFrames fp0 fp1 gp0 gp1).1).2).length 1) 1)) hE915 (y_assign rfl) rfl rfl rfl ?_; intro a918 hE919; clear hE915
                            refine c_nil ?_
                            have hE920 := hE919.sub (L' := [(13, .int .i64 (1 + ((((F_ProductFrames fp0 fp1 gp0 gp1).1).2).length : Int))), (14, .int .i64 (F_l_heldFrame (((F_ProductFrames fp0 fp1 gp0 gp1).1).1) (marked (((F_ProductFrames fp0 fp1 gp0 gp1).1).2).length 1) 1))]) ⟨rfl, rfl, trivial⟩; clear hE919
                            refine p_tn ?_
                            refine c_seq ?_
                            refine c_seq ?_
                            refine c_reg ?_
                            refine q_step (v := .int .i64 (F_l_heldFrame (((F_ProductFrames fp0 fp1 gp0 gp1).1).1) (marked (((F_ProductFrames fp0 fp1 gp0 gp1).1).2).length 1) 1)) hE920 (y_move rfl) rfl rfl rfl ?_; intro a921 hE922; clear hE920
                            refine q_step (v := .bool (decide ((F_l_heldFrame (((F_ProductFrames fp0 fp1 gp0 gp1).1).1) (marked (((F_ProductFrames fp0 fp1 gp0 gp1).1).2).length 1) 1) < 0))) hE922 (y_lss rfl rfl) rfl rfl rfl ?_; intro a923 hE924; clear hE922
                            refine c_nil ?_
                            have hE925 := hE924.sub (L' := [(13, .int .i64 (1 + ((((F_ProductFrames fp0 fp1 gp0 gp1).1).2).length : Int))), (14, .int .i64 (F_l_heldFrame (((F_ProductFrames fp0 fp1 gp0 gp1).1).1) (marked (((F_ProductFrames fp0 fp1 gp0 gp1).1).2).length 1) 1)), (115, .bool (decide ((F_l_heldFrame (((F_ProductFrames fp0 fp1 gp0 gp1).1).1) (marked (((F_ProductFrames fp0 fp1 gp0 gp1).1).2).length 1) 1) < 0)))]) ⟨rfl, rfl, rfl, trivial⟩; clear hE924
                            refine p_tn ?_
                            have hE926 := hE925; rw [ht641] at hE926; clear hE925
                            refine c_false hE926 rfl ?_
                            refine wp_skip ?_
                            refine p_tn ?_
                            refine c_seq ?_
                            refine c_seq ?_
                            refine c_reg ?_
                            refine q_step (v := .int .i64 (F_l_heldFrame (((F_ProductFrames fp0 fp1 gp0 gp1).1).1) (marked (((F_ProductFrames fp0 fp1 gp0 gp1).1).2).length 1) 1)) hE926 (y_move rfl) rfl rfl rfl ?_; intro a927 hE928; clear hE926
                            refine q_step (v := .int .i64 (1 + ((((F_ProductFrames fp0 fp1 gp0 gp1).1).2).length : Int))) hE928 (y_move rfl) rfl rfl rfl ?_; intro a929 hE930; clear hE928
                            refine q_step (v := .bool (!decide ((F_l_heldFrame (((F_ProductFrames fp0 fp1 gp0 gp1).1).1) (marked (((F_ProductFrames fp0 fp1 gp0 gp1).1).2).length 1) 1) = (1 + ((((F_ProductFrames fp0 fp1 gp0 gp1).1).2).length : Int))))) hE930 (y_neq rfl rfl) rfl rfl rfl ?_; intro a931 hE932; clear hE930
                            refine c_nil ?_
                            have hE933 := hE932.sub (L' := [(118, .bool (!decide ((F_l_heldFrame (((F_ProductFrames fp0 fp1 gp0 gp1).1).1) (marked (((F_ProductFrames fp0 fp1 gp0 gp1).1).2).length 1) 1) = (1 + ((((F_ProductFrames fp0 fp1 gp0 gp1).1).2).length : Int)))))]) ⟨rfl, trivial⟩; clear hE932
                            refine p_tn ?_
                            have hE934 := hE933; rw [ht656] at hE934; clear hE933
                            refine c_false hE934 rfl ?_
                            refine wp_skip ?_
                            refine p_tn ?_
                            refine c_seq ?_
                            refine c_reg ?_
                            refine q_step (v := .bool true) hE934 (y_assign rfl) rfl rfl rfl ?_; intro a935 hE936; clear hE934
                            refine c_nil ?_
                            have hE937 := hE936.sub (L' := [(4, .bool true)]) ⟨rfl, trivial⟩; clear hE936
                            refine p_tn ?_
                            refine wp_ret ?_
                            have hF : F_l_FnExactProductFrames fp0 fp1 gp0 gp1 = true := by unfold F_l_FnExactProductFrames; rw [ht656, ht641, ht588, ht464, ht429, ht392, ht66, ht39]; first | done | rfl
                            refine c_ret1 hE937 rfl rfl ?_
                            exact ⟨(by rw [hF]; first | done | rfl), hS916.ext⟩

theorem FnExactProductFrames_true (fp0 : Int) (fp1 : List Int) (gp0 : Int) (gp1 : List Int) : F_l_FnExactProductFrames fp0 fp1 gp0 gp1 = true := by
  unfold F_l_FnExactProductFrames
  rw [ProductFrames_eq, heldFrame_eq _ _ _ (by omega)]
  have h1 : decide (1 + (fp1.length : Int) + (gp1.length : Int) < 0) = false := decide_eq_false (by omega)
  have h2 : decide ((1 : Int) + ((F_s_ProductFrames fp0 fp1 gp0 gp1).1.2.length : Int) < 0) = false := decide_eq_false (by omega)
  simp [h1, h2]

end Go.Proofs.Ytfilpikakdlgbaa
