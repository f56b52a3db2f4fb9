/- GLPM: models and contracts, printed by wip/gen/gen.py -/
import Derived.Test.YtejfjcjdilbkdaaGAM
import Derived.Test.YtejfjcjdilbkdaaGPM
set_option linter.unusedVariables false
set_option linter.unusedSimpArgs false
namespace Go.Proofs.Ytejfjcjdilbkdaa
open Go.RowKit

def F_l_FnExactPartOfModel (mp0 : Int) (mp1 : List Int) (mp2 : List Int) (mask : Int) : Bool :=
  bif (decide ((F_l_szModel mp0 mp1 mp2 1048576) < 0)) then true else (bif ((!(decide (((((F_PartOfModel mp0 mp1 mp2 mask).1).1), (((F_PartOfModel mp0 mp1 mp2 mask).1).2.1), (((F_PartOfModel mp0 mp1 mp2 mask).1).2.2)) = ((((F_s_PartOfModel mp0 mp1 mp2 mask).1).1), (((F_s_PartOfModel mp0 mp1 mp2 mask).1).2.1), (((F_s_PartOfModel mp0 mp1 mp2 mask).1).2.2))))) || (!decide (((F_PartOfModel mp0 mp1 mp2 mask).2) = ((F_s_PartOfModel mp0 mp1 mp2 mask).2)))) then false else (bif (!(decide ((mp0, mp1, mp2) = (mp0, mp1, mp2)))) then false else (bif ((decide ((1 + (mp1.length : Int) + (mp2.length : Int)) < 0)) || ((!(decide (((((F_PartOfModel mp0 mp1 mp2 mask).1).1), (((F_PartOfModel mp0 mp1 mp2 mask).1).2.1), (((F_PartOfModel mp0 mp1 mp2 mask).1).2.2)) = ((((F_s_PartOfModel mp0 mp1 mp2 mask).1).1), (((F_s_PartOfModel mp0 mp1 mp2 mask).1).2.1), (((F_s_PartOfModel mp0 mp1 mp2 mask).1).2.2))))) || (!decide (((F_PartOfModel mp0 mp1 mp2 mask).2) = ((F_s_PartOfModel mp0 mp1 mp2 mask).2))))) then false else (bif (decide ((F_l_heldModel (((F_PartOfModel mp0 mp1 mp2 mask).1).1) (marked (((F_PartOfModel mp0 mp1 mp2 mask).1).2.1).length 1) (marked (((F_PartOfModel mp0 mp1 mp2 mask).1).2.2).length (1 + ((((F_PartOfModel mp0 mp1 mp2 mask).1).2.1).length : Int))) 1) < 0)) then false else (bif (!decide ((F_l_heldModel (((F_PartOfModel mp0 mp1 mp2 mask).1).1) (marked (((F_PartOfModel mp0 mp1 mp2 mask).1).2.1).length 1) (marked (((F_PartOfModel mp0 mp1 mp2 mask).1).2.2).length (1 + ((((F_PartOfModel mp0 mp1 mp2 mask).1).2.1).length : Int))) 1) = (1 + ((((F_PartOfModel mp0 mp1 mp2 mask).1).2.1).length : Int) + ((((F_PartOfModel mp0 mp1 mp2 mask).1).2.2).length : Int)))) then false else true)))))
theorem cf_l_FnExactPartOfModel (args : Array Value) (w : World) : (callFunc 6 args).run Try.prog w = .ok (.enter 6 args) w := by kernel_rfl
set_option maxRecDepth 100000 in
theorem c_l_FnExactPartOfModel (mp0 : Int) (mp1A : Option Addr) (mp1N mp1C : Nat) (mp1 : List Int) (mp2A : Option Addr) (mp2N mp2C : Nat) (mp2 : List Int) (mask : Int) (w : World) (mp1R : RdS w 1 mp1A mp1N mp1C mp1) (mp2R : RdS w 1 mp2A mp2N mp2C mp2) :
    Calls Try.prog 6 #[.agg #[.int .i64 mp0, .slice mp1A mp1N mp1C, .slice mp2A mp2N mp2C], .int .i64 mask] w (Ret fun v w' => v = .bool (F_l_FnExactPartOfModel mp0 mp1 mp2 mask) ∧ Ext w w') := by
  obtain rfl : mp1N = mp1.length := mp1R.len1.symm
  have mp1Le := mp1R.le
  obtain rfl : mp2N = mp2.length := mp2R.len1.symm
  have mp2Le := mp2R.le
  have hS := St.nil w
  have hS1 := St.rd0 hS rfl mp1R; clear hS
  have hS2 := St.rd0 hS1 rfl mp2R; clear hS1
  refine enter (args := [.agg #[.int .i64 mp0, .slice mp1A mp1.length mp1C, .slice mp2A mp2.length mp2C], .int .i64 mask]) Try.func6 rfl rfl ?_
  rw [Try.ntmps6]; intro a hE
  have hE := hE.sub (L' := [(0, .agg #[.int .i64 mp0, .slice mp1A mp1.length mp1C, .slice mp2A mp2.length mp2C]), (1, .int .i64 mask)]) ⟨rfl, rfl, trivial⟩
  refine c_seq ?_
  refine c_reg ?_
  refine l_step hE rfl (l_box (v := .agg #[.int .i64 mp0, .slice mp1A mp1.length mp1C, .slice mp2A mp2.length mp2C]) (cs := #[.int .i64 mp0, .slice mp1A mp1.length mp1C, .slice mp2A mp2.length mp2C]) hS2 hE rfl rfl rfl ?_)
  intro b3 w4 hS7 he8 a5 hE6; clear hS2 hE
  refine q_step (v := .bool false) hE6 (y_assign rfl) rfl rfl rfl ?_; intro a9 hE10; clear hE6
  refine c_nil ?_
  have hE11 := hE10.sub (L' := [(1, .int .i64 mask), (2, .pointer (some ⟨b3, 0, none⟩))]) ⟨rfl, rfl, trivial⟩; clear hE10
  refine p_tn ?_
  refine c_seq ?_
  refine c_reg ?_
  refine q_step (v := .int .i64 1048576) hE11 (y_assign rfl) rfl rfl rfl ?_; intro a12 hE13; clear hE11
  refine c_nil ?_
  have hE14 := hE13.sub (L' := [(1, .int .i64 mask), (2, .pointer (some ⟨b3, 0, none⟩)), (5, .int .i64 1048576)]) ⟨rfl, rfl, rfl, trivial⟩; clear hE13
  refine p_tn ?_
  refine c_seq ?_
  refine c_reg ?_
  refine q_step (v := .agg #[.int .i64 mp0, .slice mp1A mp1.length mp1C, .slice mp2A mp2.length mp2C]) hE14 (y_loadS Try.underlying35 rfl (by kernel_rfl) rfl (St.row (i := 0) hS7 rfl)) rfl rfl rfl ?_; intro a15 hE16; clear hE14
  refine q_step (v := .int .i64 1048576) hE16 (y_move rfl) rfl rfl rfl ?_; intro a17 hE18; clear hE16
  refine l_step hE18 rfl (l_call (f := 22) (argv := [.agg #[.int .i64 mp0, .slice mp1A mp1.length mp1C, .slice mp2A mp2.length mp2C], .int .i64 1048576]) hE18 (fun _ => cf_l_szModel _ _) rfl rfl (c_l_szModel mp0 mp1A mp1.length mp1C mp1 mp2A mp2.length mp2C mp2 1048576 w4 (St.rdR (i := 2) hS7 rfl) (St.rdR (i := 1) hS7 rfl) (by first | omega | (simp only [marked_len]; omega)) (by first | omega | (simp only [marked_len]; omega))) ?_)
  rintro _ w20 ⟨rfl, he24⟩ a21 hE22; clear hE18
  have hS23 := St.go hS7 he24; clear hS7
  refine q_step (v := .int .i64 (F_l_szModel mp0 mp1 mp2 1048576)) hE22 (y_assign rfl) rfl rfl rfl ?_; intro a25 hE26; clear hE22
  refine c_nil ?_
  have hE27 := hE26.sub (L' := [(1, .int .i64 mask), (2, .pointer (some ⟨b3, 0, none⟩)), (5, .int .i64 (F_l_szModel mp0 mp1 mp2 1048576))]) ⟨rfl, rfl, rfl, trivial⟩; clear hE26
  refine p_tn ?_
  refine c_seq ?_
  refine c_seq ?_
  refine c_reg ?_
  refine q_step (v := .int .i64 (F_l_szModel mp0 mp1 mp2 1048576)) hE27 (y_move rfl) rfl rfl rfl ?_; intro a28 hE29; clear hE27
  refine q_step (v := .bool (decide ((F_l_szModel mp0 mp1 mp2 1048576) < 0))) hE29 (y_lss rfl rfl) rfl rfl rfl ?_; intro a30 hE31; clear hE29
  refine c_nil ?_
  have hE32 := hE31.sub (L' := [(1, .int .i64 mask), (2, .pointer (some ⟨b3, 0, none⟩)), (20, .bool (decide ((F_l_szModel mp0 mp1 mp2 1048576) < 0)))]) ⟨rfl, rfl, rfl, trivial⟩; clear hE31
  refine p_tn ?_
  refine c_cond hE32 rfl (fun ht33 => ?_) (fun ht33 => ?_)
  ·
    have hp34 := of_decide_eq_true ht33
    have hE35 := hE32; rw [ht33] at hE35; clear hE32
    refine c_seq ?_
    refine c_reg ?_
    refine q_step (v := .bool true) hE35 (y_assign rfl) rfl rfl rfl ?_; intro a36 hE37; clear hE35
    refine c_nil ?_
    have hE38 := hE37.sub (L' := [(4, .bool true)]) ⟨rfl, trivial⟩; clear hE37
    refine p_tn ?_
    refine wp_ret ?_
    refine p_tr ?_
    have hF : F_l_FnExactPartOfModel mp0 mp1 mp2 mask = true := by unfold F_l_FnExactPartOfModel; rw [ht33]; first | done | rfl
    refine c_ret1 hE38 rfl rfl ?_
    exact ⟨(by rw [hF]; first | done | rfl), hS23.ext⟩
  ·
    have hp39 := of_decide_eq_false ht33
    have hq40 := szModel_bound hp39
    have hE41 := hE32; rw [ht33] at hE41; clear hE32
    refine wp_skip ?_
    refine p_tn ?_
    refine c_seq ?_
    refine c_reg ?_
    refine q_step (v := .agg #[.int .i64 mp0, .slice mp1A mp1.length mp1C, .slice mp2A mp2.length mp2C]) hE41 (y_loadS Try.underlying35 rfl (by kernel_rfl) rfl (St.row (i := 0) hS23 rfl)) rfl rfl rfl ?_; intro a42 hE43; clear hE41
    refine l_step hE43 rfl (l_call (f := 24) (argv := [.agg #[.int .i64 mp0, .slice mp1A mp1.length mp1C, .slice mp2A mp2.length mp2C]]) hE43 (fun _ => cf_l_toModel _ _) rfl rfl (d_l_toModel mp0 mp1A mp1.length mp1C mp1 mp2A mp2.length mp2C mp2 w20 (St.rdR (i := 2) hS23 rfl) (St.rdR (i := 1) hS23 rfl) (by first | omega | (simp only [marked_len]; omega)) (by first | omega | (simp only [marked_len]; omega))) ?_)
    rintro _ w45 ⟨b50, c51, b52, c53, rfl, ho54, he49⟩ a46 hE47; clear hE43
    have hS48 := St.push2 hS23 he49 ho54; clear hS23
    refine q_step (v := .int .i64 mask) hE47 (y_move rfl) rfl rfl rfl ?_; intro a56 hE57; clear hE47
    refine l_step hE57 rfl (l_call (f := 34) (argv := [.agg #[.int .i64 mp0, .slice b50 ((mp1).length) c51, .slice b52 ((mp2).length) c53], .int .i64 mask]) hE57 (fun _ => cf_s_PartOfModel _ _) rfl rfl (c_s_PartOfModel mp0 b50 ((mp1).length) c51 mp1 b52 ((mp2).length) c53 mp2 mask w45 (St.rdO (i := 0) hS48 rfl) (St.rdO (i := 1) hS48 rfl)) ?_)
    rintro _ w59 ⟨b64, c65, b66, c67, rfl, ho68, he63⟩ a60 hE61; clear hE57
    have hS62 := St.push2 hS48 he63 ho68; clear hS48
    refine q_step (v := .tuple #[.agg #[.int .i64 (((F_s_PartOfModel mp0 mp1 mp2 mask).1).1), .slice b64 ((((F_s_PartOfModel mp0 mp1 mp2 mask).1).2.1).length) c65, .slice b66 ((((F_s_PartOfModel mp0 mp1 mp2 mask).1).2.2).length) c67], .int .i64 ((F_s_PartOfModel mp0 mp1 mp2 mask).2)]) hE61 (y_move rfl) rfl rfl rfl ?_; intro a70 hE71; clear hE61
    refine q_step (v := .agg #[.int .i64 (((F_s_PartOfModel mp0 mp1 mp2 mask).1).1), .slice b64 ((((F_s_PartOfModel mp0 mp1 mp2 mask).1).2.1).length) c65, .slice b66 ((((F_s_PartOfModel mp0 mp1 mp2 mask).1).2.2).length) c67]) hE71 (y_extract rfl rfl) rfl rfl rfl ?_; intro a72 hE73; clear hE71
    refine q_step (v := .int .i64 ((F_s_PartOfModel mp0 mp1 mp2 mask).2)) hE73 (y_extract rfl rfl) rfl rfl rfl ?_; intro a74 hE75; clear hE73
    refine l_step hE75 rfl (l_alloc (z := .agg #[.int .i64 0, .slice none 0 0, .slice none 0 0]) (cs := #[.int .i64 0, .slice none 0 0, .slice none 0 0]) hS62 hE75 (fun _ => by kernel_rfl) rfl rfl ?_)
    intro b76 w77 hS80 he81 a78 hE79; clear hS62 hE75
    refine l_step hE79 rfl (l_storeS (k := 0) (cs' := #[.int .i64 (((F_s_PartOfModel mp0 mp1 mp2 mask).1).1), .slice b64 ((((F_s_PartOfModel mp0 mp1 mp2 mask).1).2.1).length) c65, .slice b66 ((((F_s_PartOfModel mp0 mp1 mp2 mask).1).2.2).length) c67]) hS80 hE79 (by kernel_rfl) rfl rfl (by kernel_rfl) rfl rfl ?_)
    intro w83 hS86 a84 hE85; clear hS80 hE79
    refine q_step (v := .int .i64 ((F_s_PartOfModel mp0 mp1 mp2 mask).2)) hE85 (y_assign rfl) rfl rfl rfl ?_; intro a88 hE89; clear hE85
    refine c_nil ?_
    have hE90 := hE89.sub (L' := [(1, .int .i64 mask), (2, .pointer (some ⟨b3, 0, none⟩)), (6, .pointer (some ⟨b76, 0, none⟩)), (7, .int .i64 ((F_s_PartOfModel mp0 mp1 mp2 mask).2))]) ⟨rfl, rfl, rfl, rfl, trivial⟩; clear hE89
    refine p_tn ?_
    refine c_seq ?_
    refine c_reg ?_
    refine q_step (v := .agg #[.int .i64 mp0, .slice mp1A mp1.length mp1C, .slice mp2A mp2.length mp2C]) hE90 (y_loadS Try.underlying35 rfl (by kernel_rfl) rfl (St.row (i := 5) hS86 rfl)) rfl rfl rfl ?_; intro a91 hE92; clear hE90
    refine l_step hE92 rfl (l_call (f := 24) (argv := [.agg #[.int .i64 mp0, .slice mp1A mp1.length mp1C, .slice mp2A mp2.length mp2C]]) hE92 (fun _ => cf_l_toModel _ _) rfl rfl (d_l_toModel mp0 mp1A mp1.length mp1C mp1 mp2A mp2.length mp2C mp2 w83 (St.rdR (i := 7) hS86 rfl) (St.rdR (i := 6) hS86 rfl) (by first | omega | (simp only [marked_len]; omega)) (by first | omega | (simp only [marked_len]; omega))) ?_)
    rintro _ w94 ⟨b99, c100, b101, c102, rfl, ho103, he98⟩ a95 hE96; clear hE92
    have hS97 := St.push2 hS86 he98 ho103; clear hS86
    refine l_step hE96 rfl (l_alloc (z := .agg #[.int .i64 0, .slice none 0 0, .slice none 0 0]) (cs := #[.int .i64 0, .slice none 0 0, .slice none 0 0]) hS97 hE96 (fun _ => by kernel_rfl) rfl rfl ?_)
    intro b105 w106 hS109 he110 a107 hE108; clear hS97 hE96
    refine l_step hE108 rfl (l_storeS (k := 0) (cs' := #[.int .i64 mp0, .slice b99 ((mp1).length) c100, .slice b101 ((mp2).length) c102]) hS109 hE108 (by kernel_rfl) rfl rfl (by kernel_rfl) rfl rfl ?_)
    intro w112 hS115 a113 hE114; clear hS109 hE108
    refine c_nil ?_
    have hE117 := hE114.sub (L' := [(1, .int .i64 mask), (2, .pointer (some ⟨b3, 0, none⟩)), (6, .pointer (some ⟨b76, 0, none⟩)), (7, .int .i64 ((F_s_PartOfModel mp0 mp1 mp2 mask).2)), (8, .pointer (some ⟨b105, 0, none⟩))]) ⟨rfl, rfl, rfl, rfl, rfl, trivial⟩; clear hE114
    refine p_tn ?_
    refine c_seq ?_
    refine c_reg ?_
    refine q_step (v := .agg #[.int .i64 mp0, .slice b99 ((mp1).length) c100, .slice b101 ((mp2).length) c102]) hE117 (y_loadS Try.underlying38 rfl (by kernel_rfl) rfl (St.row (i := 0) hS115 rfl)) rfl rfl rfl ?_; intro a118 hE119; clear hE117
    refine q_step (v := .int .i64 mask) hE119 (y_move rfl) rfl rfl rfl ?_; intro a120 hE121; clear hE119
    refine l_step hE121 rfl (l_call (f := 35) (argv := [.agg #[.int .i64 mp0, .slice b99 ((mp1).length) c100, .slice b101 ((mp2).length) c102], .int .i64 mask]) hE121 (fun _ => cf_PartOfModel _ _) rfl rfl (c_PartOfModel mp0 b99 ((mp1).length) c100 mp1 b101 ((mp2).length) c102 mp2 mask w112 (St.rdO (i := 1) hS115 rfl) (St.rdO (i := 2) hS115 rfl)) ?_)
    rintro _ w123 ⟨b128, c129, b130, c131, rfl, ho132, he127⟩ a124 hE125; clear hE121
    have hf134 := PartOfModel_len mp0 mp1 mp2 mask
    have hS126 := St.push2 hS115 he127 ho132; clear hS115
    refine q_step (v := .tuple #[.agg #[.int .i64 (((F_PartOfModel mp0 mp1 mp2 mask).1).1), .slice b128 ((((F_PartOfModel mp0 mp1 mp2 mask).1).2.1).length) c129, .slice b130 ((((F_PartOfModel mp0 mp1 mp2 mask).1).2.2).length) c131], .int .i64 ((F_PartOfModel mp0 mp1 mp2 mask).2)]) hE125 (y_move rfl) rfl rfl rfl ?_; intro a135 hE136; clear hE125
    refine q_step (v := .agg #[.int .i64 (((F_PartOfModel mp0 mp1 mp2 mask).1).1), .slice b128 ((((F_PartOfModel mp0 mp1 mp2 mask).1).2.1).length) c129, .slice b130 ((((F_PartOfModel mp0 mp1 mp2 mask).1).2.2).length) c131]) hE136 (y_extract rfl rfl) rfl rfl rfl ?_; intro a137 hE138; clear hE136
    refine q_step (v := .int .i64 ((F_PartOfModel mp0 mp1 mp2 mask).2)) hE138 (y_extract rfl rfl) rfl rfl rfl ?_; intro a139 hE140; clear hE138
    refine l_step hE140 rfl (l_alloc (z := .agg #[.int .i64 0, .slice none 0 0, .slice none 0 0]) (cs := #[.int .i64 0, .slice none 0 0, .slice none 0 0]) hS126 hE140 (fun _ => by kernel_rfl) rfl rfl ?_)
    intro b141 w142 hS145 he146 a143 hE144; clear hS126 hE140
    refine l_step hE144 rfl (l_storeS (k := 0) (cs' := #[.int .i64 (((F_PartOfModel mp0 mp1 mp2 mask).1).1), .slice b128 ((((F_PartOfModel mp0 mp1 mp2 mask).1).2.1).length) c129, .slice b130 ((((F_PartOfModel mp0 mp1 mp2 mask).1).2.2).length) c131]) hS145 hE144 (by kernel_rfl) rfl rfl (by kernel_rfl) rfl rfl ?_)
    intro w148 hS151 a149 hE150; clear hS145 hE144
    refine q_step (v := .int .i64 ((F_PartOfModel mp0 mp1 mp2 mask).2)) hE150 (y_assign rfl) rfl rfl rfl ?_; intro a153 hE154; clear hE150
    refine c_nil ?_
    have hE155 := hE154.sub (L' := [(1, .int .i64 mask), (2, .pointer (some ⟨b3, 0, none⟩)), (6, .pointer (some ⟨b76, 0, none⟩)), (7, .int .i64 ((F_s_PartOfModel mp0 mp1 mp2 mask).2)), (8, .pointer (some ⟨b105, 0, none⟩)), (9, .pointer (some ⟨b141, 0, none⟩)), (10, .int .i64 ((F_PartOfModel mp0 mp1 mp2 mask).2))]) ⟨rfl, rfl, rfl, rfl, rfl, rfl, rfl, trivial⟩; clear hE154
    refine p_tn ?_
    refine c_seq ?_
    refine c_cut (fun a' w' => E a' 101 [(1, .int .i64 mask), (2, .pointer (some ⟨b3, 0, none⟩)), (6, .pointer (some ⟨b76, 0, none⟩)), (7, .int .i64 ((F_s_PartOfModel mp0 mp1 mp2 mask).2)), (8, .pointer (some ⟨b105, 0, none⟩)), (9, .pointer (some ⟨b141, 0, none⟩)), (10, .int .i64 ((F_PartOfModel mp0 mp1 mp2 mask).2)), (44, .bool ((!(decide (((((F_PartOfModel mp0 mp1 mp2 mask).1).1), (((F_PartOfModel mp0 mp1 mp2 mask).1).2.1), (((F_PartOfModel mp0 mp1 mp2 mask).1).2.2)) = ((((F_s_PartOfModel mp0 mp1 mp2 mask).1).1), (((F_s_PartOfModel mp0 mp1 mp2 mask).1).2.1), (((F_s_PartOfModel mp0 mp1 mp2 mask).1).2.2))))) || (!decide (((F_PartOfModel mp0 mp1 mp2 mask).2) = ((F_s_PartOfModel mp0 mp1 mp2 mask).2)))))] ∧ St w w' [.own 2 1 b128 ((((F_PartOfModel mp0 mp1 mp2 mask).1).2.1).length) c129 (((F_PartOfModel mp0 mp1 mp2 mask).1).2.1), .own 2 1 b130 ((((F_PartOfModel mp0 mp1 mp2 mask).1).2.2).length) c131 (((F_PartOfModel mp0 mp1 mp2 mask).1).2.2), .blk b141 #[.int .i64 (((F_PartOfModel mp0 mp1 mp2 mask).1).1), .slice b128 ((((F_PartOfModel mp0 mp1 mp2 mask).1).2.1).length) c129, .slice b130 ((((F_PartOfModel mp0 mp1 mp2 mask).1).2.2).length) c131] 38, .own 2 1 b99 ((mp1).length) c100 mp1, .own 2 1 b101 ((mp2).length) c102 mp2, .blk b105 #[.int .i64 mp0, .slice b99 ((mp1).length) c100, .slice b101 ((mp2).length) c102] 38, .own 2 1 b64 ((((F_s_PartOfModel mp0 mp1 mp2 mask).1).2.1).length) c65 (((F_s_PartOfModel mp0 mp1 mp2 mask).1).2.1), .own 2 1 b66 ((((F_s_PartOfModel mp0 mp1 mp2 mask).1).2.2).length) c67 (((F_s_PartOfModel mp0 mp1 mp2 mask).1).2.2), .blk b76 #[.int .i64 (((F_s_PartOfModel mp0 mp1 mp2 mask).1).1), .slice b64 ((((F_s_PartOfModel mp0 mp1 mp2 mask).1).2.1).length) c65, .slice b66 ((((F_s_PartOfModel mp0 mp1 mp2 mask).1).2.2).length) c67] 38, .own 2 1 b50 ((mp1).length) c51 mp1, .own 2 1 b52 ((mp2).length) c53 mp2, .rd 1 mp1A mp1.length mp1C mp1, .rd 1 mp2A mp2.length mp2C mp2, .blk b3 #[.int .i64 mp0, .slice mp1A mp1.length mp1C, .slice mp2A mp2.length mp2C] 35]) ?_ ?_
    ·
      refine c_reg ?_
      refine q_step (v := .agg #[.int .i64 (((F_PartOfModel mp0 mp1 mp2 mask).1).1), .slice b128 ((((F_PartOfModel mp0 mp1 mp2 mask).1).2.1).length) c129, .slice b130 ((((F_PartOfModel mp0 mp1 mp2 mask).1).2.2).length) c131]) hE155 (y_loadS Try.underlying38 rfl (by kernel_rfl) rfl (St.row (i := 0) hS151 rfl)) rfl rfl rfl ?_; intro a156 hE157; clear hE155
      refine q_step (v := .agg #[.int .i64 (((F_s_PartOfModel mp0 mp1 mp2 mask).1).1), .slice b64 ((((F_s_PartOfModel mp0 mp1 mp2 mask).1).2.1).length) c65, .slice b66 ((((F_s_PartOfModel mp0 mp1 mp2 mask).1).2.2).length) c67]) hE157 (y_loadS Try.underlying38 rfl (by kernel_rfl) rfl (St.row (i := 6) hS151 rfl)) rfl rfl rfl ?_; intro a158 hE159; clear hE157
      refine l_step hE159 rfl (l_call (f := 26) (argv := [.agg #[.int .i64 (((F_PartOfModel mp0 mp1 mp2 mask).1).1), .slice b128 ((((F_PartOfModel mp0 mp1 mp2 mask).1).2.1).length) c129, .slice b130 ((((F_PartOfModel mp0 mp1 mp2 mask).1).2.2).length) c131], .agg #[.int .i64 (((F_s_PartOfModel mp0 mp1 mp2 mask).1).1), .slice b64 ((((F_s_PartOfModel mp0 mp1 mp2 mask).1).2.1).length) c65, .slice b66 ((((F_s_PartOfModel mp0 mp1 mp2 mask).1).2.2).length) c67]]) hE159 (fun _ => cf_l_eqModel _ _) rfl rfl (d_l_eqModel (((F_PartOfModel mp0 mp1 mp2 mask).1).1) b128 ((((F_PartOfModel mp0 mp1 mp2 mask).1).2.1).length) c129 (((F_PartOfModel mp0 mp1 mp2 mask).1).2.1) b130 ((((F_PartOfModel mp0 mp1 mp2 mask).1).2.2).length) c131 (((F_PartOfModel mp0 mp1 mp2 mask).1).2.2) (((F_s_PartOfModel mp0 mp1 mp2 mask).1).1) b64 ((((F_s_PartOfModel mp0 mp1 mp2 mask).1).2.1).length) c65 (((F_s_PartOfModel mp0 mp1 mp2 mask).1).2.1) b66 ((((F_s_PartOfModel mp0 mp1 mp2 mask).1).2.2).length) c67 (((F_s_PartOfModel mp0 mp1 mp2 mask).1).2.2) w148 (St.rdO (i := 1) hS151 rfl) (St.rdO (i := 2) hS151 rfl) (St.rdO (i := 7) hS151 rfl) (St.rdO (i := 8) hS151 rfl)) ?_)
      rintro _ w161 ⟨rfl, he165⟩ a162 hE163; clear hE159
      have hS164 := St.go hS151 he165; clear hS151
      refine q_step (v := .bool (!(decide (((((F_PartOfModel mp0 mp1 mp2 mask).1).1), (((F_PartOfModel mp0 mp1 mp2 mask).1).2.1), (((F_PartOfModel mp0 mp1 mp2 mask).1).2.2)) = ((((F_s_PartOfModel mp0 mp1 mp2 mask).1).1), (((F_s_PartOfModel mp0 mp1 mp2 mask).1).2.1), (((F_s_PartOfModel mp0 mp1 mp2 mask).1).2.2)))))) hE163 (y_not rfl) rfl rfl rfl ?_; intro a166 hE167; clear hE163
      refine q_step (v := .bool (!(decide (((((F_PartOfModel mp0 mp1 mp2 mask).1).1), (((F_PartOfModel mp0 mp1 mp2 mask).1).2.1), (((F_PartOfModel mp0 mp1 mp2 mask).1).2.2)) = ((((F_s_PartOfModel mp0 mp1 mp2 mask).1).1), (((F_s_PartOfModel mp0 mp1 mp2 mask).1).2.1), (((F_s_PartOfModel mp0 mp1 mp2 mask).1).2.2)))))) hE167 (y_move rfl) rfl rfl rfl ?_; intro a168 hE169; clear hE167
      rcases Bool.eq_false_or_eq_true (!(decide (((((F_PartOfModel mp0 mp1 mp2 mask).1).1), (((F_PartOfModel mp0 mp1 mp2 mask).1).2.1), (((F_PartOfModel mp0 mp1 mp2 mask).1).2.2)) = ((((F_s_PartOfModel mp0 mp1 mp2 mask).1).1), (((F_s_PartOfModel mp0 mp1 mp2 mask).1).2.1), (((F_s_PartOfModel mp0 mp1 mp2 mask).1).2.2))))) with hb170 | hb170
      ·
        have hE171 := hE169; rw [hb170] at hE171; clear hE169
        have ht172 := bn_t hb170
        have hp173 := of_decide_eq_false ht172
        refine q_skip hE171 rfl rfl rfl ?_; intro a174 hE175; clear hE171
        refine q_skip hE175 rfl rfl rfl ?_; intro a176 hE177; clear hE175
        refine q_skip hE177 rfl rfl rfl ?_; intro a178 hE179; clear hE177
        refine q_step (v := .bool true) hE179 (y_pick (b := true) rfl rfl) rfl rfl rfl ?_; intro a180 hE181; clear hE179
        refine c_nil ?_
        have hE182 := hE181.sub (L' := [(1, .int .i64 mask), (2, .pointer (some ⟨b3, 0, none⟩)), (6, .pointer (some ⟨b76, 0, none⟩)), (7, .int .i64 ((F_s_PartOfModel mp0 mp1 mp2 mask).2)), (8, .pointer (some ⟨b105, 0, none⟩)), (9, .pointer (some ⟨b141, 0, none⟩)), (10, .int .i64 ((F_PartOfModel mp0 mp1 mp2 mask).2)), (44, .bool true)]) ⟨rfl, rfl, rfl, rfl, rfl, rfl, rfl, rfl, trivial⟩; clear hE181
        refine p_tn ?_
        have hE183 := hE182.sub (L' := [(1, .int .i64 mask), (2, .pointer (some ⟨b3, 0, none⟩)), (6, .pointer (some ⟨b76, 0, none⟩)), (7, .int .i64 ((F_s_PartOfModel mp0 mp1 mp2 mask).2)), (8, .pointer (some ⟨b105, 0, none⟩)), (9, .pointer (some ⟨b141, 0, none⟩)), (10, .int .i64 ((F_PartOfModel mp0 mp1 mp2 mask).2)), (44, .bool true)]) ⟨rfl, rfl, rfl, rfl, rfl, rfl, rfl, rfl, trivial⟩
        have hS184 := (St.pick (Γ' := [.own 2 1 b128 ((((F_PartOfModel mp0 mp1 mp2 mask).1).2.1).length) c129 (((F_PartOfModel mp0 mp1 mp2 mask).1).2.1), .own 2 1 b130 ((((F_PartOfModel mp0 mp1 mp2 mask).1).2.2).length) c131 (((F_PartOfModel mp0 mp1 mp2 mask).1).2.2), .blk b141 #[.int .i64 (((F_PartOfModel mp0 mp1 mp2 mask).1).1), .slice b128 ((((F_PartOfModel mp0 mp1 mp2 mask).1).2.1).length) c129, .slice b130 ((((F_PartOfModel mp0 mp1 mp2 mask).1).2.2).length) c131] 38, .own 2 1 b99 ((mp1).length) c100 mp1, .own 2 1 b101 ((mp2).length) c102 mp2, .blk b105 #[.int .i64 mp0, .slice b99 ((mp1).length) c100, .slice b101 ((mp2).length) c102] 38, .own 2 1 b64 ((((F_s_PartOfModel mp0 mp1 mp2 mask).1).2.1).length) c65 (((F_s_PartOfModel mp0 mp1 mp2 mask).1).2.1), .own 2 1 b66 ((((F_s_PartOfModel mp0 mp1 mp2 mask).1).2.2).length) c67 (((F_s_PartOfModel mp0 mp1 mp2 mask).1).2.2), .blk b76 #[.int .i64 (((F_s_PartOfModel mp0 mp1 mp2 mask).1).1), .slice b64 ((((F_s_PartOfModel mp0 mp1 mp2 mask).1).2.1).length) c65, .slice b66 ((((F_s_PartOfModel mp0 mp1 mp2 mask).1).2.2).length) c67] 38, .own 2 1 b50 ((mp1).length) c51 mp1, .own 2 1 b52 ((mp2).length) c53 mp2, .rd 1 mp1A mp1.length mp1C mp1, .rd 1 mp2A mp2.length mp2C mp2, .blk b3 #[.int .i64 mp0, .slice mp1A mp1.length mp1C, .slice mp2A mp2.length mp2C] 35]) hS164 [1, 2, 0, 4, 5, 3, 7, 8, 6, 9, 10, 13, 12, 11] (by decide) rfl)
        exact ⟨(by rw [hb170]; exact hE183), hS184⟩
      ·
        have hE185 := hE169; rw [hb170] at hE185; clear hE169
        have ht186 := bn_f hb170
        have hp187 := of_decide_eq_true ht186
        refine q_step (v := .int .i64 ((F_PartOfModel mp0 mp1 mp2 mask).2)) hE185 (y_move rfl) rfl rfl rfl ?_; intro a188 hE189; clear hE185
        refine q_step (v := .int .i64 ((F_s_PartOfModel mp0 mp1 mp2 mask).2)) hE189 (y_move rfl) rfl rfl rfl ?_; intro a190 hE191; clear hE189
        refine q_step (v := .bool (!decide (((F_PartOfModel mp0 mp1 mp2 mask).2) = ((F_s_PartOfModel mp0 mp1 mp2 mask).2)))) hE191 (y_neq rfl rfl) rfl rfl rfl ?_; intro a192 hE193; clear hE191
        refine q_step (v := .bool (!decide (((F_PartOfModel mp0 mp1 mp2 mask).2) = ((F_s_PartOfModel mp0 mp1 mp2 mask).2)))) hE193 (y_pick (b := false) rfl rfl) rfl rfl rfl ?_; intro a194 hE195; clear hE193
        refine c_nil ?_
        have hE196 := hE195.sub (L' := [(1, .int .i64 mask), (2, .pointer (some ⟨b3, 0, none⟩)), (6, .pointer (some ⟨b76, 0, none⟩)), (7, .int .i64 ((F_s_PartOfModel mp0 mp1 mp2 mask).2)), (8, .pointer (some ⟨b105, 0, none⟩)), (9, .pointer (some ⟨b141, 0, none⟩)), (10, .int .i64 ((F_PartOfModel mp0 mp1 mp2 mask).2)), (44, .bool (!decide (((F_PartOfModel mp0 mp1 mp2 mask).2) = ((F_s_PartOfModel mp0 mp1 mp2 mask).2))))]) ⟨rfl, rfl, rfl, rfl, rfl, rfl, rfl, rfl, trivial⟩; clear hE195
        refine p_tn ?_
        have hE197 := hE196.sub (L' := [(1, .int .i64 mask), (2, .pointer (some ⟨b3, 0, none⟩)), (6, .pointer (some ⟨b76, 0, none⟩)), (7, .int .i64 ((F_s_PartOfModel mp0 mp1 mp2 mask).2)), (8, .pointer (some ⟨b105, 0, none⟩)), (9, .pointer (some ⟨b141, 0, none⟩)), (10, .int .i64 ((F_PartOfModel mp0 mp1 mp2 mask).2)), (44, .bool (!decide (((F_PartOfModel mp0 mp1 mp2 mask).2) = ((F_s_PartOfModel mp0 mp1 mp2 mask).2))))]) ⟨rfl, rfl, rfl, rfl, rfl, rfl, rfl, rfl, trivial⟩
        have hS198 := (St.pick (Γ' := [.own 2 1 b128 ((((F_PartOfModel mp0 mp1 mp2 mask).1).2.1).length) c129 (((F_PartOfModel mp0 mp1 mp2 mask).1).2.1), .own 2 1 b130 ((((F_PartOfModel mp0 mp1 mp2 mask).1).2.2).length) c131 (((F_PartOfModel mp0 mp1 mp2 mask).1).2.2), .blk b141 #[.int .i64 (((F_PartOfModel mp0 mp1 mp2 mask).1).1), .slice b128 ((((F_PartOfModel mp0 mp1 mp2 mask).1).2.1).length) c129, .slice b130 ((((F_PartOfModel mp0 mp1 mp2 mask).1).2.2).length) c131] 38, .own 2 1 b99 ((mp1).length) c100 mp1, .own 2 1 b101 ((mp2).length) c102 mp2, .blk b105 #[.int .i64 mp0, .slice b99 ((mp1).length) c100, .slice b101 ((mp2).length) c102] 38, .own 2 1 b64 ((((F_s_PartOfModel mp0 mp1 mp2 mask).1).2.1).length) c65 (((F_s_PartOfModel mp0 mp1 mp2 mask).1).2.1), .own 2 1 b66 ((((F_s_PartOfModel mp0 mp1 mp2 mask).1).2.2).length) c67 (((F_s_PartOfModel mp0 mp1 mp2 mask).1).2.2), .blk b76 #[.int .i64 (((F_s_PartOfModel mp0 mp1 mp2 mask).1).1), .slice b64 ((((F_s_PartOfModel mp0 mp1 mp2 mask).1).2.1).length) c65, .slice b66 ((((F_s_PartOfModel mp0 mp1 mp2 mask).1).2.2).length) c67] 38, .own 2 1 b50 ((mp1).length) c51 mp1, .own 2 1 b52 ((mp2).length) c53 mp2, .rd 1 mp1A mp1.length mp1C mp1, .rd 1 mp2A mp2.length mp2C mp2, .blk b3 #[.int .i64 mp0, .slice mp1A mp1.length mp1C, .slice mp2A mp2.length mp2C] 35]) hS164 [1, 2, 0, 4, 5, 3, 7, 8, 6, 9, 10, 13, 12, 11] (by decide) rfl)
        exact ⟨(by rw [hb170]; exact hE197), hS198⟩
    ·
      rintro a199 w200 ⟨hE201, hS202⟩; clear hE155 hS151
      refine c_cond hE201 rfl (fun ht203 => ?_) (fun ht203 => ?_)
      ·
        have hE204 := hE201; rw [ht203] at hE204; clear hE201
        refine c_seq ?_
        refine c_reg ?_
        refine q_step (v := .bool false) hE204 (y_assign rfl) rfl rfl rfl ?_; intro a205 hE206; clear hE204
        refine c_nil ?_
        have hE207 := hE206.sub (L' := [(4, .bool false)]) ⟨rfl, trivial⟩; clear hE206
        refine p_tn ?_
        refine wp_ret ?_
        refine p_tr ?_
        have hF : F_l_FnExactPartOfModel mp0 mp1 mp2 mask = false := by unfold F_l_FnExactPartOfModel; rw [ht203, ht33]; first | done | rfl
        refine c_ret1 hE207 rfl rfl ?_
        exact ⟨(by rw [hF]; first | done | rfl), hS202.ext⟩
      ·
        obtain ⟨ht208, ht209⟩ := bor_f ht203
        have ht210 := bn_f ht208
        have hp211 := of_decide_eq_true ht210
        have ht212 := bn_f ht209
        have hp213 := of_decide_eq_true ht212
        have hE214 := hE201; rw [ht203] at hE214; clear hE201
        refine wp_skip ?_
        refine p_tn ?_
        refine c_seq ?_
        refine c_seq ?_
        refine d_start (fun w' => w'.heap[b105]? = some (.cells #[.int .i64 mp0, .slice b99 ((mp1).length) c100, .slice b101 ((mp2).length) c102] 38 (0, 0)) ∧ w'.heap[b3]? = some (.cells #[.int .i64 mp0, .slice mp1A mp1.length mp1C, .slice mp2A mp2.length mp2C] 35 (0, 0)) ∧ True) [0, 1] 5 (by kernel_rfl) rfl ?_
        intro w215 he216; have hS217 := St.go hS202 he216; clear hS202
        refine d_take (v := .agg #[.int .i64 mp0, .slice b99 ((mp1).length) c100, .slice b101 ((mp2).length) c102]) 0 rfl hE214 ⟨(St.row (i := 5) hS217 rfl _ (Ext.refl _)), (St.row (i := 13) hS217 rfl _ (Ext.refl _)), trivial⟩ (y_loadS Try.underlying38 rfl (by kernel_rfl) rfl (fun _ h => h.1)) rfl rfl (by kernel_rfl) (by kernel_rfl) (by kernel_rfl) rfl rfl (fun _ _ _ h => h) ?_; intro a218 hE219; clear hE214
        refine d_take (v := .agg #[.int .i64 mp0, .slice mp1A mp1.length mp1C, .slice mp2A mp2.length mp2C]) 1 rfl hE219 ⟨(St.row (i := 5) hS217 rfl _ (Ext.refl _)), (St.row (i := 13) hS217 rfl _ (Ext.refl _)), trivial⟩ (y_loadS Try.underlying35 rfl (by kernel_rfl) rfl (fun _ h => h.2.1)) rfl rfl (by kernel_rfl) (by kernel_rfl) (by kernel_rfl) rfl rfl (fun _ _ _ h => h) ?_; intro a220 hE221; clear hE219
        refine d_only 2 (by kernel_rfl) rfl hE221 rfl (l_call (f := 24) (argv := [.agg #[.int .i64 mp0, .slice mp1A mp1.length mp1C, .slice mp2A mp2.length mp2C]]) hE221 (fun _ => cf_l_toModel _ _) rfl rfl (d_l_toModel mp0 mp1A mp1.length mp1C mp1 mp2A mp2.length mp2C mp2 w215 (St.rdR (i := 11) hS217 rfl) (St.rdR (i := 12) hS217 rfl) (by first | omega | (simp only [marked_len]; omega)) (by first | omega | (simp only [marked_len]; omega))) ?_)
        rintro _ w223 ⟨b228, c229, b230, c231, rfl, ho232, he227⟩ a224 hE225; clear hE221
        have hS226 := St.push2 hS217 he227 ho232; clear hS217
        refine ⟨fun _ _ => ⟨(St.row (i := 7) hS226 rfl _ (Ext.refl _)), (St.row (i := 15) hS226 rfl _ (Ext.refl _)), trivial⟩, ?_⟩
        refine d_only 3 (by kernel_rfl) rfl hE225 rfl (l_call (f := 26) (argv := [.agg #[.int .i64 mp0, .slice b99 ((mp1).length) c100, .slice b101 ((mp2).length) c102], .agg #[.int .i64 mp0, .slice b228 ((mp1).length) c229, .slice b230 ((mp2).length) c231]]) hE225 (fun _ => cf_l_eqModel _ _) rfl rfl (d_l_eqModel mp0 b99 ((mp1).length) c100 mp1 b101 ((mp2).length) c102 mp2 mp0 b228 ((mp1).length) c229 mp1 b230 ((mp2).length) c231 mp2 w223 (St.rdO (i := 5) hS226 rfl) (St.rdO (i := 6) hS226 rfl) (St.rdO (i := 0) hS226 rfl) (St.rdO (i := 1) hS226 rfl)) ?_)
        rintro _ w235 ⟨rfl, he239⟩ a236 hE237; clear hE225
        have hS238 := St.go hS226 he239; clear hS226
        refine ⟨fun _ _ => ⟨(St.row (i := 7) hS238 rfl _ (Ext.refl _)), (St.row (i := 15) hS238 rfl _ (Ext.refl _)), trivial⟩, ?_⟩
        refine d_pure (v := .bool (!(decide ((mp0, mp1, mp2) = (mp0, mp1, mp2))))) 4 rfl hE237 (y_not rfl) rfl (by kernel_rfl) (by kernel_rfl) (by kernel_rfl) rfl rfl (fun _ _ _ h => h) ?_; intro a240 hE241; clear hE237
        refine d_done (by kernel_rfl) ?_
        have hE242 := hE241.sub (L' := [(1, .int .i64 mask), (2, .pointer (some ⟨b3, 0, none⟩)), (6, .pointer (some ⟨b76, 0, none⟩)), (7, .int .i64 ((F_s_PartOfModel mp0 mp1 mp2 mask).2)), (8, .pointer (some ⟨b105, 0, none⟩)), (9, .pointer (some ⟨b141, 0, none⟩)), (10, .int .i64 ((F_PartOfModel mp0 mp1 mp2 mask).2)), (49, .bool (!(decide ((mp0, mp1, mp2) = (mp0, mp1, mp2)))))]) ⟨rfl, rfl, rfl, rfl, rfl, rfl, rfl, rfl, trivial⟩; clear hE241
        refine p_tn ?_
        refine c_cond hE242 rfl (fun ht243 => ?_) (fun ht243 => ?_)
        ·
          have ht244 := bn_t ht243
          have hp245 := of_decide_eq_false ht244
          have hE246 := hE242; rw [ht243] at hE246; clear hE242
          refine c_seq ?_
          refine c_reg ?_
          refine q_step (v := .bool false) hE246 (y_assign rfl) rfl rfl rfl ?_; intro a247 hE248; clear hE246
          refine c_nil ?_
          have hE249 := hE248.sub (L' := [(4, .bool false)]) ⟨rfl, trivial⟩; clear hE248
          refine p_tn ?_
          refine wp_ret ?_
          refine p_tr ?_
          have hF : F_l_FnExactPartOfModel mp0 mp1 mp2 mask = false := by unfold F_l_FnExactPartOfModel; rw [ht243, ht203, ht33]; first | done | rfl
          refine c_ret1 hE249 rfl rfl ?_
          exact ⟨(by rw [hF]; first | done | rfl), hS238.ext⟩
        ·
          have ht250 := bn_f ht243
          have hp251 := of_decide_eq_true ht250
          have hE252 := hE242; rw [ht243] at hE252; clear hE242
          refine wp_skip ?_
          refine p_tn ?_
          refine c_seq ?_
          refine c_reg ?_
          refine q_step (v := .int .i64 1) hE252 (y_assign rfl) rfl rfl rfl ?_; intro a253 hE254; clear hE252
          refine c_nil ?_
          have hE255 := hE254.sub (L' := [(1, .int .i64 mask), (2, .pointer (some ⟨b3, 0, none⟩)), (6, .pointer (some ⟨b76, 0, none⟩)), (7, .int .i64 ((F_s_PartOfModel mp0 mp1 mp2 mask).2)), (8, .pointer (some ⟨b105, 0, none⟩)), (9, .pointer (some ⟨b141, 0, none⟩)), (10, .int .i64 ((F_PartOfModel mp0 mp1 mp2 mask).2)), (11, .int .i64 1)]) ⟨rfl, rfl, rfl, rfl, rfl, rfl, rfl, rfl, trivial⟩; clear hE254
          refine p_tn ?_
          refine c_seq ?_
          refine c_reg ?_
          refine q_step (v := .agg #[.int .i64 mp0, .slice b99 ((mp1).length) c100, .slice b101 ((mp2).length) c102]) hE255 (y_loadS Try.underlying38 rfl (by kernel_rfl) rfl (St.row (i := 7) hS238 rfl)) rfl rfl rfl ?_; intro a256 hE257; clear hE255
          refine q_step (v := .int .i64 1) hE257 (y_move rfl) rfl rfl rfl ?_; intro a258 hE259; clear hE257
          have hS266 := (St.pick (Γ' := [.own 2 1 b101 ((mp2).length) c102 mp2, .own 2 1 b99 ((mp1).length) c100 mp1, .own 2 1 b228 ((mp1).length) c229 mp1, .own 2 1 b230 ((mp2).length) c231 mp2, .own 2 1 b128 ((((F_PartOfModel mp0 mp1 mp2 mask).1).2.1).length) c129 (((F_PartOfModel mp0 mp1 mp2 mask).1).2.1), .own 2 1 b130 ((((F_PartOfModel mp0 mp1 mp2 mask).1).2.2).length) c131 (((F_PartOfModel mp0 mp1 mp2 mask).1).2.2), .blk b141 #[.int .i64 (((F_PartOfModel mp0 mp1 mp2 mask).1).1), .slice b128 ((((F_PartOfModel mp0 mp1 mp2 mask).1).2.1).length) c129, .slice b130 ((((F_PartOfModel mp0 mp1 mp2 mask).1).2.2).length) c131] 38, .blk b105 #[.int .i64 mp0, .slice b99 ((mp1).length) c100, .slice b101 ((mp2).length) c102] 38, .own 2 1 b64 ((((F_s_PartOfModel mp0 mp1 mp2 mask).1).2.1).length) c65 (((F_s_PartOfModel mp0 mp1 mp2 mask).1).2.1), .own 2 1 b66 ((((F_s_PartOfModel mp0 mp1 mp2 mask).1).2.2).length) c67 (((F_s_PartOfModel mp0 mp1 mp2 mask).1).2.2), .blk b76 #[.int .i64 (((F_s_PartOfModel mp0 mp1 mp2 mask).1).1), .slice b64 ((((F_s_PartOfModel mp0 mp1 mp2 mask).1).2.1).length) c65, .slice b66 ((((F_s_PartOfModel mp0 mp1 mp2 mask).1).2.2).length) c67] 38, .own 2 1 b50 ((mp1).length) c51 mp1, .own 2 1 b52 ((mp2).length) c53 mp2, .rd 1 mp1A mp1.length mp1C mp1, .rd 1 mp2A mp2.length mp2C mp2, .blk b3 #[.int .i64 mp0, .slice mp1A mp1.length mp1C, .slice mp2A mp2.length mp2C] 35]) hS238 [6, 5, 0, 1, 2, 3, 4, 7, 8, 9, 10, 11, 12, 13, 14, 15] (by decide) rfl); clear hS238
          refine l_step hE259 rfl (l_call (f := 27) (argv := [.agg #[.int .i64 mp0, .slice b99 ((mp1).length) c100, .slice b101 ((mp2).length) c102], .int .i64 1]) hE259 (fun _ => cf_l_markModel _ _) rfl rfl (d_l_markModel mp0 b99 ((mp1).length) c100 mp1 b101 ((mp2).length) c102 mp2 1 w235 w [.own 2 1 b228 ((mp1).length) c229 mp1, .own 2 1 b230 ((mp2).length) c231 mp2, .own 2 1 b128 ((((F_PartOfModel mp0 mp1 mp2 mask).1).2.1).length) c129 (((F_PartOfModel mp0 mp1 mp2 mask).1).2.1), .own 2 1 b130 ((((F_PartOfModel mp0 mp1 mp2 mask).1).2.2).length) c131 (((F_PartOfModel mp0 mp1 mp2 mask).1).2.2), .blk b141 #[.int .i64 (((F_PartOfModel mp0 mp1 mp2 mask).1).1), .slice b128 ((((F_PartOfModel mp0 mp1 mp2 mask).1).2.1).length) c129, .slice b130 ((((F_PartOfModel mp0 mp1 mp2 mask).1).2.2).length) c131] 38, .blk b105 #[.int .i64 mp0, .slice b99 ((mp1).length) c100, .slice b101 ((mp2).length) c102] 38, .own 2 1 b64 ((((F_s_PartOfModel mp0 mp1 mp2 mask).1).2.1).length) c65 (((F_s_PartOfModel mp0 mp1 mp2 mask).1).2.1), .own 2 1 b66 ((((F_s_PartOfModel mp0 mp1 mp2 mask).1).2.2).length) c67 (((F_s_PartOfModel mp0 mp1 mp2 mask).1).2.2), .blk b76 #[.int .i64 (((F_s_PartOfModel mp0 mp1 mp2 mask).1).1), .slice b64 ((((F_s_PartOfModel mp0 mp1 mp2 mask).1).2.1).length) c65, .slice b66 ((((F_s_PartOfModel mp0 mp1 mp2 mask).1).2.2).length) c67] 38, .own 2 1 b50 ((mp1).length) c51 mp1, .own 2 1 b52 ((mp2).length) c53 mp2, .rd 1 mp1A mp1.length mp1C mp1, .rd 1 mp2A mp2.length mp2C mp2, .blk b3 #[.int .i64 mp0, .slice mp1A mp1.length mp1C, .slice mp2A mp2.length mp2C] 35] hS266 (by first | omega | (simp only [marked_len]; omega)) (by first | omega | (simp only [marked_len]; omega)) (by first | omega | (simp only [marked_len]; omega)) (by first | omega | (simp only [marked_len]; omega))) ?_)
          rintro _ w261 ⟨rfl, hS264⟩ a262 hE263; clear hE259 hS266
          refine q_step (v := .int .i64 (1 + (mp1.length : Int) + (mp2.length : Int))) hE263 (y_assign rfl) rfl rfl rfl ?_; intro a267 hE268; clear hE263
          refine c_nil ?_
          have hE269 := hE268.sub (L' := [(1, .int .i64 mask), (2, .pointer (some ⟨b3, 0, none⟩)), (6, .pointer (some ⟨b76, 0, none⟩)), (7, .int .i64 ((F_s_PartOfModel mp0 mp1 mp2 mask).2)), (9, .pointer (some ⟨b141, 0, none⟩)), (10, .int .i64 ((F_PartOfModel mp0 mp1 mp2 mask).2)), (11, .int .i64 (1 + (mp1.length : Int) + (mp2.length : Int)))]) ⟨rfl, rfl, rfl, rfl, rfl, rfl, rfl, trivial⟩; clear hE268
          refine p_tn ?_
          refine c_seq ?_
          refine c_cut (fun a' w' => E a' 101 [(1, .int .i64 mask), (2, .pointer (some ⟨b3, 0, none⟩)), (6, .pointer (some ⟨b76, 0, none⟩)), (7, .int .i64 ((F_s_PartOfModel mp0 mp1 mp2 mask).2)), (9, .pointer (some ⟨b141, 0, none⟩)), (65, .bool ((decide ((1 + (mp1.length : Int) + (mp2.length : Int)) < 0)) || ((!(decide (((((F_PartOfModel mp0 mp1 mp2 mask).1).1), (((F_PartOfModel mp0 mp1 mp2 mask).1).2.1), (((F_PartOfModel mp0 mp1 mp2 mask).1).2.2)) = ((((F_s_PartOfModel mp0 mp1 mp2 mask).1).1), (((F_s_PartOfModel mp0 mp1 mp2 mask).1).2.1), (((F_s_PartOfModel mp0 mp1 mp2 mask).1).2.2))))) || (!decide (((F_PartOfModel mp0 mp1 mp2 mask).2) = ((F_s_PartOfModel mp0 mp1 mp2 mask).2))))))] ∧ St w w' [.own 2 1 b101 ((mp2).length) c102 (marked mp2.length (1 + (mp1.length : Int))), .own 2 1 b99 ((mp1).length) c100 (marked mp1.length 1), .own 2 1 b228 ((mp1).length) c229 mp1, .own 2 1 b230 ((mp2).length) c231 mp2, .own 2 1 b128 ((((F_PartOfModel mp0 mp1 mp2 mask).1).2.1).length) c129 (((F_PartOfModel mp0 mp1 mp2 mask).1).2.1), .own 2 1 b130 ((((F_PartOfModel mp0 mp1 mp2 mask).1).2.2).length) c131 (((F_PartOfModel mp0 mp1 mp2 mask).1).2.2), .blk b141 #[.int .i64 (((F_PartOfModel mp0 mp1 mp2 mask).1).1), .slice b128 ((((F_PartOfModel mp0 mp1 mp2 mask).1).2.1).length) c129, .slice b130 ((((F_PartOfModel mp0 mp1 mp2 mask).1).2.2).length) c131] 38, .blk b105 #[.int .i64 mp0, .slice b99 ((mp1).length) c100, .slice b101 ((mp2).length) c102] 38, .own 2 1 b64 ((((F_s_PartOfModel mp0 mp1 mp2 mask).1).2.1).length) c65 (((F_s_PartOfModel mp0 mp1 mp2 mask).1).2.1), .own 2 1 b66 ((((F_s_PartOfModel mp0 mp1 mp2 mask).1).2.2).length) c67 (((F_s_PartOfModel mp0 mp1 mp2 mask).1).2.2), .blk b76 #[.int .i64 (((F_s_PartOfModel mp0 mp1 mp2 mask).1).1), .slice b64 ((((F_s_PartOfModel mp0 mp1 mp2 mask).1).2.1).length) c65, .slice b66 ((((F_s_PartOfModel mp0 mp1 mp2 mask).1).2.2).length) c67] 38, .own 2 1 b50 ((mp1).length) c51 mp1, .own 2 1 b52 ((mp2).length) c53 mp2, .rd 1 mp1A mp1.length mp1C mp1, .rd 1 mp2A mp2.length mp2C mp2, .blk b3 #[.int .i64 mp0, .slice mp1A mp1.length mp1C, .slice mp2A mp2.length mp2C] 35]) ?_ ?_
          ·
            refine c_reg ?_
            refine q_step (v := .int .i64 (1 + (mp1.length : Int) + (mp2.length : Int))) hE269 (y_move rfl) rfl rfl rfl ?_; intro a270 hE271; clear hE269
            refine q_step (v := .bool (decide ((1 + (mp1.length : Int) + (mp2.length : Int)) < 0))) hE271 (y_lss rfl rfl) rfl rfl rfl ?_; intro a272 hE273; clear hE271
            refine q_step (v := .bool (decide ((1 + (mp1.length : Int) + (mp2.length : Int)) < 0))) hE273 (y_move rfl) rfl rfl rfl ?_; intro a274 hE275; clear hE273
            rcases Bool.eq_false_or_eq_true (decide ((1 + (mp1.length : Int) + (mp2.length : Int)) < 0)) with hb276 | hb276
            ·
              have hE277 := hE275; rw [hb276] at hE277; clear hE275
              have hp278 := of_decide_eq_true hb276
              refine q_skip hE277 rfl rfl rfl ?_; intro a279 hE280; clear hE277
              refine q_skip hE280 rfl rfl rfl ?_; intro a281 hE282; clear hE280
              refine q_skip hE282 rfl rfl rfl ?_; intro a283 hE284; clear hE282
              refine q_skip hE284 rfl rfl rfl ?_; intro a285 hE286; clear hE284
              refine q_step (v := .bool true) hE286 (y_pick (b := true) rfl rfl) rfl rfl rfl ?_; intro a287 hE288; clear hE286
              refine q_step (v := .bool true) hE288 (y_move rfl) rfl rfl rfl ?_; intro a289 hE290; clear hE288
              refine q_skip hE290 rfl rfl rfl ?_; intro a291 hE292; clear hE290
              refine q_skip hE292 rfl rfl rfl ?_; intro a293 hE294; clear hE292
              refine q_skip hE294 rfl rfl rfl ?_; intro a295 hE296; clear hE294
              refine q_step (v := .bool true) hE296 (y_pick (b := true) rfl rfl) rfl rfl rfl ?_; intro a297 hE298; clear hE296
              refine c_nil ?_
              have hE299 := hE298.sub (L' := [(1, .int .i64 mask), (2, .pointer (some ⟨b3, 0, none⟩)), (6, .pointer (some ⟨b76, 0, none⟩)), (7, .int .i64 ((F_s_PartOfModel mp0 mp1 mp2 mask).2)), (9, .pointer (some ⟨b141, 0, none⟩)), (65, .bool true)]) ⟨rfl, rfl, rfl, rfl, rfl, rfl, trivial⟩; clear hE298
              refine p_tn ?_
              have hE300 := hE299.sub (L' := [(1, .int .i64 mask), (2, .pointer (some ⟨b3, 0, none⟩)), (6, .pointer (some ⟨b76, 0, none⟩)), (7, .int .i64 ((F_s_PartOfModel mp0 mp1 mp2 mask).2)), (9, .pointer (some ⟨b141, 0, none⟩)), (65, .bool true)]) ⟨rfl, rfl, rfl, rfl, rfl, rfl, trivial⟩
              have hS301 := (St.pick (Γ' := [.own 2 1 b101 ((mp2).length) c102 (marked mp2.length (1 + (mp1.length : Int))), .own 2 1 b99 ((mp1).length) c100 (marked mp1.length 1), .own 2 1 b228 ((mp1).length) c229 mp1, .own 2 1 b230 ((mp2).length) c231 mp2, .own 2 1 b128 ((((F_PartOfModel mp0 mp1 mp2 mask).1).2.1).length) c129 (((F_PartOfModel mp0 mp1 mp2 mask).1).2.1), .own 2 1 b130 ((((F_PartOfModel mp0 mp1 mp2 mask).1).2.2).length) c131 (((F_PartOfModel mp0 mp1 mp2 mask).1).2.2), .blk b141 #[.int .i64 (((F_PartOfModel mp0 mp1 mp2 mask).1).1), .slice b128 ((((F_PartOfModel mp0 mp1 mp2 mask).1).2.1).length) c129, .slice b130 ((((F_PartOfModel mp0 mp1 mp2 mask).1).2.2).length) c131] 38, .blk b105 #[.int .i64 mp0, .slice b99 ((mp1).length) c100, .slice b101 ((mp2).length) c102] 38, .own 2 1 b64 ((((F_s_PartOfModel mp0 mp1 mp2 mask).1).2.1).length) c65 (((F_s_PartOfModel mp0 mp1 mp2 mask).1).2.1), .own 2 1 b66 ((((F_s_PartOfModel mp0 mp1 mp2 mask).1).2.2).length) c67 (((F_s_PartOfModel mp0 mp1 mp2 mask).1).2.2), .blk b76 #[.int .i64 (((F_s_PartOfModel mp0 mp1 mp2 mask).1).1), .slice b64 ((((F_s_PartOfModel mp0 mp1 mp2 mask).1).2.1).length) c65, .slice b66 ((((F_s_PartOfModel mp0 mp1 mp2 mask).1).2.2).length) c67] 38, .own 2 1 b50 ((mp1).length) c51 mp1, .own 2 1 b52 ((mp2).length) c53 mp2, .rd 1 mp1A mp1.length mp1C mp1, .rd 1 mp2A mp2.length mp2C mp2, .blk b3 #[.int .i64 mp0, .slice mp1A mp1.length mp1C, .slice mp2A mp2.length mp2C] 35]) hS264 [0, 1, 2, 3, 4, 5, 6, 7, 8, 9, 10, 11, 12, 13, 14, 15] (by decide) rfl)
              exact ⟨(by rw [hb276]; exact hE300), hS301⟩
            ·
              have hE302 := hE275; rw [hb276] at hE302; clear hE275
              have hp303 := of_decide_eq_false hb276
              refine q_step (v := .agg #[.int .i64 (((F_PartOfModel mp0 mp1 mp2 mask).1).1), .slice b128 ((((F_PartOfModel mp0 mp1 mp2 mask).1).2.1).length) c129, .slice b130 ((((F_PartOfModel mp0 mp1 mp2 mask).1).2.2).length) c131]) hE302 (y_loadS Try.underlying38 rfl (by kernel_rfl) rfl (St.row (i := 6) hS264 rfl)) rfl rfl rfl ?_; intro a304 hE305; clear hE302
              refine q_step (v := .agg #[.int .i64 (((F_s_PartOfModel mp0 mp1 mp2 mask).1).1), .slice b64 ((((F_s_PartOfModel mp0 mp1 mp2 mask).1).2.1).length) c65, .slice b66 ((((F_s_PartOfModel mp0 mp1 mp2 mask).1).2.2).length) c67]) hE305 (y_loadS Try.underlying38 rfl (by kernel_rfl) rfl (St.row (i := 10) hS264 rfl)) rfl rfl rfl ?_; intro a306 hE307; clear hE305
              refine l_step hE307 rfl (l_call (f := 26) (argv := [.agg #[.int .i64 (((F_PartOfModel mp0 mp1 mp2 mask).1).1), .slice b128 ((((F_PartOfModel mp0 mp1 mp2 mask).1).2.1).length) c129, .slice b130 ((((F_PartOfModel mp0 mp1 mp2 mask).1).2.2).length) c131], .agg #[.int .i64 (((F_s_PartOfModel mp0 mp1 mp2 mask).1).1), .slice b64 ((((F_s_PartOfModel mp0 mp1 mp2 mask).1).2.1).length) c65, .slice b66 ((((F_s_PartOfModel mp0 mp1 mp2 mask).1).2.2).length) c67]]) hE307 (fun _ => cf_l_eqModel _ _) rfl rfl (d_l_eqModel (((F_PartOfModel mp0 mp1 mp2 mask).1).1) b128 ((((F_PartOfModel mp0 mp1 mp2 mask).1).2.1).length) c129 (((F_PartOfModel mp0 mp1 mp2 mask).1).2.1) b130 ((((F_PartOfModel mp0 mp1 mp2 mask).1).2.2).length) c131 (((F_PartOfModel mp0 mp1 mp2 mask).1).2.2) (((F_s_PartOfModel mp0 mp1 mp2 mask).1).1) b64 ((((F_s_PartOfModel mp0 mp1 mp2 mask).1).2.1).length) c65 (((F_s_PartOfModel mp0 mp1 mp2 mask).1).2.1) b66 ((((F_s_PartOfModel mp0 mp1 mp2 mask).1).2.2).length) c67 (((F_s_PartOfModel mp0 mp1 mp2 mask).1).2.2) w261 (St.rdO (i := 4) hS264 rfl) (St.rdO (i := 5) hS264 rfl) (St.rdO (i := 8) hS264 rfl) (St.rdO (i := 9) hS264 rfl)) ?_)
              rintro _ w309 ⟨rfl, he313⟩ a310 hE311; clear hE307
              have hS312 := St.go hS264 he313; clear hS264
              refine q_step (v := .bool (!(decide (((((F_PartOfModel mp0 mp1 mp2 mask).1).1), (((F_PartOfModel mp0 mp1 mp2 mask).1).2.1), (((F_PartOfModel mp0 mp1 mp2 mask).1).2.2)) = ((((F_s_PartOfModel mp0 mp1 mp2 mask).1).1), (((F_s_PartOfModel mp0 mp1 mp2 mask).1).2.1), (((F_s_PartOfModel mp0 mp1 mp2 mask).1).2.2)))))) hE311 (y_not rfl) rfl rfl rfl ?_; intro a314 hE315; clear hE311
              refine q_step (v := .bool (!(decide (((((F_PartOfModel mp0 mp1 mp2 mask).1).1), (((F_PartOfModel mp0 mp1 mp2 mask).1).2.1), (((F_PartOfModel mp0 mp1 mp2 mask).1).2.2)) = ((((F_s_PartOfModel mp0 mp1 mp2 mask).1).1), (((F_s_PartOfModel mp0 mp1 mp2 mask).1).2.1), (((F_s_PartOfModel mp0 mp1 mp2 mask).1).2.2)))))) hE315 (y_pick (b := false) rfl rfl) rfl rfl rfl ?_; intro a316 hE317; clear hE315
              refine q_step (v := .bool (!(decide (((((F_PartOfModel mp0 mp1 mp2 mask).1).1), (((F_PartOfModel mp0 mp1 mp2 mask).1).2.1), (((F_PartOfModel mp0 mp1 mp2 mask).1).2.2)) = ((((F_s_PartOfModel mp0 mp1 mp2 mask).1).1), (((F_s_PartOfModel mp0 mp1 mp2 mask).1).2.1), (((F_s_PartOfModel mp0 mp1 mp2 mask).1).2.2)))))) hE317 (y_move rfl) rfl rfl rfl ?_; intro a318 hE319; clear hE317
              rcases Bool.eq_false_or_eq_true (!(decide (((((F_PartOfModel mp0 mp1 mp2 mask).1).1), (((F_PartOfModel mp0 mp1 mp2 mask).1).2.1), (((F_PartOfModel mp0 mp1 mp2 mask).1).2.2)) = ((((F_s_PartOfModel mp0 mp1 mp2 mask).1).1), (((F_s_PartOfModel mp0 mp1 mp2 mask).1).2.1), (((F_s_PartOfModel mp0 mp1 mp2 mask).1).2.2))))) with hb320 | hb320
              ·
                have hE321 := hE319; rw [hb320] at hE321; clear hE319
                have ht322 := bn_t hb320
                have hp323 := of_decide_eq_false ht322
                refine q_skip hE321 rfl rfl rfl ?_; intro a324 hE325; clear hE321
                refine q_skip hE325 rfl rfl rfl ?_; intro a326 hE327; clear hE325
                refine q_skip hE327 rfl rfl rfl ?_; intro a328 hE329; clear hE327
                refine q_step (v := .bool true) hE329 (y_pick (b := true) rfl rfl) rfl rfl rfl ?_; intro a330 hE331; clear hE329
                refine c_nil ?_
                have hE332 := hE331.sub (L' := [(1, .int .i64 mask), (2, .pointer (some ⟨b3, 0, none⟩)), (6, .pointer (some ⟨b76, 0, none⟩)), (7, .int .i64 ((F_s_PartOfModel mp0 mp1 mp2 mask).2)), (9, .pointer (some ⟨b141, 0, none⟩)), (65, .bool true)]) ⟨rfl, rfl, rfl, rfl, rfl, rfl, trivial⟩; clear hE331
                refine p_tn ?_
                have hE333 := hE332.sub (L' := [(1, .int .i64 mask), (2, .pointer (some ⟨b3, 0, none⟩)), (6, .pointer (some ⟨b76, 0, none⟩)), (7, .int .i64 ((F_s_PartOfModel mp0 mp1 mp2 mask).2)), (9, .pointer (some ⟨b141, 0, none⟩)), (65, .bool true)]) ⟨rfl, rfl, rfl, rfl, rfl, rfl, trivial⟩
                have hS334 := (St.pick (Γ' := [.own 2 1 b101 ((mp2).length) c102 (marked mp2.length (1 + (mp1.length : Int))), .own 2 1 b99 ((mp1).length) c100 (marked mp1.length 1), .own 2 1 b228 ((mp1).length) c229 mp1, .own 2 1 b230 ((mp2).length) c231 mp2, .own 2 1 b128 ((((F_PartOfModel mp0 mp1 mp2 mask).1).2.1).length) c129 (((F_PartOfModel mp0 mp1 mp2 mask).1).2.1), .own 2 1 b130 ((((F_PartOfModel mp0 mp1 mp2 mask).1).2.2).length) c131 (((F_PartOfModel mp0 mp1 mp2 mask).1).2.2), .blk b141 #[.int .i64 (((F_PartOfModel mp0 mp1 mp2 mask).1).1), .slice b128 ((((F_PartOfModel mp0 mp1 mp2 mask).1).2.1).length) c129, .slice b130 ((((F_PartOfModel mp0 mp1 mp2 mask).1).2.2).length) c131] 38, .blk b105 #[.int .i64 mp0, .slice b99 ((mp1).length) c100, .slice b101 ((mp2).length) c102] 38, .own 2 1 b64 ((((F_s_PartOfModel mp0 mp1 mp2 mask).1).2.1).length) c65 (((F_s_PartOfModel mp0 mp1 mp2 mask).1).2.1), .own 2 1 b66 ((((F_s_PartOfModel mp0 mp1 mp2 mask).1).2.2).length) c67 (((F_s_PartOfModel mp0 mp1 mp2 mask).1).2.2), .blk b76 #[.int .i64 (((F_s_PartOfModel mp0 mp1 mp2 mask).1).1), .slice b64 ((((F_s_PartOfModel mp0 mp1 mp2 mask).1).2.1).length) c65, .slice b66 ((((F_s_PartOfModel mp0 mp1 mp2 mask).1).2.2).length) c67] 38, .own 2 1 b50 ((mp1).length) c51 mp1, .own 2 1 b52 ((mp2).length) c53 mp2, .rd 1 mp1A mp1.length mp1C mp1, .rd 1 mp2A mp2.length mp2C mp2, .blk b3 #[.int .i64 mp0, .slice mp1A mp1.length mp1C, .slice mp2A mp2.length mp2C] 35]) hS312 [0, 1, 2, 3, 4, 5, 6, 7, 8, 9, 10, 11, 12, 13, 14, 15] (by decide) rfl)
                exact ⟨(by rw [hb320, hb276]; exact hE333), hS334⟩
              ·
                have hE335 := hE319; rw [hb320] at hE335; clear hE319
                have ht336 := bn_f hb320
                have hp337 := of_decide_eq_true ht336
                refine q_step (v := .int .i64 ((F_PartOfModel mp0 mp1 mp2 mask).2)) hE335 (y_move rfl) rfl rfl rfl ?_; intro a338 hE339; clear hE335
                refine q_step (v := .int .i64 ((F_s_PartOfModel mp0 mp1 mp2 mask).2)) hE339 (y_move rfl) rfl rfl rfl ?_; intro a340 hE341; clear hE339
                refine q_step (v := .bool (!decide (((F_PartOfModel mp0 mp1 mp2 mask).2) = ((F_s_PartOfModel mp0 mp1 mp2 mask).2)))) hE341 (y_neq rfl rfl) rfl rfl rfl ?_; intro a342 hE343; clear hE341
                refine q_step (v := .bool (!decide (((F_PartOfModel mp0 mp1 mp2 mask).2) = ((F_s_PartOfModel mp0 mp1 mp2 mask).2)))) hE343 (y_pick (b := false) rfl rfl) rfl rfl rfl ?_; intro a344 hE345; clear hE343
                refine c_nil ?_
                have hE346 := hE345.sub (L' := [(1, .int .i64 mask), (2, .pointer (some ⟨b3, 0, none⟩)), (6, .pointer (some ⟨b76, 0, none⟩)), (7, .int .i64 ((F_s_PartOfModel mp0 mp1 mp2 mask).2)), (9, .pointer (some ⟨b141, 0, none⟩)), (65, .bool (!decide (((F_PartOfModel mp0 mp1 mp2 mask).2) = ((F_s_PartOfModel mp0 mp1 mp2 mask).2))))]) ⟨rfl, rfl, rfl, rfl, rfl, rfl, trivial⟩; clear hE345
                refine p_tn ?_
                have hE347 := hE346.sub (L' := [(1, .int .i64 mask), (2, .pointer (some ⟨b3, 0, none⟩)), (6, .pointer (some ⟨b76, 0, none⟩)), (7, .int .i64 ((F_s_PartOfModel mp0 mp1 mp2 mask).2)), (9, .pointer (some ⟨b141, 0, none⟩)), (65, .bool (!decide (((F_PartOfModel mp0 mp1 mp2 mask).2) = ((F_s_PartOfModel mp0 mp1 mp2 mask).2))))]) ⟨rfl, rfl, rfl, rfl, rfl, rfl, trivial⟩
                have hS348 := (St.pick (Γ' := [.own 2 1 b101 ((mp2).length) c102 (marked mp2.length (1 + (mp1.length : Int))), .own 2 1 b99 ((mp1).length) c100 (marked mp1.length 1), .own 2 1 b228 ((mp1).length) c229 mp1, .own 2 1 b230 ((mp2).length) c231 mp2, .own 2 1 b128 ((((F_PartOfModel mp0 mp1 mp2 mask).1).2.1).length) c129 (((F_PartOfModel mp0 mp1 mp2 mask).1).2.1), .own 2 1 b130 ((((F_PartOfModel mp0 mp1 mp2 mask).1).2.2).length) c131 (((F_PartOfModel mp0 mp1 mp2 mask).1).2.2), .blk b141 #[.int .i64 (((F_PartOfModel mp0 mp1 mp2 mask).1).1), .slice b128 ((((F_PartOfModel mp0 mp1 mp2 mask).1).2.1).length) c129, .slice b130 ((((F_PartOfModel mp0 mp1 mp2 mask).1).2.2).length) c131] 38, .blk b105 #[.int .i64 mp0, .slice b99 ((mp1).length) c100, .slice b101 ((mp2).length) c102] 38, .own 2 1 b64 ((((F_s_PartOfModel mp0 mp1 mp2 mask).1).2.1).length) c65 (((F_s_PartOfModel mp0 mp1 mp2 mask).1).2.1), .own 2 1 b66 ((((F_s_PartOfModel mp0 mp1 mp2 mask).1).2.2).length) c67 (((F_s_PartOfModel mp0 mp1 mp2 mask).1).2.2), .blk b76 #[.int .i64 (((F_s_PartOfModel mp0 mp1 mp2 mask).1).1), .slice b64 ((((F_s_PartOfModel mp0 mp1 mp2 mask).1).2.1).length) c65, .slice b66 ((((F_s_PartOfModel mp0 mp1 mp2 mask).1).2.2).length) c67] 38, .own 2 1 b50 ((mp1).length) c51 mp1, .own 2 1 b52 ((mp2).length) c53 mp2, .rd 1 mp1A mp1.length mp1C mp1, .rd 1 mp2A mp2.length mp2C mp2, .blk b3 #[.int .i64 mp0, .slice mp1A mp1.length mp1C, .slice mp2A mp2.length mp2C] 35]) hS312 [0, 1, 2, 3, 4, 5, 6, 7, 8, 9, 10, 11, 12, 13, 14, 15] (by decide) rfl)
                exact ⟨(by rw [hb320, hb276]; exact hE347), hS348⟩
          ·
            rintro a349 w350 ⟨hE351, hS352⟩; clear hE269 hS264
            refine c_cond hE351 rfl (fun ht353 => ?_) (fun ht353 => ?_)
            ·
              have hE354 := hE351; rw [ht353] at hE354; clear hE351
              refine c_seq ?_
              refine c_reg ?_
              refine q_step (v := .bool false) hE354 (y_assign rfl) rfl rfl rfl ?_; intro a355 hE356; clear hE354
              refine c_nil ?_
              have hE357 := hE356.sub (L' := [(4, .bool false)]) ⟨rfl, trivial⟩; clear hE356
              refine p_tn ?_
              refine wp_ret ?_
              refine p_tr ?_
              have hF : F_l_FnExactPartOfModel mp0 mp1 mp2 mask = false := by unfold F_l_FnExactPartOfModel; rw [ht353, ht243, ht203, ht33]; first | done | rfl
              refine c_ret1 hE357 rfl rfl ?_
              exact ⟨(by rw [hF]; first | done | rfl), hS352.ext⟩
            ·
              obtain ⟨ht358, ht359⟩ := bor_f ht353
              have hp360 := of_decide_eq_false ht358
              obtain ⟨ht361, ht362⟩ := bor_f ht359
              have ht363 := bn_f ht361
              have hp364 := of_decide_eq_true ht363
              have ht365 := bn_f ht362
              have hp366 := of_decide_eq_true ht365
              have hE367 := hE351; rw [ht353] at hE367; clear hE351
              refine wp_skip ?_
              refine p_tn ?_
              refine c_seq ?_
              refine c_reg ?_
              refine q_step (v := .int .i64 1) hE367 (y_assign rfl) rfl rfl rfl ?_; intro a368 hE369; clear hE367
              refine c_nil ?_
              have hE370 := hE369.sub (L' := [(1, .int .i64 mask), (2, .pointer (some ⟨b3, 0, none⟩)), (6, .pointer (some ⟨b76, 0, none⟩)), (7, .int .i64 ((F_s_PartOfModel mp0 mp1 mp2 mask).2)), (9, .pointer (some ⟨b141, 0, none⟩)), (12, .int .i64 1)]) ⟨rfl, rfl, rfl, rfl, rfl, rfl, trivial⟩; clear hE369
              refine p_tn ?_
              refine c_seq ?_
              refine c_reg ?_
              refine q_step (v := .agg #[.int .i64 (((F_PartOfModel mp0 mp1 mp2 mask).1).1), .slice b128 ((((F_PartOfModel mp0 mp1 mp2 mask).1).2.1).length) c129, .slice b130 ((((F_PartOfModel mp0 mp1 mp2 mask).1).2.2).length) c131]) hE370 (y_loadS Try.underlying38 rfl (by kernel_rfl) rfl (St.row (i := 6) hS352 rfl)) rfl rfl rfl ?_; intro a371 hE372; clear hE370
              refine q_step (v := .int .i64 1) hE372 (y_move rfl) rfl rfl rfl ?_; intro a373 hE374; clear hE372
              have hS381 := (St.pick (Γ' := [.own 2 1 b130 ((((F_PartOfModel mp0 mp1 mp2 mask).1).2.2).length) c131 (((F_PartOfModel mp0 mp1 mp2 mask).1).2.2), .own 2 1 b128 ((((F_PartOfModel mp0 mp1 mp2 mask).1).2.1).length) c129 (((F_PartOfModel mp0 mp1 mp2 mask).1).2.1), .own 2 1 b101 ((mp2).length) c102 (marked mp2.length (1 + (mp1.length : Int))), .own 2 1 b99 ((mp1).length) c100 (marked mp1.length 1), .own 2 1 b228 ((mp1).length) c229 mp1, .own 2 1 b230 ((mp2).length) c231 mp2, .blk b141 #[.int .i64 (((F_PartOfModel mp0 mp1 mp2 mask).1).1), .slice b128 ((((F_PartOfModel mp0 mp1 mp2 mask).1).2.1).length) c129, .slice b130 ((((F_PartOfModel mp0 mp1 mp2 mask).1).2.2).length) c131] 38, .blk b105 #[.int .i64 mp0, .slice b99 ((mp1).length) c100, .slice b101 ((mp2).length) c102] 38, .own 2 1 b64 ((((F_s_PartOfModel mp0 mp1 mp2 mask).1).2.1).length) c65 (((F_s_PartOfModel mp0 mp1 mp2 mask).1).2.1), .own 2 1 b66 ((((F_s_PartOfModel mp0 mp1 mp2 mask).1).2.2).length) c67 (((F_s_PartOfModel mp0 mp1 mp2 mask).1).2.2), .blk b76 #[.int .i64 (((F_s_PartOfModel mp0 mp1 mp2 mask).1).1), .slice b64 ((((F_s_PartOfModel mp0 mp1 mp2 mask).1).2.1).length) c65, .slice b66 ((((F_s_PartOfModel mp0 mp1 mp2 mask).1).2.2).length) c67] 38, .own 2 1 b50 ((mp1).length) c51 mp1, .own 2 1 b52 ((mp2).length) c53 mp2, .rd 1 mp1A mp1.length mp1C mp1, .rd 1 mp2A mp2.length mp2C mp2, .blk b3 #[.int .i64 mp0, .slice mp1A mp1.length mp1C, .slice mp2A mp2.length mp2C] 35]) hS352 [5, 4, 0, 1, 2, 3, 6, 7, 8, 9, 10, 11, 12, 13, 14, 15] (by decide) rfl); clear hS352
              refine l_step hE374 rfl (l_call (f := 27) (argv := [.agg #[.int .i64 (((F_PartOfModel mp0 mp1 mp2 mask).1).1), .slice b128 ((((F_PartOfModel mp0 mp1 mp2 mask).1).2.1).length) c129, .slice b130 ((((F_PartOfModel mp0 mp1 mp2 mask).1).2.2).length) c131], .int .i64 1]) hE374 (fun _ => cf_l_markModel _ _) rfl rfl (d_l_markModel (((F_PartOfModel mp0 mp1 mp2 mask).1).1) b128 ((((F_PartOfModel mp0 mp1 mp2 mask).1).2.1).length) c129 (((F_PartOfModel mp0 mp1 mp2 mask).1).2.1) b130 ((((F_PartOfModel mp0 mp1 mp2 mask).1).2.2).length) c131 (((F_PartOfModel mp0 mp1 mp2 mask).1).2.2) 1 w350 w [.own 2 1 b101 ((mp2).length) c102 (marked mp2.length (1 + (mp1.length : Int))), .own 2 1 b99 ((mp1).length) c100 (marked mp1.length 1), .own 2 1 b228 ((mp1).length) c229 mp1, .own 2 1 b230 ((mp2).length) c231 mp2, .blk b141 #[.int .i64 (((F_PartOfModel mp0 mp1 mp2 mask).1).1), .slice b128 ((((F_PartOfModel mp0 mp1 mp2 mask).1).2.1).length) c129, .slice b130 ((((F_PartOfModel mp0 mp1 mp2 mask).1).2.2).length) c131] 38, .blk b105 #[.int .i64 mp0, .slice b99 ((mp1).length) c100, .slice b101 ((mp2).length) c102] 38, .own 2 1 b64 ((((F_s_PartOfModel mp0 mp1 mp2 mask).1).2.1).length) c65 (((F_s_PartOfModel mp0 mp1 mp2 mask).1).2.1), .own 2 1 b66 ((((F_s_PartOfModel mp0 mp1 mp2 mask).1).2.2).length) c67 (((F_s_PartOfModel mp0 mp1 mp2 mask).1).2.2), .blk b76 #[.int .i64 (((F_s_PartOfModel mp0 mp1 mp2 mask).1).1), .slice b64 ((((F_s_PartOfModel mp0 mp1 mp2 mask).1).2.1).length) c65, .slice b66 ((((F_s_PartOfModel mp0 mp1 mp2 mask).1).2.2).length) c67] 38, .own 2 1 b50 ((mp1).length) c51 mp1, .own 2 1 b52 ((mp2).length) c53 mp2, .rd 1 mp1A mp1.length mp1C mp1, .rd 1 mp2A mp2.length mp2C mp2, .blk b3 #[.int .i64 mp0, .slice mp1A mp1.length mp1C, .slice mp2A mp2.length mp2C] 35] hS381 (by first | omega | (simp only [marked_len]; omega)) (by first | omega | (simp only [marked_len]; omega)) (by first | omega | (simp only [marked_len]; omega)) (by first | omega | (simp only [marked_len]; omega))) ?_)
              rintro _ w376 ⟨rfl, hS379⟩ a377 hE378; clear hE374 hS381
              refine q_step (v := .int .i64 (1 + ((((F_PartOfModel mp0 mp1 mp2 mask).1).2.1).length : Int) + ((((F_PartOfModel mp0 mp1 mp2 mask).1).2.2).length : Int))) hE378 (y_assign rfl) rfl rfl rfl ?_; intro a382 hE383; clear hE378
              refine c_nil ?_
              have hE384 := hE383.sub (L' := [(1, .int .i64 mask), (2, .pointer (some ⟨b3, 0, none⟩)), (6, .pointer (some ⟨b76, 0, none⟩)), (7, .int .i64 ((F_s_PartOfModel mp0 mp1 mp2 mask).2)), (9, .pointer (some ⟨b141, 0, none⟩)), (12, .int .i64 (1 + ((((F_PartOfModel mp0 mp1 mp2 mask).1).2.1).length : Int) + ((((F_PartOfModel mp0 mp1 mp2 mask).1).2.2).length : Int)))]) ⟨rfl, rfl, rfl, rfl, rfl, rfl, trivial⟩; clear hE383
              refine p_tn ?_
              refine c_seq ?_
              refine c_reg ?_
              refine q_step (v := .int .i64 1) hE384 (y_assign rfl) rfl rfl rfl ?_; intro a385 hE386; clear hE384
              refine c_nil ?_
              have hE387 := hE386.sub (L' := [(1, .int .i64 mask), (2, .pointer (some ⟨b3, 0, none⟩)), (6, .pointer (some ⟨b76, 0, none⟩)), (7, .int .i64 ((F_s_PartOfModel mp0 mp1 mp2 mask).2)), (9, .pointer (some ⟨b141, 0, none⟩)), (12, .int .i64 (1 + ((((F_PartOfModel mp0 mp1 mp2 mask).1).2.1).length : Int) + ((((F_PartOfModel mp0 mp1 mp2 mask).1).2.2).length : Int))), (13, .int .i64 1)]) ⟨rfl, rfl, rfl, rfl, rfl, rfl, rfl, trivial⟩; clear hE386
              refine p_tn ?_
              refine c_seq ?_
              refine c_reg ?_
              refine q_step (v := .agg #[.int .i64 (((F_PartOfModel mp0 mp1 mp2 mask).1).1), .slice b128 ((((F_PartOfModel mp0 mp1 mp2 mask).1).2.1).length) c129, .slice b130 ((((F_PartOfModel mp0 mp1 mp2 mask).1).2.2).length) c131]) hE387 (y_loadS Try.underlying38 rfl (by kernel_rfl) rfl (St.row (i := 6) hS379 rfl)) rfl rfl rfl ?_; intro a388 hE389; clear hE387
              refine q_step (v := .int .i64 1) hE389 (y_move rfl) rfl rfl rfl ?_; intro a390 hE391; clear hE389
              refine l_step hE391 rfl (l_call (f := 28) (argv := [.agg #[.int .i64 (((F_PartOfModel mp0 mp1 mp2 mask).1).1), .slice b128 ((((F_PartOfModel mp0 mp1 mp2 mask).1).2.1).length) c129, .slice b130 ((((F_PartOfModel mp0 mp1 mp2 mask).1).2.2).length) c131], .int .i64 1]) hE391 (fun _ => cf_l_heldModel _ _) rfl rfl (c_l_heldModel (((F_PartOfModel mp0 mp1 mp2 mask).1).1) b128 ((((F_PartOfModel mp0 mp1 mp2 mask).1).2.1).length) c129 (marked (((F_PartOfModel mp0 mp1 mp2 mask).1).2.1).length 1) b130 ((((F_PartOfModel mp0 mp1 mp2 mask).1).2.2).length) c131 (marked (((F_PartOfModel mp0 mp1 mp2 mask).1).2.2).length (1 + ((((F_PartOfModel mp0 mp1 mp2 mask).1).2.1).length : Int))) 1 w376 (St.rdO (i := 1) hS379 rfl) (St.rdO (i := 0) hS379 rfl) (by first | omega | (simp only [marked_len]; omega)) (by first | omega | (simp only [marked_len]; omega)) (by first | omega | (simp only [marked_len]; omega)) (by first | omega | (simp only [marked_len]; omega))) ?_)
              rintro _ w393 ⟨rfl, he397⟩ a394 hE395; clear hE391
              have hS396 := St.go hS379 he397; clear hS379
              refine q_step (v := .int .i64 (F_l_heldModel (((F_PartOfModel mp0 mp1 mp2 mask).1).1) (marked (((F_PartOfModel mp0 mp1 mp2 mask).1).2.1).length 1) (marked (((F_PartOfModel mp0 mp1 mp2 mask).1).2.2).length (1 + ((((F_PartOfModel mp0 mp1 mp2 mask).1).2.1).length : Int))) 1)) hE395 (y_assign rfl) rfl rfl rfl ?_; intro a398 hE399; clear hE395
              refine c_nil ?_
              have hE400 := hE399.sub (L' := [(1, .int .i64 mask), (2, .pointer (some ⟨b3, 0, none⟩)), (6, .pointer (some ⟨b76, 0, none⟩)), (7, .int .i64 ((F_s_PartOfModel mp0 mp1 mp2 mask).2)), (9, .pointer (some ⟨b141, 0, none⟩)), (12, .int .i64 (1 + ((((F_PartOfModel mp0 mp1 mp2 mask).1).2.1).length : Int) + ((((F_PartOfModel mp0 mp1 mp2 mask).1).2.2).length : Int))), (13, .int .i64 (F_l_heldModel (((F_PartOfModel mp0 mp1 mp2 mask).1).1) (marked (((F_PartOfModel mp0 mp1 mp2 mask).1).2.1).length 1) (marked (((F_PartOfModel mp0 mp1 mp2 mask).1).2.2).length (1 + ((((F_PartOfModel mp0 mp1 mp2 mask).1).2.1).length : Int))) 1))]) ⟨rfl, rfl, rfl, rfl, rfl, rfl, rfl, trivial⟩; clear hE399
              refine p_tn ?_
              refine c_seq ?_
              refine c_seq ?_
              refine c_reg ?_
              refine q_step (v := .int .i64 (F_l_heldModel (((F_PartOfModel mp0 mp1 mp2 mask).1).1) (marked (((F_PartOfModel mp0 mp1 mp2 mask).1).2.1).length 1) (marked (((F_PartOfModel mp0 mp1 mp2 mask).1).2.2).length (1 + ((((F_PartOfModel mp0 mp1 mp2 mask).1).2.1).length : Int))) 1)) hE400 (y_move rfl) rfl rfl rfl ?_; intro a401 hE402; clear hE400
              refine q_step (v := .bool (decide ((F_l_heldModel (((F_PartOfModel mp0 mp1 mp2 mask).1).1) (marked (((F_PartOfModel mp0 mp1 mp2 mask).1).2.1).length 1) (marked (((F_PartOfModel mp0 mp1 mp2 mask).1).2.2).length (1 + ((((F_PartOfModel mp0 mp1 mp2 mask).1).2.1).length : Int))) 1) < 0))) hE402 (y_lss rfl rfl) rfl rfl rfl ?_; intro a403 hE404; clear hE402
              refine c_nil ?_
              have hE405 := hE404.sub (L' := [(1, .int .i64 mask), (2, .pointer (some ⟨b3, 0, none⟩)), (6, .pointer (some ⟨b76, 0, none⟩)), (7, .int .i64 ((F_s_PartOfModel mp0 mp1 mp2 mask).2)), (9, .pointer (some ⟨b141, 0, none⟩)), (12, .int .i64 (1 + ((((F_PartOfModel mp0 mp1 mp2 mask).1).2.1).length : Int) + ((((F_PartOfModel mp0 mp1 mp2 mask).1).2.2).length : Int))), (13, .int .i64 (F_l_heldModel (((F_PartOfModel mp0 mp1 mp2 mask).1).1) (marked (((F_PartOfModel mp0 mp1 mp2 mask).1).2.1).length 1) (marked (((F_PartOfModel mp0 mp1 mp2 mask).1).2.2).length (1 + ((((F_PartOfModel mp0 mp1 mp2 mask).1).2.1).length : Int))) 1)), (73, .bool (decide ((F_l_heldModel (((F_PartOfModel mp0 mp1 mp2 mask).1).1) (marked (((F_PartOfModel mp0 mp1 mp2 mask).1).2.1).length 1) (marked (((F_PartOfModel mp0 mp1 mp2 mask).1).2.2).length (1 + ((((F_PartOfModel mp0 mp1 mp2 mask).1).2.1).length : Int))) 1) < 0)))]) ⟨rfl, rfl, rfl, rfl, rfl, rfl, rfl, rfl, trivial⟩; clear hE404
              refine p_tn ?_
              refine c_cond hE405 rfl (fun ht406 => ?_) (fun ht406 => ?_)
              ·
                have hp407 := of_decide_eq_true ht406
                have hE408 := hE405; rw [ht406] at hE408; clear hE405
                refine c_seq ?_
                refine c_reg ?_
                refine q_step (v := .bool false) hE408 (y_assign rfl) rfl rfl rfl ?_; intro a409 hE410; clear hE408
                refine c_nil ?_
                have hE411 := hE410.sub (L' := [(4, .bool false)]) ⟨rfl, trivial⟩; clear hE410
                refine p_tn ?_
                refine wp_ret ?_
                refine p_tr ?_
                have hF : F_l_FnExactPartOfModel mp0 mp1 mp2 mask = false := by unfold F_l_FnExactPartOfModel; rw [ht406, ht353, ht243, ht203, ht33]; first | done | rfl
                refine c_ret1 hE411 rfl rfl ?_
                exact ⟨(by rw [hF]; first | done | rfl), hS396.ext⟩
              ·
                have hp412 := of_decide_eq_false ht406
                have hE413 := hE405; rw [ht406] at hE413; clear hE405
                refine wp_skip ?_
                refine p_tn ?_
                refine c_seq ?_
                refine c_seq ?_
                refine c_reg ?_
                refine q_step (v := .int .i64 (F_l_heldModel (((F_PartOfModel mp0 mp1 mp2 mask).1).1) (marked (((F_PartOfModel mp0 mp1 mp2 mask).1).2.1).length 1) (marked (((F_PartOfModel mp0 mp1 mp2 mask).1).2.2).length (1 + ((((F_PartOfModel mp0 mp1 mp2 mask).1).2.1).length : Int))) 1)) hE413 (y_move rfl) rfl rfl rfl ?_; intro a414 hE415; clear hE413
                refine q_step (v := .int .i64 (1 + ((((F_PartOfModel mp0 mp1 mp2 mask).1).2.1).length : Int) + ((((F_PartOfModel mp0 mp1 mp2 mask).1).2.2).length : Int))) hE415 (y_move rfl) rfl rfl rfl ?_; intro a416 hE417; clear hE415
                refine q_step (v := .bool (!decide ((F_l_heldModel (((F_PartOfModel mp0 mp1 mp2 mask).1).1) (marked (((F_PartOfModel mp0 mp1 mp2 mask).1).2.1).length 1) (marked (((F_PartOfModel mp0 mp1 mp2 mask).1).2.2).length (1 + ((((F_PartOfModel mp0 mp1 mp2 mask).1).2.1).length : Int))) 1) = (1 + ((((F_PartOfModel mp0 mp1 mp2 mask).1).2.1).length : Int) + ((((F_PartOfModel mp0 mp1 mp2 mask).1).2.2).length : Int))))) hE417 (y_neq rfl rfl) rfl rfl rfl ?_; intro a418 hE419; clear hE417
                refine c_nil ?_
                have hE420 := hE419.sub (L' := [(1, .int .i64 mask), (2, .pointer (some ⟨b3, 0, none⟩)), (6, .pointer (some ⟨b76, 0, none⟩)), (7, .int .i64 ((F_s_PartOfModel mp0 mp1 mp2 mask).2)), (9, .pointer (some ⟨b141, 0, none⟩)), (12, .int .i64 (1 + ((((F_PartOfModel mp0 mp1 mp2 mask).1).2.1).length : Int) + ((((F_PartOfModel mp0 mp1 mp2 mask).1).2.2).length : Int))), (76, .bool (!decide ((F_l_heldModel (((F_PartOfModel mp0 mp1 mp2 mask).1).1) (marked (((F_PartOfModel mp0 mp1 mp2 mask).1).2.1).length 1) (marked (((F_PartOfModel mp0 mp1 mp2 mask).1).2.2).length (1 + ((((F_PartOfModel mp0 mp1 mp2 mask).1).2.1).length : Int))) 1) = (1 + ((((F_PartOfModel mp0 mp1 mp2 mask).1).2.1).length : Int) + ((((F_PartOfModel mp0 mp1 mp2 mask).1).2.2).length : Int)))))]) ⟨rfl, rfl, rfl, rfl, rfl, rfl, rfl, trivial⟩; clear hE419
                refine p_tn ?_
                refine c_cond hE420 rfl (fun ht421 => ?_) (fun ht421 => ?_)
                ·
                  have ht422 := bn_t ht421
                  have hp423 := of_decide_eq_false ht422
                  have hE424 := hE420; rw [ht421] at hE424; clear hE420
                  refine c_seq ?_
                  refine c_reg ?_
                  refine q_step (v := .bool false) hE424 (y_assign rfl) rfl rfl rfl ?_; intro a425 hE426; clear hE424
                  refine c_nil ?_
                  have hE427 := hE426.sub (L' := [(4, .bool false)]) ⟨rfl, trivial⟩; clear hE426
                  refine p_tn ?_
                  refine wp_ret ?_
                  refine p_tr ?_
                  have hF : F_l_FnExactPartOfModel mp0 mp1 mp2 mask = false := by unfold F_l_FnExactPartOfModel; rw [ht421, ht406, ht353, ht243, ht203, ht33]; first | done | rfl
                  refine c_ret1 hE427 rfl rfl ?_
                  exact ⟨(by rw [hF]; first | done | rfl), hS396.ext⟩
                ·
                  have ht428 := bn_f ht421
                  have hp429 := of_decide_eq_true ht428
                  have hE430 := hE420; rw [ht421] at hE430; clear hE420
                  refine wp_skip ?_
                  refine p_tn ?_
                  refine c_seq ?_
                  refine c_reg ?_
                  refine q_step (v := .agg #[.int .i64 mp0, .slice mp1A mp1.length mp1C, .slice mp2A mp2.length mp2C]) hE430 (y_loadS Try.underlying35 rfl (by kernel_rfl) rfl (St.row (i := 15) hS396 rfl)) rfl rfl rfl ?_; intro a431 hE432; clear hE430
                  refine l_step hE432 rfl (l_call (f := 24) (argv := [.agg #[.int .i64 mp0, .slice mp1A mp1.length mp1C, .slice mp2A mp2.length mp2C]]) hE432 (fun _ => cf_l_toModel _ _) rfl rfl (d_l_toModel mp0 mp1A mp1.length mp1C mp1 mp2A mp2.length mp2C mp2 w393 (St.rdR (i := 13) hS396 rfl) (St.rdR (i := 14) hS396 rfl) (by first | omega | (simp only [marked_len]; omega)) (by first | omega | (simp only [marked_len]; omega))) ?_)
                  rintro _ w434 ⟨b439, c440, b441, c442, rfl, ho443, he438⟩ a435 hE436; clear hE432
                  have hS437 := St.push2 hS396 he438 ho443; clear hS396
                  refine q_step (v := .int .i64 mask) hE436 (y_move rfl) rfl rfl rfl ?_; intro a445 hE446; clear hE436
                  refine l_step hE446 rfl (l_call (f := 35) (argv := [.agg #[.int .i64 mp0, .slice b439 ((mp1).length) c440, .slice b441 ((mp2).length) c442], .int .i64 mask]) hE446 (fun _ => cf_PartOfModel _ _) rfl rfl (c_PartOfModel mp0 b439 ((mp1).length) c440 mp1 b441 ((mp2).length) c442 mp2 mask w434 (St.rdO (i := 0) hS437 rfl) (St.rdO (i := 1) hS437 rfl)) ?_)
                  rintro _ w448 ⟨b453, c454, b455, c456, rfl, ho457, he452⟩ a449 hE450; clear hE446
                  have hf459 := PartOfModel_len mp0 mp1 mp2 mask
                  have hS451 := St.push2 hS437 he452 ho457; clear hS437
                  refine q_step (v := .tuple #[.agg #[.int .i64 (((F_PartOfModel mp0 mp1 mp2 mask).1).1), .slice b453 ((((F_PartOfModel mp0 mp1 mp2 mask).1).2.1).length) c454, .slice b455 ((((F_PartOfModel mp0 mp1 mp2 mask).1).2.2).length) c456], .int .i64 ((F_PartOfModel mp0 mp1 mp2 mask).2)]) hE450 (y_move rfl) rfl rfl rfl ?_; intro a460 hE461; clear hE450
                  refine q_step (v := .agg #[.int .i64 (((F_PartOfModel mp0 mp1 mp2 mask).1).1), .slice b453 ((((F_PartOfModel mp0 mp1 mp2 mask).1).2.1).length) c454, .slice b455 ((((F_PartOfModel mp0 mp1 mp2 mask).1).2.2).length) c456]) hE461 (y_extract rfl rfl) rfl rfl rfl ?_; intro a462 hE463; clear hE461
                  refine q_step (v := .int .i64 ((F_PartOfModel mp0 mp1 mp2 mask).2)) hE463 (y_extract rfl rfl) rfl rfl rfl ?_; intro a464 hE465; clear hE463
                  refine l_step hE465 rfl (l_alloc (z := .agg #[.int .i64 0, .slice none 0 0, .slice none 0 0]) (cs := #[.int .i64 0, .slice none 0 0, .slice none 0 0]) hS451 hE465 (fun _ => by kernel_rfl) rfl rfl ?_)
                  intro b466 w467 hS470 he471 a468 hE469; clear hS451 hE465
                  refine l_step hE469 rfl (l_storeS (k := 0) (cs' := #[.int .i64 (((F_PartOfModel mp0 mp1 mp2 mask).1).1), .slice b453 ((((F_PartOfModel mp0 mp1 mp2 mask).1).2.1).length) c454, .slice b455 ((((F_PartOfModel mp0 mp1 mp2 mask).1).2.2).length) c456]) hS470 hE469 (by kernel_rfl) rfl rfl (by kernel_rfl) rfl rfl ?_)
                  intro w473 hS476 a474 hE475; clear hS470 hE469
                  refine q_step (v := .int .i64 ((F_PartOfModel mp0 mp1 mp2 mask).2)) hE475 (y_assign rfl) rfl rfl rfl ?_; intro a478 hE479; clear hE475
                  refine c_nil ?_
                  have hE480 := hE479.sub (L' := [(6, .pointer (some ⟨b76, 0, none⟩)), (7, .int .i64 ((F_s_PartOfModel mp0 mp1 mp2 mask).2)), (9, .pointer (some ⟨b141, 0, none⟩)), (12, .int .i64 (1 + ((((F_PartOfModel mp0 mp1 mp2 mask).1).2.1).length : Int) + ((((F_PartOfModel mp0 mp1 mp2 mask).1).2.2).length : Int))), (14, .pointer (some ⟨b466, 0, none⟩)), (15, .int .i64 ((F_PartOfModel mp0 mp1 mp2 mask).2))]) ⟨rfl, rfl, rfl, rfl, rfl, rfl, trivial⟩; clear hE479
                  refine p_tn ?_
                  refine c_seq ?_
                  refine c_cut (fun a' w' => E a' 101 [(9, .pointer (some ⟨b141, 0, none⟩)), (12, .int .i64 (1 + ((((F_PartOfModel mp0 mp1 mp2 mask).1).2.1).length : Int) + ((((F_PartOfModel mp0 mp1 mp2 mask).1).2.2).length : Int))), (92, .bool ((!(decide (((((F_PartOfModel mp0 mp1 mp2 mask).1).1), (((F_PartOfModel mp0 mp1 mp2 mask).1).2.1), (((F_PartOfModel mp0 mp1 mp2 mask).1).2.2)) = ((((F_s_PartOfModel mp0 mp1 mp2 mask).1).1), (((F_s_PartOfModel mp0 mp1 mp2 mask).1).2.1), (((F_s_PartOfModel mp0 mp1 mp2 mask).1).2.2))))) || (!decide (((F_PartOfModel mp0 mp1 mp2 mask).2) = ((F_s_PartOfModel mp0 mp1 mp2 mask).2)))))] ∧ St w w' [.own 2 1 b453 ((((F_PartOfModel mp0 mp1 mp2 mask).1).2.1).length) c454 (((F_PartOfModel mp0 mp1 mp2 mask).1).2.1), .own 2 1 b455 ((((F_PartOfModel mp0 mp1 mp2 mask).1).2.2).length) c456 (((F_PartOfModel mp0 mp1 mp2 mask).1).2.2), .blk b466 #[.int .i64 (((F_PartOfModel mp0 mp1 mp2 mask).1).1), .slice b453 ((((F_PartOfModel mp0 mp1 mp2 mask).1).2.1).length) c454, .slice b455 ((((F_PartOfModel mp0 mp1 mp2 mask).1).2.2).length) c456] 38, .own 2 1 b439 ((mp1).length) c440 mp1, .own 2 1 b441 ((mp2).length) c442 mp2, .own 2 1 b130 ((((F_PartOfModel mp0 mp1 mp2 mask).1).2.2).length) c131 (marked (((F_PartOfModel mp0 mp1 mp2 mask).1).2.2).length (1 + ((((F_PartOfModel mp0 mp1 mp2 mask).1).2.1).length : Int))), .own 2 1 b128 ((((F_PartOfModel mp0 mp1 mp2 mask).1).2.1).length) c129 (marked (((F_PartOfModel mp0 mp1 mp2 mask).1).2.1).length 1), .own 2 1 b101 ((mp2).length) c102 (marked mp2.length (1 + (mp1.length : Int))), .own 2 1 b99 ((mp1).length) c100 (marked mp1.length 1), .own 2 1 b228 ((mp1).length) c229 mp1, .own 2 1 b230 ((mp2).length) c231 mp2, .blk b141 #[.int .i64 (((F_PartOfModel mp0 mp1 mp2 mask).1).1), .slice b128 ((((F_PartOfModel mp0 mp1 mp2 mask).1).2.1).length) c129, .slice b130 ((((F_PartOfModel mp0 mp1 mp2 mask).1).2.2).length) c131] 38, .blk b105 #[.int .i64 mp0, .slice b99 ((mp1).length) c100, .slice b101 ((mp2).length) c102] 38, .own 2 1 b64 ((((F_s_PartOfModel mp0 mp1 mp2 mask).1).2.1).length) c65 (((F_s_PartOfModel mp0 mp1 mp2 mask).1).2.1), .own 2 1 b66 ((((F_s_PartOfModel mp0 mp1 mp2 mask).1).2.2).length) c67 (((F_s_PartOfModel mp0 mp1 mp2 mask).1).2.2), .blk b76 #[.int .i64 (((F_s_PartOfModel mp0 mp1 mp2 mask).1).1), .slice b64 ((((F_s_PartOfModel mp0 mp1 mp2 mask).1).2.1).length) c65, .slice b66 ((((F_s_PartOfModel mp0 mp1 mp2 mask).1).2.2).length) c67] 38, .own 2 1 b50 ((mp1).length) c51 mp1, .own 2 1 b52 ((mp2).length) c53 mp2, .rd 1 mp1A mp1.length mp1C mp1, .rd 1 mp2A mp2.length mp2C mp2, .blk b3 #[.int .i64 mp0, .slice mp1A mp1.length mp1C, .slice mp2A mp2.length mp2C] 35]) ?_ ?_
                  ·
                    refine c_reg ?_
                    refine q_step (v := .agg #[.int .i64 (((F_PartOfModel mp0 mp1 mp2 mask).1).1), .slice b453 ((((F_PartOfModel mp0 mp1 mp2 mask).1).2.1).length) c454, .slice b455 ((((F_PartOfModel mp0 mp1 mp2 mask).1).2.2).length) c456]) hE480 (y_loadS Try.underlying38 rfl (by kernel_rfl) rfl (St.row (i := 0) hS476 rfl)) rfl rfl rfl ?_; intro a481 hE482; clear hE480
                    refine q_step (v := .agg #[.int .i64 (((F_s_PartOfModel mp0 mp1 mp2 mask).1).1), .slice b64 ((((F_s_PartOfModel mp0 mp1 mp2 mask).1).2.1).length) c65, .slice b66 ((((F_s_PartOfModel mp0 mp1 mp2 mask).1).2.2).length) c67]) hE482 (y_loadS Try.underlying38 rfl (by kernel_rfl) rfl (St.row (i := 15) hS476 rfl)) rfl rfl rfl ?_; intro a483 hE484; clear hE482
                    refine l_step hE484 rfl (l_call (f := 26) (argv := [.agg #[.int .i64 (((F_PartOfModel mp0 mp1 mp2 mask).1).1), .slice b453 ((((F_PartOfModel mp0 mp1 mp2 mask).1).2.1).length) c454, .slice b455 ((((F_PartOfModel mp0 mp1 mp2 mask).1).2.2).length) c456], .agg #[.int .i64 (((F_s_PartOfModel mp0 mp1 mp2 mask).1).1), .slice b64 ((((F_s_PartOfModel mp0 mp1 mp2 mask).1).2.1).length) c65, .slice b66 ((((F_s_PartOfModel mp0 mp1 mp2 mask).1).2.2).length) c67]]) hE484 (fun _ => cf_l_eqModel _ _) rfl rfl (d_l_eqModel (((F_PartOfModel mp0 mp1 mp2 mask).1).1) b453 ((((F_PartOfModel mp0 mp1 mp2 mask).1).2.1).length) c454 (((F_PartOfModel mp0 mp1 mp2 mask).1).2.1) b455 ((((F_PartOfModel mp0 mp1 mp2 mask).1).2.2).length) c456 (((F_PartOfModel mp0 mp1 mp2 mask).1).2.2) (((F_s_PartOfModel mp0 mp1 mp2 mask).1).1) b64 ((((F_s_PartOfModel mp0 mp1 mp2 mask).1).2.1).length) c65 (((F_s_PartOfModel mp0 mp1 mp2 mask).1).2.1) b66 ((((F_s_PartOfModel mp0 mp1 mp2 mask).1).2.2).length) c67 (((F_s_PartOfModel mp0 mp1 mp2 mask).1).2.2) w473 (St.rdO (i := 1) hS476 rfl) (St.rdO (i := 2) hS476 rfl) (St.rdO (i := 13) hS476 rfl) (St.rdO (i := 14) hS476 rfl)) ?_)
                    rintro _ w486 ⟨rfl, he490⟩ a487 hE488; clear hE484
                    have hS489 := St.go hS476 he490; clear hS476
                    refine q_step (v := .bool (!(decide (((((F_PartOfModel mp0 mp1 mp2 mask).1).1), (((F_PartOfModel mp0 mp1 mp2 mask).1).2.1), (((F_PartOfModel mp0 mp1 mp2 mask).1).2.2)) = ((((F_s_PartOfModel mp0 mp1 mp2 mask).1).1), (((F_s_PartOfModel mp0 mp1 mp2 mask).1).2.1), (((F_s_PartOfModel mp0 mp1 mp2 mask).1).2.2)))))) hE488 (y_not rfl) rfl rfl rfl ?_; intro a491 hE492; clear hE488
                    refine q_step (v := .bool (!(decide (((((F_PartOfModel mp0 mp1 mp2 mask).1).1), (((F_PartOfModel mp0 mp1 mp2 mask).1).2.1), (((F_PartOfModel mp0 mp1 mp2 mask).1).2.2)) = ((((F_s_PartOfModel mp0 mp1 mp2 mask).1).1), (((F_s_PartOfModel mp0 mp1 mp2 mask).1).2.1), (((F_s_PartOfModel mp0 mp1 mp2 mask).1).2.2)))))) hE492 (y_move rfl) rfl rfl rfl ?_; intro a493 hE494; clear hE492
                    rcases Bool.eq_false_or_eq_true (!(decide (((((F_PartOfModel mp0 mp1 mp2 mask).1).1), (((F_PartOfModel mp0 mp1 mp2 mask).1).2.1), (((F_PartOfModel mp0 mp1 mp2 mask).1).2.2)) = ((((F_s_PartOfModel mp0 mp1 mp2 mask).1).1), (((F_s_PartOfModel mp0 mp1 mp2 mask).1).2.1), (((F_s_PartOfModel mp0 mp1 mp2 mask).1).2.2))))) with hb495 | hb495
                    ·
                      have hE496 := hE494; rw [hb495] at hE496; clear hE494
                      have ht497 := bn_t hb495
                      have hp498 := of_decide_eq_false ht497
                      refine q_skip hE496 rfl rfl rfl ?_; intro a499 hE500; clear hE496
                      refine q_skip hE500 rfl rfl rfl ?_; intro a501 hE502; clear hE500
                      refine q_skip hE502 rfl rfl rfl ?_; intro a503 hE504; clear hE502
                      refine q_step (v := .bool true) hE504 (y_pick (b := true) rfl rfl) rfl rfl rfl ?_; intro a505 hE506; clear hE504
                      refine c_nil ?_
                      have hE507 := hE506.sub (L' := [(9, .pointer (some ⟨b141, 0, none⟩)), (12, .int .i64 (1 + ((((F_PartOfModel mp0 mp1 mp2 mask).1).2.1).length : Int) + ((((F_PartOfModel mp0 mp1 mp2 mask).1).2.2).length : Int))), (92, .bool true)]) ⟨rfl, rfl, rfl, trivial⟩; clear hE506
                      refine p_tn ?_
                      have hE508 := hE507.sub (L' := [(9, .pointer (some ⟨b141, 0, none⟩)), (12, .int .i64 (1 + ((((F_PartOfModel mp0 mp1 mp2 mask).1).2.1).length : Int) + ((((F_PartOfModel mp0 mp1 mp2 mask).1).2.2).length : Int))), (92, .bool true)]) ⟨rfl, rfl, rfl, trivial⟩
                      have hS509 := (St.pick (Γ' := [.own 2 1 b453 ((((F_PartOfModel mp0 mp1 mp2 mask).1).2.1).length) c454 (((F_PartOfModel mp0 mp1 mp2 mask).1).2.1), .own 2 1 b455 ((((F_PartOfModel mp0 mp1 mp2 mask).1).2.2).length) c456 (((F_PartOfModel mp0 mp1 mp2 mask).1).2.2), .blk b466 #[.int .i64 (((F_PartOfModel mp0 mp1 mp2 mask).1).1), .slice b453 ((((F_PartOfModel mp0 mp1 mp2 mask).1).2.1).length) c454, .slice b455 ((((F_PartOfModel mp0 mp1 mp2 mask).1).2.2).length) c456] 38, .own 2 1 b439 ((mp1).length) c440 mp1, .own 2 1 b441 ((mp2).length) c442 mp2, .own 2 1 b130 ((((F_PartOfModel mp0 mp1 mp2 mask).1).2.2).length) c131 (marked (((F_PartOfModel mp0 mp1 mp2 mask).1).2.2).length (1 + ((((F_PartOfModel mp0 mp1 mp2 mask).1).2.1).length : Int))), .own 2 1 b128 ((((F_PartOfModel mp0 mp1 mp2 mask).1).2.1).length) c129 (marked (((F_PartOfModel mp0 mp1 mp2 mask).1).2.1).length 1), .own 2 1 b101 ((mp2).length) c102 (marked mp2.length (1 + (mp1.length : Int))), .own 2 1 b99 ((mp1).length) c100 (marked mp1.length 1), .own 2 1 b228 ((mp1).length) c229 mp1, .own 2 1 b230 ((mp2).length) c231 mp2, .blk b141 #[.int .i64 (((F_PartOfModel mp0 mp1 mp2 mask).1).1), .slice b128 ((((F_PartOfModel mp0 mp1 mp2 mask).1).2.1).length) c129, .slice b130 ((((F_PartOfModel mp0 mp1 mp2 mask).1).2.2).length) c131] 38, .blk b105 #[.int .i64 mp0, .slice b99 ((mp1).length) c100, .slice b101 ((mp2).length) c102] 38, .own 2 1 b64 ((((F_s_PartOfModel mp0 mp1 mp2 mask).1).2.1).length) c65 (((F_s_PartOfModel mp0 mp1 mp2 mask).1).2.1), .own 2 1 b66 ((((F_s_PartOfModel mp0 mp1 mp2 mask).1).2.2).length) c67 (((F_s_PartOfModel mp0 mp1 mp2 mask).1).2.2), .blk b76 #[.int .i64 (((F_s_PartOfModel mp0 mp1 mp2 mask).1).1), .slice b64 ((((F_s_PartOfModel mp0 mp1 mp2 mask).1).2.1).length) c65, .slice b66 ((((F_s_PartOfModel mp0 mp1 mp2 mask).1).2.2).length) c67] 38, .own 2 1 b50 ((mp1).length) c51 mp1, .own 2 1 b52 ((mp2).length) c53 mp2, .rd 1 mp1A mp1.length mp1C mp1, .rd 1 mp2A mp2.length mp2C mp2, .blk b3 #[.int .i64 mp0, .slice mp1A mp1.length mp1C, .slice mp2A mp2.length mp2C] 35]) hS489 [1, 2, 0, 3, 4, 5, 6, 7, 8, 9, 10, 11, 12, 13, 14, 15, 16, 17, 18, 19, 20] (by decide) rfl)
                      exact ⟨(by rw [hb495]; exact hE508), hS509⟩
                    ·
                      have hE510 := hE494; rw [hb495] at hE510; clear hE494
                      have ht511 := bn_f hb495
                      have hp512 := of_decide_eq_true ht511
                      refine q_step (v := .int .i64 ((F_PartOfModel mp0 mp1 mp2 mask).2)) hE510 (y_move rfl) rfl rfl rfl ?_; intro a513 hE514; clear hE510
                      refine q_step (v := .int .i64 ((F_s_PartOfModel mp0 mp1 mp2 mask).2)) hE514 (y_move rfl) rfl rfl rfl ?_; intro a515 hE516; clear hE514
                      refine q_step (v := .bool (!decide (((F_PartOfModel mp0 mp1 mp2 mask).2) = ((F_s_PartOfModel mp0 mp1 mp2 mask).2)))) hE516 (y_neq rfl rfl) rfl rfl rfl ?_; intro a517 hE518; clear hE516
                      refine q_step (v := .bool (!decide (((F_PartOfModel mp0 mp1 mp2 mask).2) = ((F_s_PartOfModel mp0 mp1 mp2 mask).2)))) hE518 (y_pick (b := false) rfl rfl) rfl rfl rfl ?_; intro a519 hE520; clear hE518
                      refine c_nil ?_
                      have hE521 := hE520.sub (L' := [(9, .pointer (some ⟨b141, 0, none⟩)), (12, .int .i64 (1 + ((((F_PartOfModel mp0 mp1 mp2 mask).1).2.1).length : Int) + ((((F_PartOfModel mp0 mp1 mp2 mask).1).2.2).length : Int))), (92, .bool (!decide (((F_PartOfModel mp0 mp1 mp2 mask).2) = ((F_s_PartOfModel mp0 mp1 mp2 mask).2))))]) ⟨rfl, rfl, rfl, trivial⟩; clear hE520
                      refine p_tn ?_
                      have hE522 := hE521.sub (L' := [(9, .pointer (some ⟨b141, 0, none⟩)), (12, .int .i64 (1 + ((((F_PartOfModel mp0 mp1 mp2 mask).1).2.1).length : Int) + ((((F_PartOfModel mp0 mp1 mp2 mask).1).2.2).length : Int))), (92, .bool (!decide (((F_PartOfModel mp0 mp1 mp2 mask).2) = ((F_s_PartOfModel mp0 mp1 mp2 mask).2))))]) ⟨rfl, rfl, rfl, trivial⟩
                      have hS523 := (St.pick (Γ' := [.own 2 1 b453 ((((F_PartOfModel mp0 mp1 mp2 mask).1).2.1).length) c454 (((F_PartOfModel mp0 mp1 mp2 mask).1).2.1), .own 2 1 b455 ((((F_PartOfModel mp0 mp1 mp2 mask).1).2.2).length) c456 (((F_PartOfModel mp0 mp1 mp2 mask).1).2.2), .blk b466 #[.int .i64 (((F_PartOfModel mp0 mp1 mp2 mask).1).1), .slice b453 ((((F_PartOfModel mp0 mp1 mp2 mask).1).2.1).length) c454, .slice b455 ((((F_PartOfModel mp0 mp1 mp2 mask).1).2.2).length) c456] 38, .own 2 1 b439 ((mp1).length) c440 mp1, .own 2 1 b441 ((mp2).length) c442 mp2, .own 2 1 b130 ((((F_PartOfModel mp0 mp1 mp2 mask).1).2.2).length) c131 (marked (((F_PartOfModel mp0 mp1 mp2 mask).1).2.2).length (1 + ((((F_PartOfModel mp0 mp1 mp2 mask).1).2.1).length : Int))), .own 2 1 b128 ((((F_PartOfModel mp0 mp1 mp2 mask).1).2.1).length) c129 (marked (((F_PartOfModel mp0 mp1 mp2 mask).1).2.1).length 1), .own 2 1 b101 ((mp2).length) c102 (marked mp2.length (1 + (mp1.length : Int))), .own 2 1 b99 ((mp1).length) c100 (marked mp1.length 1), .own 2 1 b228 ((mp1).length) c229 mp1, .own 2 1 b230 ((mp2).length) c231 mp2, .blk b141 #[.int .i64 (((F_PartOfModel mp0 mp1 mp2 mask).1).1), .slice b128 ((((F_PartOfModel mp0 mp1 mp2 mask).1).2.1).length) c129, .slice b130 ((((F_PartOfModel mp0 mp1 mp2 mask).1).2.2).length) c131] 38, .blk b105 #[.int .i64 mp0, .slice b99 ((mp1).length) c100, .slice b101 ((mp2).length) c102] 38, .own 2 1 b64 ((((F_s_PartOfModel mp0 mp1 mp2 mask).1).2.1).length) c65 (((F_s_PartOfModel mp0 mp1 mp2 mask).1).2.1), .own 2 1 b66 ((((F_s_PartOfModel mp0 mp1 mp2 mask).1).2.2).length) c67 (((F_s_PartOfModel mp0 mp1 mp2 mask).1).2.2), .blk b76 #[.int .i64 (((F_s_PartOfModel mp0 mp1 mp2 mask).1).1), .slice b64 ((((F_s_PartOfModel mp0 mp1 mp2 mask).1).2.1).length) c65, .slice b66 ((((F_s_PartOfModel mp0 mp1 mp2 mask).1).2.2).length) c67] 38, .own 2 1 b50 ((mp1).length) c51 mp1, .own 2 1 b52 ((mp2).length) c53 mp2, .rd 1 mp1A mp1.length mp1C mp1, .rd 1 mp2A mp2.length mp2C mp2, .blk b3 #[.int .i64 mp0, .slice mp1A mp1.length mp1C, .slice mp2A mp2.length mp2C] 35]) hS489 [1, 2, 0, 3, 4, 5, 6, 7, 8, 9, 10, 11, 12, 13, 14, 15, 16, 17, 18, 19, 20] (by decide) rfl)
                      exact ⟨(by rw [hb495]; exact hE522), hS523⟩
                  ·
                    rintro a524 w525 ⟨hE526, hS527⟩; clear hE480 hS476
                    have hE528 := hE526; rw [ht203] at hE528; clear hE526
                    refine c_false hE528 rfl ?_
                    refine wp_skip ?_
                    refine p_tn ?_
                    refine c_seq ?_
                    refine c_reg ?_
                    refine q_step (v := .int .i64 1) hE528 (y_assign rfl) rfl rfl rfl ?_; intro a529 hE530; clear hE528
                    refine c_nil ?_
                    have hE531 := hE530.sub (L' := [(9, .pointer (some ⟨b141, 0, none⟩)), (12, .int .i64 (1 + ((((F_PartOfModel mp0 mp1 mp2 mask).1).2.1).length : Int) + ((((F_PartOfModel mp0 mp1 mp2 mask).1).2.2).length : Int))), (13, .int .i64 1)]) ⟨rfl, rfl, rfl, trivial⟩; clear hE530
                    refine p_tn ?_
                    refine c_seq ?_
                    refine c_reg ?_
                    refine q_step (v := .agg #[.int .i64 (((F_PartOfModel mp0 mp1 mp2 mask).1).1), .slice b128 ((((F_PartOfModel mp0 mp1 mp2 mask).1).2.1).length) c129, .slice b130 ((((F_PartOfModel mp0 mp1 mp2 mask).1).2.2).length) c131]) hE531 (y_loadS Try.underlying38 rfl (by kernel_rfl) rfl (St.row (i := 11) hS527 rfl)) rfl rfl rfl ?_; intro a532 hE533; clear hE531
                    refine q_step (v := .int .i64 1) hE533 (y_move rfl) rfl rfl rfl ?_; intro a534 hE535; clear hE533
                    refine l_step hE535 rfl (l_call (f := 28) (argv := [.agg #[.int .i64 (((F_PartOfModel mp0 mp1 mp2 mask).1).1), .slice b128 ((((F_PartOfModel mp0 mp1 mp2 mask).1).2.1).length) c129, .slice b130 ((((F_PartOfModel mp0 mp1 mp2 mask).1).2.2).length) c131], .int .i64 1]) hE535 (fun _ => cf_l_heldModel _ _) rfl rfl (c_l_heldModel (((F_PartOfModel mp0 mp1 mp2 mask).1).1) b128 ((((F_PartOfModel mp0 mp1 mp2 mask).1).2.1).length) c129 (marked (((F_PartOfModel mp0 mp1 mp2 mask).1).2.1).length 1) b130 ((((F_PartOfModel mp0 mp1 mp2 mask).1).2.2).length) c131 (marked (((F_PartOfModel mp0 mp1 mp2 mask).1).2.2).length (1 + ((((F_PartOfModel mp0 mp1 mp2 mask).1).2.1).length : Int))) 1 w525 (St.rdO (i := 6) hS527 rfl) (St.rdO (i := 5) hS527 rfl) (by first | omega | (simp only [marked_len]; omega)) (by first | omega | (simp only [marked_len]; omega)) (by first | omega | (simp only [marked_len]; omega)) (by first | omega | (simp only [marked_len]; omega))) ?_)
                    rintro _ w537 ⟨rfl, he541⟩ a538 hE539; clear hE535
                    have hS540 := St.go hS527 he541; clear hS527
                    refine q_step (v := .int .i64 (F_l_heldModel (((F_PartOfModel mp0 mp1 mp2 mask).1).1) (marked (((F_PartOfModel mp0 mp1 mp2 mask).1).2.1).length 1) (marked (((F_PartOfModel mp0 mp1 mp2 mask).1).2.2).length (1 + ((((F_PartOfModel mp0 mp1 mp2 mask).1).2.1).length : Int))) 1)) hE539 (y_assign rfl) rfl rfl rfl ?_; intro a542 hE543; clear hE539
                    refine c_nil ?_
                    have hE544 := hE543.sub (L' := [(12, .int .i64 (1 + ((((F_PartOfModel mp0 mp1 mp2 mask).1).2.1).length : Int) + ((((F_PartOfModel mp0 mp1 mp2 mask).1).2.2).length : Int))), (13, .int .i64 (F_l_heldModel (((F_PartOfModel mp0 mp1 mp2 mask).1).1) (marked (((F_PartOfModel mp0 mp1 mp2 mask).1).2.1).length 1) (marked (((F_PartOfModel mp0 mp1 mp2 mask).1).2.2).length (1 + ((((F_PartOfModel mp0 mp1 mp2 mask).1).2.1).length : Int))) 1))]) ⟨rfl, rfl, trivial⟩; clear hE543
                    refine p_tn ?_
                    refine c_seq ?_
                    refine c_seq ?_
                    refine c_reg ?_
                    refine q_step (v := .int .i64 (F_l_heldModel (((F_PartOfModel mp0 mp1 mp2 mask).1).1) (marked (((F_PartOfModel mp0 mp1 mp2 mask).1).2.1).length 1) (marked (((F_PartOfModel mp0 mp1 mp2 mask).1).2.2).length (1 + ((((F_PartOfModel mp0 mp1 mp2 mask).1).2.1).length : Int))) 1)) hE544 (y_move rfl) rfl rfl rfl ?_; intro a545 hE546; clear hE544
                    refine q_step (v := .bool (decide ((F_l_heldModel (((F_PartOfModel mp0 mp1 mp2 mask).1).1) (marked (((F_PartOfModel mp0 mp1 mp2 mask).1).2.1).length 1) (marked (((F_PartOfModel mp0 mp1 mp2 mask).1).2.2).length (1 + ((((F_PartOfModel mp0 mp1 mp2 mask).1).2.1).length : Int))) 1) < 0))) hE546 (y_lss rfl rfl) rfl rfl rfl ?_; intro a547 hE548; clear hE546
                    refine c_nil ?_
                    have hE549 := hE548.sub (L' := [(12, .int .i64 (1 + ((((F_PartOfModel mp0 mp1 mp2 mask).1).2.1).length : Int) + ((((F_PartOfModel mp0 mp1 mp2 mask).1).2.2).length : Int))), (13, .int .i64 (F_l_heldModel (((F_PartOfModel mp0 mp1 mp2 mask).1).1) (marked (((F_PartOfModel mp0 mp1 mp2 mask).1).2.1).length 1) (marked (((F_PartOfModel mp0 mp1 mp2 mask).1).2.2).length (1 + ((((F_PartOfModel mp0 mp1 mp2 mask).1).2.1).length : Int))) 1)), (97, .bool (decide ((F_l_heldModel (((F_PartOfModel mp0 mp1 mp2 mask).1).1) (marked (((F_PartOfModel mp0 mp1 mp2 mask).1).2.1).length 1) (marked (((F_PartOfModel mp0 mp1 mp2 mask).1).2.2).length (1 + ((((F_PartOfModel mp0 mp1 mp2 mask).1).2.1).length : Int))) 1) < 0)))]) ⟨rfl, rfl, rfl, trivial⟩; clear hE548
                    refine p_tn ?_
                    have hE550 := hE549; rw [ht406] at hE550; clear hE549
                    refine c_false hE550 rfl ?_
                    refine wp_skip ?_
                    refine p_tn ?_
                    refine c_seq ?_
                    refine c_seq ?_
                    refine c_reg ?_
                    refine q_step (v := .int .i64 (F_l_heldModel (((F_PartOfModel mp0 mp1 mp2 mask).1).1) (marked (((F_PartOfModel mp0 mp1 mp2 mask).1).2.1).length 1) (marked (((F_PartOfModel mp0 mp1 mp2 mask).1).2.2).length (1 + ((((F_PartOfModel mp0 mp1 mp2 mask).1).2.1).length : Int))) 1)) hE550 (y_move rfl) rfl rfl rfl ?_; intro a551 hE552; clear hE550
                    refine q_step (v := .int .i64 (1 + ((((F_PartOfModel mp0 mp1 mp2 mask).1).2.1).length : Int) + ((((F_PartOfModel mp0 mp1 mp2 mask).1).2.2).length : Int))) hE552 (y_move rfl) rfl rfl rfl ?_; intro a553 hE554; clear hE552
                    refine q_step (v := .bool (!decide ((F_l_heldModel (((F_PartOfModel mp0 mp1 mp2 mask).1).1) (marked (((F_PartOfModel mp0 mp1 mp2 mask).1).2.1).length 1) (marked (((F_PartOfModel mp0 mp1 mp2 mask).1).2.2).length (1 + ((((F_PartOfModel mp0 mp1 mp2 mask).1).2.1).length : Int))) 1) = (1 + ((((F_PartOfModel mp0 mp1 mp2 mask).1).2.1).length : Int) + ((((F_PartOfModel mp0 mp1 mp2 mask).1).2.2).length : Int))))) hE554 (y_neq rfl rfl) rfl rfl rfl ?_; intro a555 hE556; clear hE554
                    refine c_nil ?_
                    have hE557 := hE556.sub (L' := [(100, .bool (!decide ((F_l_heldModel (((F_PartOfModel mp0 mp1 mp2 mask).1).1) (marked (((F_PartOfModel mp0 mp1 mp2 mask).1).2.1).length 1) (marked (((F_PartOfModel mp0 mp1 mp2 mask).1).2.2).length (1 + ((((F_PartOfModel mp0 mp1 mp2 mask).1).2.1).length : Int))) 1) = (1 + ((((F_PartOfModel mp0 mp1 mp2 mask).1).2.1).length : Int) + ((((F_PartOfModel mp0 mp1 mp2 mask).1).2.2).length : Int)))))]) ⟨rfl, trivial⟩; clear hE556
                    refine p_tn ?_
                    have hE558 := hE557; rw [ht421] at hE558; clear hE557
                    refine c_false hE558 rfl ?_
                    refine wp_skip ?_
                    refine p_tn ?_
                    refine c_seq ?_
                    refine c_reg ?_
                    refine q_step (v := .bool true) hE558 (y_assign rfl) rfl rfl rfl ?_; intro a559 hE560; clear hE558
                    refine c_nil ?_
                    have hE561 := hE560.sub (L' := [(4, .bool true)]) ⟨rfl, trivial⟩; clear hE560
                    refine p_tn ?_
                    refine wp_ret ?_
                    have hF : F_l_FnExactPartOfModel mp0 mp1 mp2 mask = true := by unfold F_l_FnExactPartOfModel; rw [ht421, ht406, ht353, ht243, ht203, ht33]; first | done | rfl
                    refine c_ret1 hE561 rfl rfl ?_
                    exact ⟨(by rw [hF]; first | done | rfl), hS540.ext⟩

theorem FnExactPartOfModel_true (mp0 : Int) (mp1 mp2 : List Int) (mask : Int) : F_l_FnExactPartOfModel mp0 mp1 mp2 mask = true := by
  unfold F_l_FnExactPartOfModel
  rw [PartOfModel_eq, heldModel_eq _ _ _ _ (by omega)]
  have h1 : decide (1 + (mp1.length : Int) + (mp2.length : Int) < 0) = false := decide_eq_false (by omega)
  have h2 : decide ((1 : Int) + ((F_s_PartOfModel mp0 mp1 mp2 mask).1.2.1.length : Int) + ((F_s_PartOfModel mp0 mp1 mp2 mask).1.2.2.length : Int) < 0) = false := decide_eq_false (by omega)
  simp [h1, h2]

end Go.Proofs.Ytejfjcjdilbkdaa
