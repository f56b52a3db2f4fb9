/- GLQF: models and contracts, printed by wip/gen/gen.py -/
import Derived.Test.YtejfjcjdilbkdaaGA
import Derived.Test.YtejfjcjdilbkdaaGQF
set_option linter.unusedVariables false
set_option linter.unusedSimpArgs false
namespace Go.Proofs.Ytejfjcjdilbkdaa
open Go.RowKit

def F_l_FnExactQuotientFrame (fp0 : Int) (fp1 : List Int) (classes : List Int) : Bool :=
  bif (decide (1048576 < (classes.length : Int))) then true else (bif (decide ((F_l_szFrame fp0 fp1 1048576) < 0)) then true else (bif ((!(decide (((((F_QuotientFrame fp0 fp1 classes).1).1), (((F_QuotientFrame fp0 fp1 classes).1).2)) = ((((F_s_QuotientFrame fp0 fp1 classes).1).1), (((F_s_QuotientFrame fp0 fp1 classes).1).2))))) || (!decide (((F_QuotientFrame fp0 fp1 classes).2) = ((F_s_QuotientFrame fp0 fp1 classes).2)))) then false else (bif (!(decide ((fp0, fp1) = (fp0, fp1)))) then false else (bif (!(decide (classes = classes))) then false else (bif ((decide (((1 + (fp1.length : Int)) + (classes.length : Int)) < 0)) || ((!(decide (((((F_QuotientFrame fp0 fp1 classes).1).1), (((F_QuotientFrame fp0 fp1 classes).1).2)) = ((((F_s_QuotientFrame fp0 fp1 classes).1).1), (((F_s_QuotientFrame fp0 fp1 classes).1).2))))) || (!decide (((F_QuotientFrame fp0 fp1 classes).2) = ((F_s_QuotientFrame fp0 fp1 classes).2))))) then false else (bif (decide ((F_l_heldFrame (((F_QuotientFrame fp0 fp1 classes).1).1) (marked (((F_QuotientFrame fp0 fp1 classes).1).2).length 1) 1) < 0)) then false else (bif (!decide ((F_l_heldFrame (((F_QuotientFrame fp0 fp1 classes).1).1) (marked (((F_QuotientFrame fp0 fp1 classes).1).2).length 1) 1) = (1 + ((((F_QuotientFrame fp0 fp1 classes).1).2).length : Int)))) then false else true)))))))
theorem cf_l_FnExactQuotientFrame (args : Array Value) (w : World) : (callFunc 5 args).run Try.prog w = .ok (.enter 5 args) w := by kernel_rfl
set_option maxRecDepth 100000 in
theorem c_l_FnExactQuotientFrame (fp0 : Int) (fp1A : Option Addr) (fp1N fp1C : Nat) (fp1 : List Int) (classesA : Option Addr) (classesN classesC : Nat) (classes : List Int) (w : World) (fp1R : RdS w 1 fp1A fp1N fp1C fp1) (classesR : RdS w 1 classesA classesN classesC classes) :
    Calls Try.prog 5 #[.agg #[.int .i64 fp0, .slice fp1A fp1N fp1C], .slice classesA classesN classesC] w (Ret fun v w' => v = .bool (F_l_FnExactQuotientFrame fp0 fp1 classes) ∧ Ext w w') := by
  obtain rfl : fp1N = fp1.length := fp1R.len1.symm
  have fp1Le := fp1R.le
  obtain rfl : classesN = classes.length := classesR.len1.symm
  have classesLe := classesR.le
  have hS := St.nil w
  have hS1 := St.rd0 hS rfl fp1R; clear hS
  have hS2 := St.rd0 hS1 rfl classesR; clear hS1
  refine enter (args := [.agg #[.int .i64 fp0, .slice fp1A fp1.length fp1C], .slice classesA classes.length classesC]) Try.func5 rfl rfl ?_
  rw [Try.ntmps5]; intro a hE
  have hE := hE.sub (L' := [(0, .agg #[.int .i64 fp0, .slice fp1A fp1.length fp1C]), (1, .slice classesA classes.length classesC)]) ⟨rfl, rfl, trivial⟩
  refine c_seq ?_
  refine c_reg ?_
  refine l_step hE rfl (l_box (v := .agg #[.int .i64 fp0, .slice fp1A fp1.length fp1C]) (cs := #[.int .i64 fp0, .slice fp1A fp1.length fp1C]) hS2 hE rfl rfl rfl ?_)
  intro b3 w4 hS7 he8 a5 hE6; clear hS2 hE
  refine q_step (v := .bool false) hE6 (y_assign rfl) rfl rfl rfl ?_; intro a9 hE10; clear hE6
  refine c_nil ?_
  have hE11 := hE10.sub (L' := [(1, .slice classesA classes.length classesC), (2, .pointer (some ⟨b3, 0, none⟩))]) ⟨rfl, rfl, trivial⟩; clear hE10
  refine p_tn ?_
  refine c_seq ?_
  refine c_seq ?_
  refine c_reg ?_
  refine q_step (v := .slice classesA classes.length classesC) hE11 (y_move rfl) rfl rfl rfl ?_; intro a12 hE13; clear hE11
  refine q_step (v := .int .i64 (classes.length : Int)) hE13 (y_len (e := 2) (by kernel_rfl) rfl) rfl rfl rfl ?_; intro a14 hE15; clear hE13
  refine q_step (v := .bool (decide (1048576 < (classes.length : Int)))) hE15 (y_gtr rfl rfl) rfl rfl rfl ?_; intro a16 hE17; clear hE15
  refine c_nil ?_
  have hE18 := hE17.sub (L' := [(1, .slice classesA classes.length classesC), (2, .pointer (some ⟨b3, 0, none⟩)), (19, .bool (decide (1048576 < (classes.length : Int))))]) ⟨rfl, rfl, rfl, trivial⟩; clear hE17
  refine p_tn ?_
  refine c_cond hE18 rfl (fun ht19 => ?_) (fun ht19 => ?_)
  ·
    have hp20 := of_decide_eq_true ht19
    have hE21 := hE18; rw [ht19] at hE21; clear hE18
    refine c_seq ?_
    refine c_reg ?_
    refine q_step (v := .bool true) hE21 (y_assign rfl) rfl rfl rfl ?_; intro a22 hE23; clear hE21
    refine c_nil ?_
    have hE24 := hE23.sub (L' := [(4, .bool true)]) ⟨rfl, trivial⟩; clear hE23
    refine p_tn ?_
    refine wp_ret ?_
    refine p_tr ?_
    have hF : F_l_FnExactQuotientFrame fp0 fp1 classes = true := by unfold F_l_FnExactQuotientFrame; rw [ht19]; first | done | rfl
    refine c_ret1 hE24 rfl rfl ?_
    exact ⟨(by rw [hF]; first | done | rfl), hS7.ext⟩
  ·
    have hp25 := of_decide_eq_false ht19
    have hE26 := hE18; rw [ht19] at hE26; clear hE18
    refine wp_skip ?_
    refine p_tn ?_
    refine c_seq ?_
    refine c_reg ?_
    refine q_step (v := .int .i64 1048576) hE26 (y_assign rfl) rfl rfl rfl ?_; intro a27 hE28; clear hE26
    refine c_nil ?_
    have hE29 := hE28.sub (L' := [(1, .slice classesA classes.length classesC), (2, .pointer (some ⟨b3, 0, none⟩)), (5, .int .i64 1048576)]) ⟨rfl, rfl, rfl, trivial⟩; clear hE28
    refine p_tn ?_
    refine c_seq ?_
    refine c_reg ?_
    refine q_step (v := .agg #[.int .i64 fp0, .slice fp1A fp1.length fp1C]) hE29 (y_loadS Try.underlying24 rfl (by kernel_rfl) rfl (St.row (i := 0) hS7 rfl)) rfl rfl rfl ?_; intro a30 hE31; clear hE29
    refine q_step (v := .int .i64 1048576) hE31 (y_move rfl) rfl rfl rfl ?_; intro a32 hE33; clear hE31
    refine l_step hE33 rfl (l_call (f := 15) (argv := [.agg #[.int .i64 fp0, .slice fp1A fp1.length fp1C], .int .i64 1048576]) hE33 (fun _ => cf_l_szFrame _ _) rfl rfl (c_l_szFrame fp0 fp1A fp1.length fp1C fp1 1048576 w4 (St.rdR (i := 2) hS7 rfl) (by first | omega | (simp only [marked_len]; omega)) (by first | omega | (simp only [marked_len]; omega))) ?_)
    rintro _ w35 ⟨rfl, he39⟩ a36 hE37; clear hE33
    have hS38 := St.go hS7 he39; clear hS7
    refine q_step (v := .int .i64 (F_l_szFrame fp0 fp1 1048576)) hE37 (y_assign rfl) rfl rfl rfl ?_; intro a40 hE41; clear hE37
    refine c_nil ?_
    have hE42 := hE41.sub (L' := [(1, .slice classesA classes.length classesC), (2, .pointer (some ⟨b3, 0, none⟩)), (5, .int .i64 (F_l_szFrame fp0 fp1 1048576))]) ⟨rfl, rfl, rfl, trivial⟩; clear hE41
    refine p_tn ?_
    refine c_seq ?_
    refine c_seq ?_
    refine c_reg ?_
    refine q_step (v := .int .i64 (F_l_szFrame fp0 fp1 1048576)) hE42 (y_move rfl) rfl rfl rfl ?_; intro a43 hE44; clear hE42
    refine q_step (v := .bool (decide ((F_l_szFrame fp0 fp1 1048576) < 0))) hE44 (y_lss rfl rfl) rfl rfl rfl ?_; intro a45 hE46; clear hE44
    refine c_nil ?_
    have hE47 := hE46.sub (L' := [(1, .slice classesA classes.length classesC), (2, .pointer (some ⟨b3, 0, none⟩)), (24, .bool (decide ((F_l_szFrame fp0 fp1 1048576) < 0)))]) ⟨rfl, rfl, rfl, trivial⟩; clear hE46
    refine p_tn ?_
    refine c_cond hE47 rfl (fun ht48 => ?_) (fun ht48 => ?_)
    ·
      have hp49 := of_decide_eq_true ht48
      have hE50 := hE47; rw [ht48] at hE50; clear hE47
      refine c_seq ?_
      refine c_reg ?_
      refine q_step (v := .bool true) hE50 (y_assign rfl) rfl rfl rfl ?_; intro a51 hE52; clear hE50
      refine c_nil ?_
      have hE53 := hE52.sub (L' := [(4, .bool true)]) ⟨rfl, trivial⟩; clear hE52
      refine p_tn ?_
      refine wp_ret ?_
      refine p_tr ?_
      have hF : F_l_FnExactQuotientFrame fp0 fp1 classes = true := by unfold F_l_FnExactQuotientFrame; rw [ht48, ht19]; first | done | rfl
      refine c_ret1 hE53 rfl rfl ?_
      exact ⟨(by rw [hF]; first | done | rfl), hS38.ext⟩
    ·
      have hp54 := of_decide_eq_false ht48
      have hq55 := szFrame_bound hp54
      have hE56 := hE47; rw [ht48] at hE56; clear hE47
      refine wp_skip ?_
      refine p_tn ?_
      refine c_seq ?_
      refine c_reg ?_
      refine q_step (v := .agg #[.int .i64 fp0, .slice fp1A fp1.length fp1C]) hE56 (y_loadS Try.underlying24 rfl (by kernel_rfl) rfl (St.row (i := 0) hS38 rfl)) rfl rfl rfl ?_; intro a57 hE58; clear hE56
      refine l_step hE58 rfl (l_call (f := 17) (argv := [.agg #[.int .i64 fp0, .slice fp1A fp1.length fp1C]]) hE58 (fun _ => cf_l_toFrame _ _) rfl rfl (d_l_toFrame fp0 fp1A fp1.length fp1C fp1 w35 (St.rdR (i := 2) hS38 rfl) (by first | omega | (simp only [marked_len]; omega))) ?_)
      rintro _ w60 ⟨b65, c66, rfl, ho67, he64⟩ a61 hE62; clear hE58
      have hS63 := St.own hS38 he64 ho67; clear hS38
      refine q_step (v := .slice classesA classes.length classesC) hE62 (y_move rfl) rfl rfl rfl ?_; intro a68 hE69; clear hE62
      refine l_step hE69 rfl (l_call (f := 18) (argv := [.slice classesA classes.length classesC]) hE69 (fun _ => cf_l_toInt64S _ _) rfl rfl (d_l_toInt64S classesA classes.length classesC classes w60 (St.rdR (i := 2) hS63 rfl) (by first | omega | (simp only [marked_len]; omega))) ?_)
      rintro _ w71 ⟨b76, c77, rfl, ho78, he75⟩ a72 hE73; clear hE69
      have hS74 := St.own hS63 he75 ho78; clear hS63
      refine l_step hE73 rfl (l_call (f := 29) (argv := [.agg #[.int .i64 fp0, .slice b65 ((fp1).length) c66], .slice b76 ((classes).length) c77]) hE73 (fun _ => cf_s_QuotientFrame _ _) rfl rfl (c_s_QuotientFrame fp0 b65 ((fp1).length) c66 fp1 b76 ((classes).length) c77 classes w71 (St.rdO (i := 1) hS74 rfl) (St.rdO (i := 0) hS74 rfl) (by first | omega | (simp only [marked_len]; omega))) ?_)
      rintro _ w80 ⟨b85, c86, rfl, ho87, he84⟩ a81 hE82; clear hE73
      have hS83 := St.own hS74 he84 ho87; clear hS74
      refine q_step (v := .tuple #[.agg #[.int .i64 (((F_s_QuotientFrame fp0 fp1 classes).1).1), .slice b85 ((((F_s_QuotientFrame fp0 fp1 classes).1).2).length) c86], .int .i64 ((F_s_QuotientFrame fp0 fp1 classes).2)]) hE82 (y_move rfl) rfl rfl rfl ?_; intro a88 hE89; clear hE82
      refine q_step (v := .agg #[.int .i64 (((F_s_QuotientFrame fp0 fp1 classes).1).1), .slice b85 ((((F_s_QuotientFrame fp0 fp1 classes).1).2).length) c86]) hE89 (y_extract rfl rfl) rfl rfl rfl ?_; intro a90 hE91; clear hE89
      refine q_step (v := .int .i64 ((F_s_QuotientFrame fp0 fp1 classes).2)) hE91 (y_extract rfl rfl) rfl rfl rfl ?_; intro a92 hE93; clear hE91
      refine l_step hE93 rfl (l_alloc (z := .agg #[.int .i64 0, .slice none 0 0]) (cs := #[.int .i64 0, .slice none 0 0]) hS83 hE93 (fun _ => by kernel_rfl) rfl rfl ?_)
      intro b94 w95 hS98 he99 a96 hE97; clear hS83 hE93
      refine l_step hE97 rfl (l_storeS (k := 0) (cs' := #[.int .i64 (((F_s_QuotientFrame fp0 fp1 classes).1).1), .slice b85 ((((F_s_QuotientFrame fp0 fp1 classes).1).2).length) c86]) hS98 hE97 (by kernel_rfl) rfl rfl (by kernel_rfl) rfl rfl ?_)
      intro w101 hS104 a102 hE103; clear hS98 hE97
      refine q_step (v := .int .i64 ((F_s_QuotientFrame fp0 fp1 classes).2)) hE103 (y_assign rfl) rfl rfl rfl ?_; intro a106 hE107; clear hE103
      refine c_nil ?_
      have hE108 := hE107.sub (L' := [(1, .slice classesA classes.length classesC), (2, .pointer (some ⟨b3, 0, none⟩)), (6, .pointer (some ⟨b94, 0, none⟩)), (7, .int .i64 ((F_s_QuotientFrame fp0 fp1 classes).2))]) ⟨rfl, rfl, rfl, rfl, trivial⟩; clear hE107
      refine p_tn ?_
      refine c_seq ?_
      refine c_reg ?_
      refine q_step (v := .agg #[.int .i64 fp0, .slice fp1A fp1.length fp1C]) hE108 (y_loadS Try.underlying24 rfl (by kernel_rfl) rfl (St.row (i := 4) hS104 rfl)) rfl rfl rfl ?_; intro a109 hE110; clear hE108
      refine l_step hE110 rfl (l_call (f := 17) (argv := [.agg #[.int .i64 fp0, .slice fp1A fp1.length fp1C]]) hE110 (fun _ => cf_l_toFrame _ _) rfl rfl (d_l_toFrame fp0 fp1A fp1.length fp1C fp1 w101 (St.rdR (i := 6) hS104 rfl) (by first | omega | (simp only [marked_len]; omega))) ?_)
      rintro _ w112 ⟨b117, c118, rfl, ho119, he116⟩ a113 hE114; clear hE110
      have hS115 := St.own hS104 he116 ho119; clear hS104
      refine l_step hE114 rfl (l_alloc (z := .agg #[.int .i64 0, .slice none 0 0]) (cs := #[.int .i64 0, .slice none 0 0]) hS115 hE114 (fun _ => by kernel_rfl) rfl rfl ?_)
      intro b120 w121 hS124 he125 a122 hE123; clear hS115 hE114
      refine l_step hE123 rfl (l_storeS (k := 0) (cs' := #[.int .i64 fp0, .slice b117 ((fp1).length) c118]) hS124 hE123 (by kernel_rfl) rfl rfl (by kernel_rfl) rfl rfl ?_)
      intro w127 hS130 a128 hE129; clear hS124 hE123
      refine c_nil ?_
      have hE132 := hE129.sub (L' := [(1, .slice classesA classes.length classesC), (2, .pointer (some ⟨b3, 0, none⟩)), (6, .pointer (some ⟨b94, 0, none⟩)), (7, .int .i64 ((F_s_QuotientFrame fp0 fp1 classes).2)), (8, .pointer (some ⟨b120, 0, none⟩))]) ⟨rfl, rfl, rfl, rfl, rfl, trivial⟩; clear hE129
      refine p_tn ?_
      refine c_seq ?_
      refine c_reg ?_
      refine q_step (v := .slice classesA classes.length classesC) hE132 (y_move rfl) rfl rfl rfl ?_; intro a133 hE134; clear hE132
      refine l_step hE134 rfl (l_call (f := 18) (argv := [.slice classesA classes.length classesC]) hE134 (fun _ => cf_l_toInt64S _ _) rfl rfl (d_l_toInt64S classesA classes.length classesC classes w127 (St.rdR (i := 7) hS130 rfl) (by first | omega | (simp only [marked_len]; omega))) ?_)
      rintro _ w136 ⟨b141, c142, rfl, ho143, he140⟩ a137 hE138; clear hE134
      have hS139 := St.own hS130 he140 ho143; clear hS130
      refine q_step (v := .slice b141 ((classes).length) c142) hE138 (y_assign rfl) rfl rfl rfl ?_; intro a144 hE145; clear hE138
      refine c_nil ?_
      have hE146 := hE145.sub (L' := [(1, .slice classesA classes.length classesC), (2, .pointer (some ⟨b3, 0, none⟩)), (6, .pointer (some ⟨b94, 0, none⟩)), (7, .int .i64 ((F_s_QuotientFrame fp0 fp1 classes).2)), (8, .pointer (some ⟨b120, 0, none⟩)), (9, .slice b141 ((classes).length) c142)]) ⟨rfl, rfl, rfl, rfl, rfl, rfl, trivial⟩; clear hE145
      refine p_tn ?_
      refine c_seq ?_
      refine c_reg ?_
      refine q_step (v := .agg #[.int .i64 fp0, .slice b117 ((fp1).length) c118]) hE146 (y_loadS Try.underlying28 rfl (by kernel_rfl) rfl (St.row (i := 1) hS139 rfl)) rfl rfl rfl ?_; intro a147 hE148; clear hE146
      refine q_step (v := .slice b141 ((classes).length) c142) hE148 (y_move rfl) rfl rfl rfl ?_; intro a149 hE150; clear hE148
      refine l_step hE150 rfl (l_call (f := 30) (argv := [.agg #[.int .i64 fp0, .slice b117 ((fp1).length) c118], .slice b141 ((classes).length) c142]) hE150 (fun _ => cf_QuotientFrame _ _) rfl rfl (c_QuotientFrame fp0 b117 ((fp1).length) c118 fp1 b141 ((classes).length) c142 classes w136 (St.rdO (i := 2) hS139 rfl) (St.rdO (i := 0) hS139 rfl) (by first | omega | (simp only [marked_len]; omega))) ?_)
      rintro _ w152 ⟨b157, c158, rfl, ho159, he156⟩ a153 hE154; clear hE150
      have hf160 := QuotientFrame_len fp0 fp1 classes
      have hS155 := St.own hS139 he156 ho159; clear hS139
      refine q_step (v := .tuple #[.agg #[.int .i64 (((F_QuotientFrame fp0 fp1 classes).1).1), .slice b157 ((((F_QuotientFrame fp0 fp1 classes).1).2).length) c158], .int .i64 ((F_QuotientFrame fp0 fp1 classes).2)]) hE154 (y_move rfl) rfl rfl rfl ?_; intro a161 hE162; clear hE154
      refine q_step (v := .agg #[.int .i64 (((F_QuotientFrame fp0 fp1 classes).1).1), .slice b157 ((((F_QuotientFrame fp0 fp1 classes).1).2).length) c158]) hE162 (y_extract rfl rfl) rfl rfl rfl ?_; intro a163 hE164; clear hE162
      refine q_step (v := .int .i64 ((F_QuotientFrame fp0 fp1 classes).2)) hE164 (y_extract rfl rfl) rfl rfl rfl ?_; intro a165 hE166; clear hE164
      refine l_step hE166 rfl (l_alloc (z := .agg #[.int .i64 0, .slice none 0 0]) (cs := #[.int .i64 0, .slice none 0 0]) hS155 hE166 (fun _ => by kernel_rfl) rfl rfl ?_)
      intro b167 w168 hS171 he172 a169 hE170; clear hS155 hE166
      refine l_step hE170 rfl (l_storeS (k := 0) (cs' := #[.int .i64 (((F_QuotientFrame fp0 fp1 classes).1).1), .slice b157 ((((F_QuotientFrame fp0 fp1 classes).1).2).length) c158]) hS171 hE170 (by kernel_rfl) rfl rfl (by kernel_rfl) rfl rfl ?_)
      intro w174 hS177 a175 hE176; clear hS171 hE170
      refine q_step (v := .int .i64 ((F_QuotientFrame fp0 fp1 classes).2)) hE176 (y_assign rfl) rfl rfl rfl ?_; intro a179 hE180; clear hE176
      refine c_nil ?_
      have hE181 := hE180.sub (L' := [(1, .slice classesA classes.length classesC), (2, .pointer (some ⟨b3, 0, none⟩)), (6, .pointer (some ⟨b94, 0, none⟩)), (7, .int .i64 ((F_s_QuotientFrame fp0 fp1 classes).2)), (8, .pointer (some ⟨b120, 0, none⟩)), (9, .slice b141 ((classes).length) c142), (10, .pointer (some ⟨b167, 0, none⟩)), (11, .int .i64 ((F_QuotientFrame fp0 fp1 classes).2))]) ⟨rfl, rfl, rfl, rfl, rfl, rfl, rfl, rfl, trivial⟩; clear hE180
      refine p_tn ?_
      refine c_seq ?_
      refine c_cut (fun a' w' => E a' 117 [(1, .slice classesA classes.length classesC), (2, .pointer (some ⟨b3, 0, none⟩)), (6, .pointer (some ⟨b94, 0, none⟩)), (7, .int .i64 ((F_s_QuotientFrame fp0 fp1 classes).2)), (8, .pointer (some ⟨b120, 0, none⟩)), (9, .slice b141 ((classes).length) c142), (10, .pointer (some ⟨b167, 0, none⟩)), (11, .int .i64 ((F_QuotientFrame fp0 fp1 classes).2)), (51, .bool ((!(decide (((((F_QuotientFrame fp0 fp1 classes).1).1), (((F_QuotientFrame fp0 fp1 classes).1).2)) = ((((F_s_QuotientFrame fp0 fp1 classes).1).1), (((F_s_QuotientFrame fp0 fp1 classes).1).2))))) || (!decide (((F_QuotientFrame fp0 fp1 classes).2) = ((F_s_QuotientFrame fp0 fp1 classes).2)))))] ∧ St w w' [.own 2 1 b157 ((((F_QuotientFrame fp0 fp1 classes).1).2).length) c158 (((F_QuotientFrame fp0 fp1 classes).1).2), .blk b167 #[.int .i64 (((F_QuotientFrame fp0 fp1 classes).1).1), .slice b157 ((((F_QuotientFrame fp0 fp1 classes).1).2).length) c158] 28, .own 2 1 b141 ((classes).length) c142 classes, .own 2 1 b117 ((fp1).length) c118 fp1, .blk b120 #[.int .i64 fp0, .slice b117 ((fp1).length) c118] 28, .own 2 1 b85 ((((F_s_QuotientFrame fp0 fp1 classes).1).2).length) c86 (((F_s_QuotientFrame fp0 fp1 classes).1).2), .blk b94 #[.int .i64 (((F_s_QuotientFrame fp0 fp1 classes).1).1), .slice b85 ((((F_s_QuotientFrame fp0 fp1 classes).1).2).length) c86] 28, .own 2 1 b76 ((classes).length) c77 classes, .own 2 1 b65 ((fp1).length) c66 fp1, .rd 1 fp1A fp1.length fp1C fp1, .blk b3 #[.int .i64 fp0, .slice fp1A fp1.length fp1C] 24, .rd 1 classesA classes.length classesC classes]) ?_ ?_
      ·
        refine c_reg ?_
        refine q_step (v := .agg #[.int .i64 (((F_QuotientFrame fp0 fp1 classes).1).1), .slice b157 ((((F_QuotientFrame fp0 fp1 classes).1).2).length) c158]) hE181 (y_loadS Try.underlying28 rfl (by kernel_rfl) rfl (St.row (i := 0) hS177 rfl)) rfl rfl rfl ?_; intro a182 hE183; clear hE181
        refine q_step (v := .agg #[.int .i64 (((F_s_QuotientFrame fp0 fp1 classes).1).1), .slice b85 ((((F_s_QuotientFrame fp0 fp1 classes).1).2).length) c86]) hE183 (y_loadS Try.underlying28 rfl (by kernel_rfl) rfl (St.row (i := 5) hS177 rfl)) rfl rfl rfl ?_; intro a184 hE185; clear hE183
        refine l_step hE185 rfl (l_call (f := 20) (argv := [.agg #[.int .i64 (((F_QuotientFrame fp0 fp1 classes).1).1), .slice b157 ((((F_QuotientFrame fp0 fp1 classes).1).2).length) c158], .agg #[.int .i64 (((F_s_QuotientFrame fp0 fp1 classes).1).1), .slice b85 ((((F_s_QuotientFrame fp0 fp1 classes).1).2).length) c86]]) hE185 (fun _ => cf_l_eqFrame _ _) rfl rfl (d_l_eqFrame (((F_QuotientFrame fp0 fp1 classes).1).1) b157 ((((F_QuotientFrame fp0 fp1 classes).1).2).length) c158 (((F_QuotientFrame fp0 fp1 classes).1).2) (((F_s_QuotientFrame fp0 fp1 classes).1).1) b85 ((((F_s_QuotientFrame fp0 fp1 classes).1).2).length) c86 (((F_s_QuotientFrame fp0 fp1 classes).1).2) w174 (St.rdO (i := 1) hS177 rfl) (St.rdO (i := 6) hS177 rfl)) ?_)
        rintro _ w187 ⟨rfl, he191⟩ a188 hE189; clear hE185
        have hS190 := St.go hS177 he191; clear hS177
        refine q_step (v := .bool (!(decide (((((F_QuotientFrame fp0 fp1 classes).1).1), (((F_QuotientFrame fp0 fp1 classes).1).2)) = ((((F_s_QuotientFrame fp0 fp1 classes).1).1), (((F_s_QuotientFrame fp0 fp1 classes).1).2)))))) hE189 (y_not rfl) rfl rfl rfl ?_; intro a192 hE193; clear hE189
        refine q_step (v := .bool (!(decide (((((F_QuotientFrame fp0 fp1 classes).1).1), (((F_QuotientFrame fp0 fp1 classes).1).2)) = ((((F_s_QuotientFrame fp0 fp1 classes).1).1), (((F_s_QuotientFrame fp0 fp1 classes).1).2)))))) hE193 (y_move rfl) rfl rfl rfl ?_; intro a194 hE195; clear hE193
        rcases Bool.eq_false_or_eq_true (!(decide (((((F_QuotientFrame fp0 fp1 classes).1).1), (((F_QuotientFrame fp0 fp1 classes).1).2)) = ((((F_s_QuotientFrame fp0 fp1 classes).1).1), (((F_s_QuotientFrame fp0 fp1 classes).1).2))))) with hb196 | hb196
        ·
          have hE197 := hE195; rw [hb196] at hE197; clear hE195
          have ht198 := bn_t hb196
          have hp199 := of_decide_eq_false ht198
          refine q_skip hE197 rfl rfl rfl ?_; intro a200 hE201; clear hE197
          refine q_skip hE201 rfl rfl rfl ?_; intro a202 hE203; clear hE201
          refine q_skip hE203 rfl rfl rfl ?_; intro a204 hE205; clear hE203
          refine q_step (v := .bool true) hE205 (y_pick (b := true) rfl rfl) rfl rfl rfl ?_; intro a206 hE207; clear hE205
          refine c_nil ?_
          have hE208 := hE207.sub (L' := [(1, .slice classesA classes.length classesC), (2, .pointer (some ⟨b3, 0, none⟩)), (6, .pointer (some ⟨b94, 0, none⟩)), (7, .int .i64 ((F_s_QuotientFrame fp0 fp1 classes).2)), (8, .pointer (some ⟨b120, 0, none⟩)), (9, .slice b141 ((classes).length) c142), (10, .pointer (some ⟨b167, 0, none⟩)), (11, .int .i64 ((F_QuotientFrame fp0 fp1 classes).2)), (51, .bool true)]) ⟨rfl, rfl, rfl, rfl, rfl, rfl, rfl, rfl, rfl, trivial⟩; clear hE207
          refine p_tn ?_
          have hE209 := hE208.sub (L' := [(1, .slice classesA classes.length classesC), (2, .pointer (some ⟨b3, 0, none⟩)), (6, .pointer (some ⟨b94, 0, none⟩)), (7, .int .i64 ((F_s_QuotientFrame fp0 fp1 classes).2)), (8, .pointer (some ⟨b120, 0, none⟩)), (9, .slice b141 ((classes).length) c142), (10, .pointer (some ⟨b167, 0, none⟩)), (11, .int .i64 ((F_QuotientFrame fp0 fp1 classes).2)), (51, .bool true)]) ⟨rfl, rfl, rfl, rfl, rfl, rfl, rfl, rfl, rfl, trivial⟩
          have hS210 := (St.pick (Γ' := [.own 2 1 b157 ((((F_QuotientFrame fp0 fp1 classes).1).2).length) c158 (((F_QuotientFrame fp0 fp1 classes).1).2), .blk b167 #[.int .i64 (((F_QuotientFrame fp0 fp1 classes).1).1), .slice b157 ((((F_QuotientFrame fp0 fp1 classes).1).2).length) c158] 28, .own 2 1 b141 ((classes).length) c142 classes, .own 2 1 b117 ((fp1).length) c118 fp1, .blk b120 #[.int .i64 fp0, .slice b117 ((fp1).length) c118] 28, .own 2 1 b85 ((((F_s_QuotientFrame fp0 fp1 classes).1).2).length) c86 (((F_s_QuotientFrame fp0 fp1 classes).1).2), .blk b94 #[.int .i64 (((F_s_QuotientFrame fp0 fp1 classes).1).1), .slice b85 ((((F_s_QuotientFrame fp0 fp1 classes).1).2).length) c86] 28, .own 2 1 b76 ((classes).length) c77 classes, .own 2 1 b65 ((fp1).length) c66 fp1, .rd 1 fp1A fp1.length fp1C fp1, .blk b3 #[.int .i64 fp0, .slice fp1A fp1.length fp1C] 24, .rd 1 classesA classes.length classesC classes]) hS190 [1, 0, 2, 4, 3, 6, 5, 7, 8, 11, 9, 10] (by decide) rfl)
          exact ⟨(by rw [hb196]; exact hE209), hS210⟩
        ·
          have hE211 := hE195; rw [hb196] at hE211; clear hE195
          have ht212 := bn_f hb196
          have hp213 := of_decide_eq_true ht212
          refine q_step (v := .int .i64 ((F_QuotientFrame fp0 fp1 classes).2)) hE211 (y_move rfl) rfl rfl rfl ?_; intro a214 hE215; clear hE211
          refine q_step (v := .int .i64 ((F_s_QuotientFrame fp0 fp1 classes).2)) hE215 (y_move rfl) rfl rfl rfl ?_; intro a216 hE217; clear hE215
          refine q_step (v := .bool (!decide (((F_QuotientFrame fp0 fp1 classes).2) = ((F_s_QuotientFrame fp0 fp1 classes).2)))) hE217 (y_neq rfl rfl) rfl rfl rfl ?_; intro a218 hE219; clear hE217
          refine q_step (v := .bool (!decide (((F_QuotientFrame fp0 fp1 classes).2) = ((F_s_QuotientFrame fp0 fp1 classes).2)))) hE219 (y_pick (b := false) rfl rfl) rfl rfl rfl ?_; intro a220 hE221; clear hE219
          refine c_nil ?_
          have hE222 := hE221.sub (L' := [(1, .slice classesA classes.length classesC), (2, .pointer (some ⟨b3, 0, none⟩)), (6, .pointer (some ⟨b94, 0, none⟩)), (7, .int .i64 ((F_s_QuotientFrame fp0 fp1 classes).2)), (8, .pointer (some ⟨b120, 0, none⟩)), (9, .slice b141 ((classes).length) c142), (10, .pointer (some ⟨b167, 0, none⟩)), (11, .int .i64 ((F_QuotientFrame fp0 fp1 classes).2)), (51, .bool (!decide (((F_QuotientFrame fp0 fp1 classes).2) = ((F_s_QuotientFrame fp0 fp1 classes).2))))]) ⟨rfl, rfl, rfl, rfl, rfl, rfl, rfl, rfl, rfl, trivial⟩; clear hE221
          refine p_tn ?_
          have hE223 := hE222.sub (L' := [(1, .slice classesA classes.length classesC), (2, .pointer (some ⟨b3, 0, none⟩)), (6, .pointer (some ⟨b94, 0, none⟩)), (7, .int .i64 ((F_s_QuotientFrame fp0 fp1 classes).2)), (8, .pointer (some ⟨b120, 0, none⟩)), (9, .slice b141 ((classes).length) c142), (10, .pointer (some ⟨b167, 0, none⟩)), (11, .int .i64 ((F_QuotientFrame fp0 fp1 classes).2)), (51, .bool (!decide (((F_QuotientFrame fp0 fp1 classes).2) = ((F_s_QuotientFrame fp0 fp1 classes).2))))]) ⟨rfl, rfl, rfl, rfl, rfl, rfl, rfl, rfl, rfl, trivial⟩
          have hS224 := (St.pick (Γ' := [.own 2 1 b157 ((((F_QuotientFrame fp0 fp1 classes).1).2).length) c158 (((F_QuotientFrame fp0 fp1 classes).1).2), .blk b167 #[.int .i64 (((F_QuotientFrame fp0 fp1 classes).1).1), .slice b157 ((((F_QuotientFrame fp0 fp1 classes).1).2).length) c158] 28, .own 2 1 b141 ((classes).length) c142 classes, .own 2 1 b117 ((fp1).length) c118 fp1, .blk b120 #[.int .i64 fp0, .slice b117 ((fp1).length) c118] 28, .own 2 1 b85 ((((F_s_QuotientFrame fp0 fp1 classes).1).2).length) c86 (((F_s_QuotientFrame fp0 fp1 classes).1).2), .blk b94 #[.int .i64 (((F_s_QuotientFrame fp0 fp1 classes).1).1), .slice b85 ((((F_s_QuotientFrame fp0 fp1 classes).1).2).length) c86] 28, .own 2 1 b76 ((classes).length) c77 classes, .own 2 1 b65 ((fp1).length) c66 fp1, .rd 1 fp1A fp1.length fp1C fp1, .blk b3 #[.int .i64 fp0, .slice fp1A fp1.length fp1C] 24, .rd 1 classesA classes.length classesC classes]) hS190 [1, 0, 2, 4, 3, 6, 5, 7, 8, 11, 9, 10] (by decide) rfl)
          exact ⟨(by rw [hb196]; exact hE223), hS224⟩
      ·
        rintro a225 w226 ⟨hE227, hS228⟩; clear hE181 hS177
        refine c_cond hE227 rfl (fun ht229 => ?_) (fun ht229 => ?_)
        ·
          have hE230 := hE227; rw [ht229] at hE230; clear hE227
          refine c_seq ?_
          refine c_reg ?_
          refine q_step (v := .bool false) hE230 (y_assign rfl) rfl rfl rfl ?_; intro a231 hE232; clear hE230
          refine c_nil ?_
          have hE233 := hE232.sub (L' := [(4, .bool false)]) ⟨rfl, trivial⟩; clear hE232
          refine p_tn ?_
          refine wp_ret ?_
          refine p_tr ?_
          have hF : F_l_FnExactQuotientFrame fp0 fp1 classes = false := by unfold F_l_FnExactQuotientFrame; rw [ht229, ht48, ht19]; first | done | rfl
          refine c_ret1 hE233 rfl rfl ?_
          exact ⟨(by rw [hF]; first | done | rfl), hS228.ext⟩
        ·
          obtain ⟨ht234, ht235⟩ := bor_f ht229
          have ht236 := bn_f ht234
          have hp237 := of_decide_eq_true ht236
          have ht238 := bn_f ht235
          have hp239 := of_decide_eq_true ht238
          have hE240 := hE227; rw [ht229] at hE240; clear hE227
          refine wp_skip ?_
          refine p_tn ?_
          refine c_seq ?_
          refine c_seq ?_
          refine d_start (fun w' => w'.heap[b120]? = some (.cells #[.int .i64 fp0, .slice b117 ((fp1).length) c118] 28 (0, 0)) ∧ w'.heap[b3]? = some (.cells #[.int .i64 fp0, .slice fp1A fp1.length fp1C] 24 (0, 0)) ∧ True) [0, 1] 5 (by kernel_rfl) rfl ?_
          intro w241 he242; have hS243 := St.go hS228 he242; clear hS228
          refine d_take (v := .agg #[.int .i64 fp0, .slice b117 ((fp1).length) c118]) 0 rfl hE240 ⟨(St.row (i := 4) hS243 rfl _ (Ext.refl _)), (St.row (i := 10) hS243 rfl _ (Ext.refl _)), trivial⟩ (y_loadS Try.underlying28 rfl (by kernel_rfl) rfl (fun _ h => h.1)) rfl rfl (by kernel_rfl) (by kernel_rfl) (by kernel_rfl) rfl rfl (fun _ _ _ h => h) ?_; intro a244 hE245; clear hE240
          refine d_take (v := .agg #[.int .i64 fp0, .slice fp1A fp1.length fp1C]) 1 rfl hE245 ⟨(St.row (i := 4) hS243 rfl _ (Ext.refl _)), (St.row (i := 10) hS243 rfl _ (Ext.refl _)), trivial⟩ (y_loadS Try.underlying24 rfl (by kernel_rfl) rfl (fun _ h => h.2.1)) rfl rfl (by kernel_rfl) (by kernel_rfl) (by kernel_rfl) rfl rfl (fun _ _ _ h => h) ?_; intro a246 hE247; clear hE245
          refine d_only 2 (by kernel_rfl) rfl hE247 rfl (l_call (f := 17) (argv := [.agg #[.int .i64 fp0, .slice fp1A fp1.length fp1C]]) hE247 (fun _ => cf_l_toFrame _ _) rfl rfl (d_l_toFrame fp0 fp1A fp1.length fp1C fp1 w241 (St.rdR (i := 9) hS243 rfl) (by first | omega | (simp only [marked_len]; omega))) ?_)
          rintro _ w249 ⟨b254, c255, rfl, ho256, he253⟩ a250 hE251; clear hE247
          have hS252 := St.own hS243 he253 ho256; clear hS243
          refine ⟨fun _ _ => ⟨(St.row (i := 5) hS252 rfl _ (Ext.refl _)), (St.row (i := 11) hS252 rfl _ (Ext.refl _)), trivial⟩, ?_⟩
          refine d_only 3 (by kernel_rfl) rfl hE251 rfl (l_call (f := 20) (argv := [.agg #[.int .i64 fp0, .slice b117 ((fp1).length) c118], .agg #[.int .i64 fp0, .slice b254 ((fp1).length) c255]]) hE251 (fun _ => cf_l_eqFrame _ _) rfl rfl (d_l_eqFrame fp0 b117 ((fp1).length) c118 fp1 fp0 b254 ((fp1).length) c255 fp1 w249 (St.rdO (i := 4) hS252 rfl) (St.rdO (i := 0) hS252 rfl)) ?_)
          rintro _ w258 ⟨rfl, he262⟩ a259 hE260; clear hE251
          have hS261 := St.go hS252 he262; clear hS252
          refine ⟨fun _ _ => ⟨(St.row (i := 5) hS261 rfl _ (Ext.refl _)), (St.row (i := 11) hS261 rfl _ (Ext.refl _)), trivial⟩, ?_⟩
          refine d_pure (v := .bool (!(decide ((fp0, fp1) = (fp0, fp1))))) 4 rfl hE260 (y_not rfl) rfl (by kernel_rfl) (by kernel_rfl) (by kernel_rfl) rfl rfl (fun _ _ _ h => h) ?_; intro a263 hE264; clear hE260
          refine d_done (by kernel_rfl) ?_
          have hE265 := hE264.sub (L' := [(1, .slice classesA classes.length classesC), (2, .pointer (some ⟨b3, 0, none⟩)), (6, .pointer (some ⟨b94, 0, none⟩)), (7, .int .i64 ((F_s_QuotientFrame fp0 fp1 classes).2)), (8, .pointer (some ⟨b120, 0, none⟩)), (9, .slice b141 ((classes).length) c142), (10, .pointer (some ⟨b167, 0, none⟩)), (11, .int .i64 ((F_QuotientFrame fp0 fp1 classes).2)), (56, .bool (!(decide ((fp0, fp1) = (fp0, fp1)))))]) ⟨rfl, rfl, rfl, rfl, rfl, rfl, rfl, rfl, rfl, trivial⟩; clear hE264
          refine p_tn ?_
          refine c_cond hE265 rfl (fun ht266 => ?_) (fun ht266 => ?_)
          ·
            have ht267 := bn_t ht266
            have hp268 := of_decide_eq_false ht267
            have hE269 := hE265; rw [ht266] at hE269; clear hE265
            refine c_seq ?_
            refine c_reg ?_
            refine q_step (v := .bool false) hE269 (y_assign rfl) rfl rfl rfl ?_; intro a270 hE271; clear hE269
            refine c_nil ?_
            have hE272 := hE271.sub (L' := [(4, .bool false)]) ⟨rfl, trivial⟩; clear hE271
            refine p_tn ?_
            refine wp_ret ?_
            refine p_tr ?_
            have hF : F_l_FnExactQuotientFrame fp0 fp1 classes = false := by unfold F_l_FnExactQuotientFrame; rw [ht266, ht229, ht48, ht19]; first | done | rfl
            refine c_ret1 hE272 rfl rfl ?_
            exact ⟨(by rw [hF]; first | done | rfl), hS261.ext⟩
          ·
            have ht273 := bn_f ht266
            have hp274 := of_decide_eq_true ht273
            have hE275 := hE265; rw [ht266] at hE275; clear hE265
            refine wp_skip ?_
            refine p_tn ?_
            refine c_seq ?_
            refine c_seq ?_
            refine c_reg ?_
            refine q_step (v := .slice b141 ((classes).length) c142) hE275 (y_move rfl) rfl rfl rfl ?_; intro a276 hE277; clear hE275
            refine q_step (v := .slice classesA classes.length classesC) hE277 (y_move rfl) rfl rfl rfl ?_; intro a278 hE279; clear hE277
            refine l_step hE279 rfl (l_call (f := 18) (argv := [.slice classesA classes.length classesC]) hE279 (fun _ => cf_l_toInt64S _ _) rfl rfl (d_l_toInt64S classesA classes.length classesC classes w258 (St.rdR (i := 12) hS261 rfl) (by first | omega | (simp only [marked_len]; omega))) ?_)
            rintro _ w281 ⟨b286, c287, rfl, ho288, he285⟩ a282 hE283; clear hE279
            have hS284 := St.own hS261 he285 ho288; clear hS261
            refine l_step hE283 rfl (l_call (f := 21) (argv := [.slice b141 ((classes).length) c142, .slice b286 ((classes).length) c287]) hE283 (fun _ => cf_l_eqInt64S _ _) rfl rfl (d_l_eqInt64S b141 ((classes).length) c142 classes b286 ((classes).length) c287 classes w281 (St.rdO (i := 4) hS284 rfl) (St.rdO (i := 0) hS284 rfl)) ?_)
            rintro _ w290 ⟨rfl, he294⟩ a291 hE292; clear hE283
            have hS293 := St.go hS284 he294; clear hS284
            refine q_step (v := .bool (!(decide (classes = classes)))) hE292 (y_not rfl) rfl rfl rfl ?_; intro a295 hE296; clear hE292
            refine c_nil ?_
            have hE297 := hE296.sub (L' := [(1, .slice classesA classes.length classesC), (2, .pointer (some ⟨b3, 0, none⟩)), (6, .pointer (some ⟨b94, 0, none⟩)), (7, .int .i64 ((F_s_QuotientFrame fp0 fp1 classes).2)), (8, .pointer (some ⟨b120, 0, none⟩)), (9, .slice b141 ((classes).length) c142), (10, .pointer (some ⟨b167, 0, none⟩)), (11, .int .i64 ((F_QuotientFrame fp0 fp1 classes).2)), (61, .bool (!(decide (classes = classes))))]) ⟨rfl, rfl, rfl, rfl, rfl, rfl, rfl, rfl, rfl, trivial⟩; clear hE296
            refine p_tn ?_
            refine c_cond hE297 rfl (fun ht298 => ?_) (fun ht298 => ?_)
            ·
              have ht299 := bn_t ht298
              have hp300 := of_decide_eq_false ht299
              have hE301 := hE297; rw [ht298] at hE301; clear hE297
              refine c_seq ?_
              refine c_reg ?_
              refine q_step (v := .bool false) hE301 (y_assign rfl) rfl rfl rfl ?_; intro a302 hE303; clear hE301
              refine c_nil ?_
              have hE304 := hE303.sub (L' := [(4, .bool false)]) ⟨rfl, trivial⟩; clear hE303
              refine p_tn ?_
              refine wp_ret ?_
              refine p_tr ?_
              have hF : F_l_FnExactQuotientFrame fp0 fp1 classes = false := by unfold F_l_FnExactQuotientFrame; rw [ht298, ht266, ht229, ht48, ht19]; first | done | rfl
              refine c_ret1 hE304 rfl rfl ?_
              exact ⟨(by rw [hF]; first | done | rfl), hS293.ext⟩
            ·
              have ht305 := bn_f ht298
              have hp306 := of_decide_eq_true ht305
              have hE307 := hE297; rw [ht298] at hE307; clear hE297
              refine wp_skip ?_
              refine p_tn ?_
              refine c_seq ?_
              refine c_reg ?_
              refine q_step (v := .int .i64 1) hE307 (y_assign rfl) rfl rfl rfl ?_; intro a308 hE309; clear hE307
              refine c_nil ?_
              have hE310 := hE309.sub (L' := [(1, .slice classesA classes.length classesC), (2, .pointer (some ⟨b3, 0, none⟩)), (6, .pointer (some ⟨b94, 0, none⟩)), (7, .int .i64 ((F_s_QuotientFrame fp0 fp1 classes).2)), (8, .pointer (some ⟨b120, 0, none⟩)), (9, .slice b141 ((classes).length) c142), (10, .pointer (some ⟨b167, 0, none⟩)), (11, .int .i64 ((F_QuotientFrame fp0 fp1 classes).2)), (12, .int .i64 1)]) ⟨rfl, rfl, rfl, rfl, rfl, rfl, rfl, rfl, rfl, trivial⟩; clear hE309
              refine p_tn ?_
              refine c_seq ?_
              refine c_reg ?_
              refine q_step (v := .agg #[.int .i64 fp0, .slice b117 ((fp1).length) c118]) hE310 (y_loadS Try.underlying28 rfl (by kernel_rfl) rfl (St.row (i := 6) hS293 rfl)) rfl rfl rfl ?_; intro a311 hE312; clear hE310
              refine q_step (v := .int .i64 1) hE312 (y_move rfl) rfl rfl rfl ?_; intro a313 hE314; clear hE312
              have hS321 := (St.pick (Γ' := [.own 2 1 b117 ((fp1).length) c118 fp1, .own 2 1 b286 ((classes).length) c287 classes, .own 2 1 b254 ((fp1).length) c255 fp1, .own 2 1 b157 ((((F_QuotientFrame fp0 fp1 classes).1).2).length) c158 (((F_QuotientFrame fp0 fp1 classes).1).2), .blk b167 #[.int .i64 (((F_QuotientFrame fp0 fp1 classes).1).1), .slice b157 ((((F_QuotientFrame fp0 fp1 classes).1).2).length) c158] 28, .own 2 1 b141 ((classes).length) c142 classes, .blk b120 #[.int .i64 fp0, .slice b117 ((fp1).length) c118] 28, .own 2 1 b85 ((((F_s_QuotientFrame fp0 fp1 classes).1).2).length) c86 (((F_s_QuotientFrame fp0 fp1 classes).1).2), .blk b94 #[.int .i64 (((F_s_QuotientFrame fp0 fp1 classes).1).1), .slice b85 ((((F_s_QuotientFrame fp0 fp1 classes).1).2).length) c86] 28, .own 2 1 b76 ((classes).length) c77 classes, .own 2 1 b65 ((fp1).length) c66 fp1, .rd 1 fp1A fp1.length fp1C fp1, .blk b3 #[.int .i64 fp0, .slice fp1A fp1.length fp1C] 24, .rd 1 classesA classes.length classesC classes]) hS293 [5, 0, 1, 2, 3, 4, 6, 7, 8, 9, 10, 11, 12, 13] (by decide) rfl); clear hS293
              refine l_step hE314 rfl (l_call (f := 31) (argv := [.agg #[.int .i64 fp0, .slice b117 ((fp1).length) c118], .int .i64 1]) hE314 (fun _ => cf_l_markFrame _ _) rfl rfl (d_l_markFrame fp0 b117 ((fp1).length) c118 fp1 1 w290 w [.own 2 1 b286 ((classes).length) c287 classes, .own 2 1 b254 ((fp1).length) c255 fp1, .own 2 1 b157 ((((F_QuotientFrame fp0 fp1 classes).1).2).length) c158 (((F_QuotientFrame fp0 fp1 classes).1).2), .blk b167 #[.int .i64 (((F_QuotientFrame fp0 fp1 classes).1).1), .slice b157 ((((F_QuotientFrame fp0 fp1 classes).1).2).length) c158] 28, .own 2 1 b141 ((classes).length) c142 classes, .blk b120 #[.int .i64 fp0, .slice b117 ((fp1).length) c118] 28, .own 2 1 b85 ((((F_s_QuotientFrame fp0 fp1 classes).1).2).length) c86 (((F_s_QuotientFrame fp0 fp1 classes).1).2), .blk b94 #[.int .i64 (((F_s_QuotientFrame fp0 fp1 classes).1).1), .slice b85 ((((F_s_QuotientFrame fp0 fp1 classes).1).2).length) c86] 28, .own 2 1 b76 ((classes).length) c77 classes, .own 2 1 b65 ((fp1).length) c66 fp1, .rd 1 fp1A fp1.length fp1C fp1, .blk b3 #[.int .i64 fp0, .slice fp1A fp1.length fp1C] 24, .rd 1 classesA classes.length classesC classes] hS321 (by first | omega | (simp only [marked_len]; omega)) (by first | omega | (simp only [marked_len]; omega)) (by first | omega | (simp only [marked_len]; omega))) ?_)
              rintro _ w316 ⟨rfl, hS319⟩ a317 hE318; clear hE314 hS321
              refine q_step (v := .int .i64 (1 + (fp1.length : Int))) hE318 (y_assign rfl) rfl rfl rfl ?_; intro a322 hE323; clear hE318
              refine c_nil ?_
              have hE324 := hE323.sub (L' := [(1, .slice classesA classes.length classesC), (2, .pointer (some ⟨b3, 0, none⟩)), (6, .pointer (some ⟨b94, 0, none⟩)), (7, .int .i64 ((F_s_QuotientFrame fp0 fp1 classes).2)), (9, .slice b141 ((classes).length) c142), (10, .pointer (some ⟨b167, 0, none⟩)), (11, .int .i64 ((F_QuotientFrame fp0 fp1 classes).2)), (12, .int .i64 (1 + (fp1.length : Int)))]) ⟨rfl, rfl, rfl, rfl, rfl, rfl, rfl, rfl, trivial⟩; clear hE323
              refine p_tn ?_
              refine c_seq ?_
              refine c_reg ?_
              refine q_step (v := .slice b141 ((classes).length) c142) hE324 (y_move rfl) rfl rfl rfl ?_; intro a325 hE326; clear hE324
              refine q_step (v := .int .i64 (1 + (fp1.length : Int))) hE326 (y_move rfl) rfl rfl rfl ?_; intro a327 hE328; clear hE326
              have hS335 := (St.pick (Γ' := [.own 2 1 b141 ((classes).length) c142 classes, .own 2 1 b117 ((fp1).length) c118 (marked fp1.length 1), .own 2 1 b286 ((classes).length) c287 classes, .own 2 1 b254 ((fp1).length) c255 fp1, .own 2 1 b157 ((((F_QuotientFrame fp0 fp1 classes).1).2).length) c158 (((F_QuotientFrame fp0 fp1 classes).1).2), .blk b167 #[.int .i64 (((F_QuotientFrame fp0 fp1 classes).1).1), .slice b157 ((((F_QuotientFrame fp0 fp1 classes).1).2).length) c158] 28, .blk b120 #[.int .i64 fp0, .slice b117 ((fp1).length) c118] 28, .own 2 1 b85 ((((F_s_QuotientFrame fp0 fp1 classes).1).2).length) c86 (((F_s_QuotientFrame fp0 fp1 classes).1).2), .blk b94 #[.int .i64 (((F_s_QuotientFrame fp0 fp1 classes).1).1), .slice b85 ((((F_s_QuotientFrame fp0 fp1 classes).1).2).length) c86] 28, .own 2 1 b76 ((classes).length) c77 classes, .own 2 1 b65 ((fp1).length) c66 fp1, .rd 1 fp1A fp1.length fp1C fp1, .blk b3 #[.int .i64 fp0, .slice fp1A fp1.length fp1C] 24, .rd 1 classesA classes.length classesC classes]) hS319 [5, 0, 1, 2, 3, 4, 6, 7, 8, 9, 10, 11, 12, 13] (by decide) rfl); clear hS319
              refine l_step hE328 rfl (l_call (f := 32) (argv := [.slice b141 ((classes).length) c142, .int .i64 (1 + (fp1.length : Int))]) hE328 (fun _ => cf_l_markInt64S _ _) rfl rfl (d_l_markInt64S b141 ((classes).length) c142 classes (1 + (fp1.length : Int)) w316 w [.own 2 1 b117 ((fp1).length) c118 (marked fp1.length 1), .own 2 1 b286 ((classes).length) c287 classes, .own 2 1 b254 ((fp1).length) c255 fp1, .own 2 1 b157 ((((F_QuotientFrame fp0 fp1 classes).1).2).length) c158 (((F_QuotientFrame fp0 fp1 classes).1).2), .blk b167 #[.int .i64 (((F_QuotientFrame fp0 fp1 classes).1).1), .slice b157 ((((F_QuotientFrame fp0 fp1 classes).1).2).length) c158] 28, .blk b120 #[.int .i64 fp0, .slice b117 ((fp1).length) c118] 28, .own 2 1 b85 ((((F_s_QuotientFrame fp0 fp1 classes).1).2).length) c86 (((F_s_QuotientFrame fp0 fp1 classes).1).2), .blk b94 #[.int .i64 (((F_s_QuotientFrame fp0 fp1 classes).1).1), .slice b85 ((((F_s_QuotientFrame fp0 fp1 classes).1).2).length) c86] 28, .own 2 1 b76 ((classes).length) c77 classes, .own 2 1 b65 ((fp1).length) c66 fp1, .rd 1 fp1A fp1.length fp1C fp1, .blk b3 #[.int .i64 fp0, .slice fp1A fp1.length fp1C] 24, .rd 1 classesA classes.length classesC classes] hS335 (by first | omega | (simp only [marked_len]; omega)) (by first | omega | (simp only [marked_len]; omega)) (by first | omega | (simp only [marked_len]; omega))) ?_)
              rintro _ w330 ⟨rfl, hS333⟩ a331 hE332; clear hE328 hS335
              refine q_step (v := .int .i64 ((1 + (fp1.length : Int)) + (classes.length : Int))) hE332 (y_assign rfl) rfl rfl rfl ?_; intro a336 hE337; clear hE332
              refine c_nil ?_
              have hE338 := hE337.sub (L' := [(1, .slice classesA classes.length classesC), (2, .pointer (some ⟨b3, 0, none⟩)), (6, .pointer (some ⟨b94, 0, none⟩)), (7, .int .i64 ((F_s_QuotientFrame fp0 fp1 classes).2)), (10, .pointer (some ⟨b167, 0, none⟩)), (11, .int .i64 ((F_QuotientFrame fp0 fp1 classes).2)), (12, .int .i64 ((1 + (fp1.length : Int)) + (classes.length : Int)))]) ⟨rfl, rfl, rfl, rfl, rfl, rfl, rfl, trivial⟩; clear hE337
              refine p_tn ?_
              refine c_seq ?_
              refine c_cut (fun a' w' => E a' 117 [(1, .slice classesA classes.length classesC), (2, .pointer (some ⟨b3, 0, none⟩)), (6, .pointer (some ⟨b94, 0, none⟩)), (7, .int .i64 ((F_s_QuotientFrame fp0 fp1 classes).2)), (10, .pointer (some ⟨b167, 0, none⟩)), (80, .bool ((decide (((1 + (fp1.length : Int)) + (classes.length : Int)) < 0)) || ((!(decide (((((F_QuotientFrame fp0 fp1 classes).1).1), (((F_QuotientFrame fp0 fp1 classes).1).2)) = ((((F_s_QuotientFrame fp0 fp1 classes).1).1), (((F_s_QuotientFrame fp0 fp1 classes).1).2))))) || (!decide (((F_QuotientFrame fp0 fp1 classes).2) = ((F_s_QuotientFrame fp0 fp1 classes).2))))))] ∧ St w w' [.own 2 1 b141 ((classes).length) c142 (marked classes.length (1 + (fp1.length : Int))), .own 2 1 b117 ((fp1).length) c118 (marked fp1.length 1), .own 2 1 b286 ((classes).length) c287 classes, .own 2 1 b254 ((fp1).length) c255 fp1, .own 2 1 b157 ((((F_QuotientFrame fp0 fp1 classes).1).2).length) c158 (((F_QuotientFrame fp0 fp1 classes).1).2), .blk b167 #[.int .i64 (((F_QuotientFrame fp0 fp1 classes).1).1), .slice b157 ((((F_QuotientFrame fp0 fp1 classes).1).2).length) c158] 28, .blk b120 #[.int .i64 fp0, .slice b117 ((fp1).length) c118] 28, .own 2 1 b85 ((((F_s_QuotientFrame fp0 fp1 classes).1).2).length) c86 (((F_s_QuotientFrame fp0 fp1 classes).1).2), .blk b94 #[.int .i64 (((F_s_QuotientFrame fp0 fp1 classes).1).1), .slice b85 ((((F_s_QuotientFrame fp0 fp1 classes).1).2).length) c86] 28, .own 2 1 b76 ((classes).length) c77 classes, .own 2 1 b65 ((fp1).length) c66 fp1, .rd 1 fp1A fp1.length fp1C fp1, .blk b3 #[.int .i64 fp0, .slice fp1A fp1.length fp1C] 24, .rd 1 classesA classes.length classesC classes]) ?_ ?_
              ·
                refine c_reg ?_
                refine q_step (v := .int .i64 ((1 + (fp1.length : Int)) + (classes.length : Int))) hE338 (y_move rfl) rfl rfl rfl ?_; intro a339 hE340; clear hE338
                refine q_step (v := .bool (decide (((1 + (fp1.length : Int)) + (classes.length : Int)) < 0))) hE340 (y_lss rfl rfl) rfl rfl rfl ?_; intro a341 hE342; clear hE340
                refine q_step (v := .bool (decide (((1 + (fp1.length : Int)) + (classes.length : Int)) < 0))) hE342 (y_move rfl) rfl rfl rfl ?_; intro a343 hE344; clear hE342
                rcases Bool.eq_false_or_eq_true (decide (((1 + (fp1.length : Int)) + (classes.length : Int)) < 0)) with hb345 | hb345
                ·
                  have hE346 := hE344; rw [hb345] at hE346; clear hE344
                  have hp347 := of_decide_eq_true hb345
                  refine q_skip hE346 rfl rfl rfl ?_; intro a348 hE349; clear hE346
                  refine q_skip hE349 rfl rfl rfl ?_; intro a350 hE351; clear hE349
                  refine q_skip hE351 rfl rfl rfl ?_; intro a352 hE353; clear hE351
                  refine q_skip hE353 rfl rfl rfl ?_; intro a354 hE355; clear hE353
                  refine q_step (v := .bool true) hE355 (y_pick (b := true) rfl rfl) rfl rfl rfl ?_; intro a356 hE357; clear hE355
                  refine q_step (v := .bool true) hE357 (y_move rfl) rfl rfl rfl ?_; intro a358 hE359; clear hE357
                  refine q_skip hE359 rfl rfl rfl ?_; intro a360 hE361; clear hE359
                  refine q_skip hE361 rfl rfl rfl ?_; intro a362 hE363; clear hE361
                  refine q_skip hE363 rfl rfl rfl ?_; intro a364 hE365; clear hE363
                  refine q_step (v := .bool true) hE365 (y_pick (b := true) rfl rfl) rfl rfl rfl ?_; intro a366 hE367; clear hE365
                  refine c_nil ?_
                  have hE368 := hE367.sub (L' := [(1, .slice classesA classes.length classesC), (2, .pointer (some ⟨b3, 0, none⟩)), (6, .pointer (some ⟨b94, 0, none⟩)), (7, .int .i64 ((F_s_QuotientFrame fp0 fp1 classes).2)), (10, .pointer (some ⟨b167, 0, none⟩)), (80, .bool true)]) ⟨rfl, rfl, rfl, rfl, rfl, rfl, trivial⟩; clear hE367
                  refine p_tn ?_
                  have hE369 := hE368.sub (L' := [(1, .slice classesA classes.length classesC), (2, .pointer (some ⟨b3, 0, none⟩)), (6, .pointer (some ⟨b94, 0, none⟩)), (7, .int .i64 ((F_s_QuotientFrame fp0 fp1 classes).2)), (10, .pointer (some ⟨b167, 0, none⟩)), (80, .bool true)]) ⟨rfl, rfl, rfl, rfl, rfl, rfl, trivial⟩
                  have hS370 := (St.pick (Γ' := [.own 2 1 b141 ((classes).length) c142 (marked classes.length (1 + (fp1.length : Int))), .own 2 1 b117 ((fp1).length) c118 (marked fp1.length 1), .own 2 1 b286 ((classes).length) c287 classes, .own 2 1 b254 ((fp1).length) c255 fp1, .own 2 1 b157 ((((F_QuotientFrame fp0 fp1 classes).1).2).length) c158 (((F_QuotientFrame fp0 fp1 classes).1).2), .blk b167 #[.int .i64 (((F_QuotientFrame fp0 fp1 classes).1).1), .slice b157 ((((F_QuotientFrame fp0 fp1 classes).1).2).length) c158] 28, .blk b120 #[.int .i64 fp0, .slice b117 ((fp1).length) c118] 28, .own 2 1 b85 ((((F_s_QuotientFrame fp0 fp1 classes).1).2).length) c86 (((F_s_QuotientFrame fp0 fp1 classes).1).2), .blk b94 #[.int .i64 (((F_s_QuotientFrame fp0 fp1 classes).1).1), .slice b85 ((((F_s_QuotientFrame fp0 fp1 classes).1).2).length) c86] 28, .own 2 1 b76 ((classes).length) c77 classes, .own 2 1 b65 ((fp1).length) c66 fp1, .rd 1 fp1A fp1.length fp1C fp1, .blk b3 #[.int .i64 fp0, .slice fp1A fp1.length fp1C] 24, .rd 1 classesA classes.length classesC classes]) hS333 [0, 1, 2, 3, 4, 5, 6, 7, 8, 9, 10, 11, 12, 13] (by decide) rfl)
                  exact ⟨(by rw [hb345]; exact hE369), hS370⟩
                ·
                  have hE371 := hE344; rw [hb345] at hE371; clear hE344
                  have hp372 := of_decide_eq_false hb345
                  refine q_step (v := .agg #[.int .i64 (((F_QuotientFrame fp0 fp1 classes).1).1), .slice b157 ((((F_QuotientFrame fp0 fp1 classes).1).2).length) c158]) hE371 (y_loadS Try.underlying28 rfl (by kernel_rfl) rfl (St.row (i := 5) hS333 rfl)) rfl rfl rfl ?_; intro a373 hE374; clear hE371
                  refine q_step (v := .agg #[.int .i64 (((F_s_QuotientFrame fp0 fp1 classes).1).1), .slice b85 ((((F_s_QuotientFrame fp0 fp1 classes).1).2).length) c86]) hE374 (y_loadS Try.underlying28 rfl (by kernel_rfl) rfl (St.row (i := 8) hS333 rfl)) rfl rfl rfl ?_; intro a375 hE376; clear hE374
                  refine l_step hE376 rfl (l_call (f := 20) (argv := [.agg #[.int .i64 (((F_QuotientFrame fp0 fp1 classes).1).1), .slice b157 ((((F_QuotientFrame fp0 fp1 classes).1).2).length) c158], .agg #[.int .i64 (((F_s_QuotientFrame fp0 fp1 classes).1).1), .slice b85 ((((F_s_QuotientFrame fp0 fp1 classes).1).2).length) c86]]) hE376 (fun _ => cf_l_eqFrame _ _) rfl rfl (d_l_eqFrame (((F_QuotientFrame fp0 fp1 classes).1).1) b157 ((((F_QuotientFrame fp0 fp1 classes).1).2).length) c158 (((F_QuotientFrame fp0 fp1 classes).1).2) (((F_s_QuotientFrame fp0 fp1 classes).1).1) b85 ((((F_s_QuotientFrame fp0 fp1 classes).1).2).length) c86 (((F_s_QuotientFrame fp0 fp1 classes).1).2) w330 (St.rdO (i := 4) hS333 rfl) (St.rdO (i := 7) hS333 rfl)) ?_)
                  rintro _ w378 ⟨rfl, he382⟩ a379 hE380; clear hE376
                  have hS381 := St.go hS333 he382; clear hS333
                  refine q_step (v := .bool (!(decide (((((F_QuotientFrame fp0 fp1 classes).1).1), (((F_QuotientFrame fp0 fp1 classes).1).2)) = ((((F_s_QuotientFrame fp0 fp1 classes).1).1), (((F_s_QuotientFrame fp0 fp1 classes).1).2)))))) hE380 (y_not rfl) rfl rfl rfl ?_; intro a383 hE384; clear hE380
                  refine q_step (v := .bool (!(decide (((((F_QuotientFrame fp0 fp1 classes).1).1), (((F_QuotientFrame fp0 fp1 classes).1).2)) = ((((F_s_QuotientFrame fp0 fp1 classes).1).1), (((F_s_QuotientFrame fp0 fp1 classes).1).2)))))) hE384 (y_pick (b := false) rfl rfl) rfl rfl rfl ?_; intro a385 hE386; clear hE384
                  refine q_step (v := .bool (!(decide (((((F_QuotientFrame fp0 fp1 classes).1).1), (((F_QuotientFrame fp0 fp1 classes).1).2)) = ((((F_s_QuotientFrame fp0 fp1 classes).1).1), (((F_s_QuotientFrame fp0 fp1 classes).1).2)))))) hE386 (y_move rfl) rfl rfl rfl ?_; intro a387 hE388; clear hE386
                  rcases Bool.eq_false_or_eq_true (!(decide (((((F_QuotientFrame fp0 fp1 classes).1).1), (((F_QuotientFrame fp0 fp1 classes).1).2)) = ((((F_s_QuotientFrame fp0 fp1 classes).1).1), (((F_s_QuotientFrame fp0 fp1 classes).1).2))))) with hb389 | hb389
                  ·
                    have hE390 := hE388; rw [hb389] at hE390; clear hE388
                    have ht391 := bn_t hb389
                    have hp392 := of_decide_eq_false ht391
                    refine q_skip hE390 rfl rfl rfl ?_; intro a393 hE394; clear hE390
                    refine q_skip hE394 rfl rfl rfl ?_; intro a395 hE396; clear hE394
                    refine q_skip hE396 rfl rfl rfl ?_; intro a397 hE398; clear hE396
                    refine q_step (v := .bool true) hE398 (y_pick (b := true) rfl rfl) rfl rfl rfl ?_; intro a399 hE400; clear hE398
                    refine c_nil ?_
                    have hE401 := hE400.sub (L' := [(1, .slice classesA classes.length classesC), (2, .pointer (some ⟨b3, 0, none⟩)), (6, .pointer (some ⟨b94, 0, none⟩)), (7, .int .i64 ((F_s_QuotientFrame fp0 fp1 classes).2)), (10, .pointer (some ⟨b167, 0, none⟩)), (80, .bool true)]) ⟨rfl, rfl, rfl, rfl, rfl, rfl, trivial⟩; clear hE400
                    refine p_tn ?_
                    have hE402 := hE401.sub (L' := [(1, .slice classesA classes.length classesC), (2, .pointer (some ⟨b3, 0, none⟩)), (6, .pointer (some ⟨b94, 0, none⟩)), (7, .int .i64 ((F_s_QuotientFrame fp0 fp1 classes).2)), (10, .pointer (some ⟨b167, 0, none⟩)), (80, .bool true)]) ⟨rfl, rfl, rfl, rfl, rfl, rfl, trivial⟩
                    have hS403 := (St.pick (Γ' := [.own 2 1 b141 ((classes).length) c142 (marked classes.length (1 + (fp1.length : Int))), .own 2 1 b117 ((fp1).length) c118 (marked fp1.length 1), .own 2 1 b286 ((classes).length) c287 classes, .own 2 1 b254 ((fp1).length) c255 fp1, .own 2 1 b157 ((((F_QuotientFrame fp0 fp1 classes).1).2).length) c158 (((F_QuotientFrame fp0 fp1 classes).1).2), .blk b167 #[.int .i64 (((F_QuotientFrame fp0 fp1 classes).1).1), .slice b157 ((((F_QuotientFrame fp0 fp1 classes).1).2).length) c158] 28, .blk b120 #[.int .i64 fp0, .slice b117 ((fp1).length) c118] 28, .own 2 1 b85 ((((F_s_QuotientFrame fp0 fp1 classes).1).2).length) c86 (((F_s_QuotientFrame fp0 fp1 classes).1).2), .blk b94 #[.int .i64 (((F_s_QuotientFrame fp0 fp1 classes).1).1), .slice b85 ((((F_s_QuotientFrame fp0 fp1 classes).1).2).length) c86] 28, .own 2 1 b76 ((classes).length) c77 classes, .own 2 1 b65 ((fp1).length) c66 fp1, .rd 1 fp1A fp1.length fp1C fp1, .blk b3 #[.int .i64 fp0, .slice fp1A fp1.length fp1C] 24, .rd 1 classesA classes.length classesC classes]) hS381 [0, 1, 2, 3, 4, 5, 6, 7, 8, 9, 10, 11, 12, 13] (by decide) rfl)
                    exact ⟨(by rw [hb389, hb345]; exact hE402), hS403⟩
                  ·
                    have hE404 := hE388; rw [hb389] at hE404; clear hE388
                    have ht405 := bn_f hb389
                    have hp406 := of_decide_eq_true ht405
                    refine q_step (v := .int .i64 ((F_QuotientFrame fp0 fp1 classes).2)) hE404 (y_move rfl) rfl rfl rfl ?_; intro a407 hE408; clear hE404
                    refine q_step (v := .int .i64 ((F_s_QuotientFrame fp0 fp1 classes).2)) hE408 (y_move rfl) rfl rfl rfl ?_; intro a409 hE410; clear hE408
                    refine q_step (v := .bool (!decide (((F_QuotientFrame fp0 fp1 classes).2) = ((F_s_QuotientFrame fp0 fp1 classes).2)))) hE410 (y_neq rfl rfl) rfl rfl rfl ?_; intro a411 hE412; clear hE410
                    refine q_step (v := .bool (!decide (((F_QuotientFrame fp0 fp1 classes).2) = ((F_s_QuotientFrame fp0 fp1 classes).2)))) hE412 (y_pick (b := false) rfl rfl) rfl rfl rfl ?_; intro a413 hE414; clear hE412
                    refine c_nil ?_
                    have hE415 := hE414.sub (L' := [(1, .slice classesA classes.length classesC), (2, .pointer (some ⟨b3, 0, none⟩)), (6, .pointer (some ⟨b94, 0, none⟩)), (7, .int .i64 ((F_s_QuotientFrame fp0 fp1 classes).2)), (10, .pointer (some ⟨b167, 0, none⟩)), (80, .bool (!decide (((F_QuotientFrame fp0 fp1 classes).2) = ((F_s_QuotientFrame fp0 fp1 classes).2))))]) ⟨rfl, rfl, rfl, rfl, rfl, rfl, trivial⟩; clear hE414
                    refine p_tn ?_
                    have hE416 := hE415.sub (L' := [(1, .slice classesA classes.length classesC), (2, .pointer (some ⟨b3, 0, none⟩)), (6, .pointer (some ⟨b94, 0, none⟩)), (7, .int .i64 ((F_s_QuotientFrame fp0 fp1 classes).2)), (10, .pointer (some ⟨b167, 0, none⟩)), (80, .bool (!decide (((F_QuotientFrame fp0 fp1 classes).2) = ((F_s_QuotientFrame fp0 fp1 classes).2))))]) ⟨rfl, rfl, rfl, rfl, rfl, rfl, trivial⟩
                    have hS417 := (St.pick (Γ' := [.own 2 1 b141 ((classes).length) c142 (marked classes.length (1 + (fp1.length : Int))), .own 2 1 b117 ((fp1).length) c118 (marked fp1.length 1), .own 2 1 b286 ((classes).length) c287 classes, .own 2 1 b254 ((fp1).length) c255 fp1, .own 2 1 b157 ((((F_QuotientFrame fp0 fp1 classes).1).2).length) c158 (((F_QuotientFrame fp0 fp1 classes).1).2), .blk b167 #[.int .i64 (((F_QuotientFrame fp0 fp1 classes).1).1), .slice b157 ((((F_QuotientFrame fp0 fp1 classes).1).2).length) c158] 28, .blk b120 #[.int .i64 fp0, .slice b117 ((fp1).length) c118] 28, .own 2 1 b85 ((((F_s_QuotientFrame fp0 fp1 classes).1).2).length) c86 (((F_s_QuotientFrame fp0 fp1 classes).1).2), .blk b94 #[.int .i64 (((F_s_QuotientFrame fp0 fp1 classes).1).1), .slice b85 ((((F_s_QuotientFrame fp0 fp1 classes).1).2).length) c86] 28, .own 2 1 b76 ((classes).length) c77 classes, .own 2 1 b65 ((fp1).length) c66 fp1, .rd 1 fp1A fp1.length fp1C fp1, .blk b3 #[.int .i64 fp0, .slice fp1A fp1.length fp1C] 24, .rd 1 classesA classes.length classesC classes]) hS381 [0, 1, 2, 3, 4, 5, 6, 7, 8, 9, 10, 11, 12, 13] (by decide) rfl)
                    exact ⟨(by rw [hb389, hb345]; exact hE416), hS417⟩
              ·
                rintro a418 w419 ⟨hE420, hS421⟩; clear hE338 hS333
                refine c_cond hE420 rfl (fun ht422 => ?_) (fun ht422 => ?_)
                ·
                  have hE423 := hE420; rw [ht422] at hE423; clear hE420
                  refine c_seq ?_
                  refine c_reg ?_
                  refine q_step (v := .bool false) hE423 (y_assign rfl) rfl rfl rfl ?_; intro a424 hE425; clear hE423
                  refine c_nil ?_
                  have hE426 := hE425.sub (L' := [(4, .bool false)]) ⟨rfl, trivial⟩; clear hE425
                  refine p_tn ?_
                  refine wp_ret ?_
                  refine p_tr ?_
                  have hF : F_l_FnExactQuotientFrame fp0 fp1 classes = false := by unfold F_l_FnExactQuotientFrame; rw [ht422, ht298, ht266, ht229, ht48, ht19]; first | done | rfl
                  refine c_ret1 hE426 rfl rfl ?_
                  exact ⟨(by rw [hF]; first | done | rfl), hS421.ext⟩
                ·
                  obtain ⟨ht427, ht428⟩ := bor_f ht422
                  have hp429 := of_decide_eq_false ht427
                  obtain ⟨ht430, ht431⟩ := bor_f ht428
                  have ht432 := bn_f ht430
                  have hp433 := of_decide_eq_true ht432
                  have ht434 := bn_f ht431
                  have hp435 := of_decide_eq_true ht434
                  have hE436 := hE420; rw [ht422] at hE436; clear hE420
                  refine wp_skip ?_
                  refine p_tn ?_
                  refine c_seq ?_
                  refine c_reg ?_
                  refine q_step (v := .int .i64 1) hE436 (y_assign rfl) rfl rfl rfl ?_; intro a437 hE438; clear hE436
                  refine c_nil ?_
                  have hE439 := hE438.sub (L' := [(1, .slice classesA classes.length classesC), (2, .pointer (some ⟨b3, 0, none⟩)), (6, .pointer (some ⟨b94, 0, none⟩)), (7, .int .i64 ((F_s_QuotientFrame fp0 fp1 classes).2)), (10, .pointer (some ⟨b167, 0, none⟩)), (13, .int .i64 1)]) ⟨rfl, rfl, rfl, rfl, rfl, rfl, trivial⟩; clear hE438
                  refine p_tn ?_
                  refine c_seq ?_
                  refine c_reg ?_
                  refine q_step (v := .agg #[.int .i64 (((F_QuotientFrame fp0 fp1 classes).1).1), .slice b157 ((((F_QuotientFrame fp0 fp1 classes).1).2).length) c158]) hE439 (y_loadS Try.underlying28 rfl (by kernel_rfl) rfl (St.row (i := 5) hS421 rfl)) rfl rfl rfl ?_; intro a440 hE441; clear hE439
                  refine q_step (v := .int .i64 1) hE441 (y_move rfl) rfl rfl rfl ?_; intro a442 hE443; clear hE441
                  have hS450 := (St.pick (Γ' := [.own 2 1 b157 ((((F_QuotientFrame fp0 fp1 classes).1).2).length) c158 (((F_QuotientFrame fp0 fp1 classes).1).2), .own 2 1 b141 ((classes).length) c142 (marked classes.length (1 + (fp1.length : Int))), .own 2 1 b117 ((fp1).length) c118 (marked fp1.length 1), .own 2 1 b286 ((classes).length) c287 classes, .own 2 1 b254 ((fp1).length) c255 fp1, .blk b167 #[.int .i64 (((F_QuotientFrame fp0 fp1 classes).1).1), .slice b157 ((((F_QuotientFrame fp0 fp1 classes).1).2).length) c158] 28, .blk b120 #[.int .i64 fp0, .slice b117 ((fp1).length) c118] 28, .own 2 1 b85 ((((F_s_QuotientFrame fp0 fp1 classes).1).2).length) c86 (((F_s_QuotientFrame fp0 fp1 classes).1).2), .blk b94 #[.int .i64 (((F_s_QuotientFrame fp0 fp1 classes).1).1), .slice b85 ((((F_s_QuotientFrame fp0 fp1 classes).1).2).length) c86] 28, .own 2 1 b76 ((classes).length) c77 classes, .own 2 1 b65 ((fp1).length) c66 fp1, .rd 1 fp1A fp1.length fp1C fp1, .blk b3 #[.int .i64 fp0, .slice fp1A fp1.length fp1C] 24, .rd 1 classesA classes.length classesC classes]) hS421 [4, 0, 1, 2, 3, 5, 6, 7, 8, 9, 10, 11, 12, 13] (by decide) rfl); clear hS421
                  refine l_step hE443 rfl (l_call (f := 31) (argv := [.agg #[.int .i64 (((F_QuotientFrame fp0 fp1 classes).1).1), .slice b157 ((((F_QuotientFrame fp0 fp1 classes).1).2).length) c158], .int .i64 1]) hE443 (fun _ => cf_l_markFrame _ _) rfl rfl (d_l_markFrame (((F_QuotientFrame fp0 fp1 classes).1).1) b157 ((((F_QuotientFrame fp0 fp1 classes).1).2).length) c158 (((F_QuotientFrame fp0 fp1 classes).1).2) 1 w419 w [.own 2 1 b141 ((classes).length) c142 (marked classes.length (1 + (fp1.length : Int))), .own 2 1 b117 ((fp1).length) c118 (marked fp1.length 1), .own 2 1 b286 ((classes).length) c287 classes, .own 2 1 b254 ((fp1).length) c255 fp1, .blk b167 #[.int .i64 (((F_QuotientFrame fp0 fp1 classes).1).1), .slice b157 ((((F_QuotientFrame fp0 fp1 classes).1).2).length) c158] 28, .blk b120 #[.int .i64 fp0, .slice b117 ((fp1).length) c118] 28, .own 2 1 b85 ((((F_s_QuotientFrame fp0 fp1 classes).1).2).length) c86 (((F_s_QuotientFrame fp0 fp1 classes).1).2), .blk b94 #[.int .i64 (((F_s_QuotientFrame fp0 fp1 classes).1).1), .slice b85 ((((F_s_QuotientFrame fp0 fp1 classes).1).2).length) c86] 28, .own 2 1 b76 ((classes).length) c77 classes, .own 2 1 b65 ((fp1).length) c66 fp1, .rd 1 fp1A fp1.length fp1C fp1, .blk b3 #[.int .i64 fp0, .slice fp1A fp1.length fp1C] 24, .rd 1 classesA classes.length classesC classes] hS450 (by first | omega | (simp only [marked_len]; omega)) (by first | omega | (simp only [marked_len]; omega)) (by first | omega | (simp only [marked_len]; omega))) ?_)
                  rintro _ w445 ⟨rfl, hS448⟩ a446 hE447; clear hE443 hS450
                  refine q_step (v := .int .i64 (1 + ((((F_QuotientFrame fp0 fp1 classes).1).2).length : Int))) hE447 (y_assign rfl) rfl rfl rfl ?_; intro a451 hE452; clear hE447
                  refine c_nil ?_
                  have hE453 := hE452.sub (L' := [(1, .slice classesA classes.length classesC), (2, .pointer (some ⟨b3, 0, none⟩)), (6, .pointer (some ⟨b94, 0, none⟩)), (7, .int .i64 ((F_s_QuotientFrame fp0 fp1 classes).2)), (10, .pointer (some ⟨b167, 0, none⟩)), (13, .int .i64 (1 + ((((F_QuotientFrame fp0 fp1 classes).1).2).length : Int)))]) ⟨rfl, rfl, rfl, rfl, rfl, rfl, trivial⟩; clear hE452
                  refine p_tn ?_
                  refine c_seq ?_
                  refine c_reg ?_
                  refine q_step (v := .int .i64 1) hE453 (y_assign rfl) rfl rfl rfl ?_; intro a454 hE455; clear hE453
                  refine c_nil ?_
                  have hE456 := hE455.sub (L' := [(1, .slice classesA classes.length classesC), (2, .pointer (some ⟨b3, 0, none⟩)), (6, .pointer (some ⟨b94, 0, none⟩)), (7, .int .i64 ((F_s_QuotientFrame fp0 fp1 classes).2)), (10, .pointer (some ⟨b167, 0, none⟩)), (13, .int .i64 (1 + ((((F_QuotientFrame fp0 fp1 classes).1).2).length : Int))), (14, .int .i64 1)]) ⟨rfl, rfl, rfl, rfl, rfl, rfl, rfl, trivial⟩; clear hE455
                  refine p_tn ?_
                  refine c_seq ?_
                  refine c_reg ?_
                  refine q_step (v := .agg #[.int .i64 (((F_QuotientFrame fp0 fp1 classes).1).1), .slice b157 ((((F_QuotientFrame fp0 fp1 classes).1).2).length) c158]) hE456 (y_loadS Try.underlying28 rfl (by kernel_rfl) rfl (St.row (i := 5) hS448 rfl)) rfl rfl rfl ?_; intro a457 hE458; clear hE456
                  refine q_step (v := .int .i64 1) hE458 (y_move rfl) rfl rfl rfl ?_; intro a459 hE460; clear hE458
                  refine l_step hE460 rfl (l_call (f := 33) (argv := [.agg #[.int .i64 (((F_QuotientFrame fp0 fp1 classes).1).1), .slice b157 ((((F_QuotientFrame fp0 fp1 classes).1).2).length) c158], .int .i64 1]) hE460 (fun _ => cf_l_heldFrame _ _) rfl rfl (c_l_heldFrame (((F_QuotientFrame fp0 fp1 classes).1).1) b157 ((((F_QuotientFrame fp0 fp1 classes).1).2).length) c158 (marked (((F_QuotientFrame fp0 fp1 classes).1).2).length 1) 1 w445 (St.rdO (i := 0) hS448 rfl) (by first | omega | (simp only [marked_len]; omega)) (by first | omega | (simp only [marked_len]; omega)) (by first | omega | (simp only [marked_len]; omega))) ?_)
                  rintro _ w462 ⟨rfl, he466⟩ a463 hE464; clear hE460
                  have hf467 := heldFrame_le (((F_QuotientFrame fp0 fp1 classes).1).1) (marked (((F_QuotientFrame fp0 fp1 classes).1).2).length 1) 1
                  have hS465 := St.go hS448 he466; clear hS448
                  refine q_step (v := .int .i64 (F_l_heldFrame (((F_QuotientFrame fp0 fp1 classes).1).1) (marked (((F_QuotientFrame fp0 fp1 classes).1).2).length 1) 1)) hE464 (y_assign rfl) rfl rfl rfl ?_; intro a468 hE469; clear hE464
                  refine c_nil ?_
                  have hE470 := hE469.sub (L' := [(1, .slice classesA classes.length classesC), (2, .pointer (some ⟨b3, 0, none⟩)), (6, .pointer (some ⟨b94, 0, none⟩)), (7, .int .i64 ((F_s_QuotientFrame fp0 fp1 classes).2)), (10, .pointer (some ⟨b167, 0, none⟩)), (13, .int .i64 (1 + ((((F_QuotientFrame fp0 fp1 classes).1).2).length : Int))), (14, .int .i64 (F_l_heldFrame (((F_QuotientFrame fp0 fp1 classes).1).1) (marked (((F_QuotientFrame fp0 fp1 classes).1).2).length 1) 1))]) ⟨rfl, rfl, rfl, rfl, rfl, rfl, rfl, trivial⟩; clear hE469
                  refine p_tn ?_
                  refine c_seq ?_
                  refine c_seq ?_
                  refine c_reg ?_
                  refine q_step (v := .int .i64 (F_l_heldFrame (((F_QuotientFrame fp0 fp1 classes).1).1) (marked (((F_QuotientFrame fp0 fp1 classes).1).2).length 1) 1)) hE470 (y_move rfl) rfl rfl rfl ?_; intro a471 hE472; clear hE470
                  refine q_step (v := .bool (decide ((F_l_heldFrame (((F_QuotientFrame fp0 fp1 classes).1).1) (marked (((F_QuotientFrame fp0 fp1 classes).1).2).length 1) 1) < 0))) hE472 (y_lss rfl rfl) rfl rfl rfl ?_; intro a473 hE474; clear hE472
                  refine c_nil ?_
                  have hE475 := hE474.sub (L' := [(1, .slice classesA classes.length classesC), (2, .pointer (some ⟨b3, 0, none⟩)), (6, .pointer (some ⟨b94, 0, none⟩)), (7, .int .i64 ((F_s_QuotientFrame fp0 fp1 classes).2)), (10, .pointer (some ⟨b167, 0, none⟩)), (13, .int .i64 (1 + ((((F_QuotientFrame fp0 fp1 classes).1).2).length : Int))), (14, .int .i64 (F_l_heldFrame (((F_QuotientFrame fp0 fp1 classes).1).1) (marked (((F_QuotientFrame fp0 fp1 classes).1).2).length 1) 1)), (88, .bool (decide ((F_l_heldFrame (((F_QuotientFrame fp0 fp1 classes).1).1) (marked (((F_QuotientFrame fp0 fp1 classes).1).2).length 1) 1) < 0)))]) ⟨rfl, rfl, rfl, rfl, rfl, rfl, rfl, rfl, trivial⟩; clear hE474
                  refine p_tn ?_
                  refine c_cond hE475 rfl (fun ht476 => ?_) (fun ht476 => ?_)
                  ·
                    have hp477 := of_decide_eq_true ht476
                    have hE478 := hE475; rw [ht476] at hE478; clear hE475
                    refine c_seq ?_
                    refine c_reg ?_
                    refine q_step (v := .bool false) hE478 (y_assign rfl) rfl rfl rfl ?_; intro a479 hE480; clear hE478
                    refine c_nil ?_
                    have hE481 := hE480.sub (L' := [(4, .bool false)]) ⟨rfl, trivial⟩; clear hE480
                    refine p_tn ?_
                    refine wp_ret ?_
                    refine p_tr ?_
                    have hF : F_l_FnExactQuotientFrame fp0 fp1 classes = false := by unfold F_l_FnExactQuotientFrame; rw [ht476, ht422, ht298, ht266, ht229, ht48, ht19]; first | done | rfl
                    refine c_ret1 hE481 rfl rfl ?_
                    exact ⟨(by rw [hF]; first | done | rfl), hS465.ext⟩
                  ·
                    have hp482 := of_decide_eq_false ht476
                    have hE483 := hE475; rw [ht476] at hE483; clear hE475
                    refine wp_skip ?_
                    refine p_tn ?_
                    refine c_seq ?_
                    refine c_seq ?_
                    refine c_reg ?_
                    refine q_step (v := .int .i64 (F_l_heldFrame (((F_QuotientFrame fp0 fp1 classes).1).1) (marked (((F_QuotientFrame fp0 fp1 classes).1).2).length 1) 1)) hE483 (y_move rfl) rfl rfl rfl ?_; intro a484 hE485; clear hE483
                    refine q_step (v := .int .i64 (1 + ((((F_QuotientFrame fp0 fp1 classes).1).2).length : Int))) hE485 (y_move rfl) rfl rfl rfl ?_; intro a486 hE487; clear hE485
                    refine q_step (v := .bool (!decide ((F_l_heldFrame (((F_QuotientFrame fp0 fp1 classes).1).1) (marked (((F_QuotientFrame fp0 fp1 classes).1).2).length 1) 1) = (1 + ((((F_QuotientFrame fp0 fp1 classes).1).2).length : Int))))) hE487 (y_neq rfl rfl) rfl rfl rfl ?_; intro a488 hE489; clear hE487
                    refine c_nil ?_
                    have hE490 := hE489.sub (L' := [(1, .slice classesA classes.length classesC), (2, .pointer (some ⟨b3, 0, none⟩)), (6, .pointer (some ⟨b94, 0, none⟩)), (7, .int .i64 ((F_s_QuotientFrame fp0 fp1 classes).2)), (10, .pointer (some ⟨b167, 0, none⟩)), (13, .int .i64 (1 + ((((F_QuotientFrame fp0 fp1 classes).1).2).length : Int))), (91, .bool (!decide ((F_l_heldFrame (((F_QuotientFrame fp0 fp1 classes).1).1) (marked (((F_QuotientFrame fp0 fp1 classes).1).2).length 1) 1) = (1 + ((((F_QuotientFrame fp0 fp1 classes).1).2).length : Int)))))]) ⟨rfl, rfl, rfl, rfl, rfl, rfl, rfl, trivial⟩; clear hE489
                    refine p_tn ?_
                    refine c_cond hE490 rfl (fun ht491 => ?_) (fun ht491 => ?_)
                    ·
                      have ht492 := bn_t ht491
                      have hp493 := of_decide_eq_false ht492
                      have hE494 := hE490; rw [ht491] at hE494; clear hE490
                      refine c_seq ?_
                      refine c_reg ?_
                      refine q_step (v := .bool false) hE494 (y_assign rfl) rfl rfl rfl ?_; intro a495 hE496; clear hE494
                      refine c_nil ?_
                      have hE497 := hE496.sub (L' := [(4, .bool false)]) ⟨rfl, trivial⟩; clear hE496
                      refine p_tn ?_
                      refine wp_ret ?_
                      refine p_tr ?_
                      have hF : F_l_FnExactQuotientFrame fp0 fp1 classes = false := by unfold F_l_FnExactQuotientFrame; rw [ht491, ht476, ht422, ht298, ht266, ht229, ht48, ht19]; first | done | rfl
                      refine c_ret1 hE497 rfl rfl ?_
                      exact ⟨(by rw [hF]; first | done | rfl), hS465.ext⟩
                    ·
                      have ht498 := bn_f ht491
                      have hp499 := of_decide_eq_true ht498
                      have hE500 := hE490; rw [ht491] at hE500; clear hE490
                      refine wp_skip ?_
                      refine p_tn ?_
                      refine c_seq ?_
                      refine c_reg ?_
                      refine q_step (v := .agg #[.int .i64 fp0, .slice fp1A fp1.length fp1C]) hE500 (y_loadS Try.underlying24 rfl (by kernel_rfl) rfl (St.row (i := 12) hS465 rfl)) rfl rfl rfl ?_; intro a501 hE502; clear hE500
                      refine l_step hE502 rfl (l_call (f := 17) (argv := [.agg #[.int .i64 fp0, .slice fp1A fp1.length fp1C]]) hE502 (fun _ => cf_l_toFrame _ _) rfl rfl (d_l_toFrame fp0 fp1A fp1.length fp1C fp1 w462 (St.rdR (i := 11) hS465 rfl) (by first | omega | (simp only [marked_len]; omega))) ?_)
                      rintro _ w504 ⟨b509, c510, rfl, ho511, he508⟩ a505 hE506; clear hE502
                      have hS507 := St.own hS465 he508 ho511; clear hS465
                      refine q_step (v := .slice classesA classes.length classesC) hE506 (y_move rfl) rfl rfl rfl ?_; intro a512 hE513; clear hE506
                      refine l_step hE513 rfl (l_call (f := 18) (argv := [.slice classesA classes.length classesC]) hE513 (fun _ => cf_l_toInt64S _ _) rfl rfl (d_l_toInt64S classesA classes.length classesC classes w504 (St.rdR (i := 14) hS507 rfl) (by first | omega | (simp only [marked_len]; omega))) ?_)
                      rintro _ w515 ⟨b520, c521, rfl, ho522, he519⟩ a516 hE517; clear hE513
                      have hS518 := St.own hS507 he519 ho522; clear hS507
                      refine l_step hE517 rfl (l_call (f := 30) (argv := [.agg #[.int .i64 fp0, .slice b509 ((fp1).length) c510], .slice b520 ((classes).length) c521]) hE517 (fun _ => cf_QuotientFrame _ _) rfl rfl (c_QuotientFrame fp0 b509 ((fp1).length) c510 fp1 b520 ((classes).length) c521 classes w515 (St.rdO (i := 1) hS518 rfl) (St.rdO (i := 0) hS518 rfl) (by first | omega | (simp only [marked_len]; omega))) ?_)
                      rintro _ w524 ⟨b529, c530, rfl, ho531, he528⟩ a525 hE526; clear hE517
                      have hf532 := QuotientFrame_len fp0 fp1 classes
                      have hS527 := St.own hS518 he528 ho531; clear hS518
                      refine q_step (v := .tuple #[.agg #[.int .i64 (((F_QuotientFrame fp0 fp1 classes).1).1), .slice b529 ((((F_QuotientFrame fp0 fp1 classes).1).2).length) c530], .int .i64 ((F_QuotientFrame fp0 fp1 classes).2)]) hE526 (y_move rfl) rfl rfl rfl ?_; intro a533 hE534; clear hE526
                      refine q_step (v := .agg #[.int .i64 (((F_QuotientFrame fp0 fp1 classes).1).1), .slice b529 ((((F_QuotientFrame fp0 fp1 classes).1).2).length) c530]) hE534 (y_extract rfl rfl) rfl rfl rfl ?_; intro a535 hE536; clear hE534
                      refine q_step (v := .int .i64 ((F_QuotientFrame fp0 fp1 classes).2)) hE536 (y_extract rfl rfl) rfl rfl rfl ?_; intro a537 hE538; clear hE536
                      refine l_step hE538 rfl (l_alloc (z := .agg #[.int .i64 0, .slice none 0 0]) (cs := #[.int .i64 0, .slice none 0 0]) hS527 hE538 (fun _ => by kernel_rfl) rfl rfl ?_)
                      intro b539 w540 hS543 he544 a541 hE542; clear hS527 hE538
                      refine l_step hE542 rfl (l_storeS (k := 0) (cs' := #[.int .i64 (((F_QuotientFrame fp0 fp1 classes).1).1), .slice b529 ((((F_QuotientFrame fp0 fp1 classes).1).2).length) c530]) hS543 hE542 (by kernel_rfl) rfl rfl (by kernel_rfl) rfl rfl ?_)
                      intro w546 hS549 a547 hE548; clear hS543 hE542
                      refine q_step (v := .int .i64 ((F_QuotientFrame fp0 fp1 classes).2)) hE548 (y_assign rfl) rfl rfl rfl ?_; intro a551 hE552; clear hE548
                      refine c_nil ?_
                      have hE553 := hE552.sub (L' := [(6, .pointer (some ⟨b94, 0, none⟩)), (7, .int .i64 ((F_s_QuotientFrame fp0 fp1 classes).2)), (10, .pointer (some ⟨b167, 0, none⟩)), (13, .int .i64 (1 + ((((F_QuotientFrame fp0 fp1 classes).1).2).length : Int))), (15, .pointer (some ⟨b539, 0, none⟩)), (16, .int .i64 ((F_QuotientFrame fp0 fp1 classes).2))]) ⟨rfl, rfl, rfl, rfl, rfl, rfl, trivial⟩; clear hE552
                      refine p_tn ?_
                      refine c_seq ?_
                      refine c_cut (fun a' w' => E a' 117 [(10, .pointer (some ⟨b167, 0, none⟩)), (13, .int .i64 (1 + ((((F_QuotientFrame fp0 fp1 classes).1).2).length : Int))), (108, .bool ((!(decide (((((F_QuotientFrame fp0 fp1 classes).1).1), (((F_QuotientFrame fp0 fp1 classes).1).2)) = ((((F_s_QuotientFrame fp0 fp1 classes).1).1), (((F_s_QuotientFrame fp0 fp1 classes).1).2))))) || (!decide (((F_QuotientFrame fp0 fp1 classes).2) = ((F_s_QuotientFrame fp0 fp1 classes).2)))))] ∧ St w w' [.own 2 1 b529 ((((F_QuotientFrame fp0 fp1 classes).1).2).length) c530 (((F_QuotientFrame fp0 fp1 classes).1).2), .blk b539 #[.int .i64 (((F_QuotientFrame fp0 fp1 classes).1).1), .slice b529 ((((F_QuotientFrame fp0 fp1 classes).1).2).length) c530] 28, .own 2 1 b520 ((classes).length) c521 classes, .own 2 1 b509 ((fp1).length) c510 fp1, .own 2 1 b157 ((((F_QuotientFrame fp0 fp1 classes).1).2).length) c158 (marked (((F_QuotientFrame fp0 fp1 classes).1).2).length 1), .own 2 1 b141 ((classes).length) c142 (marked classes.length (1 + (fp1.length : Int))), .own 2 1 b117 ((fp1).length) c118 (marked fp1.length 1), .own 2 1 b286 ((classes).length) c287 classes, .own 2 1 b254 ((fp1).length) c255 fp1, .blk b167 #[.int .i64 (((F_QuotientFrame fp0 fp1 classes).1).1), .slice b157 ((((F_QuotientFrame fp0 fp1 classes).1).2).length) c158] 28, .blk b120 #[.int .i64 fp0, .slice b117 ((fp1).length) c118] 28, .own 2 1 b85 ((((F_s_QuotientFrame fp0 fp1 classes).1).2).length) c86 (((F_s_QuotientFrame fp0 fp1 classes).1).2), .blk b94 #[.int .i64 (((F_s_QuotientFrame fp0 fp1 classes).1).1), .slice b85 ((((F_s_QuotientFrame fp0 fp1 classes).1).2).length) c86] 28, .own 2 1 b76 ((classes).length) c77 classes, .own 2 1 b65 ((fp1).length) c66 fp1, .rd 1 fp1A fp1.length fp1C fp1, .blk b3 #[.int .i64 fp0, .slice fp1A fp1.length fp1C] 24, .rd 1 classesA classes.length classesC classes]) ?_ ?_
                      ·
                        refine c_reg ?_
                        refine q_step (v := .agg #[.int .i64 (((F_QuotientFrame fp0 fp1 classes).1).1), .slice b529 ((((F_QuotientFrame fp0 fp1 classes).1).2).length) c530]) hE553 (y_loadS Try.underlying28 rfl (by kernel_rfl) rfl (St.row (i := 0) hS549 rfl)) rfl rfl rfl ?_; intro a554 hE555; clear hE553
                        refine q_step (v := .agg #[.int .i64 (((F_s_QuotientFrame fp0 fp1 classes).1).1), .slice b85 ((((F_s_QuotientFrame fp0 fp1 classes).1).2).length) c86]) hE555 (y_loadS Try.underlying28 rfl (by kernel_rfl) rfl (St.row (i := 12) hS549 rfl)) rfl rfl rfl ?_; intro a556 hE557; clear hE555
                        refine l_step hE557 rfl (l_call (f := 20) (argv := [.agg #[.int .i64 (((F_QuotientFrame fp0 fp1 classes).1).1), .slice b529 ((((F_QuotientFrame fp0 fp1 classes).1).2).length) c530], .agg #[.int .i64 (((F_s_QuotientFrame fp0 fp1 classes).1).1), .slice b85 ((((F_s_QuotientFrame fp0 fp1 classes).1).2).length) c86]]) hE557 (fun _ => cf_l_eqFrame _ _) rfl rfl (d_l_eqFrame (((F_QuotientFrame fp0 fp1 classes).1).1) b529 ((((F_QuotientFrame fp0 fp1 classes).1).2).length) c530 (((F_QuotientFrame fp0 fp1 classes).1).2) (((F_s_QuotientFrame fp0 fp1 classes).1).1) b85 ((((F_s_QuotientFrame fp0 fp1 classes).1).2).length) c86 (((F_s_QuotientFrame fp0 fp1 classes).1).2) w546 (St.rdO (i := 1) hS549 rfl) (St.rdO (i := 11) hS549 rfl)) ?_)
                        rintro _ w559 ⟨rfl, he563⟩ a560 hE561; clear hE557
                        have hS562 := St.go hS549 he563; clear hS549
                        refine q_step (v := .bool (!(decide (((((F_QuotientFrame fp0 fp1 classes).1).1), (((F_QuotientFrame fp0 fp1 classes).1).2)) = ((((F_s_QuotientFrame fp0 fp1 classes).1).1), (((F_s_QuotientFrame fp0 fp1 classes).1).2)))))) hE561 (y_not rfl) rfl rfl rfl ?_; intro a564 hE565; clear hE561
                        refine q_step (v := .bool (!(decide (((((F_QuotientFrame fp0 fp1 classes).1).1), (((F_QuotientFrame fp0 fp1 classes).1).2)) = ((((F_s_QuotientFrame fp0 fp1 classes).1).1), (((F_s_QuotientFrame fp0 fp1 classes).1).2)))))) hE565 (y_move rfl) rfl rfl rfl ?_; intro a566 hE567; clear hE565
                        rcases Bool.eq_false_or_eq_true (!(decide (((((F_QuotientFrame fp0 fp1 classes).1).1), (((F_QuotientFrame fp0 fp1 classes).1).2)) = ((((F_s_QuotientFrame fp0 fp1 classes).1).1), (((F_s_QuotientFrame fp0 fp1 classes).1).2))))) with hb568 | hb568
                        ·
                          have hE569 := hE567; rw [hb568] at hE569; clear hE567
                          have ht570 := bn_t hb568
                          have hp571 := of_decide_eq_false ht570
                          refine q_skip hE569 rfl rfl rfl ?_; intro a572 hE573; clear hE569
                          refine q_skip hE573 rfl rfl rfl ?_; intro a574 hE575; clear hE573
                          refine q_skip hE575 rfl rfl rfl ?_; intro a576 hE577; clear hE575
                          refine q_step (v := .bool true) hE577 (y_pick (b := true) rfl rfl) rfl rfl rfl ?_; intro a578 hE579; clear hE577
                          refine c_nil ?_
                          have hE580 := hE579.sub (L' := [(10, .pointer (some ⟨b167, 0, none⟩)), (13, .int .i64 (1 + ((((F_QuotientFrame fp0 fp1 classes).1).2).length : Int))), (108, .bool true)]) ⟨rfl, rfl, rfl, trivial⟩; clear hE579
                          refine p_tn ?_
                          have hE581 := hE580.sub (L' := [(10, .pointer (some ⟨b167, 0, none⟩)), (13, .int .i64 (1 + ((((F_QuotientFrame fp0 fp1 classes).1).2).length : Int))), (108, .bool true)]) ⟨rfl, rfl, rfl, trivial⟩
                          have hS582 := (St.pick (Γ' := [.own 2 1 b529 ((((F_QuotientFrame fp0 fp1 classes).1).2).length) c530 (((F_QuotientFrame fp0 fp1 classes).1).2), .blk b539 #[.int .i64 (((F_QuotientFrame fp0 fp1 classes).1).1), .slice b529 ((((F_QuotientFrame fp0 fp1 classes).1).2).length) c530] 28, .own 2 1 b520 ((classes).length) c521 classes, .own 2 1 b509 ((fp1).length) c510 fp1, .own 2 1 b157 ((((F_QuotientFrame fp0 fp1 classes).1).2).length) c158 (marked (((F_QuotientFrame fp0 fp1 classes).1).2).length 1), .own 2 1 b141 ((classes).length) c142 (marked classes.length (1 + (fp1.length : Int))), .own 2 1 b117 ((fp1).length) c118 (marked fp1.length 1), .own 2 1 b286 ((classes).length) c287 classes, .own 2 1 b254 ((fp1).length) c255 fp1, .blk b167 #[.int .i64 (((F_QuotientFrame fp0 fp1 classes).1).1), .slice b157 ((((F_QuotientFrame fp0 fp1 classes).1).2).length) c158] 28, .blk b120 #[.int .i64 fp0, .slice b117 ((fp1).length) c118] 28, .own 2 1 b85 ((((F_s_QuotientFrame fp0 fp1 classes).1).2).length) c86 (((F_s_QuotientFrame fp0 fp1 classes).1).2), .blk b94 #[.int .i64 (((F_s_QuotientFrame fp0 fp1 classes).1).1), .slice b85 ((((F_s_QuotientFrame fp0 fp1 classes).1).2).length) c86] 28, .own 2 1 b76 ((classes).length) c77 classes, .own 2 1 b65 ((fp1).length) c66 fp1, .rd 1 fp1A fp1.length fp1C fp1, .blk b3 #[.int .i64 fp0, .slice fp1A fp1.length fp1C] 24, .rd 1 classesA classes.length classesC classes]) hS562 [1, 0, 2, 3, 4, 5, 6, 7, 8, 9, 10, 11, 12, 13, 14, 15, 16, 17] (by decide) rfl)
                          exact ⟨(by rw [hb568]; exact hE581), hS582⟩
                        ·
                          have hE583 := hE567; rw [hb568] at hE583; clear hE567
                          have ht584 := bn_f hb568
                          have hp585 := of_decide_eq_true ht584
                          refine q_step (v := .int .i64 ((F_QuotientFrame fp0 fp1 classes).2)) hE583 (y_move rfl) rfl rfl rfl ?_; intro a586 hE587; clear hE583
                          refine q_step (v := .int .i64 ((F_s_QuotientFrame fp0 fp1 classes).2)) hE587 (y_move rfl) rfl rfl rfl ?_; intro a588 hE589; clear hE587
                          refine q_step (v := .bool (!decide (((F_QuotientFrame fp0 fp1 classes).2) = ((F_s_QuotientFrame fp0 fp1 classes).2)))) hE589 (y_neq rfl rfl) rfl rfl rfl ?_; intro a590 hE591; clear hE589
                          refine q_step (v := .bool (!decide (((F_QuotientFrame fp0 fp1 classes).2) = ((F_s_QuotientFrame fp0 fp1 classes).2)))) hE591 (y_pick (b := false) rfl rfl) rfl rfl rfl ?_; intro a592 hE593; clear hE591
                          refine c_nil ?_
                          have hE594 := hE593.sub (L' := [(10, .pointer (some ⟨b167, 0, none⟩)), (13, .int .i64 (1 + ((((F_QuotientFrame fp0 fp1 classes).1).2).length : Int))), (108, .bool (!decide (((F_QuotientFrame fp0 fp1 classes).2) = ((F_s_QuotientFrame fp0 fp1 classes).2))))]) ⟨rfl, rfl, rfl, trivial⟩; clear hE593
                          refine p_tn ?_
                          have hE595 := hE594.sub (L' := [(10, .pointer (some ⟨b167, 0, none⟩)), (13, .int .i64 (1 + ((((F_QuotientFrame fp0 fp1 classes).1).2).length : Int))), (108, .bool (!decide (((F_QuotientFrame fp0 fp1 classes).2) = ((F_s_QuotientFrame fp0 fp1 classes).2))))]) ⟨rfl, rfl, rfl, trivial⟩
                          have hS596 := (St.pick (Γ' := [.own 2 1 b529 ((((F_QuotientFrame fp0 fp1 classes).1).2).length) c530 (((F_QuotientFrame fp0 fp1 classes).1).2), .blk b539 #[.int .i64 (((F_QuotientFrame fp0 fp1 classes).1).1), .slice b529 ((((F_QuotientFrame fp0 fp1 classes).1).2).length) c530] 28, .own 2 1 b520 ((classes).length) c521 classes, .own 2 1 b509 ((fp1).length) c510 fp1, .own 2 1 b157 ((((F_QuotientFrame fp0 fp1 classes).1).2).length) c158 (marked (((F_QuotientFrame fp0 fp1 classes).1).2).length 1), .own 2 1 b141 ((classes).length) c142 (marked classes.length (1 + (fp1.length : Int))), .own 2 1 b117 ((fp1).length) c118 (marked fp1.length 1), .own 2 1 b286 ((classes).length) c287 classes, .own 2 1 b254 ((fp1).length) c255 fp1, .blk b167 #[.int .i64 (((F_QuotientFrame fp0 fp1 classes).1).1), .slice b157 ((((F_QuotientFrame fp0 fp1 classes).1).2).length) c158] 28, .blk b120 #[.int .i64 fp0, .slice b117 ((fp1).length) c118] 28, .own 2 1 b85 ((((F_s_QuotientFrame fp0 fp1 classes).1).2).length) c86 (((F_s_QuotientFrame fp0 fp1 classes).1).2), .blk b94 #[.int .i64 (((F_s_QuotientFrame fp0 fp1 classes).1).1), .slice b85 ((((F_s_QuotientFrame fp0 fp1 classes).1).2).length) c86] 28, .own 2 1 b76 ((classes).length) c77 classes, .own 2 1 b65 ((fp1).length) c66 fp1, .rd 1 fp1A fp1.length fp1C fp1, .blk b3 #[.int .i64 fp0, .slice fp1A fp1.length fp1C] 24, .rd 1 classesA classes.length classesC classes]) hS562 [1, 0, 2, 3, 4, 5, 6, 7, 8, 9, 10, 11, 12, 13, 14, 15, 16, 17] (by decide) rfl)
                          exact ⟨(by rw [hb568]; exact hE595), hS596⟩
                      ·
                        rintro a597 w598 ⟨hE599, hS600⟩; clear hE553 hS549
                        have hE601 := hE599; rw [ht229] at hE601; clear hE599
                        refine c_false hE601 rfl ?_
                        refine wp_skip ?_
                        refine p_tn ?_
                        refine c_seq ?_
                        refine c_reg ?_
                        refine q_step (v := .int .i64 1) hE601 (y_assign rfl) rfl rfl rfl ?_; intro a602 hE603; clear hE601
                        refine c_nil ?_
                        have hE604 := hE603.sub (L' := [(10, .pointer (some ⟨b167, 0, none⟩)), (13, .int .i64 (1 + ((((F_QuotientFrame fp0 fp1 classes).1).2).length : Int))), (14, .int .i64 1)]) ⟨rfl, rfl, rfl, trivial⟩; clear hE603
                        refine p_tn ?_
                        refine c_seq ?_
                        refine c_reg ?_
                        refine q_step (v := .agg #[.int .i64 (((F_QuotientFrame fp0 fp1 classes).1).1), .slice b157 ((((F_QuotientFrame fp0 fp1 classes).1).2).length) c158]) hE604 (y_loadS Try.underlying28 rfl (by kernel_rfl) rfl (St.row (i := 9) hS600 rfl)) rfl rfl rfl ?_; intro a605 hE606; clear hE604
                        refine q_step (v := .int .i64 1) hE606 (y_move rfl) rfl rfl rfl ?_; intro a607 hE608; clear hE606
                        refine l_step hE608 rfl (l_call (f := 33) (argv := [.agg #[.int .i64 (((F_QuotientFrame fp0 fp1 classes).1).1), .slice b157 ((((F_QuotientFrame fp0 fp1 classes).1).2).length) c158], .int .i64 1]) hE608 (fun _ => cf_l_heldFrame _ _) rfl rfl (c_l_heldFrame (((F_QuotientFrame fp0 fp1 classes).1).1) b157 ((((F_QuotientFrame fp0 fp1 classes).1).2).length) c158 (marked (((F_QuotientFrame fp0 fp1 classes).1).2).length 1) 1 w598 (St.rdO (i := 4) hS600 rfl) (by first | omega | (simp only [marked_len]; omega)) (by first | omega | (simp only [marked_len]; omega)) (by first | omega | (simp only [marked_len]; omega))) ?_)
                        rintro _ w610 ⟨rfl, he614⟩ a611 hE612; clear hE608
                        have hf615 := heldFrame_le (((F_QuotientFrame fp0 fp1 classes).1).1) (marked (((F_QuotientFrame fp0 fp1 classes).1).2).length 1) 1
                        have hS613 := St.go hS600 he614; clear hS600
                        refine q_step (v := .int .i64 (F_l_heldFrame (((F_QuotientFrame fp0 fp1 classes).1).1) (marked (((F_QuotientFrame fp0 fp1 classes).1).2).length 1) 1)) hE612 (y_assign rfl) rfl rfl rfl ?_; intro a616 hE617; clear hE612
                        refine c_nil ?_
                        have hE618 := hE617.sub (L' := [(13, .int .i64 (1 + ((((F_QuotientFrame fp0 fp1 classes).1).2).length : Int))), (14, .int .i64 (F_l_heldFrame (((F_QuotientFrame fp0 fp1 classes).1).1) (marked (((F_QuotientFrame fp0 fp1 classes).1).2).length 1) 1))]) ⟨rfl, rfl, trivial⟩; clear hE617
                        refine p_tn ?_
                        refine c_seq ?_
                        refine c_seq ?_
                        refine c_reg ?_
                        refine q_step (v := .int .i64 (F_l_heldFrame (((F_QuotientFrame fp0 fp1 classes).1).1) (marked (((F_QuotientFrame fp0 fp1 classes).1).2).length 1) 1)) hE618 (y_move rfl) rfl rfl rfl ?_; intro a619 hE620; clear hE618
                        refine q_step (v := .bool (decide ((F_l_heldFrame (((F_QuotientFrame fp0 fp1 classes).1).1) (marked (((F_QuotientFrame fp0 fp1 classes).1).2).length 1) 1) < 0))) hE620 (y_lss rfl rfl) rfl rfl rfl ?_; intro a621 hE622; clear hE620
                        refine c_nil ?_
                        have hE623 := hE622.sub (L' := [(13, .int .i64 (1 + ((((F_QuotientFrame fp0 fp1 classes).1).2).length : Int))), (14, .int .i64 (F_l_heldFrame (((F_QuotientFrame fp0 fp1 classes).1).1) (marked (((F_QuotientFrame fp0 fp1 classes).1).2).length 1) 1)), (113, .bool (decide ((F_l_heldFrame (((F_QuotientFrame fp0 fp1 classes).1).1) (marked (((F_QuotientFrame fp0 fp1 classes).1).2).length 1) 1) < 0)))]) ⟨rfl, rfl, rfl, trivial⟩; clear hE622
                        refine p_tn ?_
                        have hE624 := hE623; rw [ht476] at hE624; clear hE623
                        refine c_false hE624 rfl ?_
                        refine wp_skip ?_
                        refine p_tn ?_
                        refine c_seq ?_
                        refine c_seq ?_
                        refine c_reg ?_
                        refine q_step (v := .int .i64 (F_l_heldFrame (((F_QuotientFrame fp0 fp1 classes).1).1) (marked (((F_QuotientFrame fp0 fp1 classes).1).2).length 1) 1)) hE624 (y_move rfl) rfl rfl rfl ?_; intro a625 hE626; clear hE624
                        refine q_step (v := .int .i64 (1 + ((((F_QuotientFrame fp0 fp1 classes).1).2).length : Int))) hE626 (y_move rfl) rfl rfl rfl ?_; intro a627 hE628; clear hE626
                        refine q_step (v := .bool (!decide ((F_l_heldFrame (((F_QuotientFrame fp0 fp1 classes).1).1) (marked (((F_QuotientFrame fp0 fp1 classes).1).2).length 1) 1) = (1 + ((((F_QuotientFrame fp0 fp1 classes).1).2).length : Int))))) hE628 (y_neq rfl rfl) rfl rfl rfl ?_; intro a629 hE630; clear hE628
                        refine c_nil ?_
                        have hE631 := hE630.sub (L' := [(116, .bool (!decide ((F_l_heldFrame (((F_QuotientFrame fp0 fp1 classes).1).1) (marked (((F_QuotientFrame fp0 fp1 classes).1).2).length 1) 1) = (1 + ((((F_QuotientFrame fp0 fp1 classes).1).2).length : Int)))))]) ⟨rfl, trivial⟩; clear hE630
                        refine p_tn ?_
                        have hE632 := hE631; rw [ht491] at hE632; clear hE631
                        refine c_false hE632 rfl ?_
                        refine wp_skip ?_
                        refine p_tn ?_
                        refine c_seq ?_
                        refine c_reg ?_
                        refine q_step (v := .bool true) hE632 (y_assign rfl) rfl rfl rfl ?_; intro a633 hE634; clear hE632
                        refine c_nil ?_
                        have hE635 := hE634.sub (L' := [(4, .bool true)]) ⟨rfl, trivial⟩; clear hE634
                        refine p_tn ?_
                        refine wp_ret ?_
                        have hF : F_l_FnExactQuotientFrame fp0 fp1 classes = true := by unfold F_l_FnExactQuotientFrame; rw [ht491, ht476, ht422, ht298, ht266, ht229, ht48, ht19]; first | done | rfl
                        refine c_ret1 hE635 rfl rfl ?_
                        exact ⟨(by rw [hF]; first | done | rfl), hS613.ext⟩

theorem FnExactQuotientFrame_true (fp0 : Int) (fp1 classes : List Int) : F_l_FnExactQuotientFrame fp0 fp1 classes = true := by
  unfold F_l_FnExactQuotientFrame
  rw [QuotientFrame_eq, heldFrame_eq _ _ _ (by omega)]
  have h1 : decide (1 + (fp1.length : Int) + (classes.length : Int) < 0) = false := decide_eq_false (by omega)
  have h2 : decide ((1 : Int) + ((F_s_QuotientFrame fp0 fp1 classes).1.2.length : Int) < 0) = false := decide_eq_false (by omega)
  simp [h1, h2]

end Go.Proofs.Ytejfjcjdilbkdaa
