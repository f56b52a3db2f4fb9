/- GLCG: models and contracts, printed by wip/gen/gen.py -/
import Derived.Test.YtejfjcjdilbkdaaGA
import Derived.Test.YtejfjcjdilbkdaaGCG
set_option linter.unusedVariables false
set_option linter.unusedSimpArgs false
namespace Go.Proofs.Ytejfjcjdilbkdaa
open Go.RowKit

def F_l_FnExactIsCongruence (fp0 : Int) (fp1 : List Int) (classes : List Int) : Bool :=
  bif (decide (1048576 < (classes.length : Int))) then true else (bif (decide ((F_l_szFrame fp0 fp1 1048576) < 0)) then true else (bif ((((F_IsCongruence fp0 fp1 classes).1) != ((F_s_IsCongruence fp0 fp1 classes).1)) || (!decide (((F_IsCongruence fp0 fp1 classes).2) = ((F_s_IsCongruence fp0 fp1 classes).2)))) then false else (bif (!(decide ((fp0, fp1) = (fp0, fp1)))) then false else (bif (!(decide (classes = classes))) then false else true))))
theorem cf_l_FnExactIsCongruence (args : Array Value) (w : World) : (callFunc 3 args).run Try.prog w = .ok (.enter 3 args) w := by kernel_rfl
set_option maxRecDepth 100000 in
theorem c_l_FnExactIsCongruence (fp0 : Int) (fp1A : Option Addr) (fp1N fp1C : Nat) (fp1 : List Int) (classesA : Option Addr) (classesN classesC : Nat) (classes : List Int) (w : World) (fp1R : RdS w 1 fp1A fp1N fp1C fp1) (classesR : RdS w 1 classesA classesN classesC classes) :
    Calls Try.prog 3 #[.agg #[.int .i64 fp0, .slice fp1A fp1N fp1C], .slice classesA classesN classesC] w (Ret fun v w' => v = .bool (F_l_FnExactIsCongruence fp0 fp1 classes) ∧ Ext w w') := by
  obtain rfl : fp1N = fp1.length := fp1R.len1.symm
  have fp1Le := fp1R.le
  obtain rfl : classesN = classes.length := classesR.len1.symm
  have classesLe := classesR.le
  have hS := St.nil w
  have hS1 := St.rd0 hS rfl fp1R; clear hS
  have hS2 := St.rd0 hS1 rfl classesR; clear hS1
  refine enter (args := [.agg #[.int .i64 fp0, .slice fp1A fp1.length fp1C], .slice classesA classes.length classesC]) Try.func3 rfl rfl ?_
  rw [Try.ntmps3]; intro a hE
  have hE := hE.sub (L' := [(0, .agg #[.int .i64 fp0, .slice fp1A fp1.length fp1C]), (1, .slice classesA classes.length classesC)]) ⟨rfl, rfl, trivial⟩
  refine c_seq ?_
  refine c_reg ?_
  refine l_step hE rfl (l_box (v := .agg #[.int .i64 fp0, .slice fp1A fp1.length fp1C]) (cs := #[.int .i64 fp0, .slice fp1A fp1.length fp1C]) hS2 hE rfl rfl rfl ?_)
  intro b3 w4 hS7 he8 a5 hE6; clear hS2 hE
  refine q_step (v := .bool false) hE6 (y_assign rfl) rfl rfl rfl ?_; intro a9 hE10; clear hE6
  refine c_nil ?_
  have hE11 := hE10.sub (L' := [(1, .slice classesA classes.length classesC), (2, .pointer (some ⟨b3, 0, none⟩))]) ⟨rfl, rfl, trivial⟩; clear hE10
  refine p_tn ?_
  refine c_seq ?_
  refine c_seq ?_
  refine c_reg ?_
  refine q_step (v := .slice classesA classes.length classesC) hE11 (y_move rfl) rfl rfl rfl ?_; intro a12 hE13; clear hE11
  refine q_step (v := .int .i64 (classes.length : Int)) hE13 (y_len (e := 2) (by kernel_rfl) rfl) rfl rfl rfl ?_; intro a14 hE15; clear hE13
  refine q_step (v := .bool (decide (1048576 < (classes.length : Int)))) hE15 (y_gtr rfl rfl) rfl rfl rfl ?_; intro a16 hE17; clear hE15
  refine c_nil ?_
  have hE18 := hE17.sub (L' := [(1, .slice classesA classes.length classesC), (2, .pointer (some ⟨b3, 0, none⟩)), (14, .bool (decide (1048576 < (classes.length : Int))))]) ⟨rfl, rfl, rfl, trivial⟩; clear hE17
  refine p_tn ?_
  refine c_cond hE18 rfl (fun ht19 => ?_) (fun ht19 => ?_)
  ·
    have hp20 := of_decide_eq_true ht19
    have hE21 := hE18; rw [ht19] at hE21; clear hE18
    refine c_seq ?_
    refine c_reg ?_
    refine q_step (v := .bool true) hE21 (y_assign rfl) rfl rfl rfl ?_; intro a22 hE23; clear hE21
    refine c_nil ?_
    have hE24 := hE23.sub (L' := [(4, .bool true)]) ⟨rfl, trivial⟩; clear hE23
    refine p_tn ?_
    refine wp_ret ?_
    refine p_tr ?_
    have hF : F_l_FnExactIsCongruence fp0 fp1 classes = true := by unfold F_l_FnExactIsCongruence; rw [ht19]; first | done | rfl
    refine c_ret1 hE24 rfl rfl ?_
    exact ⟨(by rw [hF]; first | done | rfl), hS7.ext⟩
  ·
    have hp25 := of_decide_eq_false ht19
    have hE26 := hE18; rw [ht19] at hE26; clear hE18
    refine wp_skip ?_
    refine p_tn ?_
    refine c_seq ?_
    refine c_reg ?_
    refine q_step (v := .int .i64 1048576) hE26 (y_assign rfl) rfl rfl rfl ?_; intro a27 hE28; clear hE26
    refine c_nil ?_
    have hE29 := hE28.sub (L' := [(1, .slice classesA classes.length classesC), (2, .pointer (some ⟨b3, 0, none⟩)), (5, .int .i64 1048576)]) ⟨rfl, rfl, rfl, trivial⟩; clear hE28
    refine p_tn ?_
    refine c_seq ?_
    refine c_reg ?_
    refine q_step (v := .agg #[.int .i64 fp0, .slice fp1A fp1.length fp1C]) hE29 (y_loadS Try.underlying24 rfl (by kernel_rfl) rfl (St.row (i := 0) hS7 rfl)) rfl rfl rfl ?_; intro a30 hE31; clear hE29
    refine q_step (v := .int .i64 1048576) hE31 (y_move rfl) rfl rfl rfl ?_; intro a32 hE33; clear hE31
    refine l_step hE33 rfl (l_call (f := 15) (argv := [.agg #[.int .i64 fp0, .slice fp1A fp1.length fp1C], .int .i64 1048576]) hE33 (fun _ => cf_l_szFrame _ _) rfl rfl (c_l_szFrame fp0 fp1A fp1.length fp1C fp1 1048576 w4 (St.rdR (i := 2) hS7 rfl) (by first | omega | (simp only [marked_len]; omega)) (by first | omega | (simp only [marked_len]; omega))) ?_)
    rintro _ w35 ⟨rfl, he39⟩ a36 hE37; clear hE33
    have hS38 := St.go hS7 he39; clear hS7
    refine q_step (v := .int .i64 (F_l_szFrame fp0 fp1 1048576)) hE37 (y_assign rfl) rfl rfl rfl ?_; intro a40 hE41; clear hE37
    refine c_nil ?_
    have hE42 := hE41.sub (L' := [(1, .slice classesA classes.length classesC), (2, .pointer (some ⟨b3, 0, none⟩)), (5, .int .i64 (F_l_szFrame fp0 fp1 1048576))]) ⟨rfl, rfl, rfl, trivial⟩; clear hE41
    refine p_tn ?_
    refine c_seq ?_
    refine c_seq ?_
    refine c_reg ?_
    refine q_step (v := .int .i64 (F_l_szFrame fp0 fp1 1048576)) hE42 (y_move rfl) rfl rfl rfl ?_; intro a43 hE44; clear hE42
    refine q_step (v := .bool (decide ((F_l_szFrame fp0 fp1 1048576) < 0))) hE44 (y_lss rfl rfl) rfl rfl rfl ?_; intro a45 hE46; clear hE44
    refine c_nil ?_
    have hE47 := hE46.sub (L' := [(1, .slice classesA classes.length classesC), (2, .pointer (some ⟨b3, 0, none⟩)), (19, .bool (decide ((F_l_szFrame fp0 fp1 1048576) < 0)))]) ⟨rfl, rfl, rfl, trivial⟩; clear hE46
    refine p_tn ?_
    refine c_cond hE47 rfl (fun ht48 => ?_) (fun ht48 => ?_)
    ·
      have hp49 := of_decide_eq_true ht48
      have hE50 := hE47; rw [ht48] at hE50; clear hE47
      refine c_seq ?_
      refine c_reg ?_
      refine q_step (v := .bool true) hE50 (y_assign rfl) rfl rfl rfl ?_; intro a51 hE52; clear hE50
      refine c_nil ?_
      have hE53 := hE52.sub (L' := [(4, .bool true)]) ⟨rfl, trivial⟩; clear hE52
      refine p_tn ?_
      refine wp_ret ?_
      refine p_tr ?_
      have hF : F_l_FnExactIsCongruence fp0 fp1 classes = true := by unfold F_l_FnExactIsCongruence; rw [ht48, ht19]; first | done | rfl
      refine c_ret1 hE53 rfl rfl ?_
      exact ⟨(by rw [hF]; first | done | rfl), hS38.ext⟩
    ·
      have hp54 := of_decide_eq_false ht48
      have hq55 := szFrame_bound hp54
      have hE56 := hE47; rw [ht48] at hE56; clear hE47
      refine wp_skip ?_
      refine p_tn ?_
      refine c_seq ?_
      refine c_reg ?_
      refine q_step (v := .agg #[.int .i64 fp0, .slice fp1A fp1.length fp1C]) hE56 (y_loadS Try.underlying24 rfl (by kernel_rfl) rfl (St.row (i := 0) hS38 rfl)) rfl rfl rfl ?_; intro a57 hE58; clear hE56
      refine l_step hE58 rfl (l_call (f := 17) (argv := [.agg #[.int .i64 fp0, .slice fp1A fp1.length fp1C]]) hE58 (fun _ => cf_l_toFrame _ _) rfl rfl (d_l_toFrame fp0 fp1A fp1.length fp1C fp1 w35 (St.rdR (i := 2) hS38 rfl) (by first | omega | (simp only [marked_len]; omega))) ?_)
      rintro _ w60 ⟨b65, c66, rfl, ho67, he64⟩ a61 hE62; clear hE58
      have hS63 := St.own hS38 he64 ho67; clear hS38
      refine q_step (v := .slice classesA classes.length classesC) hE62 (y_move rfl) rfl rfl rfl ?_; intro a68 hE69; clear hE62
      refine l_step hE69 rfl (l_call (f := 18) (argv := [.slice classesA classes.length classesC]) hE69 (fun _ => cf_l_toInt64S _ _) rfl rfl (d_l_toInt64S classesA classes.length classesC classes w60 (St.rdR (i := 2) hS63 rfl) (by first | omega | (simp only [marked_len]; omega))) ?_)
      rintro _ w71 ⟨b76, c77, rfl, ho78, he75⟩ a72 hE73; clear hE69
      have hS74 := St.own hS63 he75 ho78; clear hS63
      refine l_step hE73 rfl (l_call (f := 16) (argv := [.agg #[.int .i64 fp0, .slice b65 ((fp1).length) c66], .slice b76 ((classes).length) c77]) hE73 (fun _ => cf_s_IsCongruence _ _) rfl rfl (c_s_IsCongruence fp0 b65 ((fp1).length) c66 fp1 b76 ((classes).length) c77 classes w71 (St.rdO (i := 1) hS74 rfl) (St.rdO (i := 0) hS74 rfl) (by first | omega | (simp only [marked_len]; omega))) ?_)
      rintro _ w80 ⟨rfl, he84⟩ a81 hE82; clear hE73
      have hS83 := St.go hS74 he84; clear hS74
      refine q_step (v := .tuple #[.bool ((F_s_IsCongruence fp0 fp1 classes).1), .int .i64 ((F_s_IsCongruence fp0 fp1 classes).2)]) hE82 (y_move rfl) rfl rfl rfl ?_; intro a85 hE86; clear hE82
      refine q_step (v := .bool ((F_s_IsCongruence fp0 fp1 classes).1)) hE86 (y_extract rfl rfl) rfl rfl rfl ?_; intro a87 hE88; clear hE86
      refine q_step (v := .int .i64 ((F_s_IsCongruence fp0 fp1 classes).2)) hE88 (y_extract rfl rfl) rfl rfl rfl ?_; intro a89 hE90; clear hE88
      refine q_step (v := .bool ((F_s_IsCongruence fp0 fp1 classes).1)) hE90 (y_assign rfl) rfl rfl rfl ?_; intro a91 hE92; clear hE90
      refine q_step (v := .int .i64 ((F_s_IsCongruence fp0 fp1 classes).2)) hE92 (y_assign rfl) rfl rfl rfl ?_; intro a93 hE94; clear hE92
      refine c_nil ?_
      have hE95 := hE94.sub (L' := [(1, .slice classesA classes.length classesC), (2, .pointer (some ⟨b3, 0, none⟩)), (6, .bool ((F_s_IsCongruence fp0 fp1 classes).1)), (7, .int .i64 ((F_s_IsCongruence fp0 fp1 classes).2))]) ⟨rfl, rfl, rfl, rfl, trivial⟩; clear hE94
      refine p_tn ?_
      refine c_seq ?_
      refine c_reg ?_
      refine q_step (v := .agg #[.int .i64 fp0, .slice fp1A fp1.length fp1C]) hE95 (y_loadS Try.underlying24 rfl (by kernel_rfl) rfl (St.row (i := 2) hS83 rfl)) rfl rfl rfl ?_; intro a96 hE97; clear hE95
      refine l_step hE97 rfl (l_call (f := 17) (argv := [.agg #[.int .i64 fp0, .slice fp1A fp1.length fp1C]]) hE97 (fun _ => cf_l_toFrame _ _) rfl rfl (d_l_toFrame fp0 fp1A fp1.length fp1C fp1 w80 (St.rdR (i := 4) hS83 rfl) (by first | omega | (simp only [marked_len]; omega))) ?_)
      rintro _ w99 ⟨b104, c105, rfl, ho106, he103⟩ a100 hE101; clear hE97
      have hS102 := St.own hS83 he103 ho106; clear hS83
      refine l_step hE101 rfl (l_alloc (z := .agg #[.int .i64 0, .slice none 0 0]) (cs := #[.int .i64 0, .slice none 0 0]) hS102 hE101 (fun _ => by kernel_rfl) rfl rfl ?_)
      intro b107 w108 hS111 he112 a109 hE110; clear hS102 hE101
      refine l_step hE110 rfl (l_storeS (k := 0) (cs' := #[.int .i64 fp0, .slice b104 ((fp1).length) c105]) hS111 hE110 (by kernel_rfl) rfl rfl (by kernel_rfl) rfl rfl ?_)
      intro w114 hS117 a115 hE116; clear hS111 hE110
      refine c_nil ?_
      have hE119 := hE116.sub (L' := [(1, .slice classesA classes.length classesC), (2, .pointer (some ⟨b3, 0, none⟩)), (6, .bool ((F_s_IsCongruence fp0 fp1 classes).1)), (7, .int .i64 ((F_s_IsCongruence fp0 fp1 classes).2)), (8, .pointer (some ⟨b107, 0, none⟩))]) ⟨rfl, rfl, rfl, rfl, rfl, trivial⟩; clear hE116
      refine p_tn ?_
      refine c_seq ?_
      refine c_reg ?_
      refine q_step (v := .slice classesA classes.length classesC) hE119 (y_move rfl) rfl rfl rfl ?_; intro a120 hE121; clear hE119
      refine l_step hE121 rfl (l_call (f := 18) (argv := [.slice classesA classes.length classesC]) hE121 (fun _ => cf_l_toInt64S _ _) rfl rfl (d_l_toInt64S classesA classes.length classesC classes w114 (St.rdR (i := 5) hS117 rfl) (by first | omega | (simp only [marked_len]; omega))) ?_)
      rintro _ w123 ⟨b128, c129, rfl, ho130, he127⟩ a124 hE125; clear hE121
      have hS126 := St.own hS117 he127 ho130; clear hS117
      refine q_step (v := .slice b128 ((classes).length) c129) hE125 (y_assign rfl) rfl rfl rfl ?_; intro a131 hE132; clear hE125
      refine c_nil ?_
      have hE133 := hE132.sub (L' := [(1, .slice classesA classes.length classesC), (2, .pointer (some ⟨b3, 0, none⟩)), (6, .bool ((F_s_IsCongruence fp0 fp1 classes).1)), (7, .int .i64 ((F_s_IsCongruence fp0 fp1 classes).2)), (8, .pointer (some ⟨b107, 0, none⟩)), (9, .slice b128 ((classes).length) c129)]) ⟨rfl, rfl, rfl, rfl, rfl, rfl, trivial⟩; clear hE132
      refine p_tn ?_
      refine c_seq ?_
      refine c_reg ?_
      refine q_step (v := .agg #[.int .i64 fp0, .slice b104 ((fp1).length) c105]) hE133 (y_loadS Try.underlying28 rfl (by kernel_rfl) rfl (St.row (i := 1) hS126 rfl)) rfl rfl rfl ?_; intro a134 hE135; clear hE133
      refine q_step (v := .slice b128 ((classes).length) c129) hE135 (y_move rfl) rfl rfl rfl ?_; intro a136 hE137; clear hE135
      refine l_step hE137 rfl (l_call (f := 19) (argv := [.agg #[.int .i64 fp0, .slice b104 ((fp1).length) c105], .slice b128 ((classes).length) c129]) hE137 (fun _ => cf_IsCongruence _ _) rfl rfl (c_IsCongruence fp0 b104 ((fp1).length) c105 fp1 b128 ((classes).length) c129 classes w123 (St.rdO (i := 2) hS126 rfl) (St.rdO (i := 0) hS126 rfl) (by first | omega | (simp only [marked_len]; omega))) ?_)
      rintro _ w139 ⟨rfl, he143⟩ a140 hE141; clear hE137
      have hS142 := St.go hS126 he143; clear hS126
      refine q_step (v := .tuple #[.bool ((F_IsCongruence fp0 fp1 classes).1), .int .i64 ((F_IsCongruence fp0 fp1 classes).2)]) hE141 (y_move rfl) rfl rfl rfl ?_; intro a144 hE145; clear hE141
      refine q_step (v := .bool ((F_IsCongruence fp0 fp1 classes).1)) hE145 (y_extract rfl rfl) rfl rfl rfl ?_; intro a146 hE147; clear hE145
      refine q_step (v := .int .i64 ((F_IsCongruence fp0 fp1 classes).2)) hE147 (y_extract rfl rfl) rfl rfl rfl ?_; intro a148 hE149; clear hE147
      refine q_step (v := .bool ((F_IsCongruence fp0 fp1 classes).1)) hE149 (y_assign rfl) rfl rfl rfl ?_; intro a150 hE151; clear hE149
      refine q_step (v := .int .i64 ((F_IsCongruence fp0 fp1 classes).2)) hE151 (y_assign rfl) rfl rfl rfl ?_; intro a152 hE153; clear hE151
      refine c_nil ?_
      have hE154 := hE153.sub (L' := [(1, .slice classesA classes.length classesC), (2, .pointer (some ⟨b3, 0, none⟩)), (6, .bool ((F_s_IsCongruence fp0 fp1 classes).1)), (7, .int .i64 ((F_s_IsCongruence fp0 fp1 classes).2)), (8, .pointer (some ⟨b107, 0, none⟩)), (9, .slice b128 ((classes).length) c129), (10, .bool ((F_IsCongruence fp0 fp1 classes).1)), (11, .int .i64 ((F_IsCongruence fp0 fp1 classes).2))]) ⟨rfl, rfl, rfl, rfl, rfl, rfl, rfl, rfl, trivial⟩; clear hE153
      refine p_tn ?_
      refine c_seq ?_
      refine c_cut (fun a' w' => E a' 56 [(1, .slice classesA classes.length classesC), (2, .pointer (some ⟨b3, 0, none⟩)), (8, .pointer (some ⟨b107, 0, none⟩)), (9, .slice b128 ((classes).length) c129), (45, .bool ((((F_IsCongruence fp0 fp1 classes).1) != ((F_s_IsCongruence fp0 fp1 classes).1)) || (!decide (((F_IsCongruence fp0 fp1 classes).2) = ((F_s_IsCongruence fp0 fp1 classes).2)))))] ∧ St w w' [.own 2 1 b128 ((classes).length) c129 classes, .own 2 1 b104 ((fp1).length) c105 fp1, .blk b107 #[.int .i64 fp0, .slice b104 ((fp1).length) c105] 28, .own 2 1 b76 ((classes).length) c77 classes, .own 2 1 b65 ((fp1).length) c66 fp1, .rd 1 fp1A fp1.length fp1C fp1, .blk b3 #[.int .i64 fp0, .slice fp1A fp1.length fp1C] 24, .rd 1 classesA classes.length classesC classes]) ?_ ?_
      ·
        refine c_reg ?_
        refine q_step (v := .bool ((F_IsCongruence fp0 fp1 classes).1)) hE154 (y_move rfl) rfl rfl rfl ?_; intro a155 hE156; clear hE154
        refine q_step (v := .bool ((F_s_IsCongruence fp0 fp1 classes).1)) hE156 (y_move rfl) rfl rfl rfl ?_; intro a157 hE158; clear hE156
        refine q_step (v := .bool (((F_IsCongruence fp0 fp1 classes).1) != ((F_s_IsCongruence fp0 fp1 classes).1))) hE158 (y_neqb (by kernel_rfl) rfl rfl) rfl rfl rfl ?_; intro a159 hE160; clear hE158
        refine q_step (v := .bool (((F_IsCongruence fp0 fp1 classes).1) != ((F_s_IsCongruence fp0 fp1 classes).1))) hE160 (y_move rfl) rfl rfl rfl ?_; intro a161 hE162; clear hE160
        rcases Bool.eq_false_or_eq_true (((F_IsCongruence fp0 fp1 classes).1) != ((F_s_IsCongruence fp0 fp1 classes).1)) with hb163 | hb163
        ·
          have hE164 := hE162; rw [hb163] at hE164; clear hE162
          refine q_skip hE164 rfl rfl rfl ?_; intro a165 hE166; clear hE164
          refine q_skip hE166 rfl rfl rfl ?_; intro a167 hE168; clear hE166
          refine q_skip hE168 rfl rfl rfl ?_; intro a169 hE170; clear hE168
          refine q_step (v := .bool true) hE170 (y_pick (b := true) rfl rfl) rfl rfl rfl ?_; intro a171 hE172; clear hE170
          refine c_nil ?_
          have hE173 := hE172.sub (L' := [(1, .slice classesA classes.length classesC), (2, .pointer (some ⟨b3, 0, none⟩)), (8, .pointer (some ⟨b107, 0, none⟩)), (9, .slice b128 ((classes).length) c129), (45, .bool true)]) ⟨rfl, rfl, rfl, rfl, rfl, trivial⟩; clear hE172
          refine p_tn ?_
          have hE174 := hE173.sub (L' := [(1, .slice classesA classes.length classesC), (2, .pointer (some ⟨b3, 0, none⟩)), (8, .pointer (some ⟨b107, 0, none⟩)), (9, .slice b128 ((classes).length) c129), (45, .bool true)]) ⟨rfl, rfl, rfl, rfl, rfl, trivial⟩
          have hS175 := (St.pick (Γ' := [.own 2 1 b128 ((classes).length) c129 classes, .own 2 1 b104 ((fp1).length) c105 fp1, .blk b107 #[.int .i64 fp0, .slice b104 ((fp1).length) c105] 28, .own 2 1 b76 ((classes).length) c77 classes, .own 2 1 b65 ((fp1).length) c66 fp1, .rd 1 fp1A fp1.length fp1C fp1, .blk b3 #[.int .i64 fp0, .slice fp1A fp1.length fp1C] 24, .rd 1 classesA classes.length classesC classes]) hS142 [0, 2, 1, 3, 4, 7, 5, 6] (by decide) rfl)
          exact ⟨(by rw [hb163]; exact hE174), hS175⟩
        ·
          have hE176 := hE162; rw [hb163] at hE176; clear hE162
          refine q_step (v := .int .i64 ((F_IsCongruence fp0 fp1 classes).2)) hE176 (y_move rfl) rfl rfl rfl ?_; intro a177 hE178; clear hE176
          refine q_step (v := .int .i64 ((F_s_IsCongruence fp0 fp1 classes).2)) hE178 (y_move rfl) rfl rfl rfl ?_; intro a179 hE180; clear hE178
          refine q_step (v := .bool (!decide (((F_IsCongruence fp0 fp1 classes).2) = ((F_s_IsCongruence fp0 fp1 classes).2)))) hE180 (y_neq rfl rfl) rfl rfl rfl ?_; intro a181 hE182; clear hE180
          refine q_step (v := .bool (!decide (((F_IsCongruence fp0 fp1 classes).2) = ((F_s_IsCongruence fp0 fp1 classes).2)))) hE182 (y_pick (b := false) rfl rfl) rfl rfl rfl ?_; intro a183 hE184; clear hE182
          refine c_nil ?_
          have hE185 := hE184.sub (L' := [(1, .slice classesA classes.length classesC), (2, .pointer (some ⟨b3, 0, none⟩)), (8, .pointer (some ⟨b107, 0, none⟩)), (9, .slice b128 ((classes).length) c129), (45, .bool (!decide (((F_IsCongruence fp0 fp1 classes).2) = ((F_s_IsCongruence fp0 fp1 classes).2))))]) ⟨rfl, rfl, rfl, rfl, rfl, trivial⟩; clear hE184
          refine p_tn ?_
          have hE186 := hE185.sub (L' := [(1, .slice classesA classes.length classesC), (2, .pointer (some ⟨b3, 0, none⟩)), (8, .pointer (some ⟨b107, 0, none⟩)), (9, .slice b128 ((classes).length) c129), (45, .bool (!decide (((F_IsCongruence fp0 fp1 classes).2) = ((F_s_IsCongruence fp0 fp1 classes).2))))]) ⟨rfl, rfl, rfl, rfl, rfl, trivial⟩
          have hS187 := (St.pick (Γ' := [.own 2 1 b128 ((classes).length) c129 classes, .own 2 1 b104 ((fp1).length) c105 fp1, .blk b107 #[.int .i64 fp0, .slice b104 ((fp1).length) c105] 28, .own 2 1 b76 ((classes).length) c77 classes, .own 2 1 b65 ((fp1).length) c66 fp1, .rd 1 fp1A fp1.length fp1C fp1, .blk b3 #[.int .i64 fp0, .slice fp1A fp1.length fp1C] 24, .rd 1 classesA classes.length classesC classes]) hS142 [0, 2, 1, 3, 4, 7, 5, 6] (by decide) rfl)
          exact ⟨(by rw [hb163]; exact hE186), hS187⟩
      ·
        rintro a188 w189 ⟨hE190, hS191⟩; clear hE154 hS142
        refine c_cond hE190 rfl (fun ht192 => ?_) (fun ht192 => ?_)
        ·
          have hE193 := hE190; rw [ht192] at hE193; clear hE190
          refine c_seq ?_
          refine c_reg ?_
          refine q_step (v := .bool false) hE193 (y_assign rfl) rfl rfl rfl ?_; intro a194 hE195; clear hE193
          refine c_nil ?_
          have hE196 := hE195.sub (L' := [(4, .bool false)]) ⟨rfl, trivial⟩; clear hE195
          refine p_tn ?_
          refine wp_ret ?_
          refine p_tr ?_
          have hF : F_l_FnExactIsCongruence fp0 fp1 classes = false := by unfold F_l_FnExactIsCongruence; rw [ht192, ht48, ht19]; first | done | rfl
          refine c_ret1 hE196 rfl rfl ?_
          exact ⟨(by rw [hF]; first | done | rfl), hS191.ext⟩
        ·
          obtain ⟨ht197, ht198⟩ := bor_f ht192
          have ht199 := bn_f ht198
          have hp200 := of_decide_eq_true ht199
          have hE201 := hE190; rw [ht192] at hE201; clear hE190
          refine wp_skip ?_
          refine p_tn ?_
          refine c_seq ?_
          refine c_seq ?_
          refine d_start (fun w' => w'.heap[b107]? = some (.cells #[.int .i64 fp0, .slice b104 ((fp1).length) c105] 28 (0, 0)) ∧ w'.heap[b3]? = some (.cells #[.int .i64 fp0, .slice fp1A fp1.length fp1C] 24 (0, 0)) ∧ True) [0, 1] 5 (by kernel_rfl) rfl ?_
          intro w202 he203; have hS204 := St.go hS191 he203; clear hS191
          refine d_take (v := .agg #[.int .i64 fp0, .slice b104 ((fp1).length) c105]) 0 rfl hE201 ⟨(St.row (i := 2) hS204 rfl _ (Ext.refl _)), (St.row (i := 6) hS204 rfl _ (Ext.refl _)), trivial⟩ (y_loadS Try.underlying28 rfl (by kernel_rfl) rfl (fun _ h => h.1)) rfl rfl (by kernel_rfl) (by kernel_rfl) (by kernel_rfl) rfl rfl (fun _ _ _ h => h) ?_; intro a205 hE206; clear hE201
          refine d_take (v := .agg #[.int .i64 fp0, .slice fp1A fp1.length fp1C]) 1 rfl hE206 ⟨(St.row (i := 2) hS204 rfl _ (Ext.refl _)), (St.row (i := 6) hS204 rfl _ (Ext.refl _)), trivial⟩ (y_loadS Try.underlying24 rfl (by kernel_rfl) rfl (fun _ h => h.2.1)) rfl rfl (by kernel_rfl) (by kernel_rfl) (by kernel_rfl) rfl rfl (fun _ _ _ h => h) ?_; intro a207 hE208; clear hE206
          refine d_only 2 (by kernel_rfl) rfl hE208 rfl (l_call (f := 17) (argv := [.agg #[.int .i64 fp0, .slice fp1A fp1.length fp1C]]) hE208 (fun _ => cf_l_toFrame _ _) rfl rfl (d_l_toFrame fp0 fp1A fp1.length fp1C fp1 w202 (St.rdR (i := 5) hS204 rfl) (by first | omega | (simp only [marked_len]; omega))) ?_)
          rintro _ w210 ⟨b215, c216, rfl, ho217, he214⟩ a211 hE212; clear hE208
          have hS213 := St.own hS204 he214 ho217; clear hS204
          refine ⟨fun _ _ => ⟨(St.row (i := 3) hS213 rfl _ (Ext.refl _)), (St.row (i := 7) hS213 rfl _ (Ext.refl _)), trivial⟩, ?_⟩
          refine d_only 3 (by kernel_rfl) rfl hE212 rfl (l_call (f := 20) (argv := [.agg #[.int .i64 fp0, .slice b104 ((fp1).length) c105], .agg #[.int .i64 fp0, .slice b215 ((fp1).length) c216]]) hE212 (fun _ => cf_l_eqFrame _ _) rfl rfl (d_l_eqFrame fp0 b104 ((fp1).length) c105 fp1 fp0 b215 ((fp1).length) c216 fp1 w210 (St.rdO (i := 2) hS213 rfl) (St.rdO (i := 0) hS213 rfl)) ?_)
          rintro _ w219 ⟨rfl, he223⟩ a220 hE221; clear hE212
          have hS222 := St.go hS213 he223; clear hS213
          refine ⟨fun _ _ => ⟨(St.row (i := 3) hS222 rfl _ (Ext.refl _)), (St.row (i := 7) hS222 rfl _ (Ext.refl _)), trivial⟩, ?_⟩
          refine d_pure (v := .bool (!(decide ((fp0, fp1) = (fp0, fp1))))) 4 rfl hE221 (y_not rfl) rfl (by kernel_rfl) (by kernel_rfl) (by kernel_rfl) rfl rfl (fun _ _ _ h => h) ?_; intro a224 hE225; clear hE221
          refine d_done (by kernel_rfl) ?_
          have hE226 := hE225.sub (L' := [(1, .slice classesA classes.length classesC), (9, .slice b128 ((classes).length) c129), (50, .bool (!(decide ((fp0, fp1) = (fp0, fp1)))))]) ⟨rfl, rfl, rfl, trivial⟩; clear hE225
          refine p_tn ?_
          refine c_cond hE226 rfl (fun ht227 => ?_) (fun ht227 => ?_)
          ·
            have ht228 := bn_t ht227
            have hp229 := of_decide_eq_false ht228
            have hE230 := hE226; rw [ht227] at hE230; clear hE226
            refine c_seq ?_
            refine c_reg ?_
            refine q_step (v := .bool false) hE230 (y_assign rfl) rfl rfl rfl ?_; intro a231 hE232; clear hE230
            refine c_nil ?_
            have hE233 := hE232.sub (L' := [(4, .bool false)]) ⟨rfl, trivial⟩; clear hE232
            refine p_tn ?_
            refine wp_ret ?_
            refine p_tr ?_
            have hF : F_l_FnExactIsCongruence fp0 fp1 classes = false := by unfold F_l_FnExactIsCongruence; rw [ht227, ht192, ht48, ht19]; first | done | rfl
            refine c_ret1 hE233 rfl rfl ?_
            exact ⟨(by rw [hF]; first | done | rfl), hS222.ext⟩
          ·
            have ht234 := bn_f ht227
            have hp235 := of_decide_eq_true ht234
            have hE236 := hE226; rw [ht227] at hE236; clear hE226
            refine wp_skip ?_
            refine p_tn ?_
            refine c_seq ?_
            refine c_seq ?_
            refine c_reg ?_
            refine q_step (v := .slice b128 ((classes).length) c129) hE236 (y_move rfl) rfl rfl rfl ?_; intro a237 hE238; clear hE236
            refine q_step (v := .slice classesA classes.length classesC) hE238 (y_move rfl) rfl rfl rfl ?_; intro a239 hE240; clear hE238
            refine l_step hE240 rfl (l_call (f := 18) (argv := [.slice classesA classes.length classesC]) hE240 (fun _ => cf_l_toInt64S _ _) rfl rfl (d_l_toInt64S classesA classes.length classesC classes w219 (St.rdR (i := 8) hS222 rfl) (by first | omega | (simp only [marked_len]; omega))) ?_)
            rintro _ w242 ⟨b247, c248, rfl, ho249, he246⟩ a243 hE244; clear hE240
            have hS245 := St.own hS222 he246 ho249; clear hS222
            refine l_step hE244 rfl (l_call (f := 21) (argv := [.slice b128 ((classes).length) c129, .slice b247 ((classes).length) c248]) hE244 (fun _ => cf_l_eqInt64S _ _) rfl rfl (d_l_eqInt64S b128 ((classes).length) c129 classes b247 ((classes).length) c248 classes w242 (St.rdO (i := 2) hS245 rfl) (St.rdO (i := 0) hS245 rfl)) ?_)
            rintro _ w251 ⟨rfl, he255⟩ a252 hE253; clear hE244
            have hS254 := St.go hS245 he255; clear hS245
            refine q_step (v := .bool (!(decide (classes = classes)))) hE253 (y_not rfl) rfl rfl rfl ?_; intro a256 hE257; clear hE253
            refine c_nil ?_
            have hE258 := hE257.sub (L' := [(55, .bool (!(decide (classes = classes))))]) ⟨rfl, trivial⟩; clear hE257
            refine p_tn ?_
            refine c_cond hE258 rfl (fun ht259 => ?_) (fun ht259 => ?_)
            ·
              have ht260 := bn_t ht259
              have hp261 := of_decide_eq_false ht260
              have hE262 := hE258; rw [ht259] at hE262; clear hE258
              refine c_seq ?_
              refine c_reg ?_
              refine q_step (v := .bool false) hE262 (y_assign rfl) rfl rfl rfl ?_; intro a263 hE264; clear hE262
              refine c_nil ?_
              have hE265 := hE264.sub (L' := [(4, .bool false)]) ⟨rfl, trivial⟩; clear hE264
              refine p_tn ?_
              refine wp_ret ?_
              refine p_tr ?_
              have hF : F_l_FnExactIsCongruence fp0 fp1 classes = false := by unfold F_l_FnExactIsCongruence; rw [ht259, ht227, ht192, ht48, ht19]; first | done | rfl
              refine c_ret1 hE265 rfl rfl ?_
              exact ⟨(by rw [hF]; first | done | rfl), hS254.ext⟩
            ·
              have ht266 := bn_f ht259
              have hp267 := of_decide_eq_true ht266
              have hE268 := hE258; rw [ht259] at hE268; clear hE258
              refine wp_skip ?_
              refine p_tn ?_
              refine c_seq ?_
              refine c_reg ?_
              refine q_step (v := .bool true) hE268 (y_assign rfl) rfl rfl rfl ?_; intro a269 hE270; clear hE268
              refine c_nil ?_
              have hE271 := hE270.sub (L' := [(4, .bool true)]) ⟨rfl, trivial⟩; clear hE270
              refine p_tn ?_
              refine wp_ret ?_
              have hF : F_l_FnExactIsCongruence fp0 fp1 classes = true := by unfold F_l_FnExactIsCongruence; rw [ht259, ht227, ht192, ht48, ht19]; first | done | rfl
              refine c_ret1 hE271 rfl rfl ?_
              exact ⟨(by rw [hF]; first | done | rfl), hS254.ext⟩

theorem FnExactIsCongruence_true (fp0 : Int) (fp1 classes : List Int) : F_l_FnExactIsCongruence fp0 fp1 classes = true := by
  unfold F_l_FnExactIsCongruence
  rw [IsCongruence_eq]
  simp

end Go.Proofs.Ytejfjcjdilbkdaa
