/- GPM: models and contracts, printed by wip/gen/gen.py -/
import Derived.Test.YtejfjcjdilbkdaaGN
import Derived.Test.YtejfjcjdilbkdaaGP
set_option linter.unusedVariables false
set_option linter.unusedSimpArgs false
namespace Go.Proofs.Ytejfjcjdilbkdaa
open Go.RowKit

theorem F_l05Set_t {f0 : Int} {f1 : List Int} {mask : Int} (h : F_l05Set f0 f1 mask = true) : 0 ≤ mask ∧ mask ≤ fullI f0 := F_l01In_t h
theorem isMask_t {np mask : Int} (h : F_isMask np mask = true) : (0 ≤ np ∧ np ≤ 30) ∧ 0 ≤ mask ∧ mask ≤ fullI np := by
  unfold F_isMask at h
  rw [Bool.and_eq_true] at h
  have h1 := F_inRange_t h.1
  have h2 := F_inRange_t h.2
  rw [full_wI h1.1 (by omega)] at h2
  exact ⟨h1, h2⟩

def F_s_PartOfModel_L1b (mp2 : List Int) (mask : Int) (rec : (List Int) → Int → (List Int) × Int) (values7 : List Int) (v8 : Int) : (List Int) × Int :=
  bif (decide (v8 < (mp2.length : Int))) then (rec (values7 ++ ([F_l05Squeeze (F_l01List mask) (gI mp2 v8)])) (v8 + 1)) else (values7, v8)
def F_s_PartOfModel_L1 (mp2 : List Int) (mask : Int) : Nat → (List Int) → Int → (List Int) × Int
  | 0, values7, v8 => (values7, v8)
  | r + 1, values7, v8 => F_s_PartOfModel_L1b mp2 mask (F_s_PartOfModel_L1 mp2 mask r) values7 v8
def F_s_PartOfModel (mp0 : Int) (mp1 : List Int) (mp2 : List Int) (mask : Int) : (Int × List Int × List Int) × (Int) :=
  bif (!(F_l06Is mp0 mp1 mp2)) then ((0, [], []), 1) else (bif (!(F_l05Set mp0 mp1 mask)) then ((0, [], []), 2) else (((F_l05Part mp0 mp1 mask).1, (F_l05Part mp0 mp1 mask).2, (F_s_PartOfModel_L1 mp2 mask (Int.toNat ((mp2.length : Int) - 0) + 1) ([]) 0).1), 0))
theorem cf_s_PartOfModel (args : Array Value) (w : World) : (callFunc 34 args).run Try.prog w = .ok (.enter 34 args) w := by kernel_rfl
set_option maxRecDepth 100000 in
theorem c_s_PartOfModel (mp0 : Int) (mp1A : Option Addr) (mp1N mp1C : Nat) (mp1 : List Int) (mp2A : Option Addr) (mp2N mp2C : Nat) (mp2 : List Int) (mask : Int) (w : World) (mp1R : RdS w 1 mp1A mp1N mp1C mp1) (mp2R : RdS w 1 mp2A mp2N mp2C mp2) :
    Calls Try.prog 34 #[.agg #[.int .i64 mp0, .slice mp1A mp1N mp1C, .slice mp2A mp2N mp2C], .int .i64 mask] w (Ret fun v w' => ∃ b1 : Option Addr, ∃ c1 : Nat, ∃ b2 : Option Addr, ∃ c2 : Nat, v = .tuple #[.agg #[.int .i64 (((F_s_PartOfModel mp0 mp1 mp2 mask).1).1), .slice b1 (((F_s_PartOfModel mp0 mp1 mp2 mask).1).2.1).length c1, .slice b2 (((F_s_PartOfModel mp0 mp1 mp2 mask).1).2.2).length c2], .int .i64 ((F_s_PartOfModel mp0 mp1 mp2 mask).2)] ∧ Own2 w' w.heap.size 2 b1 (((F_s_PartOfModel mp0 mp1 mp2 mask).1).2.1).length c1 (((F_s_PartOfModel mp0 mp1 mp2 mask).1).2.1) b2 (((F_s_PartOfModel mp0 mp1 mp2 mask).1).2.2).length c2 (((F_s_PartOfModel mp0 mp1 mp2 mask).1).2.2) ∧ Ext w w') := by
  obtain rfl : mp1N = mp1.length := mp1R.len1.symm
  have mp1Le := mp1R.le
  obtain rfl : mp2N = mp2.length := mp2R.len1.symm
  have mp2Le := mp2R.le
  have hS := St.nil w
  have hS1 := St.rd0 hS rfl mp1R; clear hS
  have hS2 := St.rd0 hS1 rfl mp2R; clear hS1
  refine enter (args := [.agg #[.int .i64 mp0, .slice mp1A mp1.length mp1C, .slice mp2A mp2.length mp2C], .int .i64 mask]) Try.func34 rfl rfl ?_
  rw [Try.ntmps34]; intro a hE
  have hE := hE.sub (L' := [(0, .agg #[.int .i64 mp0, .slice mp1A mp1.length mp1C, .slice mp2A mp2.length mp2C]), (1, .int .i64 mask)]) ⟨rfl, rfl, trivial⟩
  refine c_seq ?_
  refine c_reg ?_
  refine l_step hE rfl (l_box (v := .agg #[.int .i64 mp0, .slice mp1A mp1.length mp1C, .slice mp2A mp2.length mp2C]) (cs := #[.int .i64 mp0, .slice mp1A mp1.length mp1C, .slice mp2A mp2.length mp2C]) hS2 hE rfl rfl rfl ?_)
  intro b3 w4 hS7 he8 a5 hE6; clear hS2 hE
  refine l_step hE6 rfl (l_alloc (z := .agg #[.int .i64 0, .slice none 0 0, .slice none 0 0]) (cs := #[.int .i64 0, .slice none 0 0, .slice none 0 0]) hS7 hE6 (fun _ => by kernel_rfl) rfl rfl ?_)
  intro b9 w10 hS13 he14 a11 hE12; clear hS7 hE6
  refine q_step (v := .int .i64 0) hE12 (y_assign rfl) rfl rfl rfl ?_; intro a15 hE16; clear hE12
  refine c_nil ?_
  have hE17 := hE16.sub (L' := [(1, .int .i64 mask), (2, .pointer (some ⟨b3, 0, none⟩)), (4, .pointer (some ⟨b9, 0, none⟩))]) ⟨rfl, rfl, rfl, trivial⟩; clear hE16
  refine p_tn ?_
  refine c_seq ?_
  refine wp_block ?_
  refine c_seq ?_
  refine c_reg ?_
  refine q_step (v := .agg #[.int .i64 mp0, .slice mp1A mp1.length mp1C, .slice mp2A mp2.length mp2C]) hE17 (y_loadS Try.underlying38 rfl (by kernel_rfl) rfl (St.row (i := 1) hS13 rfl)) rfl rfl rfl ?_; intro a18 hE19; clear hE17
  refine l_step hE19 rfl (l_call (f := 63) (argv := [.agg #[.int .i64 mp0, .slice mp1A mp1.length mp1C, .slice mp2A mp2.length mp2C]]) hE19 (fun _ => cf_l06Is _ _) rfl rfl (c_l06Is mp0 mp1A mp1.length mp1C mp1 mp2A mp2.length mp2C mp2 w10 (St.rdR (i := 3) hS13 rfl) (St.rdR (i := 2) hS13 rfl)) ?_)
  rintro _ w21 ⟨rfl, he25⟩ a22 hE23; clear hE19
  have hS24 := St.go hS13 he25; clear hS13
  refine q_step (v := .bool (!(F_l06Is mp0 mp1 mp2))) hE23 (y_not rfl) rfl rfl rfl ?_; intro a26 hE27; clear hE23
  refine q_step (v := .bool (!(F_l06Is mp0 mp1 mp2))) hE27 (y_assign rfl) rfl rfl rfl ?_; intro a28 hE29; clear hE27
  refine c_nil ?_
  have hE30 := hE29.sub (L' := [(1, .int .i64 mask), (2, .pointer (some ⟨b3, 0, none⟩)), (4, .pointer (some ⟨b9, 0, none⟩)), (9, .bool (!(F_l06Is mp0 mp1 mp2)))]) ⟨rfl, rfl, rfl, rfl, trivial⟩; clear hE29
  refine p_tn ?_
  refine c_cond hE30 rfl (fun ht31 => ?_) (fun ht31 => ?_)
  ·
    have ht32 := bn_t ht31
    have hE33 := hE30; rw [ht31] at hE33; clear hE30
    refine c_seq ?_
    refine c_reg ?_
    refine q_step (v := .agg #[.int .i64 0, .slice none 0 0, .slice none 0 0]) hE33 (y_build (vs := #[]) (fun a n hE => by simp) (fun _ => by kernel_rfl)) rfl rfl rfl ?_; intro a34 hE35; clear hE33
    refine l_step hE35 rfl (l_storeS (k := 0) (cs' := #[.int .i64 0, .slice none 0 0, .slice none 0 0]) hS24 hE35 (by kernel_rfl) rfl rfl (by kernel_rfl) rfl rfl ?_)
    intro w37 hS40 a38 hE39; clear hS24 hE35
    refine q_step (v := .int .i64 1) hE39 (y_assign rfl) rfl rfl rfl ?_; intro a42 hE43; clear hE39
    refine c_nil ?_
    have hE44 := hE43.sub (L' := [(4, .pointer (some ⟨b9, 0, none⟩)), (5, .int .i64 1)]) ⟨rfl, rfl, trivial⟩; clear hE43
    refine p_tn ?_
    refine wp_ret ?_
    refine p_br ?_
    refine p_tr ?_
    have hF : F_s_PartOfModel mp0 mp1 mp2 mask = ((0, [], []), 1) := by unfold F_s_PartOfModel; rw [ht31]; first | done | rfl
    refine c_retC2 hE44 rfl rfl rfl Try.underlying38 rfl (by kernel_rfl) (St.row (i := 0) hS40 rfl _ (Ext.refl _)) ?_
    have hS45 := St.nils hS40 2 1; clear hS40
    have hS46 := St.nils hS45 2 1; clear hS45
    exact ⟨none, 0, none, 0, (by rw [hF]; first | done | rfl), (by rw [hF]; exact St.own2 1 0 hS46 rfl rfl (by decide)), hS46.ext⟩
  ·
    have ht47 := bn_f ht31
    have hp48 := l06Is_t ht47
    have hE49 := hE30; rw [ht31] at hE49; clear hE30
    refine c_seq ?_
    refine c_reg ?_
    refine q_step (v := .pointer (some ⟨b3, 0, none⟩)) hE49 (y_field rfl (fun _ => by kernel_rfl)) rfl rfl rfl ?_; intro a50 hE51; clear hE49
    refine q_step (v := .agg #[.int .i64 mp0, .slice mp1A mp1.length mp1C]) hE51 (y_loadP Try.underlying28 rfl (by kernel_rfl) rfl rfl (St.row (i := 1) hS24 rfl)) rfl rfl rfl ?_; intro a52 hE53; clear hE51
    refine q_step (v := .int .i64 mask) hE53 (y_move rfl) rfl rfl rfl ?_; intro a54 hE55; clear hE53
    refine l_step hE55 rfl (l_call (f := 70) (argv := [.agg #[.int .i64 mp0, .slice mp1A mp1.length mp1C], .int .i64 mask]) hE55 (fun _ => cf_l05Set _ _) rfl rfl (c_l05Set mp0 mp1A mp1.length mp1C mp1 mask w21 (St.rdR (i := 3) hS24 rfl) (by omega) (by omega)) ?_)
    rintro _ w57 ⟨rfl, he61⟩ a58 hE59; clear hE55
    have hS60 := St.go hS24 he61; clear hS24
    refine q_step (v := .bool (!(F_l05Set mp0 mp1 mask))) hE59 (y_not rfl) rfl rfl rfl ?_; intro a62 hE63; clear hE59
    refine q_step (v := .bool (!(F_l05Set mp0 mp1 mask))) hE63 (y_assign rfl) rfl rfl rfl ?_; intro a64 hE65; clear hE63
    refine c_nil ?_
    have hE66 := hE65.sub (L' := [(1, .int .i64 mask), (2, .pointer (some ⟨b3, 0, none⟩)), (4, .pointer (some ⟨b9, 0, none⟩)), (14, .bool (!(F_l05Set mp0 mp1 mask)))]) ⟨rfl, rfl, rfl, rfl, trivial⟩; clear hE65
    refine p_tn ?_
    refine c_cond hE66 rfl (fun ht67 => ?_) (fun ht67 => ?_)
    ·
      have ht68 := bn_t ht67
      have hE69 := hE66; rw [ht67] at hE69; clear hE66
      refine c_seq ?_
      refine c_reg ?_
      refine q_step (v := .agg #[.int .i64 0, .slice none 0 0, .slice none 0 0]) hE69 (y_build (vs := #[]) (fun a n hE => by simp) (fun _ => by kernel_rfl)) rfl rfl rfl ?_; intro a70 hE71; clear hE69
      refine l_step hE71 rfl (l_storeS (k := 0) (cs' := #[.int .i64 0, .slice none 0 0, .slice none 0 0]) hS60 hE71 (by kernel_rfl) rfl rfl (by kernel_rfl) rfl rfl ?_)
      intro w73 hS76 a74 hE75; clear hS60 hE71
      refine q_step (v := .int .i64 2) hE75 (y_assign rfl) rfl rfl rfl ?_; intro a78 hE79; clear hE75
      refine c_nil ?_
      have hE80 := hE79.sub (L' := [(4, .pointer (some ⟨b9, 0, none⟩)), (5, .int .i64 2)]) ⟨rfl, rfl, trivial⟩; clear hE79
      refine p_tn ?_
      refine wp_ret ?_
      refine p_br ?_
      refine p_tr ?_
      have hF : F_s_PartOfModel mp0 mp1 mp2 mask = ((0, [], []), 2) := by unfold F_s_PartOfModel; rw [ht67, ht31]; first | done | rfl
      refine c_retC2 hE80 rfl rfl rfl Try.underlying38 rfl (by kernel_rfl) (St.row (i := 0) hS76 rfl _ (Ext.refl _)) ?_
      have hS81 := St.nils hS76 2 1; clear hS76
      have hS82 := St.nils hS81 2 1; clear hS81
      exact ⟨none, 0, none, 0, (by rw [hF]; first | done | rfl), (by rw [hF]; exact St.own2 1 0 hS82 rfl rfl (by decide)), hS82.ext⟩
    ·
      have ht83 := bn_f ht67
      have hp84 := F_l05Set_t ht83
      have hE85 := hE66; rw [ht67] at hE85; clear hE66
      refine wp_skip ?_
      refine p_bn ?_
      refine p_tn ?_
      refine c_seq ?_
      refine c_reg ?_
      refine q_step (v := .int .i64 mask) hE85 (y_move rfl) rfl rfl rfl ?_; intro a86 hE87; clear hE85
      refine l_step hE87 rfl (l_call (f := 71) (argv := [.int .i64 mask]) hE87 (fun _ => cf_l01List _ _) rfl rfl (c_l01List mask w57 (by omega) (mask_sm (f0 := mp0) (by omega) (by omega))) ?_)
      rintro _ w89 ⟨b94, c95, rfl, ho96, he93⟩ a90 hE91; clear hE87
      have hS92 := St.own hS60 he93 ho96; clear hS60
      refine l_step hE91 rfl (l_lit (e := 2) (s := 1) (xs := []) (vs := []) hS92 hE91 rfl (fun _ => by kernel_rfl) rfl rfl rfl ?_)
      intro b97 w98 hS101 he102 a99 hE100; clear hS92 hE91
      refine q_step (v := .slice b94 ((F_l01List mask).length) c95) hE100 (y_assign rfl) rfl rfl rfl ?_; intro a103 hE104; clear hE100
      refine q_step (v := .slice (some ⟨b97, 0, none⟩) 0 0) hE104 (y_assign rfl) rfl rfl rfl ?_; intro a105 hE106; clear hE104
      refine c_nil ?_
      have hE107 := hE106.sub (L' := [(1, .int .i64 mask), (2, .pointer (some ⟨b3, 0, none⟩)), (4, .pointer (some ⟨b9, 0, none⟩)), (6, .slice b94 ((F_l01List mask).length) c95), (7, .slice (some ⟨b97, 0, none⟩) 0 0)]) ⟨rfl, rfl, rfl, rfl, rfl, trivial⟩; clear hE106
      refine p_tn ?_
      refine c_seq ?_
      refine c_seq ?_
      refine c_reg ?_
      refine q_step (v := .int .i64 0) hE107 (y_assign rfl) rfl rfl rfl ?_; intro a108 hE109; clear hE107
      refine c_nil ?_
      have hE110 := hE109.sub (L' := [(1, .int .i64 mask), (2, .pointer (some ⟨b3, 0, none⟩)), (4, .pointer (some ⟨b9, 0, none⟩)), (6, .slice b94 ((F_l01List mask).length) c95), (7, .slice (some ⟨b97, 0, none⟩) 0 0), (8, .int .i64 0)]) ⟨rfl, rfl, rfl, rfl, rfl, rfl, trivial⟩; clear hE109
      refine p_tn ?_
      refine c_cut1 (fun a' w' => ∃ values7A_111 : Option Addr, ∃ values7C_111 : Nat, (0 ≤ ((F_s_PartOfModel_L1 mp2 mask (Int.toNat ((mp2.length : Int) - 0) + 1) ([]) 0).2)) ∧ (((F_s_PartOfModel_L1 mp2 mask (Int.toNat ((mp2.length : Int) - 0) + 1) ([]) 0).2) ≤ (mp2.length : Int)) ∧ ((((F_s_PartOfModel_L1 mp2 mask (Int.toNat ((mp2.length : Int) - 0) + 1) ([]) 0).1).length : Int) ≤ ((F_s_PartOfModel_L1 mp2 mask (Int.toNat ((mp2.length : Int) - 0) + 1) ([]) 0).2)) ∧ E a' 47 [(1, .int .i64 mask), (2, .pointer (some ⟨b3, 0, none⟩)), (4, .pointer (some ⟨b9, 0, none⟩)), (6, .slice b94 ((F_l01List mask).length) c95), (7, .slice values7A_111 (((F_s_PartOfModel_L1 mp2 mask (Int.toNat ((mp2.length : Int) - 0) + 1) ([]) 0).1).length) values7C_111), (8, .int .i64 ((F_s_PartOfModel_L1 mp2 mask (Int.toNat ((mp2.length : Int) - 0) + 1) ([]) 0).2))] ∧ St w w' [.own 2 1 values7A_111 (((F_s_PartOfModel_L1 mp2 mask (Int.toNat ((mp2.length : Int) - 0) + 1) ([]) 0).1).length) values7C_111 ((F_s_PartOfModel_L1 mp2 mask (Int.toNat ((mp2.length : Int) - 0) + 1) ([]) 0).1), .own 2 1 b94 ((F_l01List mask).length) c95 (F_l01List mask), .blk b9 #[.int .i64 0, .slice none 0 0, .slice none 0 0] 38, .blk b3 #[.int .i64 mp0, .slice mp1A mp1.length mp1C, .slice mp2A mp2.length mp2C] 38, .rd 1 mp2A mp2.length mp2C mp2, .rd 1 mp1A mp1.length mp1C mp1]) ?_ ?_
      ·
        refine wp_block ?_
        refine c_loop (fun r a' w' => ∃ values7 : List Int, ∃ v8 : Int, ∃ values7A : Option Addr, ∃ values7C : Nat, F_s_PartOfModel_L1 mp2 mask r values7 v8 = F_s_PartOfModel_L1 mp2 mask (Int.toNat ((mp2.length : Int) - 0) + 1) ([]) 0 ∧ Int.toNat ((mp2.length : Int) - v8) < r ∧ (0 ≤ v8) ∧ (v8 ≤ (mp2.length : Int)) ∧ ((values7.length : Int) ≤ v8) ∧ E a' 47 [(1, .int .i64 mask), (2, .pointer (some ⟨b3, 0, none⟩)), (4, .pointer (some ⟨b9, 0, none⟩)), (6, .slice b94 ((F_l01List mask).length) c95), (7, .slice values7A ((values7).length) values7C), (8, .int .i64 v8)] ∧ St w w' [.own 2 1 values7A ((values7).length) values7C values7, .own 2 1 b94 ((F_l01List mask).length) c95 (F_l01List mask), .blk b9 #[.int .i64 0, .slice none 0 0, .slice none 0 0] 38, .blk b3 #[.int .i64 mp0, .slice mp1A mp1.length mp1C, .slice mp2A mp2.length mp2C] 38, .rd 1 mp2A mp2.length mp2C mp2, .rd 1 mp1A mp1.length mp1C mp1]) (r := (Int.toNat ((mp2.length : Int) - 0) + 1)) ?_ ?_
        · exact ⟨[], 0, some ⟨b97, 0, none⟩, 0, rfl, Nat.lt_succ_self _, (by first | omega | (simp only [List.length_append, List.length_cons, List.length_nil, sI_len, cond_true, cond_false]; omega) | (simp only [List.length_append, List.length_cons, List.length_nil, sI_len, cond_eq_ite, apply_ite List.length]; split <;> simp only [List.length_append, List.length_cons, List.length_nil, sI_len] <;> omega) | grind), (by first | omega | (simp only [List.length_append, List.length_cons, List.length_nil, sI_len, cond_true, cond_false]; omega) | (simp only [List.length_append, List.length_cons, List.length_nil, sI_len, cond_eq_ite, apply_ite List.length]; split <;> simp only [List.length_append, List.length_cons, List.length_nil, sI_len] <;> omega) | grind), (by first | omega | (simp only [List.length_append, List.length_cons, List.length_nil, sI_len, cond_true, cond_false]; omega) | (simp only [List.length_append, List.length_cons, List.length_nil, sI_len, cond_eq_ite, apply_ite List.length]; split <;> simp only [List.length_append, List.length_cons, List.length_nil, sI_len] <;> omega) | grind), (hE110.sub (L' := [(1, .int .i64 mask), (2, .pointer (some ⟨b3, 0, none⟩)), (4, .pointer (some ⟨b9, 0, none⟩)), (6, .slice b94 ((F_l01List mask).length) c95), (7, .slice (some ⟨b97, 0, none⟩) 0 0), (8, .int .i64 0)]) ⟨rfl, rfl, rfl, rfl, rfl, rfl, trivial⟩), (St.pick (Γ' := [.own 2 1 (some ⟨b97, 0, none⟩) 0 0 ([]), .own 2 1 b94 ((F_l01List mask).length) c95 (F_l01List mask), .blk b9 #[.int .i64 0, .slice none 0 0, .slice none 0 0] 38, .blk b3 #[.int .i64 mp0, .slice mp1A mp1.length mp1C, .slice mp2A mp2.length mp2C] 38, .rd 1 mp2A mp2.length mp2C mp2, .rd 1 mp1A mp1.length mp1C mp1]) hS101 [0, 1, 2, 3, 4, 5] (by decide) rfl)⟩
        ·
          clear hE110 hS101
          rintro r121 a112 w113 ⟨values7, v8, values7A, values7C, hT116, hr117, hi118, hi119, hi120, hE114, hS115⟩
          obtain ⟨r121, rfl⟩ : ∃ r', r121 = r' + 1 := ⟨r121 - 1, by omega⟩
          refine c_seq ?_
          refine c_seq ?_
          refine c_reg ?_
          refine q_step (v := .int .i64 v8) hE114 (y_move rfl) rfl rfl rfl ?_; intro a122 hE123; clear hE114
          refine q_step (v := .pointer (some ⟨b3, 2, none⟩)) hE123 (y_field rfl (fun _ => by kernel_rfl)) rfl rfl rfl ?_; intro a124 hE125; clear hE123
          refine q_step (v := .slice mp2A mp2.length mp2C) hE125 (y_load (fun _ => by kernel_rfl) rfl (St.cell (i := 3) hS115 rfl rfl)) rfl rfl rfl ?_; intro a126 hE127; clear hE125
          refine q_step (v := .int .i64 (mp2.length : Int)) hE127 (y_len (e := 2) (by kernel_rfl) rfl) rfl rfl rfl ?_; intro a128 hE129; clear hE127
          refine q_step (v := .bool (decide (v8 < (mp2.length : Int)))) hE129 (y_lss rfl rfl) rfl rfl rfl ?_; intro a130 hE131; clear hE129
          refine c_nil ?_
          have hE132 := hE131.sub (L' := [(1, .int .i64 mask), (2, .pointer (some ⟨b3, 0, none⟩)), (4, .pointer (some ⟨b9, 0, none⟩)), (6, .slice b94 ((F_l01List mask).length) c95), (7, .slice values7A ((values7).length) values7C), (8, .int .i64 v8), (28, .bool (decide (v8 < (mp2.length : Int))))]) ⟨rfl, rfl, rfl, rfl, rfl, rfl, rfl, trivial⟩; clear hE131
          refine p_tn ?_
          refine c_cond hE132 rfl (fun ht133 => ?_) (fun ht133 => ?_)
          ·
            have hp134 := of_decide_eq_true ht133
            have hE135 := hE132; rw [ht133] at hE135; clear hE132
            refine wp_skip ?_
            refine p_tn ?_
            refine c_seq ?_
            refine wp_block ?_
            refine c_reg ?_
            refine q_step (v := .slice values7A ((values7).length) values7C) hE135 (y_move rfl) rfl rfl rfl ?_; intro a136 hE137; clear hE135
            refine q_step (v := .slice b94 ((F_l01List mask).length) c95) hE137 (y_move rfl) rfl rfl rfl ?_; intro a138 hE139; clear hE137
            refine q_step (v := .pointer (some ⟨b3, 2, none⟩)) hE139 (y_field rfl (fun _ => by kernel_rfl)) rfl rfl rfl ?_; intro a140 hE141; clear hE139
            refine q_step (v := .slice mp2A mp2.length mp2C) hE141 (y_load (fun _ => by kernel_rfl) rfl (St.cell (i := 3) hS115 rfl rfl)) rfl rfl rfl ?_; intro a142 hE143; clear hE141
            refine q_step (v := .int .i64 v8) hE143 (y_move rfl) rfl rfl rfl ?_; intro a144 hE145; clear hE143
            refine q_step (v := .pointer (some (adr mp2A (Int.toNat v8)))) hE145 (y_idx (by kernel_rfl) (fun _ => by kernel_rfl) rfl rfl (RdS.isS (m := v8) (St.rdR (i := 4) hS115 rfl) (by omega) (by omega)) (by omega) (by omega) (Nat.mul_one _).symm) rfl rfl rfl ?_; intro a146 hE147; clear hE145
            refine q_step (v := .int .i64 (gI mp2 v8)) hE147 (y_load (fun _ => by kernel_rfl) rfl (RdS.elt (St.rdR (i := 4) hS115 rfl) (by omega) (by omega))) rfl rfl rfl ?_; intro a148 hE149; clear hE147
            refine l_step hE149 rfl (l_call (f := 72) (argv := [.slice b94 ((F_l01List mask).length) c95, .int .i64 (gI mp2 v8)]) hE149 (fun _ => cf_l05Squeeze _ _) rfl rfl (c_l05Squeeze b94 ((F_l01List mask).length) c95 (F_l01List mask) (gI mp2 v8) w113 (St.rdO (i := 1) hS115 rfl) (by have := (list_lt (f0 := mp0) (mask := mask) (by omega) (by omega)).1; omega) (fun m h0 h1 => by have := (list_lt (f0 := mp0) (mask := mask) (by omega) (by omega)).2 m h0 h1; omega)) ?_)
            rintro _ w151 ⟨rfl, he155⟩ a152 hE153; clear hE149
            have hS154 := St.go hS115 he155; clear hS115
            refine l_step hE153 rfl (l_lit (e := 2) (s := 1) (xs := [F_l05Squeeze (F_l01List mask) (gI mp2 v8)]) (vs := [.int .i64 (F_l05Squeeze (F_l01List mask) (gI mp2 v8))]) hS154 hE153 rfl (fun _ => by kernel_rfl) rfl rfl rfl ?_)
            intro b156 w157 hS160 he161 a158 hE159; clear hS154 hE153
            obtain ⟨_, hi1, hi2, hi3, hi4⟩ := info_parts (show (Try.prog.info? 2).map (fun i => (i.zero, i.size, i.bytes)) = some (some (.int .i64 0), 1, 8) by kernel_rfl)
            refine l_step hE159 rfl (l_append (k := 1) (n' := (values7 ++ ([F_l05Squeeze (F_l01List mask) (gI mp2 v8)])).length) hS160 hE159 (by kernel_rfl) hi1 hi2 hi3 rfl (by decide) (by rw [hi4]; decide) rfl rfl rfl (St.rdO (i := 0) hS160 rfl) (by first | omega | (simp only [List.length_append, List.length_cons, List.length_nil]; omega)) (by have h1 := (St.rdO (i := 1) hS160 rfl).len1; have h2 := (St.rdO (i := 0) hS160 rfl).len1; rw [List.length_append, h1, h2]) rfl ?_)
            intro b162 c168 w163 hS166 a164 hE165; clear hS160 hE159 hi1 hi2 hi3 hi4
            refine q_step (v := .slice b162 ((values7 ++ ([F_l05Squeeze (F_l01List mask) (gI mp2 v8)])).length) c168) hE165 (y_assign rfl) rfl rfl rfl ?_; intro a169 hE170; clear hE165
            refine c_nil ?_
            have hE171 := hE170.sub (L' := [(1, .int .i64 mask), (2, .pointer (some ⟨b3, 0, none⟩)), (4, .pointer (some ⟨b9, 0, none⟩)), (6, .slice b94 ((F_l01List mask).length) c95), (7, .slice b162 ((values7 ++ ([F_l05Squeeze (F_l01List mask) (gI mp2 v8)])).length) c168), (8, .int .i64 v8)]) ⟨rfl, rfl, rfl, rfl, rfl, rfl, trivial⟩; clear hE170
            refine p_bn ?_
            refine p_tn ?_
            refine c_reg ?_
            refine q_step (v := .int .i64 v8) hE171 (y_move rfl) rfl rfl rfl ?_; intro a172 hE173; clear hE171
            refine q_step (v := .int .i64 (v8 + 1)) hE173 (y_add rfl rfl ⟨(by omega), (by omega)⟩) rfl rfl rfl ?_; intro a174 hE175; clear hE173
            refine q_step (v := .int .i64 (v8 + 1)) hE175 (y_assign rfl) rfl rfl rfl ?_; intro a176 hE177; clear hE175
            refine c_nil ?_
            have hE178 := hE177.sub (L' := [(1, .int .i64 mask), (2, .pointer (some ⟨b3, 0, none⟩)), (4, .pointer (some ⟨b9, 0, none⟩)), (6, .slice b94 ((F_l01List mask).length) c95), (7, .slice b162 ((values7 ++ ([F_l05Squeeze (F_l01List mask) (gI mp2 v8)])).length) c168), (8, .int .i64 (v8 + 1))]) ⟨rfl, rfl, rfl, rfl, rfl, rfl, trivial⟩; clear hE177
            refine p_tn ⟨r121, Nat.lt_succ_self _, values7 ++ ([F_l05Squeeze (F_l01List mask) (gI mp2 v8)]), v8 + 1, b162, c168, (hT116.symm.trans (show F_s_PartOfModel_L1b mp2 mask (F_s_PartOfModel_L1 mp2 mask r121) values7 v8 = F_s_PartOfModel_L1 mp2 mask r121 (values7 ++ ([F_l05Squeeze (F_l01List mask) (gI mp2 v8)])) (v8 + 1) by unfold F_s_PartOfModel_L1b; rw [ht133]; first | done | rfl)).symm, (by omega), (by first | omega | (simp only [List.length_append, List.length_cons, List.length_nil, sI_len, cond_true, cond_false]; omega) | (simp only [List.length_append, List.length_cons, List.length_nil, sI_len, cond_eq_ite, apply_ite List.length]; split <;> simp only [List.length_append, List.length_cons, List.length_nil, sI_len] <;> omega) | grind), (by first | omega | (simp only [List.length_append, List.length_cons, List.length_nil, sI_len, cond_true, cond_false]; omega) | (simp only [List.length_append, List.length_cons, List.length_nil, sI_len, cond_eq_ite, apply_ite List.length]; split <;> simp only [List.length_append, List.length_cons, List.length_nil, sI_len] <;> omega) | grind), (by first | omega | (simp only [List.length_append, List.length_cons, List.length_nil, sI_len, cond_true, cond_false]; omega) | (simp only [List.length_append, List.length_cons, List.length_nil, sI_len, cond_eq_ite, apply_ite List.length]; split <;> simp only [List.length_append, List.length_cons, List.length_nil, sI_len] <;> omega) | grind), (hE178.sub (L' := [(1, .int .i64 mask), (2, .pointer (some ⟨b3, 0, none⟩)), (4, .pointer (some ⟨b9, 0, none⟩)), (6, .slice b94 ((F_l01List mask).length) c95), (7, .slice b162 ((values7 ++ ([F_l05Squeeze (F_l01List mask) (gI mp2 v8)])).length) c168), (8, .int .i64 (v8 + 1))]) ⟨rfl, rfl, rfl, rfl, rfl, rfl, trivial⟩), (St.pick (Γ' := [.own 2 1 b162 ((values7 ++ ([F_l05Squeeze (F_l01List mask) (gI mp2 v8)])).length) c168 (values7 ++ ([F_l05Squeeze (F_l01List mask) (gI mp2 v8)])), .own 2 1 b94 ((F_l01List mask).length) c95 (F_l01List mask), .blk b9 #[.int .i64 0, .slice none 0 0, .slice none 0 0] 38, .blk b3 #[.int .i64 mp0, .slice mp1A mp1.length mp1C, .slice mp2A mp2.length mp2C] 38, .rd 1 mp2A mp2.length mp2C mp2, .rd 1 mp1A mp1.length mp1C mp1]) hS166 [1, 2, 3, 4, 5, 6] (by decide) rfl)⟩
          ·
            have hp179 := of_decide_eq_false ht133
            have hE180 := hE132; rw [ht133] at hE180; clear hE132
            refine wp_exit ?_
            refine p_te ?_
            have hX181 : F_s_PartOfModel_L1 mp2 mask (Int.toNat ((mp2.length : Int) - 0) + 1) ([]) 0 = (values7, v8) := hT116.symm.trans (show F_s_PartOfModel_L1b mp2 mask (F_s_PartOfModel_L1 mp2 mask r121) values7 v8 = (values7, v8) by unfold F_s_PartOfModel_L1b; rw [ht133]; first | done | rfl)
            refine p_te (p_be (p_tn ?_))
            exact ⟨values7A, values7C, (by rw [hX181]; exact (show 0 ≤ v8 from (by first | omega | (simp only [List.length_append, List.length_cons, List.length_nil, sI_len, cond_true, cond_false]; omega) | (simp only [List.length_append, List.length_cons, List.length_nil, sI_len, cond_eq_ite, apply_ite List.length]; split <;> simp only [List.length_append, List.length_cons, List.length_nil, sI_len] <;> omega) | grind))), (by rw [hX181]; exact (show v8 ≤ (mp2.length : Int) from (by first | omega | (simp only [List.length_append, List.length_cons, List.length_nil, sI_len, cond_true, cond_false]; omega) | (simp only [List.length_append, List.length_cons, List.length_nil, sI_len, cond_eq_ite, apply_ite List.length]; split <;> simp only [List.length_append, List.length_cons, List.length_nil, sI_len] <;> omega) | grind))), (by rw [hX181]; exact (show (values7.length : Int) ≤ v8 from (by first | omega | (simp only [List.length_append, List.length_cons, List.length_nil, sI_len, cond_true, cond_false]; omega) | (simp only [List.length_append, List.length_cons, List.length_nil, sI_len, cond_eq_ite, apply_ite List.length]; split <;> simp only [List.length_append, List.length_cons, List.length_nil, sI_len] <;> omega) | grind))), (by rw [hX181]; exact (hE180.sub (L' := [(1, .int .i64 mask), (2, .pointer (some ⟨b3, 0, none⟩)), (4, .pointer (some ⟨b9, 0, none⟩)), (6, .slice b94 ((F_l01List mask).length) c95), (7, .slice values7A ((values7).length) values7C), (8, .int .i64 v8)]) ⟨rfl, rfl, rfl, rfl, rfl, rfl, trivial⟩)), (by rw [hX181]; exact (St.pick (Γ' := [.own 2 1 values7A ((values7).length) values7C values7, .own 2 1 b94 ((F_l01List mask).length) c95 (F_l01List mask), .blk b9 #[.int .i64 0, .slice none 0 0, .slice none 0 0] 38, .blk b3 #[.int .i64 mp0, .slice mp1A mp1.length mp1C, .slice mp2A mp2.length mp2C] 38, .rd 1 mp2A mp2.length mp2C mp2, .rd 1 mp1A mp1.length mp1C mp1]) hS115 [0, 1, 2, 3, 4, 5] (by decide) rfl))⟩
      ·
        rintro a182 w183 ⟨values7A_111, values7C_111, hi187, hi188, hi189, hE184, hS185⟩; clear hE110 hS101
        refine p_tn ?_
        refine c_seq ?_
        refine c_reg ?_
        refine q_step (v := .pointer (some ⟨b3, 0, none⟩)) hE184 (y_field rfl (fun _ => by kernel_rfl)) rfl rfl rfl ?_; intro a190 hE191; clear hE184
        refine q_step (v := .agg #[.int .i64 mp0, .slice mp1A mp1.length mp1C]) hE191 (y_loadP Try.underlying28 rfl (by kernel_rfl) rfl rfl (St.row (i := 3) hS185 rfl)) rfl rfl rfl ?_; intro a192 hE193; clear hE191
        refine q_step (v := .int .i64 mask) hE193 (y_move rfl) rfl rfl rfl ?_; intro a194 hE195; clear hE193
        refine l_step hE195 rfl (l_call (f := 73) (argv := [.agg #[.int .i64 mp0, .slice mp1A mp1.length mp1C], .int .i64 mask]) hE195 (fun _ => cf_l05Part _ _) rfl rfl (c_l05Part mp0 mp1A mp1.length mp1C mp1 mask w183 (St.rdR (i := 5) hS185 rfl) (by omega) (by omega) (by omega)) ?_)
        rintro _ w197 ⟨b202, c203, rfl, ho204, he201⟩ a198 hE199; clear hE195
        have hS200 := St.own hS185 he201 ho204; clear hS185
        refine q_step (v := .slice values7A_111 (((F_s_PartOfModel_L1 mp2 mask (Int.toNat ((mp2.length : Int) - 0) + 1) ([]) 0).1).length) values7C_111) hE199 (y_move rfl) rfl rfl rfl ?_; intro a205 hE206; clear hE199
        refine q_step (v := .agg #[.int .i64 ((F_l05Part mp0 mp1 mask).1), .slice b202 (((F_l05Part mp0 mp1 mask).2).length) c203, .slice values7A_111 (((F_s_PartOfModel_L1 mp2 mask (Int.toNat ((mp2.length : Int) - 0) + 1) ([]) 0).1).length) values7C_111]) hE206 (y_build (vs := #[(0, .agg #[.int .i64 ((F_l05Part mp0 mp1 mask).1), .slice b202 (((F_l05Part mp0 mp1 mask).2).length) c203]), (1, .slice values7A_111 (((F_s_PartOfModel_L1 mp2 mask (Int.toNat ((mp2.length : Int) - 0) + 1) ([]) 0).1).length) values7C_111)]) (fun a n hE => by simp only [hE.eval (x := .tmp 44) (v := .agg #[.int .i64 ((F_l05Part mp0 mp1 mask).1), .slice b202 (((F_l05Part mp0 mp1 mask).2).length) c203]) rfl, hE.eval (x := .tmp 45) (v := .slice values7A_111 (((F_s_PartOfModel_L1 mp2 mask (Int.toNat ((mp2.length : Int) - 0) + 1) ([]) 0).1).length) values7C_111) rfl, List.map_toArray, List.map_cons, List.map_nil]) (fun _ => by kernel_rfl)) rfl rfl rfl ?_; intro a207 hE208; clear hE206
        refine l_step hE208 rfl (l_storeS (k := 3) (cs' := #[.int .i64 ((F_l05Part mp0 mp1 mask).1), .slice b202 (((F_l05Part mp0 mp1 mask).2).length) c203, .slice values7A_111 (((F_s_PartOfModel_L1 mp2 mask (Int.toNat ((mp2.length : Int) - 0) + 1) ([]) 0).1).length) values7C_111]) hS200 hE208 (by kernel_rfl) rfl rfl (by kernel_rfl) rfl rfl ?_)
        intro w210 hS213 a211 hE212; clear hS200 hE208
        refine q_step (v := .int .i64 0) hE212 (y_assign rfl) rfl rfl rfl ?_; intro a215 hE216; clear hE212
        refine c_nil ?_
        have hE217 := hE216.sub (L' := [(4, .pointer (some ⟨b9, 0, none⟩)), (5, .int .i64 0)]) ⟨rfl, rfl, trivial⟩; clear hE216
        refine p_tn ?_
        refine wp_ret ?_
        have hF : F_s_PartOfModel mp0 mp1 mp2 mask = (((F_l05Part mp0 mp1 mask).1, (F_l05Part mp0 mp1 mask).2, (F_s_PartOfModel_L1 mp2 mask (Int.toNat ((mp2.length : Int) - 0) + 1) ([]) 0).1), 0) := by unfold F_s_PartOfModel; rw [ht67, ht31]; first | done | rfl
        refine c_retC2 hE217 rfl rfl rfl Try.underlying38 rfl (by kernel_rfl) (St.row (i := 3) hS213 rfl _ (Ext.refl _)) ?_
        exact ⟨b202, c203, values7A_111, values7C_111, (by rw [hF]; first | done | rfl), (by rw [hF]; exact St.own2 0 1 hS213 rfl rfl (by decide)), hS213.ext⟩

def F_partOfModel_L1b (mp2 : List Int) (mask : Int) (rec : Int → (List Int) → Int × (List Int)) (t18 : Int) (q6_2 : List Int) : Int × (List Int) :=
  bif (decide (t18 < (mp2.length : Int))) then (rec (t18 + 1) (q6_2 ++ ([F_squeeze (gI mp2 t18) mask]))) else (t18, q6_2)
def F_partOfModel_L1 (mp2 : List Int) (mask : Int) : Nat → Int → (List Int) → Int × (List Int)
  | 0, t18, q6_2 => (t18, q6_2)
  | r + 1, t18, q6_2 => F_partOfModel_L1b mp2 mask (F_partOfModel_L1 mp2 mask r) t18 q6_2
def F_partOfModel (mp0 : Int) (mp1 : List Int) (mp2 : List Int) (mask : Int) : Int × List Int × List Int :=
  ((F_frameOf (F_partOn mp1 mask)).1, F_partOn mp1 mask, (F_partOfModel_L1 mp2 mask (Int.toNat ((mp2.length : Int) - 0) + 1) 0 ([])).2)
theorem cf_partOfModel (args : Array Value) (w : World) : (callFunc 75 args).run Try.prog w = .ok (.enter 75 args) w := by kernel_rfl
set_option maxRecDepth 100000 in
theorem c_partOfModel (mp0 : Int) (mp1A : Option Addr) (mp1N mp1C : Nat) (mp1 : List Int) (mp2A : Option Addr) (mp2N mp2C : Nat) (mp2 : List Int) (mask : Int) (w : World) (mp1R : RdS w 1 mp1A mp1N mp1C mp1) (mp2R : RdS w 1 mp2A mp2N mp2C mp2) (h5mp : (0 ≤ mp0 ∧ mp0 ≤ 8) ∧ (mp1.length : Int) = mp0) (h6mp : (mp2.length : Int) = 6) (hm : 0 ≤ mask ∧ mask ≤ fullI mp0) (hm2 : mask < 4611686018427387904) :
    Calls Try.prog 75 #[.agg #[.int .i64 mp0, .slice mp1A mp1N mp1C, .slice mp2A mp2N mp2C], .int .i64 mask] w (Ret fun v w' => ∃ b1 : Option Addr, ∃ c1 : Nat, ∃ b2 : Option Addr, ∃ c2 : Nat, v = .agg #[.int .i64 ((F_partOfModel mp0 mp1 mp2 mask).1), .slice b1 ((F_partOfModel mp0 mp1 mp2 mask).2.1).length c1, .slice b2 ((F_partOfModel mp0 mp1 mp2 mask).2.2).length c2] ∧ Own2 w' w.heap.size 2 b1 ((F_partOfModel mp0 mp1 mp2 mask).2.1).length c1 ((F_partOfModel mp0 mp1 mp2 mask).2.1) b2 ((F_partOfModel mp0 mp1 mp2 mask).2.2).length c2 ((F_partOfModel mp0 mp1 mp2 mask).2.2) ∧ Ext w w') := by
  obtain rfl : mp1N = mp1.length := mp1R.len1.symm
  have mp1Le := mp1R.le
  obtain rfl : mp2N = mp2.length := mp2R.len1.symm
  have mp2Le := mp2R.le
  have hS := St.nil w
  have hS1 := St.rd0 hS rfl mp1R; clear hS
  have hS2 := St.rd0 hS1 rfl mp2R; clear hS1
  refine enter (args := [.agg #[.int .i64 mp0, .slice mp1A mp1.length mp1C, .slice mp2A mp2.length mp2C], .int .i64 mask]) Try.func75 rfl rfl ?_
  rw [Try.ntmps75]; intro a hE
  have hE := hE.sub (L' := [(0, .agg #[.int .i64 mp0, .slice mp1A mp1.length mp1C, .slice mp2A mp2.length mp2C]), (1, .int .i64 mask)]) ⟨rfl, rfl, trivial⟩
  refine c_seq ?_
  refine c_reg ?_
  refine l_step hE rfl (l_box (v := .agg #[.int .i64 mp0, .slice mp1A mp1.length mp1C, .slice mp2A mp2.length mp2C]) (cs := #[.int .i64 mp0, .slice mp1A mp1.length mp1C, .slice mp2A mp2.length mp2C]) hS2 hE rfl rfl rfl ?_)
  intro b3 w4 hS7 he8 a5 hE6; clear hS2 hE
  refine l_step hE6 rfl (l_alloc (z := .agg #[.int .i64 0, .slice none 0 0, .slice none 0 0]) (cs := #[.int .i64 0, .slice none 0 0, .slice none 0 0]) hS7 hE6 (fun _ => by kernel_rfl) rfl rfl ?_)
  intro b9 w10 hS13 he14 a11 hE12; clear hS7 hE6
  refine c_nil ?_
  have hE15 := hE12.sub (L' := [(1, .int .i64 mask), (2, .pointer (some ⟨b3, 0, none⟩)), (4, .pointer (some ⟨b9, 0, none⟩))]) ⟨rfl, rfl, rfl, trivial⟩; clear hE12
  refine p_tn ?_
  refine c_seq ?_
  refine c_reg ?_
  refine q_step (v := .pointer (some ⟨b3, 0, none⟩)) hE15 (y_field rfl (fun _ => by kernel_rfl)) rfl rfl rfl ?_; intro a16 hE17; clear hE15
  refine q_step (v := .pointer (some ⟨b3, 1, none⟩)) hE17 (y_field rfl (fun _ => by kernel_rfl)) rfl rfl rfl ?_; intro a18 hE19; clear hE17
  refine q_step (v := .slice mp1A mp1.length mp1C) hE19 (y_load (fun _ => by kernel_rfl) rfl (St.cell (i := 1) hS13 rfl rfl)) rfl rfl rfl ?_; intro a20 hE21; clear hE19
  refine q_step (v := .int .i64 mask) hE21 (y_move rfl) rfl rfl rfl ?_; intro a22 hE23; clear hE21
  refine l_step hE23 rfl (l_call (f := 132) (argv := [.slice mp1A mp1.length mp1C, .int .i64 mask]) hE23 (fun _ => cf_partOn _ _) rfl rfl (c_partOn mp1A mp1.length mp1C mp1 mask w10 (St.rdR (i := 3) hS13 rfl) (by omega) (by omega) (by rw [h5mp.2]; exact hm.2) (by omega)) ?_)
  rintro _ w25 ⟨b30, c31, rfl, ho32, he29⟩ a26 hE27; clear hE23
  have hS28 := St.own hS13 he29 ho32; clear hS13
  refine l_step hE27 rfl (l_call (f := 68) (argv := [.slice b30 ((F_partOn mp1 mask).length) c31]) hE27 (fun _ => cf_frameOf _ _) rfl rfl (c_frameOf b30 ((F_partOn mp1 mask).length) c31 (F_partOn mp1 mask) w25 (St.rdO (i := 0) hS28 rfl)) ?_)
  rintro _ w34 ⟨rfl, he38⟩ a35 hE36; clear hE27
  have hS37 := St.go hS28 he38; clear hS28
  refine q_step (v := .agg #[.int .i64 ((F_frameOf (F_partOn mp1 mask)).1), .slice b30 ((F_partOn mp1 mask).length) c31, .slice none 0 0]) hE36 (y_build (vs := #[(0, .agg #[.int .i64 ((F_frameOf (F_partOn mp1 mask)).1), .slice b30 ((F_partOn mp1 mask).length) c31])]) (fun a n hE => by simp only [hE.eval (x := .tmp 13) (v := .agg #[.int .i64 ((F_frameOf (F_partOn mp1 mask)).1), .slice b30 ((F_partOn mp1 mask).length) c31]) rfl, List.map_toArray, List.map_cons, List.map_nil]) (fun _ => by kernel_rfl)) rfl rfl rfl ?_; intro a39 hE40; clear hE36
  refine l_step hE40 rfl (l_alloc (z := .agg #[.int .i64 0, .slice none 0 0, .slice none 0 0]) (cs := #[.int .i64 0, .slice none 0 0, .slice none 0 0]) hS37 hE40 (fun _ => by kernel_rfl) rfl rfl ?_)
  intro b41 w42 hS45 he46 a43 hE44; clear hS37 hE40
  refine l_step hE44 rfl (l_storeS (k := 0) (cs' := #[.int .i64 ((F_frameOf (F_partOn mp1 mask)).1), .slice b30 ((F_partOn mp1 mask).length) c31, .slice none 0 0]) hS45 hE44 (by kernel_rfl) rfl rfl (by kernel_rfl) rfl rfl ?_)
  intro w48 hS51 a49 hE50; clear hS45 hE44
  refine c_nil ?_
  have hE53 := hE50.sub (L' := [(1, .int .i64 mask), (2, .pointer (some ⟨b3, 0, none⟩)), (4, .pointer (some ⟨b9, 0, none⟩)), (5, .pointer (some ⟨b41, 0, none⟩))]) ⟨rfl, rfl, rfl, rfl, trivial⟩; clear hE50
  refine p_tn ?_
  refine c_seq ?_
  refine c_seq ?_
  refine c_reg ?_
  refine q_step (v := .pointer (some ⟨b3, 2, none⟩)) hE53 (y_field rfl (fun _ => by kernel_rfl)) rfl rfl rfl ?_; intro a54 hE55; clear hE53
  refine q_step (v := .slice mp2A mp2.length mp2C) hE55 (y_load (fun _ => by kernel_rfl) rfl (St.cell (i := 3) hS51 rfl rfl)) rfl rfl rfl ?_; intro a56 hE57; clear hE55
  refine q_step (v := .int .i64 (mp2.length : Int)) hE57 (y_len (e := 2) (by kernel_rfl) rfl) rfl rfl rfl ?_; intro a58 hE59; clear hE57
  refine q_step (v := .int .i64 0) hE59 (y_move rfl) rfl rfl rfl ?_; intro a60 hE61; clear hE59
  refine c_nil ?_
  have hE62 := hE61.sub (L' := [(1, .int .i64 mask), (4, .pointer (some ⟨b9, 0, none⟩)), (5, .pointer (some ⟨b41, 0, none⟩)), (16, .slice mp2A mp2.length mp2C), (17, .int .i64 (mp2.length : Int)), (18, .int .i64 0)]) ⟨rfl, rfl, rfl, rfl, rfl, rfl, trivial⟩; clear hE61
  refine p_tn ?_
  have hS63 := St.nils hS51 2 1; clear hS51
  have hS64 := St.nils hS63 2 1; clear hS63
  have hS65 := St.nils hS64 2 1; clear hS64
  refine c_cut1 (fun a' w' => ∃ q6_2A_66 : Option Addr, ∃ q6_2C_66 : Nat, (0 ≤ ((F_partOfModel_L1 mp2 mask (Int.toNat ((mp2.length : Int) - 0) + 1) 0 ([])).1)) ∧ (((F_partOfModel_L1 mp2 mask (Int.toNat ((mp2.length : Int) - 0) + 1) 0 ([])).1) ≤ (mp2.length : Int)) ∧ ((((F_partOfModel_L1 mp2 mask (Int.toNat ((mp2.length : Int) - 0) + 1) 0 ([])).2).length : Int) ≤ ((F_partOfModel_L1 mp2 mask (Int.toNat ((mp2.length : Int) - 0) + 1) 0 ([])).1)) ∧ E a' 32 [(1, .int .i64 mask), (4, .pointer (some ⟨b9, 0, none⟩)), (5, .pointer (some ⟨b41, 0, none⟩)), (16, .slice mp2A mp2.length mp2C), (17, .int .i64 (mp2.length : Int)), (18, .int .i64 ((F_partOfModel_L1 mp2 mask (Int.toNat ((mp2.length : Int) - 0) + 1) 0 ([])).1))] ∧ St w w' [.own 2 1 none 0 0 ([]), .own 2 1 none 0 0 ([]), .own 2 1 q6_2A_66 (((F_partOfModel_L1 mp2 mask (Int.toNat ((mp2.length : Int) - 0) + 1) 0 ([])).2).length) q6_2C_66 ((F_partOfModel_L1 mp2 mask (Int.toNat ((mp2.length : Int) - 0) + 1) 0 ([])).2), .blk b41 #[.int .i64 ((F_frameOf (F_partOn mp1 mask)).1), .slice b30 ((F_partOn mp1 mask).length) c31, .slice q6_2A_66 (((F_partOfModel_L1 mp2 mask (Int.toNat ((mp2.length : Int) - 0) + 1) 0 ([])).2).length) q6_2C_66] 38, .own 2 1 b30 ((F_partOn mp1 mask).length) c31 (F_partOn mp1 mask), .blk b9 #[.int .i64 0, .slice none 0 0, .slice none 0 0] 38, .blk b3 #[.int .i64 mp0, .slice mp1A mp1.length mp1C, .slice mp2A mp2.length mp2C] 38, .rd 1 mp2A mp2.length mp2C mp2, .rd 1 mp1A mp1.length mp1C mp1]) ?_ ?_
  ·
    refine wp_block ?_
    refine c_loop (fun r a' w' => ∃ t18 : Int, ∃ q6_2 : List Int, ∃ q6_2A : Option Addr, ∃ q6_2C : Nat, F_partOfModel_L1 mp2 mask r t18 q6_2 = F_partOfModel_L1 mp2 mask (Int.toNat ((mp2.length : Int) - 0) + 1) 0 ([]) ∧ Int.toNat ((mp2.length : Int) - t18) < r ∧ (0 ≤ t18) ∧ (t18 ≤ (mp2.length : Int)) ∧ ((q6_2.length : Int) ≤ t18) ∧ E a' 32 [(1, .int .i64 mask), (4, .pointer (some ⟨b9, 0, none⟩)), (5, .pointer (some ⟨b41, 0, none⟩)), (16, .slice mp2A mp2.length mp2C), (17, .int .i64 (mp2.length : Int)), (18, .int .i64 t18)] ∧ St w w' [.own 2 1 none 0 0 ([]), .own 2 1 none 0 0 ([]), .own 2 1 q6_2A ((q6_2).length) q6_2C q6_2, .blk b41 #[.int .i64 ((F_frameOf (F_partOn mp1 mask)).1), .slice b30 ((F_partOn mp1 mask).length) c31, .slice q6_2A ((q6_2).length) q6_2C] 38, .own 2 1 b30 ((F_partOn mp1 mask).length) c31 (F_partOn mp1 mask), .blk b9 #[.int .i64 0, .slice none 0 0, .slice none 0 0] 38, .blk b3 #[.int .i64 mp0, .slice mp1A mp1.length mp1C, .slice mp2A mp2.length mp2C] 38, .rd 1 mp2A mp2.length mp2C mp2, .rd 1 mp1A mp1.length mp1C mp1]) (r := (Int.toNat ((mp2.length : Int) - 0) + 1)) ?_ ?_
    · exact ⟨0, [], none, 0, rfl, Nat.lt_succ_self _, (by first | omega | (simp only [List.length_append, List.length_cons, List.length_nil, sI_len, cond_true, cond_false]; omega) | (simp only [List.length_append, List.length_cons, List.length_nil, sI_len, cond_eq_ite, apply_ite List.length]; split <;> simp only [List.length_append, List.length_cons, List.length_nil, sI_len] <;> omega) | grind), (by first | omega | (simp only [List.length_append, List.length_cons, List.length_nil, sI_len, cond_true, cond_false]; omega) | (simp only [List.length_append, List.length_cons, List.length_nil, sI_len, cond_eq_ite, apply_ite List.length]; split <;> simp only [List.length_append, List.length_cons, List.length_nil, sI_len] <;> omega) | grind), (by first | omega | (simp only [List.length_append, List.length_cons, List.length_nil, sI_len, cond_true, cond_false]; omega) | (simp only [List.length_append, List.length_cons, List.length_nil, sI_len, cond_eq_ite, apply_ite List.length]; split <;> simp only [List.length_append, List.length_cons, List.length_nil, sI_len] <;> omega) | grind), (hE62.sub (L' := [(1, .int .i64 mask), (4, .pointer (some ⟨b9, 0, none⟩)), (5, .pointer (some ⟨b41, 0, none⟩)), (16, .slice mp2A mp2.length mp2C), (17, .int .i64 (mp2.length : Int)), (18, .int .i64 0)]) ⟨rfl, rfl, rfl, rfl, rfl, rfl, trivial⟩), (St.pick (Γ' := [.own 2 1 none 0 0 ([]), .own 2 1 none 0 0 ([]), .own 2 1 none 0 0 ([]), .blk b41 #[.int .i64 ((F_frameOf (F_partOn mp1 mask)).1), .slice b30 ((F_partOn mp1 mask).length) c31, .slice none 0 0] 38, .own 2 1 b30 ((F_partOn mp1 mask).length) c31 (F_partOn mp1 mask), .blk b9 #[.int .i64 0, .slice none 0 0, .slice none 0 0] 38, .blk b3 #[.int .i64 mp0, .slice mp1A mp1.length mp1C, .slice mp2A mp2.length mp2C] 38, .rd 1 mp2A mp2.length mp2C mp2, .rd 1 mp1A mp1.length mp1C mp1]) hS65 [0, 1, 2, 3, 4, 5, 6, 7, 8] (by decide) rfl)⟩
    ·
      clear hE62 hS65
      rintro r76 a67 w68 ⟨t18, q6_2, q6_2A, q6_2C, hT71, hr72, hi73, hi74, hi75, hE69, hS70⟩
      obtain ⟨r76, rfl⟩ : ∃ r', r76 = r' + 1 := ⟨r76 - 1, by omega⟩
      refine c_seq ?_
      refine c_reg ?_
      refine q_step (v := .bool (decide (t18 < (mp2.length : Int)))) hE69 (y_lss rfl rfl) rfl rfl rfl ?_; intro a77 hE78; clear hE69
      refine c_nil ?_
      have hE79 := hE78.sub (L' := [(1, .int .i64 mask), (4, .pointer (some ⟨b9, 0, none⟩)), (5, .pointer (some ⟨b41, 0, none⟩)), (16, .slice mp2A mp2.length mp2C), (17, .int .i64 (mp2.length : Int)), (18, .int .i64 t18), (19, .bool (decide (t18 < (mp2.length : Int))))]) ⟨rfl, rfl, rfl, rfl, rfl, rfl, rfl, trivial⟩; clear hE78
      refine p_tn ?_
      refine c_seq ?_
      refine c_cond hE79 rfl (fun ht80 => ?_) (fun ht80 => ?_)
      ·
        have hp81 := of_decide_eq_true ht80
        have hE82 := hE79; rw [ht80] at hE82; clear hE79
        refine wp_skip ?_
        refine p_tn ?_
        refine c_seq ?_
        refine wp_block ?_
        refine c_seq ?_
        refine c_reg ?_
        refine q_step (v := .pointer (some (adr mp2A (Int.toNat t18)))) hE82 (y_idx (by kernel_rfl) (fun _ => by kernel_rfl) rfl rfl (RdS.isS (m := t18) (St.rdR (i := 7) hS70 rfl) (by omega) (by omega)) (by omega) (by omega) (Nat.mul_one _).symm) rfl rfl rfl ?_; intro a83 hE84; clear hE82
        refine q_step (v := .int .i64 (gI mp2 t18)) hE84 (y_load (fun _ => by kernel_rfl) rfl (RdS.elt (St.rdR (i := 7) hS70 rfl) (by omega) (by omega))) rfl rfl rfl ?_; intro a85 hE86; clear hE84
        refine q_step (v := .int .i64 (gI mp2 t18)) hE86 (y_assign rfl) rfl rfl rfl ?_; intro a87 hE88; clear hE86
        refine c_nil ?_
        have hE89 := hE88.sub (L' := [(1, .int .i64 mask), (4, .pointer (some ⟨b9, 0, none⟩)), (5, .pointer (some ⟨b41, 0, none⟩)), (7, .int .i64 (gI mp2 t18)), (16, .slice mp2A mp2.length mp2C), (17, .int .i64 (mp2.length : Int)), (18, .int .i64 t18)]) ⟨rfl, rfl, rfl, rfl, rfl, rfl, rfl, trivial⟩; clear hE88
        refine p_tn ?_
        refine d_start (fun w' => w'.cell? ⟨b41, 2, none⟩ = some (.slice q6_2A ((q6_2).length) q6_2C) ∧ True) [1] 9 (by kernel_rfl) rfl ?_
        intro w90 he91; have hS92 := St.go hS70 he91; clear hS70
        refine d_pure (v := .pointer (some ⟨b41, 2, none⟩)) 0 rfl hE89 (y_field rfl (fun _ => by kernel_rfl)) rfl (by kernel_rfl) (by kernel_rfl) (by kernel_rfl) rfl rfl (fun _ _ _ h => h) ?_; intro a93 hE94; clear hE89
        refine d_take (v := .slice q6_2A ((q6_2).length) q6_2C) 1 rfl hE94 ⟨(St.cell (i := 3) hS92 rfl rfl _ (Ext.refl _)), trivial⟩ (y_load (fun _ => by kernel_rfl) rfl (fun _ h => h.1)) rfl rfl (by kernel_rfl) (by kernel_rfl) (by kernel_rfl) rfl rfl (fun _ _ _ h => h) ?_; intro a95 hE96; clear hE94
        refine d_pure (v := .int .i64 (gI mp2 t18)) 2 rfl hE96 (y_move rfl) rfl (by kernel_rfl) (by kernel_rfl) (by kernel_rfl) rfl rfl (fun _ _ _ h => h) ?_; intro a97 hE98; clear hE96
        refine d_pure (v := .int .i64 mask) 3 rfl hE98 (y_move rfl) rfl (by kernel_rfl) (by kernel_rfl) (by kernel_rfl) rfl rfl (fun _ _ _ h => h) ?_; intro a99 hE100; clear hE98
        refine d_only 4 (by kernel_rfl) rfl hE100 rfl (l_call (f := 86) (argv := [.int .i64 (gI mp2 t18), .int .i64 mask]) hE100 (fun _ => cf_squeeze _ _) rfl rfl (c_squeeze (gI mp2 t18) mask w90 (by omega) (by omega)) ?_)
        rintro _ w102 ⟨rfl, he106⟩ a103 hE104; clear hE100
        have hS105 := St.go hS92 he106; clear hS92
        refine ⟨fun _ _ => ⟨(St.cell (i := 3) hS105 rfl rfl _ (Ext.refl _)), trivial⟩, ?_⟩
        refine d_only 5 (by kernel_rfl) rfl hE104 rfl (l_lit (e := 2) (s := 1) (xs := [F_squeeze (gI mp2 t18) mask]) (vs := [.int .i64 (F_squeeze (gI mp2 t18) mask)]) hS105 hE104 rfl (fun _ => by kernel_rfl) rfl rfl rfl ?_)
        intro b107 w108 hS111 he112 a109 hE110; clear hS105 hE104
        refine ⟨fun _ _ => ⟨(St.cell (i := 4) hS111 rfl rfl _ (Ext.refl _)), trivial⟩, ?_⟩
        obtain ⟨_, hi1, hi2, hi3, hi4⟩ := info_parts (show (Try.prog.info? 2).map (fun i => (i.zero, i.size, i.bytes)) = some (some (.int .i64 0), 1, 8) by kernel_rfl)
        refine d_only 6 (by kernel_rfl) rfl hE110 rfl (l_append (k := 3) (n' := (q6_2 ++ ([F_squeeze (gI mp2 t18) mask])).length) hS111 hE110 (by kernel_rfl) hi1 hi2 hi3 rfl (by decide) (by rw [hi4]; decide) rfl rfl rfl (St.rdO (i := 0) hS111 rfl) (by first | omega | (simp only [List.length_append, List.length_cons, List.length_nil]; omega)) (by have h1 := (St.rdO (i := 3) hS111 rfl).len1; have h2 := (St.rdO (i := 0) hS111 rfl).len1; rw [List.length_append, h1, h2]) rfl ?_)
        intro b113 c119 w114 hS117 a115 hE116; clear hS111 hE110 hi1 hi2 hi3 hi4
        refine ⟨fun h => Bool.noConfusion (h.symm.trans (show exm _ _ _ = true by kernel_rfl)), ?_⟩
        refine d_pure (v := .pointer (some ⟨b41, 2, none⟩)) 7 rfl hE116 (y_field rfl (fun _ => by kernel_rfl)) rfl (by kernel_rfl) (by kernel_rfl) (by kernel_rfl) rfl rfl (fun _ _ _ h => h) ?_; intro a120 hE121; clear hE116
        refine d_only 8 (by kernel_rfl) rfl hE121 rfl (l_storeB (k := 4) (cs' := #[.int .i64 ((F_frameOf (F_partOn mp1 mask)).1), .slice b30 ((F_partOn mp1 mask).length) c31, .slice b113 ((q6_2 ++ ([F_squeeze (gI mp2 t18) mask])).length) c119]) hS117 hE121 (fun _ => by kernel_rfl) rfl rfl rfl rfl rfl rfl rfl ?_)
        intro w123 hS126 a124 hE125; clear hS117 hE121
        refine ⟨fun h => Bool.noConfusion (h.symm.trans (show exm _ _ _ = true by kernel_rfl)), ?_⟩
        refine d_done (by kernel_rfl) ?_
        have hE128 := hE125.sub (L' := [(1, .int .i64 mask), (4, .pointer (some ⟨b9, 0, none⟩)), (5, .pointer (some ⟨b41, 0, none⟩)), (16, .slice mp2A mp2.length mp2C), (17, .int .i64 (mp2.length : Int)), (18, .int .i64 t18)]) ⟨rfl, rfl, rfl, rfl, rfl, rfl, trivial⟩; clear hE125
        refine p_bn ?_
        refine p_tn ?_
        refine c_reg ?_
        refine q_step (v := .int .i64 (t18 + 1)) hE128 (y_add rfl rfl ⟨(by omega), (by omega)⟩) rfl rfl rfl ?_; intro a129 hE130; clear hE128
        refine q_step (v := .int .i64 (t18 + 1)) hE130 (y_move rfl) rfl rfl rfl ?_; intro a131 hE132; clear hE130
        refine c_nil ?_
        have hE133 := hE132.sub (L' := [(1, .int .i64 mask), (4, .pointer (some ⟨b9, 0, none⟩)), (5, .pointer (some ⟨b41, 0, none⟩)), (16, .slice mp2A mp2.length mp2C), (17, .int .i64 (mp2.length : Int)), (18, .int .i64 (t18 + 1))]) ⟨rfl, rfl, rfl, rfl, rfl, rfl, trivial⟩; clear hE132
        refine p_tn ⟨r76, Nat.lt_succ_self _, t18 + 1, q6_2 ++ ([F_squeeze (gI mp2 t18) mask]), b113, c119, (hT71.symm.trans (show F_partOfModel_L1b mp2 mask (F_partOfModel_L1 mp2 mask r76) t18 q6_2 = F_partOfModel_L1 mp2 mask r76 (t18 + 1) (q6_2 ++ ([F_squeeze (gI mp2 t18) mask])) by unfold F_partOfModel_L1b; rw [ht80]; first | done | rfl)).symm, (by omega), (by first | omega | (simp only [List.length_append, List.length_cons, List.length_nil, sI_len, cond_true, cond_false]; omega) | (simp only [List.length_append, List.length_cons, List.length_nil, sI_len, cond_eq_ite, apply_ite List.length]; split <;> simp only [List.length_append, List.length_cons, List.length_nil, sI_len] <;> omega) | grind), (by first | omega | (simp only [List.length_append, List.length_cons, List.length_nil, sI_len, cond_true, cond_false]; omega) | (simp only [List.length_append, List.length_cons, List.length_nil, sI_len, cond_eq_ite, apply_ite List.length]; split <;> simp only [List.length_append, List.length_cons, List.length_nil, sI_len] <;> omega) | grind), (by first | omega | (simp only [List.length_append, List.length_cons, List.length_nil, sI_len, cond_true, cond_false]; omega) | (simp only [List.length_append, List.length_cons, List.length_nil, sI_len, cond_eq_ite, apply_ite List.length]; split <;> simp only [List.length_append, List.length_cons, List.length_nil, sI_len] <;> omega) | grind), (hE133.sub (L' := [(1, .int .i64 mask), (4, .pointer (some ⟨b9, 0, none⟩)), (5, .pointer (some ⟨b41, 0, none⟩)), (16, .slice mp2A mp2.length mp2C), (17, .int .i64 (mp2.length : Int)), (18, .int .i64 (t18 + 1))]) ⟨rfl, rfl, rfl, rfl, rfl, rfl, trivial⟩), (St.pick (Γ' := [.own 2 1 none 0 0 ([]), .own 2 1 none 0 0 ([]), .own 2 1 b113 ((q6_2 ++ ([F_squeeze (gI mp2 t18) mask])).length) c119 (q6_2 ++ ([F_squeeze (gI mp2 t18) mask])), .blk b41 #[.int .i64 ((F_frameOf (F_partOn mp1 mask)).1), .slice b30 ((F_partOn mp1 mask).length) c31, .slice b113 ((q6_2 ++ ([F_squeeze (gI mp2 t18) mask])).length) c119] 38, .own 2 1 b30 ((F_partOn mp1 mask).length) c31 (F_partOn mp1 mask), .blk b9 #[.int .i64 0, .slice none 0 0, .slice none 0 0] 38, .blk b3 #[.int .i64 mp0, .slice mp1A mp1.length mp1C, .slice mp2A mp2.length mp2C] 38, .rd 1 mp2A mp2.length mp2C mp2, .rd 1 mp1A mp1.length mp1C mp1]) hS126 [1, 2, 3, 4, 5, 6, 7, 8, 9] (by decide) rfl)⟩
      ·
        have hp134 := of_decide_eq_false ht80
        have hE135 := hE79; rw [ht80] at hE135; clear hE79
        refine wp_exit ?_
        refine p_te ?_
        have hX136 : F_partOfModel_L1 mp2 mask (Int.toNat ((mp2.length : Int) - 0) + 1) 0 ([]) = (t18, q6_2) := hT71.symm.trans (show F_partOfModel_L1b mp2 mask (F_partOfModel_L1 mp2 mask r76) t18 q6_2 = (t18, q6_2) by unfold F_partOfModel_L1b; rw [ht80]; first | done | rfl)
        refine p_te (p_be (p_tn ?_))
        exact ⟨q6_2A, q6_2C, (by rw [hX136]; exact (show 0 ≤ t18 from (by first | omega | (simp only [List.length_append, List.length_cons, List.length_nil, sI_len, cond_true, cond_false]; omega) | (simp only [List.length_append, List.length_cons, List.length_nil, sI_len, cond_eq_ite, apply_ite List.length]; split <;> simp only [List.length_append, List.length_cons, List.length_nil, sI_len] <;> omega) | grind))), (by rw [hX136]; exact (show t18 ≤ (mp2.length : Int) from (by first | omega | (simp only [List.length_append, List.length_cons, List.length_nil, sI_len, cond_true, cond_false]; omega) | (simp only [List.length_append, List.length_cons, List.length_nil, sI_len, cond_eq_ite, apply_ite List.length]; split <;> simp only [List.length_append, List.length_cons, List.length_nil, sI_len] <;> omega) | grind))), (by rw [hX136]; exact (show (q6_2.length : Int) ≤ t18 from (by first | omega | (simp only [List.length_append, List.length_cons, List.length_nil, sI_len, cond_true, cond_false]; omega) | (simp only [List.length_append, List.length_cons, List.length_nil, sI_len, cond_eq_ite, apply_ite List.length]; split <;> simp only [List.length_append, List.length_cons, List.length_nil, sI_len] <;> omega) | grind))), (by rw [hX136]; exact (hE135.sub (L' := [(1, .int .i64 mask), (4, .pointer (some ⟨b9, 0, none⟩)), (5, .pointer (some ⟨b41, 0, none⟩)), (16, .slice mp2A mp2.length mp2C), (17, .int .i64 (mp2.length : Int)), (18, .int .i64 t18)]) ⟨rfl, rfl, rfl, rfl, rfl, rfl, trivial⟩)), (by rw [hX136]; exact (St.pick (Γ' := [.own 2 1 none 0 0 ([]), .own 2 1 none 0 0 ([]), .own 2 1 q6_2A ((q6_2).length) q6_2C q6_2, .blk b41 #[.int .i64 ((F_frameOf (F_partOn mp1 mask)).1), .slice b30 ((F_partOn mp1 mask).length) c31, .slice q6_2A ((q6_2).length) q6_2C] 38, .own 2 1 b30 ((F_partOn mp1 mask).length) c31 (F_partOn mp1 mask), .blk b9 #[.int .i64 0, .slice none 0 0, .slice none 0 0] 38, .blk b3 #[.int .i64 mp0, .slice mp1A mp1.length mp1C, .slice mp2A mp2.length mp2C] 38, .rd 1 mp2A mp2.length mp2C mp2, .rd 1 mp1A mp1.length mp1C mp1]) hS70 [0, 1, 2, 3, 4, 5, 6, 7, 8] (by decide) rfl))⟩
  ·
    rintro a137 w138 ⟨q6_2A_66, q6_2C_66, hi142, hi143, hi144, hE139, hS140⟩; clear hE62 hS65
    refine p_tn ?_
    refine c_seq ?_
    refine c_reg ?_
    refine q_step (v := .agg #[.int .i64 ((F_frameOf (F_partOn mp1 mask)).1), .slice b30 ((F_partOn mp1 mask).length) c31, .slice q6_2A_66 (((F_partOfModel_L1 mp2 mask (Int.toNat ((mp2.length : Int) - 0) + 1) 0 ([])).2).length) q6_2C_66]) hE139 (y_loadS Try.underlying38 rfl (by kernel_rfl) rfl (St.row (i := 3) hS140 rfl)) rfl rfl rfl ?_; intro a145 hE146; clear hE139
    refine l_step hE146 rfl (l_storeS (k := 5) (cs' := #[.int .i64 ((F_frameOf (F_partOn mp1 mask)).1), .slice b30 ((F_partOn mp1 mask).length) c31, .slice q6_2A_66 (((F_partOfModel_L1 mp2 mask (Int.toNat ((mp2.length : Int) - 0) + 1) 0 ([])).2).length) q6_2C_66]) hS140 hE146 (by kernel_rfl) rfl rfl (by kernel_rfl) rfl rfl ?_)
    intro w148 hS151 a149 hE150; clear hS140 hE146
    refine c_nil ?_
    have hE153 := hE150.sub (L' := [(4, .pointer (some ⟨b9, 0, none⟩))]) ⟨rfl, trivial⟩; clear hE150
    refine p_tn ?_
    refine wp_ret ?_
    have hF : F_partOfModel mp0 mp1 mp2 mask = ((F_frameOf (F_partOn mp1 mask)).1, F_partOn mp1 mask, (F_partOfModel_L1 mp2 mask (Int.toNat ((mp2.length : Int) - 0) + 1) 0 ([])).2) := by unfold F_partOfModel; rfl
    refine c_retC hE153 rfl rfl Try.underlying38 rfl (by kernel_rfl) (St.row (i := 5) hS151 rfl _ (Ext.refl _)) ?_
    exact ⟨b30, c31, q6_2A_66, q6_2C_66, (by rw [hF]; first | done | rfl), (by rw [hF]; exact St.own2 4 2 hS151 rfl rfl (by decide)), hS151.ext⟩

theorem part_len8 {f0 : Int} {f1 : List Int} {mask : Int} (h : 0 ≤ f0 ∧ f0 ≤ 8) (hm : 0 ≤ mask ∧ mask ≤ fullI f0) : (F_partOn f1 mask).length ≤ 10 := by
  have hs := mask_sm h hm.2
  have hL := list_lt (f0 := f0) (mask := mask) ⟨h.1, by omega⟩ hm
  unfold F_partOn
  rw [part_loop hm.1 hs, ← l01List_eq hm.1 hs]
  have := Part_len f1 mask (Int.toNat (((F_l01List mask).length : Int) - 0) + 1) [] 0
  rw [List.length_nil] at this
  omega

def F_PartOfModel (mp0 : Int) (mp1 : List Int) (mp2 : List Int) (mask : Int) : (Int × List Int × List Int) × (Int) :=
  bif (!(F_isModel mp0 mp1 mp2)) then ((0, [], []), 1) else (bif (!(F_isMask mp0 mask)) then ((0, [], []), 2) else (((F_partOfModel mp0 mp1 mp2 mask).1, (F_partOfModel mp0 mp1 mp2 mask).2.1, (F_partOfModel mp0 mp1 mp2 mask).2.2), 0))
theorem cf_PartOfModel (args : Array Value) (w : World) : (callFunc 35 args).run Try.prog w = .ok (.enter 35 args) w := by kernel_rfl
set_option maxRecDepth 100000 in
theorem c_PartOfModel (mp0 : Int) (mp1A : Option Addr) (mp1N mp1C : Nat) (mp1 : List Int) (mp2A : Option Addr) (mp2N mp2C : Nat) (mp2 : List Int) (mask : Int) (w : World) (mp1R : RdS w 1 mp1A mp1N mp1C mp1) (mp2R : RdS w 1 mp2A mp2N mp2C mp2) :
    Calls Try.prog 35 #[.agg #[.int .i64 mp0, .slice mp1A mp1N mp1C, .slice mp2A mp2N mp2C], .int .i64 mask] w (Ret fun v w' => ∃ b1 : Option Addr, ∃ c1 : Nat, ∃ b2 : Option Addr, ∃ c2 : Nat, v = .tuple #[.agg #[.int .i64 (((F_PartOfModel mp0 mp1 mp2 mask).1).1), .slice b1 (((F_PartOfModel mp0 mp1 mp2 mask).1).2.1).length c1, .slice b2 (((F_PartOfModel mp0 mp1 mp2 mask).1).2.2).length c2], .int .i64 ((F_PartOfModel mp0 mp1 mp2 mask).2)] ∧ Own2 w' w.heap.size 2 b1 (((F_PartOfModel mp0 mp1 mp2 mask).1).2.1).length c1 (((F_PartOfModel mp0 mp1 mp2 mask).1).2.1) b2 (((F_PartOfModel mp0 mp1 mp2 mask).1).2.2).length c2 (((F_PartOfModel mp0 mp1 mp2 mask).1).2.2) ∧ Ext w w') := by
  obtain rfl : mp1N = mp1.length := mp1R.len1.symm
  have mp1Le := mp1R.le
  obtain rfl : mp2N = mp2.length := mp2R.len1.symm
  have mp2Le := mp2R.le
  have hS := St.nil w
  have hS1 := St.rd0 hS rfl mp1R; clear hS
  have hS2 := St.rd0 hS1 rfl mp2R; clear hS1
  refine enter (args := [.agg #[.int .i64 mp0, .slice mp1A mp1.length mp1C, .slice mp2A mp2.length mp2C], .int .i64 mask]) Try.func35 rfl rfl ?_
  rw [Try.ntmps35]; intro a hE
  have hE := hE.sub (L' := [(0, .agg #[.int .i64 mp0, .slice mp1A mp1.length mp1C, .slice mp2A mp2.length mp2C]), (1, .int .i64 mask)]) ⟨rfl, rfl, trivial⟩
  refine c_seq ?_
  refine c_reg ?_
  refine l_step hE rfl (l_box (v := .agg #[.int .i64 mp0, .slice mp1A mp1.length mp1C, .slice mp2A mp2.length mp2C]) (cs := #[.int .i64 mp0, .slice mp1A mp1.length mp1C, .slice mp2A mp2.length mp2C]) hS2 hE rfl rfl rfl ?_)
  intro b3 w4 hS7 he8 a5 hE6; clear hS2 hE
  refine l_step hE6 rfl (l_alloc (z := .agg #[.int .i64 0, .slice none 0 0, .slice none 0 0]) (cs := #[.int .i64 0, .slice none 0 0, .slice none 0 0]) hS7 hE6 (fun _ => by kernel_rfl) rfl rfl ?_)
  intro b9 w10 hS13 he14 a11 hE12; clear hS7 hE6
  refine q_step (v := .int .i64 0) hE12 (y_assign rfl) rfl rfl rfl ?_; intro a15 hE16; clear hE12
  refine c_nil ?_
  have hE17 := hE16.sub (L' := [(1, .int .i64 mask), (2, .pointer (some ⟨b3, 0, none⟩)), (4, .pointer (some ⟨b9, 0, none⟩))]) ⟨rfl, rfl, rfl, trivial⟩; clear hE16
  refine p_tn ?_
  refine c_seq ?_
  refine wp_block ?_
  refine c_seq ?_
  refine c_reg ?_
  refine q_step (v := .agg #[.int .i64 mp0, .slice mp1A mp1.length mp1C, .slice mp2A mp2.length mp2C]) hE17 (y_loadS Try.underlying38 rfl (by kernel_rfl) rfl (St.row (i := 1) hS13 rfl)) rfl rfl rfl ?_; intro a18 hE19; clear hE17
  refine l_step hE19 rfl (l_call (f := 65) (argv := [.agg #[.int .i64 mp0, .slice mp1A mp1.length mp1C, .slice mp2A mp2.length mp2C]]) hE19 (fun _ => cf_isModel _ _) rfl rfl (c_isModel mp0 mp1A mp1.length mp1C mp1 mp2A mp2.length mp2C mp2 w10 (St.rdR (i := 3) hS13 rfl) (St.rdR (i := 2) hS13 rfl)) ?_)
  rintro _ w21 ⟨rfl, he25⟩ a22 hE23; clear hE19
  have hS24 := St.go hS13 he25; clear hS13
  refine q_step (v := .bool (!(F_isModel mp0 mp1 mp2))) hE23 (y_not rfl) rfl rfl rfl ?_; intro a26 hE27; clear hE23
  refine q_step (v := .bool (!(F_isModel mp0 mp1 mp2))) hE27 (y_assign rfl) rfl rfl rfl ?_; intro a28 hE29; clear hE27
  refine c_nil ?_
  have hE30 := hE29.sub (L' := [(1, .int .i64 mask), (2, .pointer (some ⟨b3, 0, none⟩)), (4, .pointer (some ⟨b9, 0, none⟩)), (6, .bool (!(F_isModel mp0 mp1 mp2)))]) ⟨rfl, rfl, rfl, rfl, trivial⟩; clear hE29
  refine p_tn ?_
  refine c_cond hE30 rfl (fun ht31 => ?_) (fun ht31 => ?_)
  ·
    have ht32 := bn_t ht31
    have hE33 := hE30; rw [ht31] at hE33; clear hE30
    refine c_seq ?_
    refine c_reg ?_
    refine q_step (v := .agg #[.int .i64 0, .slice none 0 0, .slice none 0 0]) hE33 (y_build (vs := #[]) (fun a n hE => by simp) (fun _ => by kernel_rfl)) rfl rfl rfl ?_; intro a34 hE35; clear hE33
    refine l_step hE35 rfl (l_storeS (k := 0) (cs' := #[.int .i64 0, .slice none 0 0, .slice none 0 0]) hS24 hE35 (by kernel_rfl) rfl rfl (by kernel_rfl) rfl rfl ?_)
    intro w37 hS40 a38 hE39; clear hS24 hE35
    refine q_step (v := .int .i64 1) hE39 (y_assign rfl) rfl rfl rfl ?_; intro a42 hE43; clear hE39
    refine c_nil ?_
    have hE44 := hE43.sub (L' := [(4, .pointer (some ⟨b9, 0, none⟩)), (5, .int .i64 1)]) ⟨rfl, rfl, trivial⟩; clear hE43
    refine p_tn ?_
    refine wp_ret ?_
    refine p_br ?_
    refine p_tr ?_
    have hF : F_PartOfModel mp0 mp1 mp2 mask = ((0, [], []), 1) := by unfold F_PartOfModel; rw [ht31]; first | done | rfl
    refine c_retC2 hE44 rfl rfl rfl Try.underlying38 rfl (by kernel_rfl) (St.row (i := 0) hS40 rfl _ (Ext.refl _)) ?_
    have hS45 := St.nils hS40 2 1; clear hS40
    have hS46 := St.nils hS45 2 1; clear hS45
    exact ⟨none, 0, none, 0, (by rw [hF]; first | done | rfl), (by rw [hF]; exact St.own2 1 0 hS46 rfl rfl (by decide)), hS46.ext⟩
  ·
    have ht47 := bn_f ht31
    have hp48 := isModel_t ht47
    have hE49 := hE30; rw [ht31] at hE49; clear hE30
    refine c_seq ?_
    refine c_reg ?_
    refine q_step (v := .pointer (some ⟨b3, 0, none⟩)) hE49 (y_field rfl (fun _ => by kernel_rfl)) rfl rfl rfl ?_; intro a50 hE51; clear hE49
    refine q_step (v := .pointer (some ⟨b3, 0, none⟩)) hE51 (y_field rfl (fun _ => by kernel_rfl)) rfl rfl rfl ?_; intro a52 hE53; clear hE51
    refine q_step (v := .int .i64 mp0) hE53 (y_load (fun _ => by kernel_rfl) rfl (St.cell (i := 1) hS24 rfl rfl)) rfl rfl rfl ?_; intro a54 hE55; clear hE53
    refine q_step (v := .int .i64 mask) hE55 (y_move rfl) rfl rfl rfl ?_; intro a56 hE57; clear hE55
    refine l_step hE57 rfl (l_call (f := 74) (argv := [.int .i64 mp0, .int .i64 mask]) hE57 (fun _ => cf_isMask _ _) rfl rfl (c_isMask mp0 mask w21) ?_)
    rintro _ _ ⟨rfl, rfl⟩ a60 hE61; clear hE57
    refine q_step (v := .bool (!(F_isMask mp0 mask))) hE61 (y_not rfl) rfl rfl rfl ?_; intro a64 hE65; clear hE61
    refine q_step (v := .bool (!(F_isMask mp0 mask))) hE65 (y_assign rfl) rfl rfl rfl ?_; intro a66 hE67; clear hE65
    refine c_nil ?_
    have hE68 := hE67.sub (L' := [(1, .int .i64 mask), (2, .pointer (some ⟨b3, 0, none⟩)), (4, .pointer (some ⟨b9, 0, none⟩)), (11, .bool (!(F_isMask mp0 mask)))]) ⟨rfl, rfl, rfl, rfl, trivial⟩; clear hE67
    refine p_tn ?_
    refine c_cond hE68 rfl (fun ht69 => ?_) (fun ht69 => ?_)
    ·
      have ht70 := bn_t ht69
      have hE71 := hE68; rw [ht69] at hE71; clear hE68
      refine c_seq ?_
      refine c_reg ?_
      refine q_step (v := .agg #[.int .i64 0, .slice none 0 0, .slice none 0 0]) hE71 (y_build (vs := #[]) (fun a n hE => by simp) (fun _ => by kernel_rfl)) rfl rfl rfl ?_; intro a72 hE73; clear hE71
      refine l_step hE73 rfl (l_storeS (k := 0) (cs' := #[.int .i64 0, .slice none 0 0, .slice none 0 0]) hS24 hE73 (by kernel_rfl) rfl rfl (by kernel_rfl) rfl rfl ?_)
      intro w75 hS78 a76 hE77; clear hS24 hE73
      refine q_step (v := .int .i64 2) hE77 (y_assign rfl) rfl rfl rfl ?_; intro a80 hE81; clear hE77
      refine c_nil ?_
      have hE82 := hE81.sub (L' := [(4, .pointer (some ⟨b9, 0, none⟩)), (5, .int .i64 2)]) ⟨rfl, rfl, trivial⟩; clear hE81
      refine p_tn ?_
      refine wp_ret ?_
      refine p_br ?_
      refine p_tr ?_
      have hF : F_PartOfModel mp0 mp1 mp2 mask = ((0, [], []), 2) := by unfold F_PartOfModel; rw [ht69, ht31]; first | done | rfl
      refine c_retC2 hE82 rfl rfl rfl Try.underlying38 rfl (by kernel_rfl) (St.row (i := 0) hS78 rfl _ (Ext.refl _)) ?_
      have hS83 := St.nils hS78 2 1; clear hS78
      have hS84 := St.nils hS83 2 1; clear hS83
      exact ⟨none, 0, none, 0, (by rw [hF]; first | done | rfl), (by rw [hF]; exact St.own2 1 0 hS84 rfl rfl (by decide)), hS84.ext⟩
    ·
      have ht85 := bn_f ht69
      have hp86 := isMask_t ht85
      have hE87 := hE68; rw [ht69] at hE87; clear hE68
      refine wp_skip ?_
      refine p_bn ?_
      refine p_tn ?_
      refine c_seq ?_
      refine c_reg ?_
      refine q_step (v := .agg #[.int .i64 mp0, .slice mp1A mp1.length mp1C, .slice mp2A mp2.length mp2C]) hE87 (y_loadS Try.underlying38 rfl (by kernel_rfl) rfl (St.row (i := 1) hS24 rfl)) rfl rfl rfl ?_; intro a88 hE89; clear hE87
      refine q_step (v := .int .i64 mask) hE89 (y_move rfl) rfl rfl rfl ?_; intro a90 hE91; clear hE89
      refine l_step hE91 rfl (l_call (f := 75) (argv := [.agg #[.int .i64 mp0, .slice mp1A mp1.length mp1C, .slice mp2A mp2.length mp2C], .int .i64 mask]) hE91 (fun _ => cf_partOfModel _ _) rfl rfl (c_partOfModel mp0 mp1A mp1.length mp1C mp1 mp2A mp2.length mp2C mp2 mask w21 (St.rdR (i := 3) hS24 rfl) (St.rdR (i := 2) hS24 rfl) (by omega) (by omega) (by omega) (mask_sm (f0 := mp0) (by omega) (by omega))) ?_)
      rintro _ w93 ⟨b98, c99, b100, c101, rfl, ho102, he97⟩ a94 hE95; clear hE91
      have hS96 := St.push2 hS24 he97 ho102; clear hS24
      refine l_step hE95 rfl (l_storeS (k := 2) (cs' := #[.int .i64 ((F_partOfModel mp0 mp1 mp2 mask).1), .slice b98 (((F_partOfModel mp0 mp1 mp2 mask).2.1).length) c99, .slice b100 (((F_partOfModel mp0 mp1 mp2 mask).2.2).length) c101]) hS96 hE95 (by kernel_rfl) rfl rfl (by kernel_rfl) rfl rfl ?_)
      intro w105 hS108 a106 hE107; clear hS96 hE95
      refine q_step (v := .int .i64 0) hE107 (y_assign rfl) rfl rfl rfl ?_; intro a110 hE111; clear hE107
      refine c_nil ?_
      have hE112 := hE111.sub (L' := [(4, .pointer (some ⟨b9, 0, none⟩)), (5, .int .i64 0)]) ⟨rfl, rfl, trivial⟩; clear hE111
      refine p_tn ?_
      refine wp_ret ?_
      have hF : F_PartOfModel mp0 mp1 mp2 mask = (((F_partOfModel mp0 mp1 mp2 mask).1, (F_partOfModel mp0 mp1 mp2 mask).2.1, (F_partOfModel mp0 mp1 mp2 mask).2.2), 0) := by unfold F_PartOfModel; rw [ht69, ht31]; first | done | rfl
      refine c_retC2 hE112 rfl rfl rfl Try.underlying38 rfl (by kernel_rfl) (St.row (i := 2) hS108 rfl _ (Ext.refl _)) ?_
      exact ⟨b98, c99, b100, c101, (by rw [hF]; first | done | rfl), (by rw [hF]; exact St.own2 0 1 hS108 rfl rfl (by decide)), hS108.ext⟩

theorem PartOfModel_eq (mp0 : Int) (mp1 mp2 : List Int) (mask : Int) : F_PartOfModel mp0 mp1 mp2 mask = F_s_PartOfModel mp0 mp1 mp2 mask := by
  unfold F_PartOfModel F_s_PartOfModel
  rw [isModel_eq]
  cases h : F_l06Is mp0 mp1 mp2
  · rw [Bool.not_false, cond_true, cond_true]
  · have hm := l06Is_t h
    have e : F_isMask mp0 mask = F_l05Set mp0 mp1 mask := isMask_eq (by omega) (by omega)
    rw [e]
    cases hk : F_l05Set mp0 mp1 mask
    · rw [Bool.not_false, cond_true, cond_true]
    · have hk' := F_l05Set_t hk
      have hs := mask_sm hm.2.1.1 hk'.2
      unfold F_partOfModel F_frameOf F_l05Part F_partOn
      rw [part_loop hk'.1 hs, l01List_eq hk'.1 hs, mapLoopR0 (mp2.length : Int) (by omega) (fun v => F_squeeze (gI mp2 v) mask) (F_partOfModel_L1 mp2 mask) (fun _ _ _ => rfl), mapLoop0 (mp2.length : Int) (by omega) (fun v => F_l05Squeeze (F_l01List mask) (gI mp2 v)) (F_s_PartOfModel_L1 mp2 mask) (fun _ _ _ => rfl)]
      have e2 : (fun (j : Nat) => F_squeeze (gI mp2 (j : Int)) mask) = fun (j : Nat) => F_l05Squeeze (F_l01List mask) (gI mp2 (j : Int)) := by
        funext j; rw [l01List_eq hk'.1 hs, squeeze_eq hk'.1 hs]
      rw [e2]
theorem PartOfModel_len (mp0 : Int) (mp1 mp2 : List Int) (mask : Int) : (F_PartOfModel mp0 mp1 mp2 mask).1.2.1.length ≤ 16 ∧ (F_PartOfModel mp0 mp1 mp2 mask).1.2.2.length ≤ 6 := by
  unfold F_PartOfModel
  cases h : F_isModel mp0 mp1 mp2
  · simp
  · have hm := isModel_t h
    cases hk : F_isMask mp0 mask
    · simp
    · have hk' := isMask_t hk
      have h1 := part_len8 (f1 := mp1) hm.2.1.1 hk'.2
      refine ⟨by show (F_partOn mp1 mask).length ≤ 16; omega, ?_⟩
      show (F_partOfModel_L1 mp2 mask (Int.toNat ((mp2.length : Int) - 0) + 1) 0 ([])).2.length ≤ 6
      rw [mapLoopR0 (mp2.length : Int) (by omega) (fun v => F_squeeze (gI mp2 v) mask) (F_partOfModel_L1 mp2 mask) (fun _ _ _ => rfl), List.length_map, List.length_range]
      omega

end Go.Proofs.Ytejfjcjdilbkdaa
