/- GCG: models and contracts, printed by wip/gen/gen.py -/
import Derived.Test.YtlbonhloeefnmaaKCNGL
set_option linter.unusedVariables false
set_option linter.unusedSimpArgs false
namespace Go.Proofs.Ytlbonhloeefnmaa
open Go.RowKit
def F_areClasses_L1b (list : List Int) (rec : Int → Int → Except (Bool) (Int × Int)) (count3 : Int) (t8 : Int) : Except (Bool) (Int × Int) :=
  bif (decide (t8 < (list.length : Int))) then (bif (!(F_inRange (gI list t8) 0 count3)) then (.error false) else (bif (decide ((gI list t8) = count3)) then (rec (count3 + 1) (t8 + 1)) else (rec count3 (t8 + 1)))) else (.ok (count3, t8))
def F_areClasses_L1 (list : List Int) : Nat → Int → Int → Except (Bool) (Int × Int)
  | 0, count3, t8 => .ok (count3, t8)
  | r + 1, count3, t8 => F_areClasses_L1b list (F_areClasses_L1 list r) count3 t8
def F_areClasses (list : List Int) : Bool :=
  bif (isOk (F_areClasses_L1 list (Int.toNat ((list.length : Int) - 0) + 1) 0 0)) then true else (errD (F_areClasses_L1 list (Int.toNat ((list.length : Int) - 0) + 1) 0 0))
theorem cf_areClasses (args : Array Value) (w : World) : (callFunc 192 args).run Try.prog w = .ok (.enter 192 args) w := by kernel_rfl
set_option maxRecDepth 100000 in
theorem c_areClasses (listA : Option Addr) (listN listC : Nat) (list : List Int) (w : World) (listR : RdS w 1 listA listN listC list) (hl : list.length ≤ 1048576) :
    Calls Try.prog 192 #[.slice listA listN listC] w (Ret fun v w' => v = .bool (F_areClasses list) ∧ Ext w w') := by
  obtain rfl : listN = list.length := listR.len1.symm
  have listLe := listR.le
  have hS := St.nil w
  have hS1 := St.rd0 hS rfl listR; clear hS
  refine enter (args := [.slice listA list.length listC]) Try.func192 rfl rfl ?_
  rw [Try.ntmps192]; intro a hE
  have hE := hE.sub (L' := [(0, .slice listA list.length listC)]) ⟨rfl, trivial⟩
  refine c_seq ?_
  refine c_reg ?_
  refine q_step (v := .bool false) hE (y_assign rfl) rfl rfl rfl ?_; intro a2 hE3; clear hE
  refine c_nil ?_
  have hE4 := hE3.sub (L' := [(0, .slice listA list.length listC)]) ⟨rfl, trivial⟩; clear hE3
  refine p_tn ?_
  refine c_seq ?_
  refine c_reg ?_
  refine q_step (v := .int .i64 0) hE4 (y_assign rfl) rfl rfl rfl ?_; intro a5 hE6; clear hE4
  refine c_nil ?_
  have hE7 := hE6.sub (L' := [(0, .slice listA list.length listC), (3, .int .i64 0)]) ⟨rfl, rfl, trivial⟩; clear hE6
  refine p_tn ?_
  refine c_seq ?_
  refine c_seq ?_
  refine c_reg ?_
  refine q_step (v := .slice listA list.length listC) hE7 (y_move rfl) rfl rfl rfl ?_; intro a8 hE9; clear hE7
  refine q_step (v := .int .i64 (list.length : Int)) hE9 (y_len (e := 2) (by kernel_rfl) rfl) rfl rfl rfl ?_; intro a10 hE11; clear hE9
  refine q_step (v := .int .i64 0) hE11 (y_move rfl) rfl rfl rfl ?_; intro a12 hE13; clear hE11
  refine c_nil ?_
  have hE14 := hE13.sub (L' := [(3, .int .i64 0), (6, .slice listA list.length listC), (7, .int .i64 (list.length : Int)), (8, .int .i64 0)]) ⟨rfl, rfl, rfl, rfl, trivial⟩; clear hE13
  refine p_tn ?_
  refine c_cut1 (fun a' w' => isOk (F_areClasses_L1 list (Int.toNat ((list.length : Int) - 0) + 1) 0 0) = true ∧ (0 ≤ ((okD (F_areClasses_L1 list (Int.toNat ((list.length : Int) - 0) + 1) 0 0)).2)) ∧ (0 ≤ ((okD (F_areClasses_L1 list (Int.toNat ((list.length : Int) - 0) + 1) 0 0)).1)) ∧ (((okD (F_areClasses_L1 list (Int.toNat ((list.length : Int) - 0) + 1) 0 0)).1) ≤ ((okD (F_areClasses_L1 list (Int.toNat ((list.length : Int) - 0) + 1) 0 0)).2)) ∧ (((okD (F_areClasses_L1 list (Int.toNat ((list.length : Int) - 0) + 1) 0 0)).2) ≤ (list.length : Int)) ∧ E a' 22 [(3, .int .i64 ((okD (F_areClasses_L1 list (Int.toNat ((list.length : Int) - 0) + 1) 0 0)).1)), (6, .slice listA list.length listC), (7, .int .i64 (list.length : Int)), (8, .int .i64 ((okD (F_areClasses_L1 list (Int.toNat ((list.length : Int) - 0) + 1) 0 0)).2))] ∧ St w w' [.rd 1 listA list.length listC list]) ?_ ?_
  ·
   refine wp_block ?_
   refine c_loop (fun r a' w' => ∃ count3 : Int, ∃ t8 : Int, F_areClasses_L1 list r count3 t8 = F_areClasses_L1 list (Int.toNat ((list.length : Int) - 0) + 1) 0 0 ∧ Int.toNat ((list.length : Int) - t8) < r ∧ (0 ≤ t8) ∧ (0 ≤ count3) ∧ (count3 ≤ t8) ∧ (t8 ≤ (list.length : Int)) ∧ E a' 22 [(3, .int .i64 count3), (6, .slice listA list.length listC), (7, .int .i64 (list.length : Int)), (8, .int .i64 t8)] ∧ St w w' [.rd 1 listA list.length listC list]) (r := (Int.toNat ((list.length : Int) - 0) + 1)) ?_ ?_
   · exact ⟨0, 0, rfl, Nat.lt_succ_self _, (by first | omega | (simp only [sS_len, sL_len]; omega) | (simp only [List.length_replicate, sI_len]; omega) | (simp only [List.length_append, List.length_cons, List.length_nil, sI_len, cond_true, cond_false]; omega) | (simp only [List.length_append, List.length_cons, List.length_nil, sI_len, cond_eq_ite, apply_ite List.length]; split <;> simp only [List.length_append, List.length_cons, List.length_nil, sI_len] <;> omega) | grind), (by first | omega | (simp only [sS_len, sL_len]; omega) | (simp only [List.length_replicate, sI_len]; omega) | (simp only [List.length_append, List.length_cons, List.length_nil, sI_len, cond_true, cond_false]; omega) | (simp only [List.length_append, List.length_cons, List.length_nil, sI_len, cond_eq_ite, apply_ite List.length]; split <;> simp only [List.length_append, List.length_cons, List.length_nil, sI_len] <;> omega) | grind), (by first | omega | (simp only [sS_len, sL_len]; omega) | (simp only [List.length_replicate, sI_len]; omega) | (simp only [List.length_append, List.length_cons, List.length_nil, sI_len, cond_true, cond_false]; omega) | (simp only [List.length_append, List.length_cons, List.length_nil, sI_len, cond_eq_ite, apply_ite List.length]; split <;> simp only [List.length_append, List.length_cons, List.length_nil, sI_len] <;> omega) | grind), (by first | omega | (simp only [sS_len, sL_len]; omega) | (simp only [List.length_replicate, sI_len]; omega) | (simp only [List.length_append, List.length_cons, List.length_nil, sI_len, cond_true, cond_false]; omega) | (simp only [List.length_append, List.length_cons, List.length_nil, sI_len, cond_eq_ite, apply_ite List.length]; split <;> simp only [List.length_append, List.length_cons, List.length_nil, sI_len] <;> omega) | grind), (hE14.sub (L' := [(3, .int .i64 0), (6, .slice listA list.length listC), (7, .int .i64 (list.length : Int)), (8, .int .i64 0)]) ⟨rfl, rfl, rfl, rfl, trivial⟩), (St.pick (Γ' := [.rd 1 listA list.length listC list]) hS1 [0] (by decide) rfl)⟩
   ·
    clear hE14 hS1
    rintro r26 a16 w17 ⟨count3, t8, hT20, hr21, hi22, hi23, hi24, hi25, hE18, hS19⟩
    obtain ⟨r26, rfl⟩ : ∃ r', r26 = r' + 1 := ⟨r26 - 1, by omega⟩
    refine c_seq ?_
    refine c_reg ?_
    refine q_step (v := .bool (decide (t8 < (list.length : Int)))) hE18 (y_lss rfl rfl) rfl rfl rfl ?_; intro a27 hE28; clear hE18
    refine c_nil ?_
    have hE29 := hE28.sub (L' := [(3, .int .i64 count3), (6, .slice listA list.length listC), (7, .int .i64 (list.length : Int)), (8, .int .i64 t8), (9, .bool (decide (t8 < (list.length : Int))))]) ⟨rfl, rfl, rfl, rfl, rfl, trivial⟩; clear hE28
    refine p_tn ?_
    refine c_seq ?_
    refine c_cond hE29 rfl (fun ht30 => ?_) (fun ht30 => ?_)
    ·
     have hp31 := of_decide_eq_true ht30
     have hE32 := hE29; rw [ht30] at hE32; clear hE29
     refine wp_skip ?_
     refine p_tn ?_
     refine c_seq ?_
     refine wp_block ?_
     refine c_seq ?_
     refine c_reg ?_
     refine q_step (v := .pointer (some (adr listA (Int.toNat t8)))) hE32 (y_idx (by kernel_rfl) (fun _ => by kernel_rfl) rfl rfl (RdS.isS (m := t8) (St.rdR (i := 0) hS19 rfl) (by omega) (by omega)) (by omega) (by omega) (Nat.mul_one _).symm) rfl rfl rfl ?_; intro a33 hE34; clear hE32
     refine q_step (v := .int .i64 (gI list t8)) hE34 (y_load (fun _ => by kernel_rfl) rfl (RdS.elt (St.rdR (i := 0) hS19 rfl) (by omega) (by omega))) rfl rfl rfl ?_; intro a35 hE36; clear hE34
     refine q_step (v := .int .i64 (gI list t8)) hE36 (y_assign rfl) rfl rfl rfl ?_; intro a37 hE38; clear hE36
     refine c_nil ?_
     have hE39 := hE38.sub (L' := [(3, .int .i64 count3), (5, .int .i64 (gI list t8)), (6, .slice listA list.length listC), (7, .int .i64 (list.length : Int)), (8, .int .i64 t8)]) ⟨rfl, rfl, rfl, rfl, rfl, trivial⟩; clear hE38
     refine p_tn ?_
     refine c_seq ?_
     refine c_seq ?_
     refine c_reg ?_
     refine q_step (v := .int .i64 (gI list t8)) hE39 (y_move rfl) rfl rfl rfl ?_; intro a40 hE41; clear hE39
     refine q_step (v := .int .i64 count3) hE41 (y_move rfl) rfl rfl rfl ?_; intro a42 hE43; clear hE41
     refine l_step hE43 rfl (l_call (f := 87) (argv := [.int .i64 (gI list t8), .int .i64 0, .int .i64 count3]) hE43 (fun _ => cf_inRange _ _) rfl rfl (c_inRange (gI list t8) 0 count3 w17) ?_)
     rintro _ _ ⟨rfl, rfl⟩ a46 hE47; clear hE43
     refine q_step (v := .bool (!(F_inRange (gI list t8) 0 count3))) hE47 (y_not rfl) rfl rfl rfl ?_; intro a50 hE51; clear hE47
     refine c_nil ?_
     have hE52 := hE51.sub (L' := [(3, .int .i64 count3), (5, .int .i64 (gI list t8)), (6, .slice listA list.length listC), (7, .int .i64 (list.length : Int)), (8, .int .i64 t8), (15, .bool (!(F_inRange (gI list t8) 0 count3)))]) ⟨rfl, rfl, rfl, rfl, rfl, rfl, trivial⟩; clear hE51
     refine p_tn ?_
     refine c_cond hE52 rfl (fun ht53 => ?_) (fun ht53 => ?_)
     ·
      have ht54 := bn_t ht53
      have hE55 := hE52; rw [ht53] at hE55; clear hE52
      refine c_seq ?_
      refine c_reg ?_
      refine q_step (v := .bool false) hE55 (y_assign rfl) rfl rfl rfl ?_; intro a56 hE57; clear hE55
      refine c_nil ?_
      have hE58 := hE57.sub (L' := [(2, .bool false)]) ⟨rfl, trivial⟩; clear hE57
      refine p_tn ?_
      refine wp_ret ?_
      refine p_tr ?_
      refine p_br ?_
      refine p_tr ?_
      have hX59 : F_areClasses_L1 list (Int.toNat ((list.length : Int) - 0) + 1) 0 0 = .error false := hT20.symm.trans (show F_areClasses_L1b list (F_areClasses_L1 list r26) count3 t8 = .error false by unfold F_areClasses_L1b; rw [ht53, ht30]; first | done | rfl)
      refine p_tr (p_br (p_tr ?_))
      refine p_tr ?_
      have hF : F_areClasses list = false := by unfold F_areClasses; rw [hX59]; first | done | rfl
      refine c_ret1 hE58 rfl rfl ?_
      exact ⟨(by rw [hF]; first | done | (dsimp only; done) | rfl), hS19.ext⟩
     ·
      have ht60 := bn_f ht53
      have hE61 := hE52; rw [ht53] at hE61; clear hE52
      refine wp_skip ?_
      refine p_tn ?_
      refine c_seq ?_
      refine c_reg ?_
      refine q_step (v := .int .i64 (gI list t8)) hE61 (y_move rfl) rfl rfl rfl ?_; intro a62 hE63; clear hE61
      refine q_step (v := .int .i64 count3) hE63 (y_move rfl) rfl rfl rfl ?_; intro a64 hE65; clear hE63
      refine q_step (v := .bool (decide ((gI list t8) = count3))) hE65 (y_eql rfl rfl) rfl rfl rfl ?_; intro a66 hE67; clear hE65
      refine c_nil ?_
      have hE68 := hE67.sub (L' := [(3, .int .i64 count3), (6, .slice listA list.length listC), (7, .int .i64 (list.length : Int)), (8, .int .i64 t8), (18, .bool (decide ((gI list t8) = count3)))]) ⟨rfl, rfl, rfl, rfl, rfl, trivial⟩; clear hE67
      refine p_tn ?_
      refine c_cond hE68 rfl (fun ht69 => ?_) (fun ht69 => ?_)
      ·
       have hp70 := of_decide_eq_true ht69
       have hE71 := hE68; rw [ht69] at hE71; clear hE68
       refine c_reg ?_
       refine q_step (v := .int .i64 count3) hE71 (y_move rfl) rfl rfl rfl ?_; intro a72 hE73; clear hE71
       refine q_step (v := .int .i64 (count3 + 1)) hE73 (y_add rfl rfl ⟨(by omega), (by omega)⟩) rfl rfl rfl ?_; intro a74 hE75; clear hE73
       refine q_step (v := .int .i64 (count3 + 1)) hE75 (y_assign rfl) rfl rfl rfl ?_; intro a76 hE77; clear hE75
       refine c_nil ?_
       have hE78 := hE77.sub (L' := [(3, .int .i64 (count3 + 1)), (6, .slice listA list.length listC), (7, .int .i64 (list.length : Int)), (8, .int .i64 t8)]) ⟨rfl, rfl, rfl, rfl, trivial⟩; clear hE77
       refine p_bn ?_
       refine p_tn ?_
       refine c_reg ?_
       refine q_step (v := .int .i64 (t8 + 1)) hE78 (y_add rfl rfl ⟨(by omega), (by omega)⟩) rfl rfl rfl ?_; intro a79 hE80; clear hE78
       refine q_step (v := .int .i64 (t8 + 1)) hE80 (y_move rfl) rfl rfl rfl ?_; intro a81 hE82; clear hE80
       refine c_nil ?_
       have hE83 := hE82.sub (L' := [(3, .int .i64 (count3 + 1)), (6, .slice listA list.length listC), (7, .int .i64 (list.length : Int)), (8, .int .i64 (t8 + 1))]) ⟨rfl, rfl, rfl, rfl, trivial⟩; clear hE82
       refine p_tn ⟨r26, Nat.lt_succ_self _, count3 + 1, t8 + 1, (hT20.symm.trans (show F_areClasses_L1b list (F_areClasses_L1 list r26) count3 t8 = F_areClasses_L1 list r26 (count3 + 1) (t8 + 1) by unfold F_areClasses_L1b; rw [ht69, ht53, ht30]; first | done | rfl)).symm, (by omega), (by first | omega | (simp only [sS_len, sL_len]; omega) | (simp only [List.length_replicate, sI_len]; omega) | (simp only [List.length_append, List.length_cons, List.length_nil, sI_len, cond_true, cond_false]; omega) | (simp only [List.length_append, List.length_cons, List.length_nil, sI_len, cond_eq_ite, apply_ite List.length]; split <;> simp only [List.length_append, List.length_cons, List.length_nil, sI_len] <;> omega) | grind), (by first | omega | (simp only [sS_len, sL_len]; omega) | (simp only [List.length_replicate, sI_len]; omega) | (simp only [List.length_append, List.length_cons, List.length_nil, sI_len, cond_true, cond_false]; omega) | (simp only [List.length_append, List.length_cons, List.length_nil, sI_len, cond_eq_ite, apply_ite List.length]; split <;> simp only [List.length_append, List.length_cons, List.length_nil, sI_len] <;> omega) | grind), (by first | omega | (simp only [sS_len, sL_len]; omega) | (simp only [List.length_replicate, sI_len]; omega) | (simp only [List.length_append, List.length_cons, List.length_nil, sI_len, cond_true, cond_false]; omega) | (simp only [List.length_append, List.length_cons, List.length_nil, sI_len, cond_eq_ite, apply_ite List.length]; split <;> simp only [List.length_append, List.length_cons, List.length_nil, sI_len] <;> omega) | grind), (by first | omega | (simp only [sS_len, sL_len]; omega) | (simp only [List.length_replicate, sI_len]; omega) | (simp only [List.length_append, List.length_cons, List.length_nil, sI_len, cond_true, cond_false]; omega) | (simp only [List.length_append, List.length_cons, List.length_nil, sI_len, cond_eq_ite, apply_ite List.length]; split <;> simp only [List.length_append, List.length_cons, List.length_nil, sI_len] <;> omega) | grind), (hE83.sub (L' := [(3, .int .i64 (count3 + 1)), (6, .slice listA list.length listC), (7, .int .i64 (list.length : Int)), (8, .int .i64 (t8 + 1))]) ⟨rfl, rfl, rfl, rfl, trivial⟩), (St.pick (Γ' := [.rd 1 listA list.length listC list]) hS19 [0] (by decide) rfl)⟩
      ·
       have hp84 := of_decide_eq_false ht69
       have hE85 := hE68; rw [ht69] at hE85; clear hE68
       refine wp_skip ?_
       refine p_bn ?_
       refine p_tn ?_
       refine c_reg ?_
       refine q_step (v := .int .i64 (t8 + 1)) hE85 (y_add rfl rfl ⟨(by omega), (by omega)⟩) rfl rfl rfl ?_; intro a86 hE87; clear hE85
       refine q_step (v := .int .i64 (t8 + 1)) hE87 (y_move rfl) rfl rfl rfl ?_; intro a88 hE89; clear hE87
       refine c_nil ?_
       have hE90 := hE89.sub (L' := [(3, .int .i64 count3), (6, .slice listA list.length listC), (7, .int .i64 (list.length : Int)), (8, .int .i64 (t8 + 1))]) ⟨rfl, rfl, rfl, rfl, trivial⟩; clear hE89
       refine p_tn ⟨r26, Nat.lt_succ_self _, count3, t8 + 1, (hT20.symm.trans (show F_areClasses_L1b list (F_areClasses_L1 list r26) count3 t8 = F_areClasses_L1 list r26 count3 (t8 + 1) by unfold F_areClasses_L1b; rw [ht69, ht53, ht30]; first | done | rfl)).symm, (by omega), (by first | omega | (simp only [sS_len, sL_len]; omega) | (simp only [List.length_replicate, sI_len]; omega) | (simp only [List.length_append, List.length_cons, List.length_nil, sI_len, cond_true, cond_false]; omega) | (simp only [List.length_append, List.length_cons, List.length_nil, sI_len, cond_eq_ite, apply_ite List.length]; split <;> simp only [List.length_append, List.length_cons, List.length_nil, sI_len] <;> omega) | grind), (by first | omega | (simp only [sS_len, sL_len]; omega) | (simp only [List.length_replicate, sI_len]; omega) | (simp only [List.length_append, List.length_cons, List.length_nil, sI_len, cond_true, cond_false]; omega) | (simp only [List.length_append, List.length_cons, List.length_nil, sI_len, cond_eq_ite, apply_ite List.length]; split <;> simp only [List.length_append, List.length_cons, List.length_nil, sI_len] <;> omega) | grind), (by first | omega | (simp only [sS_len, sL_len]; omega) | (simp only [List.length_replicate, sI_len]; omega) | (simp only [List.length_append, List.length_cons, List.length_nil, sI_len, cond_true, cond_false]; omega) | (simp only [List.length_append, List.length_cons, List.length_nil, sI_len, cond_eq_ite, apply_ite List.length]; split <;> simp only [List.length_append, List.length_cons, List.length_nil, sI_len] <;> omega) | grind), (by first | omega | (simp only [sS_len, sL_len]; omega) | (simp only [List.length_replicate, sI_len]; omega) | (simp only [List.length_append, List.length_cons, List.length_nil, sI_len, cond_true, cond_false]; omega) | (simp only [List.length_append, List.length_cons, List.length_nil, sI_len, cond_eq_ite, apply_ite List.length]; split <;> simp only [List.length_append, List.length_cons, List.length_nil, sI_len] <;> omega) | grind), (hE90.sub (L' := [(3, .int .i64 count3), (6, .slice listA list.length listC), (7, .int .i64 (list.length : Int)), (8, .int .i64 (t8 + 1))]) ⟨rfl, rfl, rfl, rfl, trivial⟩), (St.pick (Γ' := [.rd 1 listA list.length listC list]) hS19 [0] (by decide) rfl)⟩
    ·
     have hp91 := of_decide_eq_false ht30
     have hE92 := hE29; rw [ht30] at hE92; clear hE29
     refine wp_exit ?_
     refine p_te ?_
     have hX93 : F_areClasses_L1 list (Int.toNat ((list.length : Int) - 0) + 1) 0 0 = .ok (count3, t8) := hT20.symm.trans (show F_areClasses_L1b list (F_areClasses_L1 list r26) count3 t8 = .ok (count3, t8) by unfold F_areClasses_L1b; rw [ht30]; first | done | rfl)
     refine p_te (p_be (p_tn ?_))
     exact ⟨(by rw [hX93]; rfl), (by rw [hX93]; exact (show 0 ≤ t8 from (by first | omega | (simp only [sS_len, sL_len]; omega) | (simp only [List.length_replicate, sI_len]; omega) | (simp only [List.length_append, List.length_cons, List.length_nil, sI_len, cond_true, cond_false]; omega) | (simp only [List.length_append, List.length_cons, List.length_nil, sI_len, cond_eq_ite, apply_ite List.length]; split <;> simp only [List.length_append, List.length_cons, List.length_nil, sI_len] <;> omega) | grind))), (by rw [hX93]; exact (show 0 ≤ count3 from (by first | omega | (simp only [sS_len, sL_len]; omega) | (simp only [List.length_replicate, sI_len]; omega) | (simp only [List.length_append, List.length_cons, List.length_nil, sI_len, cond_true, cond_false]; omega) | (simp only [List.length_append, List.length_cons, List.length_nil, sI_len, cond_eq_ite, apply_ite List.length]; split <;> simp only [List.length_append, List.length_cons, List.length_nil, sI_len] <;> omega) | grind))), (by rw [hX93]; exact (show count3 ≤ t8 from (by first | omega | (simp only [sS_len, sL_len]; omega) | (simp only [List.length_replicate, sI_len]; omega) | (simp only [List.length_append, List.length_cons, List.length_nil, sI_len, cond_true, cond_false]; omega) | (simp only [List.length_append, List.length_cons, List.length_nil, sI_len, cond_eq_ite, apply_ite List.length]; split <;> simp only [List.length_append, List.length_cons, List.length_nil, sI_len] <;> omega) | grind))), (by rw [hX93]; exact (show t8 ≤ (list.length : Int) from (by first | omega | (simp only [sS_len, sL_len]; omega) | (simp only [List.length_replicate, sI_len]; omega) | (simp only [List.length_append, List.length_cons, List.length_nil, sI_len, cond_true, cond_false]; omega) | (simp only [List.length_append, List.length_cons, List.length_nil, sI_len, cond_eq_ite, apply_ite List.length]; split <;> simp only [List.length_append, List.length_cons, List.length_nil, sI_len] <;> omega) | grind))), (by rw [hX93]; exact (hE92.sub (L' := [(3, .int .i64 count3), (6, .slice listA list.length listC), (7, .int .i64 (list.length : Int)), (8, .int .i64 t8)]) ⟨rfl, rfl, rfl, rfl, trivial⟩)), (St.pick (Γ' := [.rd 1 listA list.length listC list]) hS19 [0] (by decide) rfl)⟩
  ·
   rintro a94 w95 ⟨hO98, hi99, hi100, hi101, hi102, hE96, hS97⟩; clear hE14 hS1
   refine p_tn ?_
   refine c_seq ?_
   refine c_reg ?_
   refine q_step (v := .bool true) hE96 (y_assign rfl) rfl rfl rfl ?_; intro a103 hE104; clear hE96
   refine c_nil ?_
   have hE105 := hE104.sub (L' := [(2, .bool true)]) ⟨rfl, trivial⟩; clear hE104
   refine p_tn ?_
   refine wp_ret ?_
   have hF : F_areClasses list = true := by unfold F_areClasses; rw [hO98]; first | done | rfl
   refine c_ret1 hE105 rfl rfl ?_
   exact ⟨(by rw [hF]; first | done | (dsimp only; done) | rfl), hS97.ext⟩
theorem areCl_key (list : List Int) : ∀ (k : Nat) (c i : Int), 0 ≤ i → c ≤ i → (list.length : Int) - i = (k : Int) → (bif isOk (F_areClasses_L1 list (k + 1) c i) then true else errD (F_areClasses_L1 list (k + 1) c i)) = true → ∀ m : Int, i ≤ m → m < (list.length : Int) → 0 ≤ gI list m ∧ gI list m ≤ m := by
  intro k
  induction k with
  | zero => intro c i h0 hc hk _ m h1 h2; omega
  | succ k ih =>
    intro c i h0 hc hk h m h1 h2
    have e : F_areClasses_L1 list (k + 1 + 1) c i = bif (!(F_inRange (gI list i) 0 c)) then (.error false) else (bif (decide ((gI list i) = c)) then (F_areClasses_L1 list (k + 1) (c + 1) (i + 1)) else (F_areClasses_L1 list (k + 1) c (i + 1))) := by
      show F_areClasses_L1b list _ c i = _
      unfold F_areClasses_L1b; rw [decide_eq_true (by omega), cond_true]
    rw [e] at h
    cases hr : F_inRange (gI list i) 0 c
    · rw [hr] at h; cases h
    · rw [hr, Bool.not_true, cond_false] at h
      have hb := F_inRange_t hr
      by_cases hm : m = i
      · subst hm; omega
      · cases hd : decide (gI list i = c)
        · rw [hd, cond_false] at h; exact ih c (i + 1) (by omega) (by omega) (by omega) h m (by omega) h2
        · rw [hd, cond_true] at h; exact ih (c + 1) (i + 1) (by omega) (by omega) (by omega) h m (by omega) h2
theorem areClasses_t {list : List Int} (h : F_areClasses list = true) : ∀ m : Int, 0 ≤ m → m < (list.length : Int) → 0 ≤ gI list m ∧ gI list m ≤ m := by
  unfold F_areClasses at h
  rw [show Int.toNat ((list.length : Int) - 0) = list.length by omega] at h
  exact areCl_key list list.length 0 0 (by omega) (by omega) (by omega) h
theorem areClasses_7 {list : List Int} (h : F_areClasses list = true) (h8 : list.length ≤ 8) : ∀ m : Int, 0 ≤ m → m < (list.length : Int) → 0 ≤ gI list m ∧ gI list m ≤ 7 := by
  intro m h0 h1
  have := areClasses_t h m h0 h1
  omega
def F_z_Max_L1b (xp : List Int) (rec : Int → Int → Int × Int) (m3 : Int) (i4 : Int) : Int × Int :=
  bif (decide (i4 < (xp.length : Int))) then (rec (max m3 (gI xp i4)) (i4 + 1)) else (m3, i4)
def F_z_Max_L1 (xp : List Int) : Nat → Int → Int → Int × Int
  | 0, m3, i4 => (m3, i4)
  | r + 1, m3, i4 => F_z_Max_L1b xp (F_z_Max_L1 xp r) m3 i4
def F_z_Max (xp : List Int) : Int :=
  (F_z_Max_L1 xp (Int.toNat ((xp.length : Int) - 1) + 1) (gI xp 0) 1).1
theorem cf_z_Max (args : Array Value) (w : World) : (callFunc 237 args).run Try.prog w = .ok (.enter 237 args) w := by kernel_rfl
set_option maxRecDepth 100000 in
theorem c_z_Max (xpA : Option Addr) (xpN xpC : Nat) (xp : List Int) (w : World) (xpR : RdS w 1 xpA xpN xpC xp) (h1 : 1 ≤ xp.length) :
    Calls Try.prog 237 #[.slice xpA xpN xpC] w (Ret fun v w' => v = .int .i64 (F_z_Max xp) ∧ Ext w w') := by
  obtain rfl : xpN = xp.length := xpR.len1.symm
  have xpLe := xpR.le
  have hS := St.nil w
  have hS1 := St.rd0 hS rfl xpR; clear hS
  refine enter (args := [.slice xpA xp.length xpC]) Try.func237 rfl rfl ?_
  rw [Try.ntmps237]; intro a hE
  have hE := hE.sub (L' := [(0, .slice xpA xp.length xpC)]) ⟨rfl, trivial⟩
  refine c_seq ?_
  refine c_reg ?_
  refine q_step (v := .int .i64 0) hE (y_assign rfl) rfl rfl rfl ?_; intro a2 hE3; clear hE
  refine c_nil ?_
  have hE4 := hE3.sub (L' := [(0, .slice xpA xp.length xpC)]) ⟨rfl, trivial⟩; clear hE3
  refine p_tn ?_
  refine c_seq ?_
  refine c_seq ?_
  refine c_reg ?_
  refine q_step (v := .slice xpA xp.length xpC) hE4 (y_move rfl) rfl rfl rfl ?_; intro a5 hE6; clear hE4
  refine q_step (v := .int .i64 (xp.length : Int)) hE6 (y_len (e := 2) (by kernel_rfl) rfl) rfl rfl rfl ?_; intro a7 hE8; clear hE6
  refine q_step (v := .bool (decide ((xp.length : Int) < 1))) hE8 (y_lss rfl rfl) rfl rfl rfl ?_; intro a9 hE10; clear hE8
  refine c_nil ?_
  have hE11 := hE10.sub (L' := [(0, .slice xpA xp.length xpC), (7, .bool (decide ((xp.length : Int) < 1)))]) ⟨rfl, rfl, trivial⟩; clear hE10
  refine p_tn ?_
  refine c_cond hE11 rfl (fun ht12 => ?_) (fun ht12 => ?_)
  ·
   have hp13 := of_decide_eq_true ht12
   exfalso; omega
  ·
   have hp14 := of_decide_eq_false ht12
   have hE15 := hE11; rw [ht12] at hE15; clear hE11
   refine wp_skip ?_
   refine p_tn ?_
   refine c_seq ?_
   refine c_reg ?_
   refine q_step (v := .slice xpA xp.length xpC) hE15 (y_move rfl) rfl rfl rfl ?_; intro a16 hE17; clear hE15
   refine q_step (v := .pointer (some (adr xpA (Int.toNat 0)))) hE17 (y_idx (by kernel_rfl) (fun _ => by kernel_rfl) rfl rfl (RdS.isS (m := 0) (St.rdR (i := 0) hS1 rfl) (by omega) (by omega)) (by omega) (by omega) (Nat.mul_one _).symm) rfl rfl rfl ?_; intro a18 hE19; clear hE17
   refine q_step (v := .int .i64 (gI xp 0)) hE19 (y_load (fun _ => by kernel_rfl) rfl (RdS.elt (St.rdR (i := 0) hS1 rfl) (by omega) (by omega))) rfl rfl rfl ?_; intro a20 hE21; clear hE19
   refine q_step (v := .int .i64 (gI xp 0)) hE21 (y_assign rfl) rfl rfl rfl ?_; intro a22 hE23; clear hE21
   refine c_nil ?_
   have hE24 := hE23.sub (L' := [(0, .slice xpA xp.length xpC), (3, .int .i64 (gI xp 0))]) ⟨rfl, rfl, trivial⟩; clear hE23
   refine p_tn ?_
   refine c_seq ?_
   refine c_seq ?_
   refine c_reg ?_
   refine q_step (v := .int .i64 1) hE24 (y_assign rfl) rfl rfl rfl ?_; intro a25 hE26; clear hE24
   refine c_nil ?_
   have hE27 := hE26.sub (L' := [(0, .slice xpA xp.length xpC), (3, .int .i64 (gI xp 0)), (4, .int .i64 1)]) ⟨rfl, rfl, rfl, trivial⟩; clear hE26
   refine p_tn ?_
   refine c_cut1 (fun a' w' => (0 ≤ ((F_z_Max_L1 xp (Int.toNat ((xp.length : Int) - 1) + 1) (gI xp 0) 1).2)) ∧ E a' 25 [(0, .slice xpA xp.length xpC), (3, .int .i64 ((F_z_Max_L1 xp (Int.toNat ((xp.length : Int) - 1) + 1) (gI xp 0) 1).1)), (4, .int .i64 ((F_z_Max_L1 xp (Int.toNat ((xp.length : Int) - 1) + 1) (gI xp 0) 1).2))] ∧ St w w' [.rd 1 xpA xp.length xpC xp]) ?_ ?_
   ·
    refine wp_block ?_
    refine c_loop (fun r a' w' => ∃ m3 : Int, ∃ i4 : Int, F_z_Max_L1 xp r m3 i4 = F_z_Max_L1 xp (Int.toNat ((xp.length : Int) - 1) + 1) (gI xp 0) 1 ∧ Int.toNat ((xp.length : Int) - i4) < r ∧ (0 ≤ i4) ∧ E a' 25 [(0, .slice xpA xp.length xpC), (3, .int .i64 m3), (4, .int .i64 i4)] ∧ St w w' [.rd 1 xpA xp.length xpC xp]) (r := (Int.toNat ((xp.length : Int) - 1) + 1)) ?_ ?_
    · exact ⟨gI xp 0, 1, rfl, Nat.lt_succ_self _, (by first | omega | (simp only [sS_len, sL_len]; omega) | (simp only [List.length_replicate, sI_len]; omega) | (simp only [List.length_append, List.length_cons, List.length_nil, sI_len, cond_true, cond_false]; omega) | (simp only [List.length_append, List.length_cons, List.length_nil, sI_len, cond_eq_ite, apply_ite List.length]; split <;> simp only [List.length_append, List.length_cons, List.length_nil, sI_len] <;> omega) | grind), (hE27.sub (L' := [(0, .slice xpA xp.length xpC), (3, .int .i64 (gI xp 0)), (4, .int .i64 1)]) ⟨rfl, rfl, rfl, trivial⟩), (St.pick (Γ' := [.rd 1 xpA xp.length xpC xp]) hS1 [0] (by decide) rfl)⟩
    ·
     clear hE27 hS1
     rintro r36 a29 w30 ⟨m3, i4, hT33, hr34, hi35, hE31, hS32⟩
     obtain ⟨r36, rfl⟩ : ∃ r', r36 = r' + 1 := ⟨r36 - 1, by omega⟩
     refine c_seq ?_
     refine c_seq ?_
     refine c_reg ?_
     refine q_step (v := .int .i64 i4) hE31 (y_move rfl) rfl rfl rfl ?_; intro a37 hE38; clear hE31
     refine q_step (v := .slice xpA xp.length xpC) hE38 (y_move rfl) rfl rfl rfl ?_; intro a39 hE40; clear hE38
     refine q_step (v := .int .i64 (xp.length : Int)) hE40 (y_len (e := 2) (by kernel_rfl) rfl) rfl rfl rfl ?_; intro a41 hE42; clear hE40
     refine q_step (v := .bool (decide (i4 < (xp.length : Int)))) hE42 (y_lss rfl rfl) rfl rfl rfl ?_; intro a43 hE44; clear hE42
     refine c_nil ?_
     have hE45 := hE44.sub (L' := [(0, .slice xpA xp.length xpC), (3, .int .i64 m3), (4, .int .i64 i4), (15, .bool (decide (i4 < (xp.length : Int))))]) ⟨rfl, rfl, rfl, rfl, trivial⟩; clear hE44
     refine p_tn ?_
     refine c_cond hE45 rfl (fun ht46 => ?_) (fun ht46 => ?_)
     ·
      have hp47 := of_decide_eq_true ht46
      have hE48 := hE45; rw [ht46] at hE48; clear hE45
      refine wp_skip ?_
      refine p_tn ?_
      refine c_seq ?_
      refine wp_block ?_
      refine c_reg ?_
      refine q_step (v := .int .i64 m3) hE48 (y_move rfl) rfl rfl rfl ?_; intro a49 hE50; clear hE48
      refine q_step (v := .slice xpA xp.length xpC) hE50 (y_move rfl) rfl rfl rfl ?_; intro a51 hE52; clear hE50
      refine q_step (v := .int .i64 i4) hE52 (y_move rfl) rfl rfl rfl ?_; intro a53 hE54; clear hE52
      refine q_step (v := .pointer (some (adr xpA (Int.toNat i4)))) hE54 (y_idx (by kernel_rfl) (fun _ => by kernel_rfl) rfl rfl (RdS.isS (m := i4) (St.rdR (i := 0) hS32 rfl) (by omega) (by omega)) (by omega) (by omega) (Nat.mul_one _).symm) rfl rfl rfl ?_; intro a55 hE56; clear hE54
      refine q_step (v := .int .i64 (gI xp i4)) hE56 (y_load (fun _ => by kernel_rfl) rfl (RdS.elt (St.rdR (i := 0) hS32 rfl) (by omega) (by omega))) rfl rfl rfl ?_; intro a57 hE58; clear hE56
      refine q_step (v := .int .i64 (max m3 (gI xp i4))) hE58 (y_max rfl rfl) rfl rfl rfl ?_; intro a59 hE60; clear hE58
      refine q_step (v := .int .i64 (max m3 (gI xp i4))) hE60 (y_assign rfl) rfl rfl rfl ?_; intro a61 hE62; clear hE60
      refine c_nil ?_
      have hE63 := hE62.sub (L' := [(0, .slice xpA xp.length xpC), (3, .int .i64 (max m3 (gI xp i4))), (4, .int .i64 i4)]) ⟨rfl, rfl, rfl, trivial⟩; clear hE62
      refine p_bn ?_
      refine p_tn ?_
      refine c_reg ?_
      refine q_step (v := .int .i64 i4) hE63 (y_move rfl) rfl rfl rfl ?_; intro a64 hE65; clear hE63
      refine q_step (v := .int .i64 (i4 + 1)) hE65 (y_add rfl rfl ⟨(by omega), (by omega)⟩) rfl rfl rfl ?_; intro a66 hE67; clear hE65
      refine q_step (v := .int .i64 (i4 + 1)) hE67 (y_assign rfl) rfl rfl rfl ?_; intro a68 hE69; clear hE67
      refine c_nil ?_
      have hE70 := hE69.sub (L' := [(0, .slice xpA xp.length xpC), (3, .int .i64 (max m3 (gI xp i4))), (4, .int .i64 (i4 + 1))]) ⟨rfl, rfl, rfl, trivial⟩; clear hE69
      refine p_tn ⟨r36, Nat.lt_succ_self _, max m3 (gI xp i4), i4 + 1, (hT33.symm.trans (show F_z_Max_L1b xp (F_z_Max_L1 xp r36) m3 i4 = F_z_Max_L1 xp r36 (max m3 (gI xp i4)) (i4 + 1) by unfold F_z_Max_L1b; rw [ht46]; first | done | rfl)).symm, (by omega), (by first | omega | (simp only [sS_len, sL_len]; omega) | (simp only [List.length_replicate, sI_len]; omega) | (simp only [List.length_append, List.length_cons, List.length_nil, sI_len, cond_true, cond_false]; omega) | (simp only [List.length_append, List.length_cons, List.length_nil, sI_len, cond_eq_ite, apply_ite List.length]; split <;> simp only [List.length_append, List.length_cons, List.length_nil, sI_len] <;> omega) | grind), (hE70.sub (L' := [(0, .slice xpA xp.length xpC), (3, .int .i64 (max m3 (gI xp i4))), (4, .int .i64 (i4 + 1))]) ⟨rfl, rfl, rfl, trivial⟩), (St.pick (Γ' := [.rd 1 xpA xp.length xpC xp]) hS32 [0] (by decide) rfl)⟩
     ·
      have hp71 := of_decide_eq_false ht46
      have hE72 := hE45; rw [ht46] at hE72; clear hE45
      refine wp_exit ?_
      refine p_te ?_
      have hX73 : F_z_Max_L1 xp (Int.toNat ((xp.length : Int) - 1) + 1) (gI xp 0) 1 = (m3, i4) := hT33.symm.trans (show F_z_Max_L1b xp (F_z_Max_L1 xp r36) m3 i4 = (m3, i4) by unfold F_z_Max_L1b; rw [ht46]; first | done | rfl)
      refine p_te (p_be (p_tn ?_))
      exact ⟨(by rw [hX73]; exact (show 0 ≤ i4 from (by first | omega | (simp only [sS_len, sL_len]; omega) | (simp only [List.length_replicate, sI_len]; omega) | (simp only [List.length_append, List.length_cons, List.length_nil, sI_len, cond_true, cond_false]; omega) | (simp only [List.length_append, List.length_cons, List.length_nil, sI_len, cond_eq_ite, apply_ite List.length]; split <;> simp only [List.length_append, List.length_cons, List.length_nil, sI_len] <;> omega) | grind))), (by rw [hX73]; exact (hE72.sub (L' := [(0, .slice xpA xp.length xpC), (3, .int .i64 m3), (4, .int .i64 i4)]) ⟨rfl, rfl, rfl, trivial⟩)), (St.pick (Γ' := [.rd 1 xpA xp.length xpC xp]) hS32 [0] (by decide) rfl)⟩
   ·
    rintro a74 w75 ⟨hi79, hE76, hS77⟩; clear hE27 hS1
    refine p_tn ?_
    refine c_seq ?_
    refine c_reg ?_
    refine q_step (v := .int .i64 ((F_z_Max_L1 xp (Int.toNat ((xp.length : Int) - 1) + 1) (gI xp 0) 1).1)) hE76 (y_move rfl) rfl rfl rfl ?_; intro a80 hE81; clear hE76
    refine q_step (v := .int .i64 ((F_z_Max_L1 xp (Int.toNat ((xp.length : Int) - 1) + 1) (gI xp 0) 1).1)) hE81 (y_assign rfl) rfl rfl rfl ?_; intro a82 hE83; clear hE81
    refine c_nil ?_
    have hE84 := hE83.sub (L' := [(2, .int .i64 ((F_z_Max_L1 xp (Int.toNat ((xp.length : Int) - 1) + 1) (gI xp 0) 1).1))]) ⟨rfl, trivial⟩; clear hE83
    refine p_tn ?_
    refine wp_ret ?_
    have hF : F_z_Max xp = (F_z_Max_L1 xp (Int.toNat ((xp.length : Int) - 1) + 1) (gI xp 0) 1).1 := by unfold F_z_Max; rfl
    refine c_ret1 hE84 rfl rfl ?_
    exact ⟨(by rw [hF]; first | done | (dsimp only; done) | rfl), hS77.ext⟩
def F_classCount (classes : List Int) : Int :=
  bif (decide ((classes.length : Int) = 0)) then 0 else (wI ((F_z_Max classes) + 1))
theorem cf_classCount (args : Array Value) (w : World) : (callFunc 193 args).run Try.prog w = .ok (.enter 193 args) w := by kernel_rfl
set_option maxRecDepth 100000 in
theorem c_classCount (classesA : Option Addr) (classesN classesC : Nat) (classes : List Int) (w : World) (classesR : RdS w 1 classesA classesN classesC classes) :
    Calls Try.prog 193 #[.slice classesA classesN classesC] w (Ret fun v w' => v = .int .i64 (F_classCount classes) ∧ Ext w w') := by
  obtain rfl : classesN = classes.length := classesR.len1.symm
  have classesLe := classesR.le
  have hS := St.nil w
  have hS1 := St.rd0 hS rfl classesR; clear hS
  refine enter (args := [.slice classesA classes.length classesC]) Try.func193 rfl rfl ?_
  rw [Try.ntmps193]; intro a hE
  have hE := hE.sub (L' := [(0, .slice classesA classes.length classesC)]) ⟨rfl, trivial⟩
  refine c_seq ?_
  refine c_reg ?_
  refine q_step (v := .int .i64 0) hE (y_assign rfl) rfl rfl rfl ?_; intro a2 hE3; clear hE
  refine c_nil ?_
  have hE4 := hE3.sub (L' := [(0, .slice classesA classes.length classesC)]) ⟨rfl, trivial⟩; clear hE3
  refine p_tn ?_
  refine c_seq ?_
  refine c_seq ?_
  refine c_reg ?_
  refine q_step (v := .slice classesA classes.length classesC) hE4 (y_move rfl) rfl rfl rfl ?_; intro a5 hE6; clear hE4
  refine q_step (v := .int .i64 (classes.length : Int)) hE6 (y_len (e := 2) (by kernel_rfl) rfl) rfl rfl rfl ?_; intro a7 hE8; clear hE6
  refine q_step (v := .bool (decide ((classes.length : Int) = 0))) hE8 (y_eql rfl rfl) rfl rfl rfl ?_; intro a9 hE10; clear hE8
  refine c_nil ?_
  have hE11 := hE10.sub (L' := [(0, .slice classesA classes.length classesC), (5, .bool (decide ((classes.length : Int) = 0)))]) ⟨rfl, rfl, trivial⟩; clear hE10
  refine p_tn ?_
  refine c_cond hE11 rfl (fun ht12 => ?_) (fun ht12 => ?_)
  ·
   have hp13 := of_decide_eq_true ht12
   have hE14 := hE11; rw [ht12] at hE14; clear hE11
   refine c_seq ?_
   refine c_reg ?_
   refine q_step (v := .int .i64 0) hE14 (y_assign rfl) rfl rfl rfl ?_; intro a15 hE16; clear hE14
   refine c_nil ?_
   have hE17 := hE16.sub (L' := [(2, .int .i64 0)]) ⟨rfl, trivial⟩; clear hE16
   refine p_tn ?_
   refine wp_ret ?_
   refine p_tr ?_
   have hF : F_classCount classes = 0 := by unfold F_classCount; rw [ht12]; first | done | rfl
   refine c_ret1 hE17 rfl rfl ?_
   exact ⟨(by rw [hF]; first | done | (dsimp only; done) | rfl), hS1.ext⟩
  ·
   have hp18 := of_decide_eq_false ht12
   have hE19 := hE11; rw [ht12] at hE19; clear hE11
   refine wp_skip ?_
   refine p_tn ?_
   refine c_seq ?_
   refine c_reg ?_
   refine q_step (v := .slice classesA classes.length classesC) hE19 (y_move rfl) rfl rfl rfl ?_; intro a20 hE21; clear hE19
   refine l_step hE21 rfl (l_call (f := 237) (argv := [.slice classesA classes.length classesC]) hE21 (fun _ => cf_z_Max _ _) rfl rfl (c_z_Max classesA classes.length classesC classes w (St.rdR (i := 0) hS1 rfl) (by omega)) ?_)
   rintro _ w23 ⟨rfl, he27⟩ a24 hE25; clear hE21
   have hS26 := St.go hS1 he27; clear hS1
   refine q_step (v := .int .i64 (wI ((F_z_Max classes) + 1))) hE25 (y_addw rfl rfl) rfl rfl rfl ?_; intro a28 hE29; clear hE25
   refine q_step (v := .int .i64 (wI ((F_z_Max classes) + 1))) hE29 (y_assign rfl) rfl rfl rfl ?_; intro a30 hE31; clear hE29
   refine c_nil ?_
   have hE32 := hE31.sub (L' := [(2, .int .i64 (wI ((F_z_Max classes) + 1)))]) ⟨rfl, trivial⟩; clear hE31
   refine p_tn ?_
   refine wp_ret ?_
   have hF : F_classCount classes = wI ((F_z_Max classes) + 1) := by unfold F_classCount; rw [ht12]; first | done | rfl
   refine c_ret1 hE32 rfl rfl ?_
   exact ⟨(by rw [hF]; first | done | (dsimp only; done) | rfl), hS26.ext⟩
theorem foldl_max {β : Type} (f : β → Int) : ∀ (l : List β) (o : Int), o ≤ l.foldl (fun o j => max o (f j)) o ∧ (∀ j ∈ l, f j ≤ l.foldl (fun o j => max o (f j)) o) ∧ (l.foldl (fun o j => max o (f j)) o = o ∨ ∃ j ∈ l, l.foldl (fun o j => max o (f j)) o = f j) := by
  intro l
  induction l with
  | nil => intro o; exact ⟨Int.le_refl _, fun _ h => by simp at h, .inl rfl⟩
  | cons a l ih =>
    intro o
    obtain ⟨h1, h2, h3⟩ := ih (max o (f a))
    rw [List.foldl_cons]
    refine ⟨by omega, fun j hj => ?_, ?_⟩
    · rcases List.mem_cons.1 hj with rfl | hj
      · omega
      · exact h2 j hj
    · rcases h3 with h3 | ⟨j, hj, h3⟩
      · rw [h3]
        rcases Int.le_total (f a) o with h | h
        · exact .inl (by omega)
        · exact .inr ⟨a, List.mem_cons_self .., by omega⟩
      · exact .inr ⟨j, List.mem_cons_of_mem _ hj, h3⟩
theorem max_fold {xp : List Int} (h : 1 ≤ xp.length) : F_z_Max xp = (List.range (xp.length - 1)).foldl (fun o (j : Nat) => max o (gI xp (1 + (j : Int)))) (gI xp 0) := by
  unfold F_z_Max
  rw [show Int.toNat ((xp.length : Int) - 1) = xp.length - 1 by omega]
  exact rangeLoop (xp.length : Int) (fun o i => max o (gI xp i)) (F_z_Max_L1 xp) (fun _ _ _ => rfl) (xp.length - 1) 1 (gI xp 0) (by omega)
theorem max_spec {xp : List Int} (h : 1 ≤ xp.length) : (∀ m : Int, 0 ≤ m → m < (xp.length : Int) → gI xp m ≤ F_z_Max xp) ∧ ∃ m : Int, (0 ≤ m ∧ m < (xp.length : Int)) ∧ F_z_Max xp = gI xp m := by
  obtain ⟨h1, h2, h3⟩ := foldl_max (fun (j : Nat) => gI xp (1 + (j : Int))) (List.range (xp.length - 1)) (gI xp 0)
  rw [← max_fold h] at h1 h2 h3
  refine ⟨fun m h0 hm => ?_, ?_⟩
  · by_cases e : m = 0
    · subst e; exact h1
    · have := h2 (m - 1).toNat (List.mem_range.2 (by omega))
      rwa [show (1 : Int) + ((m - 1).toNat : Int) = m by omega] at this
  · rcases h3 with h3 | ⟨j, hj, h3⟩
    · exact ⟨0, ⟨by omega, by omega⟩, h3⟩
    · have := List.mem_range.1 hj
      exact ⟨1 + (j : Int), ⟨by omega, by omega⟩, h3⟩
theorem classCount_bd {classes : List Int} (h : ∀ m : Int, 0 ≤ m → m < (classes.length : Int) → 0 ≤ gI classes m ∧ gI classes m ≤ 7) : (0 ≤ F_classCount classes ∧ F_classCount classes ≤ 8) ∧ (∀ m : Int, 0 ≤ m → m < (classes.length : Int) → gI classes m < F_classCount classes) ∧ (F_classCount classes = 0 ∨ ∃ m : Int, (0 ≤ m ∧ m < (classes.length : Int)) ∧ F_classCount classes = gI classes m + 1) := by
  unfold F_classCount
  by_cases h0 : (classes.length : Int) = 0
  · rw [decide_eq_true h0, cond_true]
    exact ⟨⟨by omega, by omega⟩, fun m h1 h2 => by omega, .inl rfl⟩
  · rw [decide_eq_false h0, cond_false]
    obtain ⟨h1, m, h2, h3⟩ := max_spec (xp := classes) (by omega)
    have h4 := h m h2.1 h2.2
    have e : wI (F_z_Max classes + 1) = F_z_Max classes + 1 := wI_in ⟨by omega, by omega⟩
    rw [e]
    exact ⟨⟨by omega, by omega⟩, fun m h5 h6 => by have := h1 m h5 h6; omega, .inr ⟨m, h2, by rw [h3]⟩⟩
def F_quotientRelation_L1b (ap : List Int) (classes : List Int) (rec : Int → (List Int) → Int × (List Int)) (t13 : Int) (out5 : List Int) : Int × (List Int) :=
  bif (decide (t13 < (ap.length : Int))) then (rec (t13 + 1) (sI out5 (gI classes t13) (orI (gI out5 (gI classes t13)) (F_mapMask classes (gI ap t13))))) else (t13, out5)
def F_quotientRelation_L1 (ap : List Int) (classes : List Int) : Nat → Int → (List Int) → Int × (List Int)
  | 0, t13, out5 => (t13, out5)
  | r + 1, t13, out5 => F_quotientRelation_L1b ap classes (F_quotientRelation_L1 ap classes r) t13 out5
def F_quotientRelation (ap : List Int) (classes : List Int) : List Int :=
  (F_quotientRelation_L1 ap classes (Int.toNat ((ap.length : Int) - 0) + 1) 0 (List.replicate (Int.toNat (F_classCount classes)) 0)).2
theorem cf_quotientRelation (args : Array Value) (w : World) : (callFunc 112 args).run Try.prog w = .ok (.enter 112 args) w := by kernel_rfl
set_option maxRecDepth 100000 in
theorem c_quotientRelation (apA : Option Addr) (apN apC : Nat) (ap : List Int) (classesA : Option Addr) (classesN classesC : Nat) (classes : List Int) (w : World) (apR : RdS w 1 apA apN apC ap) (classesR : RdS w 1 classesA classesN classesC classes) (hl : ap.length = classes.length) (h8 : classes.length ≤ 8) (hcl : ∀ m : Int, 0 ≤ m → m < (classes.length : Int) → 0 ≤ gI classes m ∧ gI classes m ≤ 7) (hxa : ∀ m : Int, 0 ≤ m → m < (ap.length : Int) → 0 ≤ gI ap m ∧ gI ap m ≤ fullI (ap.length : Int)) :
    Calls Try.prog 112 #[.slice apA apN apC, .slice classesA classesN classesC] w (Ret fun v w' => ∃ b1 : Option Addr, ∃ c1 : Nat, v = .slice b1 (F_quotientRelation ap classes).length c1 ∧ OwnS w' w.heap.size 2 1 b1 (F_quotientRelation ap classes).length c1 (F_quotientRelation ap classes) ∧ Ext w w') := by
  obtain rfl : apN = ap.length := apR.len1.symm
  have apLe := apR.le
  obtain rfl : classesN = classes.length := classesR.len1.symm
  have classesLe := classesR.le
  have hcc := classCount_bd hcl
  have hf8 := fullI_bd (n := (ap.length : Int)) (by omega) (by omega)
  have hal : fullI (ap.length : Int) = fullI (classes.length : Int) := by rw [hl]
  have hS := St.nil w
  have hS1 := St.rd0 hS rfl apR; clear hS
  have hS2 := St.rd0 hS1 rfl classesR; clear hS1
  refine enter (args := [.slice apA ap.length apC, .slice classesA classes.length classesC]) Try.func112 rfl rfl ?_
  rw [Try.ntmps112]; intro a hE
  have hE := hE.sub (L' := [(0, .slice apA ap.length apC), (1, .slice classesA classes.length classesC)]) ⟨rfl, rfl, trivial⟩
  refine c_seq ?_
  refine c_reg ?_
  refine q_step (v := .slice none 0 0) hE (y_assign rfl) rfl rfl rfl ?_; intro a3 hE4; clear hE
  refine c_nil ?_
  have hE5 := hE4.sub (L' := [(0, .slice apA ap.length apC), (1, .slice classesA classes.length classesC)]) ⟨rfl, rfl, trivial⟩; clear hE4
  refine p_tn ?_
  refine c_seq ?_
  refine c_reg ?_
  refine q_step (v := .slice classesA classes.length classesC) hE5 (y_move rfl) rfl rfl rfl ?_; intro a6 hE7; clear hE5
  refine l_step hE7 rfl (l_call (f := 193) (argv := [.slice classesA classes.length classesC]) hE7 (fun _ => cf_classCount _ _) rfl rfl (c_classCount classesA classes.length classesC classes w (St.rdR (i := 0) hS2 rfl)) ?_)
  rintro _ w9 ⟨rfl, he13⟩ a10 hE11; clear hE7
  have hS12 := St.go hS2 he13; clear hS2
  refine l_step hE11 rfl (l_make (e := 2) (m := F_classCount classes) hS12 hE11 (by kernel_rfl) (by kernel_rfl) rfl rfl (by omega) (by omega) rfl ?_)
  intro b14 w15 hS18 he19 a16 hE17; clear hS12 hE11
  refine q_step (v := .slice b14 (Int.toNat (F_classCount classes)) (Int.toNat (F_classCount classes))) hE17 (y_assign rfl) rfl rfl rfl ?_; intro a20 hE21; clear hE17
  refine c_nil ?_
  have hE22 := hE21.sub (L' := [(0, .slice apA ap.length apC), (1, .slice classesA classes.length classesC), (5, .slice b14 (Int.toNat (F_classCount classes)) (Int.toNat (F_classCount classes)))]) ⟨rfl, rfl, rfl, trivial⟩; clear hE21
  refine p_tn ?_
  refine c_seq ?_
  refine c_seq ?_
  refine c_reg ?_
  refine q_step (v := .slice apA ap.length apC) hE22 (y_move rfl) rfl rfl rfl ?_; intro a23 hE24; clear hE22
  refine q_step (v := .int .i64 (ap.length : Int)) hE24 (y_len (e := 2) (by kernel_rfl) rfl) rfl rfl rfl ?_; intro a25 hE26; clear hE24
  refine q_step (v := .int .i64 0) hE26 (y_move rfl) rfl rfl rfl ?_; intro a27 hE28; clear hE26
  refine c_nil ?_
  have hE29 := hE28.sub (L' := [(1, .slice classesA classes.length classesC), (5, .slice b14 (Int.toNat (F_classCount classes)) (Int.toNat (F_classCount classes))), (11, .slice apA ap.length apC), (12, .int .i64 (ap.length : Int)), (13, .int .i64 0)]) ⟨rfl, rfl, rfl, rfl, rfl, trivial⟩; clear hE28
  refine p_tn ?_
  refine c_cut1 (fun a' w' => (0 ≤ ((F_quotientRelation_L1 ap classes (Int.toNat ((ap.length : Int) - 0) + 1) 0 (List.replicate (Int.toNat (F_classCount classes)) 0)).1)) ∧ ((((F_quotientRelation_L1 ap classes (Int.toNat ((ap.length : Int) - 0) + 1) 0 (List.replicate (Int.toNat (F_classCount classes)) 0)).2).length : Int) = F_classCount classes) ∧ (((F_quotientRelation_L1 ap classes (Int.toNat ((ap.length : Int) - 0) + 1) 0 (List.replicate (Int.toNat (F_classCount classes)) 0)).1) ≤ (ap.length : Int)) ∧ E a' 32 [(1, .slice classesA classes.length classesC), (5, .slice b14 (Int.toNat (F_classCount classes)) (Int.toNat (F_classCount classes))), (11, .slice apA ap.length apC), (12, .int .i64 (ap.length : Int)), (13, .int .i64 ((F_quotientRelation_L1 ap classes (Int.toNat ((ap.length : Int) - 0) + 1) 0 (List.replicate (Int.toNat (F_classCount classes)) 0)).1))] ∧ St w w' [.own 2 1 b14 (Int.toNat (F_classCount classes)) (Int.toNat (F_classCount classes)) ((F_quotientRelation_L1 ap classes (Int.toNat ((ap.length : Int) - 0) + 1) 0 (List.replicate (Int.toNat (F_classCount classes)) 0)).2), .rd 1 classesA classes.length classesC classes, .rd 1 apA ap.length apC ap]) ?_ ?_
  ·
   refine wp_block ?_
   refine c_loop (fun r a' w' => ∃ t13 : Int, ∃ out5 : List Int, F_quotientRelation_L1 ap classes r t13 out5 = F_quotientRelation_L1 ap classes (Int.toNat ((ap.length : Int) - 0) + 1) 0 (List.replicate (Int.toNat (F_classCount classes)) 0) ∧ Int.toNat ((ap.length : Int) - t13) < r ∧ (0 ≤ t13) ∧ ((out5.length : Int) = F_classCount classes) ∧ (t13 ≤ (ap.length : Int)) ∧ E a' 32 [(1, .slice classesA classes.length classesC), (5, .slice b14 (Int.toNat (F_classCount classes)) (Int.toNat (F_classCount classes))), (11, .slice apA ap.length apC), (12, .int .i64 (ap.length : Int)), (13, .int .i64 t13)] ∧ St w w' [.own 2 1 b14 (Int.toNat (F_classCount classes)) (Int.toNat (F_classCount classes)) out5, .rd 1 classesA classes.length classesC classes, .rd 1 apA ap.length apC ap]) (r := (Int.toNat ((ap.length : Int) - 0) + 1)) ?_ ?_
   · exact ⟨0, List.replicate (Int.toNat (F_classCount classes)) 0, rfl, Nat.lt_succ_self _, (by first | omega | (simp only [sS_len, sL_len]; omega) | (simp only [List.length_replicate, sI_len]; omega) | (simp only [List.length_append, List.length_cons, List.length_nil, sI_len, cond_true, cond_false]; omega) | (simp only [List.length_append, List.length_cons, List.length_nil, sI_len, cond_eq_ite, apply_ite List.length]; split <;> simp only [List.length_append, List.length_cons, List.length_nil, sI_len] <;> omega) | grind), (by first | omega | (simp only [sS_len, sL_len]; omega) | (simp only [List.length_replicate, sI_len]; omega) | (simp only [List.length_append, List.length_cons, List.length_nil, sI_len, cond_true, cond_false]; omega) | (simp only [List.length_append, List.length_cons, List.length_nil, sI_len, cond_eq_ite, apply_ite List.length]; split <;> simp only [List.length_append, List.length_cons, List.length_nil, sI_len] <;> omega) | grind), (by first | omega | (simp only [sS_len, sL_len]; omega) | (simp only [List.length_replicate, sI_len]; omega) | (simp only [List.length_append, List.length_cons, List.length_nil, sI_len, cond_true, cond_false]; omega) | (simp only [List.length_append, List.length_cons, List.length_nil, sI_len, cond_eq_ite, apply_ite List.length]; split <;> simp only [List.length_append, List.length_cons, List.length_nil, sI_len] <;> omega) | grind), (hE29.sub (L' := [(1, .slice classesA classes.length classesC), (5, .slice b14 (Int.toNat (F_classCount classes)) (Int.toNat (F_classCount classes))), (11, .slice apA ap.length apC), (12, .int .i64 (ap.length : Int)), (13, .int .i64 0)]) ⟨rfl, rfl, rfl, rfl, rfl, trivial⟩), (St.pick (Γ' := [.own 2 1 b14 (Int.toNat (F_classCount classes)) (Int.toNat (F_classCount classes)) (List.replicate (Int.toNat (F_classCount classes)) 0), .rd 1 classesA classes.length classesC classes, .rd 1 apA ap.length apC ap]) hS18 [0, 1, 2] (by decide) rfl)⟩
   ·
    clear hE29 hS18
    rintro r40 a31 w32 ⟨t13, out5, hT35, hr36, hi37, hi38, hi39, hE33, hS34⟩
    obtain ⟨r40, rfl⟩ : ∃ r', r40 = r' + 1 := ⟨r40 - 1, by omega⟩
    refine c_seq ?_
    refine c_reg ?_
    refine q_step (v := .bool (decide (t13 < (ap.length : Int)))) hE33 (y_lss rfl rfl) rfl rfl rfl ?_; intro a41 hE42; clear hE33
    refine c_nil ?_
    have hE43 := hE42.sub (L' := [(1, .slice classesA classes.length classesC), (5, .slice b14 (Int.toNat (F_classCount classes)) (Int.toNat (F_classCount classes))), (11, .slice apA ap.length apC), (12, .int .i64 (ap.length : Int)), (13, .int .i64 t13), (14, .bool (decide (t13 < (ap.length : Int))))]) ⟨rfl, rfl, rfl, rfl, rfl, rfl, trivial⟩; clear hE42
    refine p_tn ?_
    refine c_seq ?_
    refine c_cond hE43 rfl (fun ht44 => ?_) (fun ht44 => ?_)
    ·
     have hp45 := of_decide_eq_true ht44
     have hE46 := hE43; rw [ht44] at hE46; clear hE43
     have hx1 := hcl t13 (by omega) (by omega)
     have hx2 := hcc.2.1 t13 (by omega) (by omega)
     have hx3 := hxa t13 (by omega) (by omega)
     refine wp_skip ?_
     refine p_tn ?_
     refine c_seq ?_
     refine wp_block ?_
     refine c_seq ?_
     refine c_reg ?_
     refine q_step (v := .int .i64 t13) hE46 (y_move rfl) rfl rfl rfl ?_; intro a47 hE48; clear hE46
     refine q_step (v := .pointer (some (adr apA (Int.toNat t13)))) hE48 (y_idx (by kernel_rfl) (fun _ => by kernel_rfl) rfl rfl (RdS.isS (m := t13) (St.rdR (i := 2) hS34 rfl) (by omega) (by omega)) (by omega) (by omega) (Nat.mul_one _).symm) rfl rfl rfl ?_; intro a49 hE50; clear hE48
     refine q_step (v := .int .i64 (gI ap t13)) hE50 (y_load (fun _ => by kernel_rfl) rfl (RdS.elt (St.rdR (i := 2) hS34 rfl) (by omega) (by omega))) rfl rfl rfl ?_; intro a51 hE52; clear hE50
     refine q_step (v := .int .i64 t13) hE52 (y_assign rfl) rfl rfl rfl ?_; intro a53 hE54; clear hE52
     refine q_step (v := .int .i64 (gI ap t13)) hE54 (y_assign rfl) rfl rfl rfl ?_; intro a55 hE56; clear hE54
     refine c_nil ?_
     have hE57 := hE56.sub (L' := [(1, .slice classesA classes.length classesC), (5, .slice b14 (Int.toNat (F_classCount classes)) (Int.toNat (F_classCount classes))), (6, .int .i64 t13), (7, .int .i64 (gI ap t13)), (11, .slice apA ap.length apC), (12, .int .i64 (ap.length : Int)), (13, .int .i64 t13)]) ⟨rfl, rfl, rfl, rfl, rfl, rfl, rfl, trivial⟩; clear hE56
     refine p_tn ?_
     refine d_start (fun w w' => (fun w' => w'.cell? (adr classesA (Int.toNat t13)) = some (.int .i64 (gI classes t13)) ∧ w'.cell? (adr b14 (Int.toNat (gI classes t13))) = some (.int .i64 (gI out5 (gI classes t13))) ∧ True) w → (fun w' => w'.cell? (adr classesA (Int.toNat t13)) = some (.int .i64 (gI classes t13)) ∧ w'.cell? (adr b14 (Int.toNat (gI classes t13))) = some (.int .i64 (gI out5 (gI classes t13))) ∧ True) w') [4, 6] 13 (by kernel_rfl) rfl ?_
     intro w58 he59; have hS60 := St.go hS34 he59; clear hS34
     refine d_pure (fun _ h => h) (v := .slice b14 (Int.toNat (F_classCount classes)) (Int.toNat (F_classCount classes))) 0 rfl hE57 (y_move rfl) rfl (by kernel_rfl) (by kernel_rfl) (by kernel_rfl) rfl rfl (fun _ _ _ h => h) ?_; intro a61 hE62; clear hE57
     refine d_pure (fun _ h => h) (v := .slice classesA classes.length classesC) 1 rfl hE62 (y_move rfl) rfl (by kernel_rfl) (by kernel_rfl) (by kernel_rfl) rfl rfl (fun _ _ _ h => h) ?_; intro a63 hE64; clear hE62
     refine d_pure (fun _ h => h) (v := .int .i64 t13) 2 rfl hE64 (y_move rfl) rfl (by kernel_rfl) (by kernel_rfl) (by kernel_rfl) rfl rfl (fun _ _ _ h => h) ?_; intro a65 hE66; clear hE64
     refine d_pure (fun _ h => h) (v := .pointer (some (adr classesA (Int.toNat t13)))) 3 rfl hE66 (y_idx (by kernel_rfl) (fun _ => by kernel_rfl) rfl rfl (RdS.isS (m := t13) (St.rdR (i := 1) hS60 rfl) (by omega) (by omega)) (by omega) (by omega) (Nat.mul_one _).symm) rfl (by kernel_rfl) (by kernel_rfl) (by kernel_rfl) rfl rfl (fun _ _ _ h => h) ?_; intro a67 hE68; clear hE66
     refine d_take (fun _ h => h) (fun _ _ h k => h k) (v := .int .i64 (gI classes t13)) 4 rfl hE68 (S := fun w' => w'.cell? (adr classesA (Int.toNat t13)) = some (.int .i64 (gI classes t13)) ∧ w'.cell? (adr b14 (Int.toNat (gI classes t13))) = some (.int .i64 (gI out5 (gI classes t13))) ∧ True) ⟨(RdS.elt (St.rdR (i := 1) hS60 rfl) (by omega) (by omega) _ (Ext.refl _)), (RdS.elt (St.rdO (i := 0) hS60 rfl) (by omega) (by omega) _ (Ext.refl _)), trivial⟩ (y_load (fun _ => by kernel_rfl) rfl (fun _ h => h.1)) rfl rfl (by kernel_rfl) (by kernel_rfl) (by kernel_rfl) (by kernel_rfl) rfl rfl (fun _ _ _ h => h) ?_; intro a69 hE70; clear hE68
     refine d_pure (fun _ h => h) (v := .pointer (some (adr b14 (Int.toNat (gI classes t13))))) 5 rfl hE70 (y_idx (by kernel_rfl) (fun _ => by kernel_rfl) rfl rfl (RdS.isS (m := gI classes t13) (St.rdO (i := 0) hS60 rfl) (by omega) (by omega)) (by omega) (by omega) (Nat.mul_one _).symm) rfl (by kernel_rfl) (by kernel_rfl) (by kernel_rfl) rfl rfl (fun _ _ _ h => h) ?_; intro a71 hE72; clear hE70
     refine d_take (fun _ h => h) (fun _ _ h k => h k) (v := .int .i64 (gI out5 (gI classes t13))) 6 rfl hE72 (S := fun w' => w'.cell? (adr classesA (Int.toNat t13)) = some (.int .i64 (gI classes t13)) ∧ w'.cell? (adr b14 (Int.toNat (gI classes t13))) = some (.int .i64 (gI out5 (gI classes t13))) ∧ True) ⟨(RdS.elt (St.rdR (i := 1) hS60 rfl) (by omega) (by omega) _ (Ext.refl _)), (RdS.elt (St.rdO (i := 0) hS60 rfl) (by omega) (by omega) _ (Ext.refl _)), trivial⟩ (y_load (fun _ => by kernel_rfl) rfl (fun _ h => h.2.1)) rfl rfl (by kernel_rfl) (by kernel_rfl) (by kernel_rfl) (by kernel_rfl) rfl rfl (fun _ _ _ h => h) ?_; intro a73 hE74; clear hE72
     refine d_pure (fun _ h => h) (v := .slice classesA classes.length classesC) 7 rfl hE74 (y_move rfl) rfl (by kernel_rfl) (by kernel_rfl) (by kernel_rfl) rfl rfl (fun _ _ _ h => h) ?_; intro a75 hE76; clear hE74
     refine d_pure (fun _ h => h) (v := .int .i64 (gI ap t13)) 8 rfl hE76 (y_move rfl) rfl (by kernel_rfl) (by kernel_rfl) (by kernel_rfl) rfl rfl (fun _ _ _ h => h) ?_; intro a77 hE78; clear hE76
     refine d_only 9 (by kernel_rfl) rfl hE78 rfl (l_call (f := 194) (argv := [.slice classesA classes.length classesC, .int .i64 (gI ap t13)]) hE78 (fun _ => cf_mapMask _ _) rfl rfl (c_mapMask classesA classes.length classesC classes (gI ap t13) w58 (St.rdR (i := 1) hS60 rfl) (by omega) (by omega) (by omega) (by omega) hcl) ?_)
     rintro _ w80 ⟨rfl, he84⟩ a81 hE82; clear hE78
     have hS83 := St.go hS60 he84; clear hS60
     refine ⟨fun _ _ => ⟨(RdS.elt (St.rdR (i := 1) hS83 rfl) (by omega) (by omega) _ (Ext.refl _)), (RdS.elt (St.rdO (i := 0) hS83 rfl) (by omega) (by omega) _ (Ext.refl _)), trivial⟩, ?_⟩
     refine d_pure (fun _ h => h) (v := .int .i64 (orI (gI out5 (gI classes t13)) (F_mapMask classes (gI ap t13)))) 10 rfl hE82 (y_or rfl rfl) rfl (by kernel_rfl) (by kernel_rfl) (by kernel_rfl) rfl rfl (fun _ _ _ h => h) ?_; intro a85 hE86; clear hE82
     refine d_pure (fun _ h => h) (v := .pointer (some (adr b14 (Int.toNat (gI classes t13))))) 11 rfl hE86 (y_idx (by kernel_rfl) (fun _ => by kernel_rfl) rfl rfl (RdS.isS (m := gI classes t13) (St.rdO (i := 0) hS83 rfl) (by omega) (by omega)) (by omega) (by omega) (Nat.mul_one _).symm) rfl (by kernel_rfl) (by kernel_rfl) (by kernel_rfl) rfl rfl (fun _ _ _ h => h) ?_; intro a87 hE88; clear hE86
     refine d_only 12 (by kernel_rfl) rfl hE88 rfl (l_store (k := 0) hS83 hE88 (fun _ => by kernel_rfl) rfl rfl rfl (by omega) (by omega) ?_)
     intro w90 hS93 a91 hE92; clear hS83 hE88
     refine ⟨fun h => Bool.noConfusion (h.symm.trans (show exm _ _ _ = true by kernel_rfl)), ?_⟩
     refine d_done (by kernel_rfl) ?_
     have hE95 := hE92.sub (L' := [(1, .slice classesA classes.length classesC), (5, .slice b14 (Int.toNat (F_classCount classes)) (Int.toNat (F_classCount classes))), (11, .slice apA ap.length apC), (12, .int .i64 (ap.length : Int)), (13, .int .i64 t13)]) ⟨rfl, rfl, rfl, rfl, rfl, trivial⟩; clear hE92
     refine p_bn ?_
     refine p_tn ?_
     refine c_reg ?_
     refine q_step (v := .int .i64 (t13 + 1)) hE95 (y_add rfl rfl ⟨(by omega), (by omega)⟩) rfl rfl rfl ?_; intro a96 hE97; clear hE95
     refine q_step (v := .int .i64 (t13 + 1)) hE97 (y_move rfl) rfl rfl rfl ?_; intro a98 hE99; clear hE97
     refine c_nil ?_
     have hE100 := hE99.sub (L' := [(1, .slice classesA classes.length classesC), (5, .slice b14 (Int.toNat (F_classCount classes)) (Int.toNat (F_classCount classes))), (11, .slice apA ap.length apC), (12, .int .i64 (ap.length : Int)), (13, .int .i64 (t13 + 1))]) ⟨rfl, rfl, rfl, rfl, rfl, trivial⟩; clear hE99
     refine p_tn ⟨r40, Nat.lt_succ_self _, t13 + 1, sI out5 (gI classes t13) (orI (gI out5 (gI classes t13)) (F_mapMask classes (gI ap t13))), (hT35.symm.trans (show F_quotientRelation_L1b ap classes (F_quotientRelation_L1 ap classes r40) t13 out5 = F_quotientRelation_L1 ap classes r40 (t13 + 1) (sI out5 (gI classes t13) (orI (gI out5 (gI classes t13)) (F_mapMask classes (gI ap t13)))) by unfold F_quotientRelation_L1b; rw [ht44]; first | done | rfl)).symm, (by omega), (by first | omega | (simp only [sS_len, sL_len]; omega) | (simp only [List.length_replicate, sI_len]; omega) | (simp only [List.length_append, List.length_cons, List.length_nil, sI_len, cond_true, cond_false]; omega) | (simp only [List.length_append, List.length_cons, List.length_nil, sI_len, cond_eq_ite, apply_ite List.length]; split <;> simp only [List.length_append, List.length_cons, List.length_nil, sI_len] <;> omega) | grind), (by first | omega | (simp only [sS_len, sL_len]; omega) | (simp only [List.length_replicate, sI_len]; omega) | (simp only [List.length_append, List.length_cons, List.length_nil, sI_len, cond_true, cond_false]; omega) | (simp only [List.length_append, List.length_cons, List.length_nil, sI_len, cond_eq_ite, apply_ite List.length]; split <;> simp only [List.length_append, List.length_cons, List.length_nil, sI_len] <;> omega) | grind), (by first | omega | (simp only [sS_len, sL_len]; omega) | (simp only [List.length_replicate, sI_len]; omega) | (simp only [List.length_append, List.length_cons, List.length_nil, sI_len, cond_true, cond_false]; omega) | (simp only [List.length_append, List.length_cons, List.length_nil, sI_len, cond_eq_ite, apply_ite List.length]; split <;> simp only [List.length_append, List.length_cons, List.length_nil, sI_len] <;> omega) | grind), (hE100.sub (L' := [(1, .slice classesA classes.length classesC), (5, .slice b14 (Int.toNat (F_classCount classes)) (Int.toNat (F_classCount classes))), (11, .slice apA ap.length apC), (12, .int .i64 (ap.length : Int)), (13, .int .i64 (t13 + 1))]) ⟨rfl, rfl, rfl, rfl, rfl, trivial⟩), (St.pick (Γ' := [.own 2 1 b14 (Int.toNat (F_classCount classes)) (Int.toNat (F_classCount classes)) (sI out5 (gI classes t13) (orI (gI out5 (gI classes t13)) (F_mapMask classes (gI ap t13)))), .rd 1 classesA classes.length classesC classes, .rd 1 apA ap.length apC ap]) hS93 [0, 1, 2] (by decide) rfl)⟩
    ·
     have hp101 := of_decide_eq_false ht44
     have hE102 := hE43; rw [ht44] at hE102; clear hE43
     refine wp_exit ?_
     refine p_te ?_
     have hX103 : F_quotientRelation_L1 ap classes (Int.toNat ((ap.length : Int) - 0) + 1) 0 (List.replicate (Int.toNat (F_classCount classes)) 0) = (t13, out5) := hT35.symm.trans (show F_quotientRelation_L1b ap classes (F_quotientRelation_L1 ap classes r40) t13 out5 = (t13, out5) by unfold F_quotientRelation_L1b; rw [ht44]; first | done | rfl)
     refine p_te (p_be (p_tn ?_))
     exact ⟨(by rw [hX103]; exact (show 0 ≤ t13 from (by first | omega | (simp only [sS_len, sL_len]; omega) | (simp only [List.length_replicate, sI_len]; omega) | (simp only [List.length_append, List.length_cons, List.length_nil, sI_len, cond_true, cond_false]; omega) | (simp only [List.length_append, List.length_cons, List.length_nil, sI_len, cond_eq_ite, apply_ite List.length]; split <;> simp only [List.length_append, List.length_cons, List.length_nil, sI_len] <;> omega) | grind))), (by rw [hX103]; exact (show (out5.length : Int) = F_classCount classes from (by first | omega | (simp only [sS_len, sL_len]; omega) | (simp only [List.length_replicate, sI_len]; omega) | (simp only [List.length_append, List.length_cons, List.length_nil, sI_len, cond_true, cond_false]; omega) | (simp only [List.length_append, List.length_cons, List.length_nil, sI_len, cond_eq_ite, apply_ite List.length]; split <;> simp only [List.length_append, List.length_cons, List.length_nil, sI_len] <;> omega) | grind))), (by rw [hX103]; exact (show t13 ≤ (ap.length : Int) from (by first | omega | (simp only [sS_len, sL_len]; omega) | (simp only [List.length_replicate, sI_len]; omega) | (simp only [List.length_append, List.length_cons, List.length_nil, sI_len, cond_true, cond_false]; omega) | (simp only [List.length_append, List.length_cons, List.length_nil, sI_len, cond_eq_ite, apply_ite List.length]; split <;> simp only [List.length_append, List.length_cons, List.length_nil, sI_len] <;> omega) | grind))), (by rw [hX103]; exact (hE102.sub (L' := [(1, .slice classesA classes.length classesC), (5, .slice b14 (Int.toNat (F_classCount classes)) (Int.toNat (F_classCount classes))), (11, .slice apA ap.length apC), (12, .int .i64 (ap.length : Int)), (13, .int .i64 t13)]) ⟨rfl, rfl, rfl, rfl, rfl, trivial⟩)), (by rw [hX103]; exact (St.pick (Γ' := [.own 2 1 b14 (Int.toNat (F_classCount classes)) (Int.toNat (F_classCount classes)) out5, .rd 1 classesA classes.length classesC classes, .rd 1 apA ap.length apC ap]) hS34 [0, 1, 2] (by decide) rfl))⟩
  ·
   rintro a104 w105 ⟨hi109, hi110, hi111, hE106, hS107⟩; clear hE29 hS18
   refine p_tn ?_
   refine c_seq ?_
   refine c_reg ?_
   refine q_step (v := .slice b14 (Int.toNat (F_classCount classes)) (Int.toNat (F_classCount classes))) hE106 (y_move rfl) rfl rfl rfl ?_; intro a112 hE113; clear hE106
   refine q_step (v := .slice b14 (Int.toNat (F_classCount classes)) (Int.toNat (F_classCount classes))) hE113 (y_assign rfl) rfl rfl rfl ?_; intro a114 hE115; clear hE113
   refine c_nil ?_
   have hE116 := hE115.sub (L' := [(4, .slice b14 (Int.toNat (F_classCount classes)) (Int.toNat (F_classCount classes)))]) ⟨rfl, trivial⟩; clear hE115
   refine p_tn ?_
   refine wp_ret ?_
   have hF : F_quotientRelation ap classes = (F_quotientRelation_L1 ap classes (Int.toNat ((ap.length : Int) - 0) + 1) 0 (List.replicate (Int.toNat (F_classCount classes)) 0)).2 := by unfold F_quotientRelation; rfl
   refine c_ret1 hE116 rfl rfl ?_
   exact ⟨b14, Int.toNat (F_classCount classes), (by rw [hF]; first | rfl | (rw [(St.rdO (i := 0) hS107 rfl).len1])), (by rw [hF, (St.rdO (i := 0) hS107 rfl).len1]; (try dsimp only); exact hS107.ok 0 _ rfl), hS107.ext⟩
/-- What lies in a bucket. -/
def bucket (c v : Int → Int) (t j : Nat) : Int := (List.range t).foldl (fun o (x : Nat) => bif decide (c (x : Int) = (j : Int)) then orI o (v (x : Int)) else o) 0
theorem bucket_succ (c v : Int → Int) (t j : Nat) : bucket c v (t + 1) j = bif decide (c (t : Int) = (j : Int)) then orI (bucket c v t j) (v (t : Int)) else bucket c v t j := by
  unfold bucket; rw [List.range_succ, List.foldl_append]; rfl
theorem scatter_key (N : Nat) (c v : Int → Int) (L : Nat → Int → List Int → Int × List Int) (hL : ∀ r t xs, L (r + 1) t xs = bif decide (t < (N : Int)) then L r (t + 1) (sI xs (c t) (orI (gI xs (c t)) (v t))) else (t, xs)) :
    ∀ (k t : Nat) (xs : List Int), t + k = N → (∀ x : Nat, x < N → 0 ≤ c x ∧ c x < (xs.length : Int)) → (∀ j : Nat, j < xs.length → gI xs (j : Int) = bucket c v t j) →
    (L (k + 1) (t : Int) xs).2.length = xs.length ∧ ∀ j : Nat, j < xs.length → gI (L (k + 1) (t : Int) xs).2 (j : Int) = bucket c v N j := by
  intro k
  induction k with
  | zero =>
    intro t xs hk hc hx
    rw [hL, decide_eq_false (by omega), cond_false]
    exact ⟨rfl, fun j hj => by rw [hx j hj, show t = N by omega]⟩
  | succ k ih =>
    intro t xs hk hc hx
    rw [hL, decide_eq_true (by omega), cond_true, show (t : Int) + 1 = ((t + 1 : Nat) : Int) by omega]
    have hct := hc t (by omega)
    have e : ∀ j : Nat, gI (sI xs (c t) (orI (gI xs (c t)) (v t))) (j : Int) = if (c t).toNat = j then orI (gI xs (c t)) (v t) else gI xs (j : Int) := fun j => by
      unfold sI
      show gi _ _ = _
      rw [gi_set (by omega), Int.toNat_natCast]; rfl
    obtain ⟨h1, h2⟩ := ih (t + 1) (sI xs (c t) (orI (gI xs (c t)) (v t))) (by omega) (fun x hx => by rw [sI_len]; exact hc x hx) (fun j hj => by
      rw [sI_len] at hj
      rw [e j, bucket_succ]
      by_cases hd : (c t).toNat = j
      · have hd' : c t = (j : Int) := by omega
        rw [if_pos hd, decide_eq_true hd', cond_true, hd', hx j hj]
      · rw [if_neg hd, decide_eq_false (by omega), cond_false, hx j hj])
    rw [sI_len] at h1 h2
    exact ⟨h1, h2⟩
theorem quot_spec {ap classes : List Int} (hl : ap.length = classes.length) (hcl : ∀ m : Int, 0 ≤ m → m < (classes.length : Int) → 0 ≤ gI classes m ∧ gI classes m ≤ 7) : (F_quotientRelation ap classes).length = (F_classCount classes).toNat ∧ ∀ j : Nat, j < (F_classCount classes).toNat → gI (F_quotientRelation ap classes) (j : Int) = bucket (gI classes) (fun x => F_mapMask classes (gI ap x)) ap.length j := by
  have hcc := classCount_bd hcl
  unfold F_quotientRelation
  rw [show Int.toNat ((ap.length : Int) - 0) = ap.length by omega]
  have := scatter_key ap.length (gI classes) (fun x => F_mapMask classes (gI ap x)) (F_quotientRelation_L1 ap classes) (fun _ _ _ => rfl) ap.length 0 (List.replicate (Int.toNat (F_classCount classes)) 0) (by omega)
    (fun x hx => by
      have h1 := hcl (x : Int) (by omega) (by omega)
      have h2 := hcc.2.1 (x : Int) (by omega) (by omega)
      rw [List.length_replicate]; omega)
    (fun j hj => by rw [List.length_replicate] at hj; rw [gI_replicate hj]; rfl)
  rwa [List.length_replicate] at this
theorem quotRel_len' (ap classes : List Int) : (F_quotientRelation ap classes).length = (F_classCount classes).toNat := by
  unfold F_quotientRelation
  have key : ∀ (r : Nat) (t : Int) (xs : List Int), (F_quotientRelation_L1 ap classes r t xs).2.length = xs.length := by
    intro r
    induction r with
    | zero => intro t xs; rfl
    | succ r ih =>
      intro t xs
      show (F_quotientRelation_L1b ap classes _ t xs).2.length = _
      unfold F_quotientRelation_L1b
      cases decide (t < (ap.length : Int))
      · rfl
      · rw [cond_true, ih, sI_len]
  rw [key, List.length_replicate]
theorem quot_g (f1 : List Int) {classes : List Int} (h : F_areClasses classes = true) (h8 : classes.length ≤ 8) : 0 ≤ (F_frameOf (F_quotientRelation f1 classes)).1 ∧ (F_frameOf (F_quotientRelation f1 classes)).1 ≤ 8 := by
  show 0 ≤ ((F_quotientRelation f1 classes).length : Int) ∧ ((F_quotientRelation f1 classes).length : Int) ≤ 8
  have := (classCount_bd (areClasses_7 h h8)).1
  rw [quotRel_len']; omega
theorem quot_im (f1 : List Int) {classes : List Int} (h : F_areClasses classes = true) (h8 : classes.length ≤ 8) : ∀ m : Int, 0 ≤ m → m < (classes.length : Int) → 0 ≤ gI classes m ∧ gI classes m < (F_frameOf (F_quotientRelation f1 classes)).1 := by
  intro m h0 h1
  show 0 ≤ gI classes m ∧ gI classes m < ((F_quotientRelation f1 classes).length : Int)
  have h2 := classCount_bd (areClasses_7 h h8)
  have h3 := h2.2.1 m h0 h1
  have h4 := areClasses_t h m h0 h1
  rw [quotRel_len']; omega
def F_l08Ordered_L1b (classes : List Int) (rec : Int → Int → Except (Bool) (Int × Int)) (top5 : Int) (x6 : Int) : Except (Bool) (Int × Int) :=
  bif (decide (x6 < (classes.length : Int))) then (bif (!(F_l01In (gI classes x6) 0 top5)) then (.error false) else (bif (decide ((gI classes x6) = top5)) then (rec (top5 + 1) (x6 + 1)) else (rec top5 (x6 + 1)))) else (.ok (top5, x6))
def F_l08Ordered_L1 (classes : List Int) : Nat → Int → Int → Except (Bool) (Int × Int)
  | 0, top5, x6 => .ok (top5, x6)
  | r + 1, top5, x6 => F_l08Ordered_L1b classes (F_l08Ordered_L1 classes r) top5 x6
def F_l08Ordered (f0 : Int) (f1 : List Int) (classes : List Int) : Bool :=
  bif (!decide ((classes.length : Int) = f0)) then false else (bif (isOk (F_l08Ordered_L1 classes (Int.toNat ((classes.length : Int) - 0) + 1) 0 0)) then true else (errD (F_l08Ordered_L1 classes (Int.toNat ((classes.length : Int) - 0) + 1) 0 0)))
theorem cf_l08Ordered (args : Array Value) (w : World) : (callFunc 195 args).run Try.prog w = .ok (.enter 195 args) w := by kernel_rfl
set_option maxRecDepth 100000 in
theorem c_l08Ordered (f0 : Int) (f1A : Option Addr) (f1N f1C : Nat) (f1 : List Int) (classesA : Option Addr) (classesN classesC : Nat) (classes : List Int) (w : World) (f1R : RdS w 1 f1A f1N f1C f1) (classesR : RdS w 1 classesA classesN classesC classes) (hl : classes.length ≤ 1048576) :
    Calls Try.prog 195 #[.agg #[.int .i64 f0, .slice f1A f1N f1C], .slice classesA classesN classesC] w (Ret fun v w' => v = .bool (F_l08Ordered f0 f1 classes) ∧ Ext w w') := by
  obtain rfl : f1N = f1.length := f1R.len1.symm
  have f1Le := f1R.le
  obtain rfl : classesN = classes.length := classesR.len1.symm
  have classesLe := classesR.le
  have hS := St.nil w
  have hS1 := St.rd0 hS rfl f1R; clear hS
  have hS2 := St.rd0 hS1 rfl classesR; clear hS1
  refine enter (args := [.agg #[.int .i64 f0, .slice f1A f1.length f1C], .slice classesA classes.length classesC]) Try.func195 rfl rfl ?_
  rw [Try.ntmps195]; intro a hE
  have hE := hE.sub (L' := [(0, .agg #[.int .i64 f0, .slice f1A f1.length f1C]), (1, .slice classesA classes.length classesC)]) ⟨rfl, rfl, trivial⟩
  refine c_seq ?_
  refine c_reg ?_
  refine l_step hE rfl (l_box (v := .agg #[.int .i64 f0, .slice f1A f1.length f1C]) (cs := #[.int .i64 f0, .slice f1A f1.length f1C]) hS2 hE rfl rfl rfl ?_)
  intro b3 w4 hS7 he8 a5 hE6; clear hS2 hE
  refine q_step (v := .bool false) hE6 (y_assign rfl) rfl rfl rfl ?_; intro a9 hE10; clear hE6
  refine c_nil ?_
  have hE11 := hE10.sub (L' := [(1, .slice classesA classes.length classesC), (2, .pointer (some ⟨b3, 0, none⟩))]) ⟨rfl, rfl, trivial⟩; clear hE10
  refine p_tn ?_
  refine c_seq ?_
  refine c_seq ?_
  refine c_reg ?_
  refine q_step (v := .slice classesA classes.length classesC) hE11 (y_move rfl) rfl rfl rfl ?_; intro a12 hE13; clear hE11
  refine q_step (v := .int .i64 (classes.length : Int)) hE13 (y_len (e := 2) (by kernel_rfl) rfl) rfl rfl rfl ?_; intro a14 hE15; clear hE13
  refine q_step (v := .pointer (some ⟨b3, 0, none⟩)) hE15 (y_field rfl (fun _ => by kernel_rfl)) rfl rfl rfl ?_; intro a16 hE17; clear hE15
  refine q_step (v := .int .i64 f0) hE17 (y_load (fun _ => by kernel_rfl) rfl (St.cell (i := 0) hS7 rfl rfl)) rfl rfl rfl ?_; intro a18 hE19; clear hE17
  refine q_step (v := .bool (!decide ((classes.length : Int) = f0))) hE19 (y_neq rfl rfl) rfl rfl rfl ?_; intro a20 hE21; clear hE19
  refine c_nil ?_
  have hE22 := hE21.sub (L' := [(1, .slice classesA classes.length classesC), (11, .bool (!decide ((classes.length : Int) = f0)))]) ⟨rfl, rfl, trivial⟩; clear hE21
  refine p_tn ?_
  refine c_cond hE22 rfl (fun ht23 => ?_) (fun ht23 => ?_)
  ·
   have ht24 := bn_t ht23
   have hp25 := of_decide_eq_false ht24
   have hE26 := hE22; rw [ht23] at hE26; clear hE22
   refine c_seq ?_
   refine c_reg ?_
   refine q_step (v := .bool false) hE26 (y_assign rfl) rfl rfl rfl ?_; intro a27 hE28; clear hE26
   refine c_nil ?_
   have hE29 := hE28.sub (L' := [(4, .bool false)]) ⟨rfl, trivial⟩; clear hE28
   refine p_tn ?_
   refine wp_ret ?_
   refine p_tr ?_
   have hF : F_l08Ordered f0 f1 classes = false := by unfold F_l08Ordered; rw [ht23]; first | done | rfl
   refine c_ret1 hE29 rfl rfl ?_
   exact ⟨(by rw [hF]; first | done | (dsimp only; done) | rfl), hS7.ext⟩
  ·
   have ht30 := bn_f ht23
   have hp31 := of_decide_eq_true ht30
   have hE32 := hE22; rw [ht23] at hE32; clear hE22
   refine wp_skip ?_
   refine p_tn ?_
   refine c_seq ?_
   refine c_reg ?_
   refine q_step (v := .int .i64 0) hE32 (y_assign rfl) rfl rfl rfl ?_; intro a33 hE34; clear hE32
   refine c_nil ?_
   have hE35 := hE34.sub (L' := [(1, .slice classesA classes.length classesC), (5, .int .i64 0)]) ⟨rfl, rfl, trivial⟩; clear hE34
   refine p_tn ?_
   refine c_seq ?_
   refine c_seq ?_
   refine c_reg ?_
   refine q_step (v := .int .i64 0) hE35 (y_assign rfl) rfl rfl rfl ?_; intro a36 hE37; clear hE35
   refine c_nil ?_
   have hE38 := hE37.sub (L' := [(1, .slice classesA classes.length classesC), (5, .int .i64 0), (6, .int .i64 0)]) ⟨rfl, rfl, rfl, trivial⟩; clear hE37
   refine p_tn ?_
   refine c_cut1 (fun a' w' => isOk (F_l08Ordered_L1 classes (Int.toNat ((classes.length : Int) - 0) + 1) 0 0) = true ∧ (0 ≤ ((okD (F_l08Ordered_L1 classes (Int.toNat ((classes.length : Int) - 0) + 1) 0 0)).2)) ∧ (0 ≤ ((okD (F_l08Ordered_L1 classes (Int.toNat ((classes.length : Int) - 0) + 1) 0 0)).1)) ∧ (((okD (F_l08Ordered_L1 classes (Int.toNat ((classes.length : Int) - 0) + 1) 0 0)).1) ≤ ((okD (F_l08Ordered_L1 classes (Int.toNat ((classes.length : Int) - 0) + 1) 0 0)).2)) ∧ (((okD (F_l08Ordered_L1 classes (Int.toNat ((classes.length : Int) - 0) + 1) 0 0)).2) ≤ (classes.length : Int)) ∧ E a' 33 [(1, .slice classesA classes.length classesC), (5, .int .i64 ((okD (F_l08Ordered_L1 classes (Int.toNat ((classes.length : Int) - 0) + 1) 0 0)).1)), (6, .int .i64 ((okD (F_l08Ordered_L1 classes (Int.toNat ((classes.length : Int) - 0) + 1) 0 0)).2))] ∧ St w w' [.blk b3 #[.int .i64 f0, .slice f1A f1.length f1C] 30, .rd 1 classesA classes.length classesC classes, .rd 1 f1A f1.length f1C f1]) ?_ ?_
   ·
    refine wp_block ?_
    refine c_loop (fun r a' w' => ∃ top5 : Int, ∃ x6 : Int, F_l08Ordered_L1 classes r top5 x6 = F_l08Ordered_L1 classes (Int.toNat ((classes.length : Int) - 0) + 1) 0 0 ∧ Int.toNat ((classes.length : Int) - x6) < r ∧ (0 ≤ x6) ∧ (0 ≤ top5) ∧ (top5 ≤ x6) ∧ (x6 ≤ (classes.length : Int)) ∧ E a' 33 [(1, .slice classesA classes.length classesC), (5, .int .i64 top5), (6, .int .i64 x6)] ∧ St w w' [.blk b3 #[.int .i64 f0, .slice f1A f1.length f1C] 30, .rd 1 classesA classes.length classesC classes, .rd 1 f1A f1.length f1C f1]) (r := (Int.toNat ((classes.length : Int) - 0) + 1)) ?_ ?_
    · exact ⟨0, 0, rfl, Nat.lt_succ_self _, (by first | omega | (simp only [sS_len, sL_len]; omega) | (simp only [List.length_replicate, sI_len]; omega) | (simp only [List.length_append, List.length_cons, List.length_nil, sI_len, cond_true, cond_false]; omega) | (simp only [List.length_append, List.length_cons, List.length_nil, sI_len, cond_eq_ite, apply_ite List.length]; split <;> simp only [List.length_append, List.length_cons, List.length_nil, sI_len] <;> omega) | grind), (by first | omega | (simp only [sS_len, sL_len]; omega) | (simp only [List.length_replicate, sI_len]; omega) | (simp only [List.length_append, List.length_cons, List.length_nil, sI_len, cond_true, cond_false]; omega) | (simp only [List.length_append, List.length_cons, List.length_nil, sI_len, cond_eq_ite, apply_ite List.length]; split <;> simp only [List.length_append, List.length_cons, List.length_nil, sI_len] <;> omega) | grind), (by first | omega | (simp only [sS_len, sL_len]; omega) | (simp only [List.length_replicate, sI_len]; omega) | (simp only [List.length_append, List.length_cons, List.length_nil, sI_len, cond_true, cond_false]; omega) | (simp only [List.length_append, List.length_cons, List.length_nil, sI_len, cond_eq_ite, apply_ite List.length]; split <;> simp only [List.length_append, List.length_cons, List.length_nil, sI_len] <;> omega) | grind), (by first | omega | (simp only [sS_len, sL_len]; omega) | (simp only [List.length_replicate, sI_len]; omega) | (simp only [List.length_append, List.length_cons, List.length_nil, sI_len, cond_true, cond_false]; omega) | (simp only [List.length_append, List.length_cons, List.length_nil, sI_len, cond_eq_ite, apply_ite List.length]; split <;> simp only [List.length_append, List.length_cons, List.length_nil, sI_len] <;> omega) | grind), (hE38.sub (L' := [(1, .slice classesA classes.length classesC), (5, .int .i64 0), (6, .int .i64 0)]) ⟨rfl, rfl, rfl, trivial⟩), (St.pick (Γ' := [.blk b3 #[.int .i64 f0, .slice f1A f1.length f1C] 30, .rd 1 classesA classes.length classesC classes, .rd 1 f1A f1.length f1C f1]) hS7 [0, 1, 2] (by decide) rfl)⟩
    ·
     clear hE38 hS7
     rintro r50 a40 w41 ⟨top5, x6, hT44, hr45, hi46, hi47, hi48, hi49, hE42, hS43⟩
     obtain ⟨r50, rfl⟩ : ∃ r', r50 = r' + 1 := ⟨r50 - 1, by omega⟩
     refine c_seq ?_
     refine c_seq ?_
     refine c_reg ?_
     refine q_step (v := .int .i64 x6) hE42 (y_move rfl) rfl rfl rfl ?_; intro a51 hE52; clear hE42
     refine q_step (v := .slice classesA classes.length classesC) hE52 (y_move rfl) rfl rfl rfl ?_; intro a53 hE54; clear hE52
     refine q_step (v := .int .i64 (classes.length : Int)) hE54 (y_len (e := 2) (by kernel_rfl) rfl) rfl rfl rfl ?_; intro a55 hE56; clear hE54
     refine q_step (v := .bool (decide (x6 < (classes.length : Int)))) hE56 (y_lss rfl rfl) rfl rfl rfl ?_; intro a57 hE58; clear hE56
     refine c_nil ?_
     have hE59 := hE58.sub (L' := [(1, .slice classesA classes.length classesC), (5, .int .i64 top5), (6, .int .i64 x6), (15, .bool (decide (x6 < (classes.length : Int))))]) ⟨rfl, rfl, rfl, rfl, trivial⟩; clear hE58
     refine p_tn ?_
     refine c_cond hE59 rfl (fun ht60 => ?_) (fun ht60 => ?_)
     ·
      have hp61 := of_decide_eq_true ht60
      have hE62 := hE59; rw [ht60] at hE62; clear hE59
      refine wp_skip ?_
      refine p_tn ?_
      refine c_seq ?_
      refine wp_block ?_
      refine c_seq ?_
      refine c_seq ?_
      refine c_reg ?_
      refine q_step (v := .slice classesA classes.length classesC) hE62 (y_move rfl) rfl rfl rfl ?_; intro a63 hE64; clear hE62
      refine q_step (v := .int .i64 x6) hE64 (y_move rfl) rfl rfl rfl ?_; intro a65 hE66; clear hE64
      refine q_step (v := .pointer (some (adr classesA (Int.toNat x6)))) hE66 (y_idx (by kernel_rfl) (fun _ => by kernel_rfl) rfl rfl (RdS.isS (m := x6) (St.rdR (i := 1) hS43 rfl) (by omega) (by omega)) (by omega) (by omega) (Nat.mul_one _).symm) rfl rfl rfl ?_; intro a67 hE68; clear hE66
      refine q_step (v := .int .i64 (gI classes x6)) hE68 (y_load (fun _ => by kernel_rfl) rfl (RdS.elt (St.rdR (i := 1) hS43 rfl) (by omega) (by omega))) rfl rfl rfl ?_; intro a69 hE70; clear hE68
      refine q_step (v := .int .i64 top5) hE70 (y_move rfl) rfl rfl rfl ?_; intro a71 hE72; clear hE70
      refine l_step hE72 rfl (l_call (f := 85) (argv := [.int .i64 (gI classes x6), .int .i64 0, .int .i64 top5]) hE72 (fun _ => cf_l01In _ _) rfl rfl (c_l01In (gI classes x6) 0 top5 w41) ?_)
      rintro _ _ ⟨rfl, rfl⟩ a75 hE76; clear hE72
      refine q_step (v := .bool (!(F_l01In (gI classes x6) 0 top5))) hE76 (y_not rfl) rfl rfl rfl ?_; intro a79 hE80; clear hE76
      refine c_nil ?_
      have hE81 := hE80.sub (L' := [(1, .slice classesA classes.length classesC), (5, .int .i64 top5), (6, .int .i64 x6), (24, .bool (!(F_l01In (gI classes x6) 0 top5)))]) ⟨rfl, rfl, rfl, rfl, trivial⟩; clear hE80
      refine p_tn ?_
      refine c_cond hE81 rfl (fun ht82 => ?_) (fun ht82 => ?_)
      ·
       have ht83 := bn_t ht82
       have hE84 := hE81; rw [ht82] at hE84; clear hE81
       refine c_seq ?_
       refine c_reg ?_
       refine q_step (v := .bool false) hE84 (y_assign rfl) rfl rfl rfl ?_; intro a85 hE86; clear hE84
       refine c_nil ?_
       have hE87 := hE86.sub (L' := [(4, .bool false)]) ⟨rfl, trivial⟩; clear hE86
       refine p_tn ?_
       refine wp_ret ?_
       refine p_tr ?_
       refine p_br ?_
       refine p_tr ?_
       have hX88 : F_l08Ordered_L1 classes (Int.toNat ((classes.length : Int) - 0) + 1) 0 0 = .error false := hT44.symm.trans (show F_l08Ordered_L1b classes (F_l08Ordered_L1 classes r50) top5 x6 = .error false by unfold F_l08Ordered_L1b; rw [ht82, ht60]; first | done | rfl)
       refine p_tr (p_br (p_tr ?_))
       refine p_tr ?_
       have hF : F_l08Ordered f0 f1 classes = false := by unfold F_l08Ordered; rw [hX88, ht23]; first | done | rfl
       refine c_ret1 hE87 rfl rfl ?_
       exact ⟨(by rw [hF]; first | done | (dsimp only; done) | rfl), hS43.ext⟩
      ·
       have ht89 := bn_f ht82
       have hE90 := hE81; rw [ht82] at hE90; clear hE81
       refine wp_skip ?_
       refine p_tn ?_
       refine c_seq ?_
       refine c_reg ?_
       refine q_step (v := .slice classesA classes.length classesC) hE90 (y_move rfl) rfl rfl rfl ?_; intro a91 hE92; clear hE90
       refine q_step (v := .int .i64 x6) hE92 (y_move rfl) rfl rfl rfl ?_; intro a93 hE94; clear hE92
       refine q_step (v := .pointer (some (adr classesA (Int.toNat x6)))) hE94 (y_idx (by kernel_rfl) (fun _ => by kernel_rfl) rfl rfl (RdS.isS (m := x6) (St.rdR (i := 1) hS43 rfl) (by omega) (by omega)) (by omega) (by omega) (Nat.mul_one _).symm) rfl rfl rfl ?_; intro a95 hE96; clear hE94
       refine q_step (v := .int .i64 (gI classes x6)) hE96 (y_load (fun _ => by kernel_rfl) rfl (RdS.elt (St.rdR (i := 1) hS43 rfl) (by omega) (by omega))) rfl rfl rfl ?_; intro a97 hE98; clear hE96
       refine q_step (v := .int .i64 top5) hE98 (y_move rfl) rfl rfl rfl ?_; intro a99 hE100; clear hE98
       refine q_step (v := .bool (decide ((gI classes x6) = top5))) hE100 (y_eql rfl rfl) rfl rfl rfl ?_; intro a101 hE102; clear hE100
       refine c_nil ?_
       have hE103 := hE102.sub (L' := [(1, .slice classesA classes.length classesC), (5, .int .i64 top5), (6, .int .i64 x6), (30, .bool (decide ((gI classes x6) = top5)))]) ⟨rfl, rfl, rfl, rfl, trivial⟩; clear hE102
       refine p_tn ?_
       refine c_cond hE103 rfl (fun ht104 => ?_) (fun ht104 => ?_)
       ·
        have hp105 := of_decide_eq_true ht104
        have hE106 := hE103; rw [ht104] at hE106; clear hE103
        refine c_reg ?_
        refine q_step (v := .int .i64 top5) hE106 (y_move rfl) rfl rfl rfl ?_; intro a107 hE108; clear hE106
        refine q_step (v := .int .i64 (top5 + 1)) hE108 (y_add rfl rfl ⟨(by omega), (by omega)⟩) rfl rfl rfl ?_; intro a109 hE110; clear hE108
        refine q_step (v := .int .i64 (top5 + 1)) hE110 (y_assign rfl) rfl rfl rfl ?_; intro a111 hE112; clear hE110
        refine c_nil ?_
        have hE113 := hE112.sub (L' := [(1, .slice classesA classes.length classesC), (5, .int .i64 (top5 + 1)), (6, .int .i64 x6)]) ⟨rfl, rfl, rfl, trivial⟩; clear hE112
        refine p_bn ?_
        refine p_tn ?_
        refine c_reg ?_
        refine q_step (v := .int .i64 x6) hE113 (y_move rfl) rfl rfl rfl ?_; intro a114 hE115; clear hE113
        refine q_step (v := .int .i64 (x6 + 1)) hE115 (y_add rfl rfl ⟨(by omega), (by omega)⟩) rfl rfl rfl ?_; intro a116 hE117; clear hE115
        refine q_step (v := .int .i64 (x6 + 1)) hE117 (y_assign rfl) rfl rfl rfl ?_; intro a118 hE119; clear hE117
        refine c_nil ?_
        have hE120 := hE119.sub (L' := [(1, .slice classesA classes.length classesC), (5, .int .i64 (top5 + 1)), (6, .int .i64 (x6 + 1))]) ⟨rfl, rfl, rfl, trivial⟩; clear hE119
        refine p_tn ⟨r50, Nat.lt_succ_self _, top5 + 1, x6 + 1, (hT44.symm.trans (show F_l08Ordered_L1b classes (F_l08Ordered_L1 classes r50) top5 x6 = F_l08Ordered_L1 classes r50 (top5 + 1) (x6 + 1) by unfold F_l08Ordered_L1b; rw [ht104, ht82, ht60]; first | done | rfl)).symm, (by omega), (by first | omega | (simp only [sS_len, sL_len]; omega) | (simp only [List.length_replicate, sI_len]; omega) | (simp only [List.length_append, List.length_cons, List.length_nil, sI_len, cond_true, cond_false]; omega) | (simp only [List.length_append, List.length_cons, List.length_nil, sI_len, cond_eq_ite, apply_ite List.length]; split <;> simp only [List.length_append, List.length_cons, List.length_nil, sI_len] <;> omega) | grind), (by first | omega | (simp only [sS_len, sL_len]; omega) | (simp only [List.length_replicate, sI_len]; omega) | (simp only [List.length_append, List.length_cons, List.length_nil, sI_len, cond_true, cond_false]; omega) | (simp only [List.length_append, List.length_cons, List.length_nil, sI_len, cond_eq_ite, apply_ite List.length]; split <;> simp only [List.length_append, List.length_cons, List.length_nil, sI_len] <;> omega) | grind), (by first | omega | (simp only [sS_len, sL_len]; omega) | (simp only [List.length_replicate, sI_len]; omega) | (simp only [List.length_append, List.length_cons, List.length_nil, sI_len, cond_true, cond_false]; omega) | (simp only [List.length_append, List.length_cons, List.length_nil, sI_len, cond_eq_ite, apply_ite List.length]; split <;> simp only [List.length_append, List.length_cons, List.length_nil, sI_len] <;> omega) | grind), (by first | omega | (simp only [sS_len, sL_len]; omega) | (simp only [List.length_replicate, sI_len]; omega) | (simp only [List.length_append, List.length_cons, List.length_nil, sI_len, cond_true, cond_false]; omega) | (simp only [List.length_append, List.length_cons, List.length_nil, sI_len, cond_eq_ite, apply_ite List.length]; split <;> simp only [List.length_append, List.length_cons, List.length_nil, sI_len] <;> omega) | grind), (hE120.sub (L' := [(1, .slice classesA classes.length classesC), (5, .int .i64 (top5 + 1)), (6, .int .i64 (x6 + 1))]) ⟨rfl, rfl, rfl, trivial⟩), (St.pick (Γ' := [.blk b3 #[.int .i64 f0, .slice f1A f1.length f1C] 30, .rd 1 classesA classes.length classesC classes, .rd 1 f1A f1.length f1C f1]) hS43 [0, 1, 2] (by decide) rfl)⟩
       ·
        have hp121 := of_decide_eq_false ht104
        have hE122 := hE103; rw [ht104] at hE122; clear hE103
        refine wp_skip ?_
        refine p_bn ?_
        refine p_tn ?_
        refine c_reg ?_
        refine q_step (v := .int .i64 x6) hE122 (y_move rfl) rfl rfl rfl ?_; intro a123 hE124; clear hE122
        refine q_step (v := .int .i64 (x6 + 1)) hE124 (y_add rfl rfl ⟨(by omega), (by omega)⟩) rfl rfl rfl ?_; intro a125 hE126; clear hE124
        refine q_step (v := .int .i64 (x6 + 1)) hE126 (y_assign rfl) rfl rfl rfl ?_; intro a127 hE128; clear hE126
        refine c_nil ?_
        have hE129 := hE128.sub (L' := [(1, .slice classesA classes.length classesC), (5, .int .i64 top5), (6, .int .i64 (x6 + 1))]) ⟨rfl, rfl, rfl, trivial⟩; clear hE128
        refine p_tn ⟨r50, Nat.lt_succ_self _, top5, x6 + 1, (hT44.symm.trans (show F_l08Ordered_L1b classes (F_l08Ordered_L1 classes r50) top5 x6 = F_l08Ordered_L1 classes r50 top5 (x6 + 1) by unfold F_l08Ordered_L1b; rw [ht104, ht82, ht60]; first | done | rfl)).symm, (by omega), (by first | omega | (simp only [sS_len, sL_len]; omega) | (simp only [List.length_replicate, sI_len]; omega) | (simp only [List.length_append, List.length_cons, List.length_nil, sI_len, cond_true, cond_false]; omega) | (simp only [List.length_append, List.length_cons, List.length_nil, sI_len, cond_eq_ite, apply_ite List.length]; split <;> simp only [List.length_append, List.length_cons, List.length_nil, sI_len] <;> omega) | grind), (by first | omega | (simp only [sS_len, sL_len]; omega) | (simp only [List.length_replicate, sI_len]; omega) | (simp only [List.length_append, List.length_cons, List.length_nil, sI_len, cond_true, cond_false]; omega) | (simp only [List.length_append, List.length_cons, List.length_nil, sI_len, cond_eq_ite, apply_ite List.length]; split <;> simp only [List.length_append, List.length_cons, List.length_nil, sI_len] <;> omega) | grind), (by first | omega | (simp only [sS_len, sL_len]; omega) | (simp only [List.length_replicate, sI_len]; omega) | (simp only [List.length_append, List.length_cons, List.length_nil, sI_len, cond_true, cond_false]; omega) | (simp only [List.length_append, List.length_cons, List.length_nil, sI_len, cond_eq_ite, apply_ite List.length]; split <;> simp only [List.length_append, List.length_cons, List.length_nil, sI_len] <;> omega) | grind), (by first | omega | (simp only [sS_len, sL_len]; omega) | (simp only [List.length_replicate, sI_len]; omega) | (simp only [List.length_append, List.length_cons, List.length_nil, sI_len, cond_true, cond_false]; omega) | (simp only [List.length_append, List.length_cons, List.length_nil, sI_len, cond_eq_ite, apply_ite List.length]; split <;> simp only [List.length_append, List.length_cons, List.length_nil, sI_len] <;> omega) | grind), (hE129.sub (L' := [(1, .slice classesA classes.length classesC), (5, .int .i64 top5), (6, .int .i64 (x6 + 1))]) ⟨rfl, rfl, rfl, trivial⟩), (St.pick (Γ' := [.blk b3 #[.int .i64 f0, .slice f1A f1.length f1C] 30, .rd 1 classesA classes.length classesC classes, .rd 1 f1A f1.length f1C f1]) hS43 [0, 1, 2] (by decide) rfl)⟩
     ·
      have hp130 := of_decide_eq_false ht60
      have hE131 := hE59; rw [ht60] at hE131; clear hE59
      refine wp_exit ?_
      refine p_te ?_
      have hX132 : F_l08Ordered_L1 classes (Int.toNat ((classes.length : Int) - 0) + 1) 0 0 = .ok (top5, x6) := hT44.symm.trans (show F_l08Ordered_L1b classes (F_l08Ordered_L1 classes r50) top5 x6 = .ok (top5, x6) by unfold F_l08Ordered_L1b; rw [ht60]; first | done | rfl)
      refine p_te (p_be (p_tn ?_))
      exact ⟨(by rw [hX132]; rfl), (by rw [hX132]; exact (show 0 ≤ x6 from (by first | omega | (simp only [sS_len, sL_len]; omega) | (simp only [List.length_replicate, sI_len]; omega) | (simp only [List.length_append, List.length_cons, List.length_nil, sI_len, cond_true, cond_false]; omega) | (simp only [List.length_append, List.length_cons, List.length_nil, sI_len, cond_eq_ite, apply_ite List.length]; split <;> simp only [List.length_append, List.length_cons, List.length_nil, sI_len] <;> omega) | grind))), (by rw [hX132]; exact (show 0 ≤ top5 from (by first | omega | (simp only [sS_len, sL_len]; omega) | (simp only [List.length_replicate, sI_len]; omega) | (simp only [List.length_append, List.length_cons, List.length_nil, sI_len, cond_true, cond_false]; omega) | (simp only [List.length_append, List.length_cons, List.length_nil, sI_len, cond_eq_ite, apply_ite List.length]; split <;> simp only [List.length_append, List.length_cons, List.length_nil, sI_len] <;> omega) | grind))), (by rw [hX132]; exact (show top5 ≤ x6 from (by first | omega | (simp only [sS_len, sL_len]; omega) | (simp only [List.length_replicate, sI_len]; omega) | (simp only [List.length_append, List.length_cons, List.length_nil, sI_len, cond_true, cond_false]; omega) | (simp only [List.length_append, List.length_cons, List.length_nil, sI_len, cond_eq_ite, apply_ite List.length]; split <;> simp only [List.length_append, List.length_cons, List.length_nil, sI_len] <;> omega) | grind))), (by rw [hX132]; exact (show x6 ≤ (classes.length : Int) from (by first | omega | (simp only [sS_len, sL_len]; omega) | (simp only [List.length_replicate, sI_len]; omega) | (simp only [List.length_append, List.length_cons, List.length_nil, sI_len, cond_true, cond_false]; omega) | (simp only [List.length_append, List.length_cons, List.length_nil, sI_len, cond_eq_ite, apply_ite List.length]; split <;> simp only [List.length_append, List.length_cons, List.length_nil, sI_len] <;> omega) | grind))), (by rw [hX132]; exact (hE131.sub (L' := [(1, .slice classesA classes.length classesC), (5, .int .i64 top5), (6, .int .i64 x6)]) ⟨rfl, rfl, rfl, trivial⟩)), (St.pick (Γ' := [.blk b3 #[.int .i64 f0, .slice f1A f1.length f1C] 30, .rd 1 classesA classes.length classesC classes, .rd 1 f1A f1.length f1C f1]) hS43 [0, 1, 2] (by decide) rfl)⟩
   ·
    rintro a133 w134 ⟨hO137, hi138, hi139, hi140, hi141, hE135, hS136⟩; clear hE38 hS7
    refine p_tn ?_
    refine c_seq ?_
    refine c_reg ?_
    refine q_step (v := .bool true) hE135 (y_assign rfl) rfl rfl rfl ?_; intro a142 hE143; clear hE135
    refine c_nil ?_
    have hE144 := hE143.sub (L' := [(4, .bool true)]) ⟨rfl, trivial⟩; clear hE143
    refine p_tn ?_
    refine wp_ret ?_
    have hF : F_l08Ordered f0 f1 classes = true := by unfold F_l08Ordered; rw [hO137, ht23]; first | done | rfl
    refine c_ret1 hE144 rfl rfl ?_
    exact ⟨(by rw [hF]; first | done | (dsimp only; done) | rfl), hS136.ext⟩
theorem l08Ord_loop (list : List Int) (r : Nat) (c i : Int) : F_l08Ordered_L1 list r c i = F_areClasses_L1 list r c i := by
  induction r generalizing c i with
  | zero => rfl
  | succ r ih =>
    show F_l08Ordered_L1b list _ c i = F_areClasses_L1b list _ c i
    unfold F_l08Ordered_L1b F_areClasses_L1b
    rw [ih, ih]; rfl
theorem l08Ordered_eq (f0 : Int) (f1 classes : List Int) : F_l08Ordered f0 f1 classes = (decide ((classes.length : Int) = f0) && F_areClasses classes) := by
  unfold F_l08Ordered F_areClasses
  rw [l08Ord_loop]
  cases decide ((classes.length : Int) = f0) <;> rfl
theorem l08Ordered_t {f0 : Int} {f1 classes : List Int} (h : F_l08Ordered f0 f1 classes = true) : (classes.length : Int) = f0 := by
  rw [l08Ordered_eq, Bool.and_eq_true] at h; exact of_decide_eq_true h.1
theorem l08Ordered_7 {f0 : Int} {f1 classes : List Int} (h : F_l08Ordered f0 f1 classes = true) (h8 : f0 ≤ 8) : ∀ m : Int, 0 ≤ m → m < (classes.length : Int) → 0 ≤ gI classes m ∧ gI classes m ≤ 7 := by
  have hl := l08Ordered_t h
  rw [l08Ordered_eq, Bool.and_eq_true] at h
  exact areClasses_7 h.2 (by omega)
def F_l08Congruence_L2b (f1 : List Int) (classes : List Int) (x5 : Int) (rec : Int → Except (Bool) (Int)) (y6L2 : Int) : Except (Bool) (Int) :=
  bif (decide (y6L2 < x5)) then (bif ((decide ((gI classes x5) = (gI classes y6L2))) && (!decide ((F_l08Image classes (gI f1 x5)) = (F_l08Image classes (gI f1 y6L2))))) then (.error false) else (rec (y6L2 + 1))) else (.ok y6L2)
def F_l08Congruence_L2 (f1 : List Int) (classes : List Int) (x5 : Int) : Nat → Int → Except (Bool) (Int)
  | 0, y6L2 => .ok y6L2
  | r + 1, y6L2 => F_l08Congruence_L2b f1 classes x5 (F_l08Congruence_L2 f1 classes x5 r) y6L2
def F_l08Congruence_L1b (f1 : List Int) (classes : List Int) (rec : Int → Except (Bool) (Int)) (x5 : Int) : Except (Bool) (Int) :=
  bif (decide (x5 < (classes.length : Int))) then (bif (isOk (F_l08Congruence_L2 f1 classes x5 (Int.toNat (x5 - 0) + 1) 0)) then (rec (x5 + 1)) else (.error (errD (F_l08Congruence_L2 f1 classes x5 (Int.toNat (x5 - 0) + 1) 0)))) else (.ok x5)
def F_l08Congruence_L1 (f1 : List Int) (classes : List Int) : Nat → Int → Except (Bool) (Int)
  | 0, x5 => .ok x5
  | r + 1, x5 => F_l08Congruence_L1b f1 classes (F_l08Congruence_L1 f1 classes r) x5
def F_l08Congruence (f0 : Int) (f1 : List Int) (classes : List Int) : Bool :=
  bif (!(F_l08Ordered f0 f1 classes)) then false else (bif (isOk (F_l08Congruence_L1 f1 classes (Int.toNat ((classes.length : Int) - 0) + 1) 0)) then true else (errD (F_l08Congruence_L1 f1 classes (Int.toNat ((classes.length : Int) - 0) + 1) 0)))
theorem cf_l08Congruence (args : Array Value) (w : World) : (callFunc 113 args).run Try.prog w = .ok (.enter 113 args) w := by kernel_rfl
set_option maxRecDepth 100000 in
theorem c_l08Congruence (f0 : Int) (f1A : Option Addr) (f1N f1C : Nat) (f1 : List Int) (classesA : Option Addr) (classesN classesC : Nat) (classes : List Int) (w : World) (f1R : RdS w 1 f1A f1N f1C f1) (classesR : RdS w 1 classesA classesN classesC classes) (hf : 0 ≤ f0 ∧ f0 ≤ 8) (hfl : (f1.length : Int) = f0) (hfm : ∀ m : Int, 0 ≤ m → m < (f1.length : Int) → 0 ≤ gI f1 m ∧ gI f1 m ≤ fullI f0) (hl : classes.length ≤ 1048576) :
    Calls Try.prog 113 #[.agg #[.int .i64 f0, .slice f1A f1N f1C], .slice classesA classesN classesC] w (Ret fun v w' => v = .bool (F_l08Congruence f0 f1 classes) ∧ Ext w w') := by
  obtain rfl : f1N = f1.length := f1R.len1.symm
  have f1Le := f1R.le
  obtain rfl : classesN = classes.length := classesR.len1.symm
  have classesLe := classesR.le
  have hS := St.nil w
  have hS1 := St.rd0 hS rfl f1R; clear hS
  have hS2 := St.rd0 hS1 rfl classesR; clear hS1
  refine enter (args := [.agg #[.int .i64 f0, .slice f1A f1.length f1C], .slice classesA classes.length classesC]) Try.func113 rfl rfl ?_
  rw [Try.ntmps113]; intro a hE
  have hE := hE.sub (L' := [(0, .agg #[.int .i64 f0, .slice f1A f1.length f1C]), (1, .slice classesA classes.length classesC)]) ⟨rfl, rfl, trivial⟩
  refine c_seq ?_
  refine c_reg ?_
  refine l_step hE rfl (l_box (v := .agg #[.int .i64 f0, .slice f1A f1.length f1C]) (cs := #[.int .i64 f0, .slice f1A f1.length f1C]) hS2 hE rfl rfl rfl ?_)
  intro b3 w4 hS7 he8 a5 hE6; clear hS2 hE
  refine q_step (v := .bool false) hE6 (y_assign rfl) rfl rfl rfl ?_; intro a9 hE10; clear hE6
  refine c_nil ?_
  have hE11 := hE10.sub (L' := [(1, .slice classesA classes.length classesC), (2, .pointer (some ⟨b3, 0, none⟩))]) ⟨rfl, rfl, trivial⟩; clear hE10
  refine p_tn ?_
  refine c_seq ?_
  refine c_seq ?_
  refine c_reg ?_
  refine q_step (v := .agg #[.int .i64 f0, .slice f1A f1.length f1C]) hE11 (y_loadS Try.underlying30 rfl (by kernel_rfl) rfl (St.row (i := 0) hS7 rfl)) rfl rfl rfl ?_; intro a12 hE13; clear hE11
  refine q_step (v := .slice classesA classes.length classesC) hE13 (y_move rfl) rfl rfl rfl ?_; intro a14 hE15; clear hE13
  refine l_step hE15 rfl (l_call (f := 195) (argv := [.agg #[.int .i64 f0, .slice f1A f1.length f1C], .slice classesA classes.length classesC]) hE15 (fun _ => cf_l08Ordered _ _) rfl rfl (c_l08Ordered f0 f1A f1.length f1C f1 classesA classes.length classesC classes w4 (St.rdR (i := 2) hS7 rfl) (St.rdR (i := 1) hS7 rfl) (by omega)) ?_)
  rintro _ w17 ⟨rfl, he21⟩ a18 hE19; clear hE15
  have hS20 := St.go hS7 he21; clear hS7
  refine q_step (v := .bool (!(F_l08Ordered f0 f1 classes))) hE19 (y_not rfl) rfl rfl rfl ?_; intro a22 hE23; clear hE19
  refine c_nil ?_
  have hE24 := hE23.sub (L' := [(1, .slice classesA classes.length classesC), (2, .pointer (some ⟨b3, 0, none⟩)), (10, .bool (!(F_l08Ordered f0 f1 classes)))]) ⟨rfl, rfl, rfl, trivial⟩; clear hE23
  refine p_tn ?_
  refine c_cond hE24 rfl (fun ht25 => ?_) (fun ht25 => ?_)
  ·
   have ht26 := bn_t ht25
   have hE27 := hE24; rw [ht25] at hE27; clear hE24
   refine c_seq ?_
   refine c_reg ?_
   refine q_step (v := .bool false) hE27 (y_assign rfl) rfl rfl rfl ?_; intro a28 hE29; clear hE27
   refine c_nil ?_
   have hE30 := hE29.sub (L' := [(4, .bool false)]) ⟨rfl, trivial⟩; clear hE29
   refine p_tn ?_
   refine wp_ret ?_
   refine p_tr ?_
   have hF : F_l08Congruence f0 f1 classes = false := by unfold F_l08Congruence; rw [ht25]; first | done | rfl
   refine c_ret1 hE30 rfl rfl ?_
   exact ⟨(by rw [hF]; first | done | (dsimp only; done) | rfl), hS20.ext⟩
  ·
   have ht31 := bn_f ht25
   have hp32 := l08Ordered_t ht31
   have hE33 := hE24; rw [ht25] at hE33; clear hE24
   refine wp_skip ?_
   refine p_tn ?_
   refine c_seq ?_
   refine c_seq ?_
   refine c_reg ?_
   refine q_step (v := .int .i64 0) hE33 (y_assign rfl) rfl rfl rfl ?_; intro a34 hE35; clear hE33
   refine c_nil ?_
   have hE36 := hE35.sub (L' := [(1, .slice classesA classes.length classesC), (2, .pointer (some ⟨b3, 0, none⟩)), (5, .int .i64 0)]) ⟨rfl, rfl, rfl, trivial⟩; clear hE35
   refine p_tn ?_
   refine c_cut1 (fun a' w' => isOk (F_l08Congruence_L1 f1 classes (Int.toNat ((classes.length : Int) - 0) + 1) 0) = true ∧ (0 ≤ (okD (F_l08Congruence_L1 f1 classes (Int.toNat ((classes.length : Int) - 0) + 1) 0))) ∧ ((okD (F_l08Congruence_L1 f1 classes (Int.toNat ((classes.length : Int) - 0) + 1) 0)) ≤ (classes.length : Int)) ∧ E a' 48 [(1, .slice classesA classes.length classesC), (2, .pointer (some ⟨b3, 0, none⟩)), (5, .int .i64 (okD (F_l08Congruence_L1 f1 classes (Int.toNat ((classes.length : Int) - 0) + 1) 0)))] ∧ St w w' [.blk b3 #[.int .i64 f0, .slice f1A f1.length f1C] 30, .rd 1 classesA classes.length classesC classes, .rd 1 f1A f1.length f1C f1]) ?_ ?_
   ·
    refine wp_block ?_
    refine c_loop (fun r a' w' => ∃ x5 : Int, F_l08Congruence_L1 f1 classes r x5 = F_l08Congruence_L1 f1 classes (Int.toNat ((classes.length : Int) - 0) + 1) 0 ∧ Int.toNat ((classes.length : Int) - x5) < r ∧ (0 ≤ x5) ∧ (x5 ≤ (classes.length : Int)) ∧ E a' 48 [(1, .slice classesA classes.length classesC), (2, .pointer (some ⟨b3, 0, none⟩)), (5, .int .i64 x5)] ∧ St w w' [.blk b3 #[.int .i64 f0, .slice f1A f1.length f1C] 30, .rd 1 classesA classes.length classesC classes, .rd 1 f1A f1.length f1C f1]) (r := (Int.toNat ((classes.length : Int) - 0) + 1)) ?_ ?_
    · exact ⟨0, rfl, Nat.lt_succ_self _, (by first | omega | (simp only [sS_len, sL_len]; omega) | (simp only [List.length_replicate, sI_len]; omega) | (simp only [List.length_append, List.length_cons, List.length_nil, sI_len, cond_true, cond_false]; omega) | (simp only [List.length_append, List.length_cons, List.length_nil, sI_len, cond_eq_ite, apply_ite List.length]; split <;> simp only [List.length_append, List.length_cons, List.length_nil, sI_len] <;> omega) | grind), (by first | omega | (simp only [sS_len, sL_len]; omega) | (simp only [List.length_replicate, sI_len]; omega) | (simp only [List.length_append, List.length_cons, List.length_nil, sI_len, cond_true, cond_false]; omega) | (simp only [List.length_append, List.length_cons, List.length_nil, sI_len, cond_eq_ite, apply_ite List.length]; split <;> simp only [List.length_append, List.length_cons, List.length_nil, sI_len] <;> omega) | grind), (hE36.sub (L' := [(1, .slice classesA classes.length classesC), (2, .pointer (some ⟨b3, 0, none⟩)), (5, .int .i64 0)]) ⟨rfl, rfl, rfl, trivial⟩), (St.pick (Γ' := [.blk b3 #[.int .i64 f0, .slice f1A f1.length f1C] 30, .rd 1 classesA classes.length classesC classes, .rd 1 f1A f1.length f1C f1]) hS20 [0, 1, 2] (by decide) rfl)⟩
    ·
     clear hE36 hS20
     rintro r46 a38 w39 ⟨x5, hT42, hr43, hi44, hi45, hE40, hS41⟩
     obtain ⟨r46, rfl⟩ : ∃ r', r46 = r' + 1 := ⟨r46 - 1, by omega⟩
     refine c_seq ?_
     refine c_seq ?_
     refine c_reg ?_
     refine q_step (v := .int .i64 x5) hE40 (y_move rfl) rfl rfl rfl ?_; intro a47 hE48; clear hE40
     refine q_step (v := .slice classesA classes.length classesC) hE48 (y_move rfl) rfl rfl rfl ?_; intro a49 hE50; clear hE48
     refine q_step (v := .int .i64 (classes.length : Int)) hE50 (y_len (e := 2) (by kernel_rfl) rfl) rfl rfl rfl ?_; intro a51 hE52; clear hE50
     refine q_step (v := .bool (decide (x5 < (classes.length : Int)))) hE52 (y_lss rfl rfl) rfl rfl rfl ?_; intro a53 hE54; clear hE52
     refine c_nil ?_
     have hE55 := hE54.sub (L' := [(1, .slice classesA classes.length classesC), (2, .pointer (some ⟨b3, 0, none⟩)), (5, .int .i64 x5), (14, .bool (decide (x5 < (classes.length : Int))))]) ⟨rfl, rfl, rfl, rfl, trivial⟩; clear hE54
     refine p_tn ?_
     refine c_cond hE55 rfl (fun ht56 => ?_) (fun ht56 => ?_)
     ·
      have hp57 := of_decide_eq_true ht56
      have hE58 := hE55; rw [ht56] at hE58; clear hE55
      refine wp_skip ?_
      refine p_tn ?_
      refine c_seq ?_
      refine wp_block ?_
      refine c_seq ?_
      refine c_reg ?_
      refine q_step (v := .int .i64 0) hE58 (y_assign rfl) rfl rfl rfl ?_; intro a59 hE60; clear hE58
      refine c_nil ?_
      have hE61 := hE60.sub (L' := [(1, .slice classesA classes.length classesC), (2, .pointer (some ⟨b3, 0, none⟩)), (5, .int .i64 x5), (6, .int .i64 0)]) ⟨rfl, rfl, rfl, rfl, trivial⟩; clear hE60
      refine p_tn ?_
      refine c_cut1 (fun a' w' => isOk (F_l08Congruence_L2 f1 classes x5 (Int.toNat (x5 - 0) + 1) 0) = true ∧ (0 ≤ (okD (F_l08Congruence_L2 f1 classes x5 (Int.toNat (x5 - 0) + 1) 0))) ∧ E a' 48 [(1, .slice classesA classes.length classesC), (2, .pointer (some ⟨b3, 0, none⟩)), (5, .int .i64 x5), (6, .int .i64 (okD (F_l08Congruence_L2 f1 classes x5 (Int.toNat (x5 - 0) + 1) 0)))] ∧ St w w' [.blk b3 #[.int .i64 f0, .slice f1A f1.length f1C] 30, .rd 1 classesA classes.length classesC classes, .rd 1 f1A f1.length f1C f1]) ?_ ?_
      ·
       refine wp_block ?_
       refine c_loop (fun r a' w' => ∃ y6L2 : Int, F_l08Congruence_L2 f1 classes x5 r y6L2 = F_l08Congruence_L2 f1 classes x5 (Int.toNat (x5 - 0) + 1) 0 ∧ Int.toNat (x5 - y6L2) < r ∧ (0 ≤ y6L2) ∧ E a' 48 [(1, .slice classesA classes.length classesC), (2, .pointer (some ⟨b3, 0, none⟩)), (5, .int .i64 x5), (6, .int .i64 y6L2)] ∧ St w w' [.blk b3 #[.int .i64 f0, .slice f1A f1.length f1C] 30, .rd 1 classesA classes.length classesC classes, .rd 1 f1A f1.length f1C f1]) (r := (Int.toNat (x5 - 0) + 1)) ?_ ?_
       · exact ⟨0, rfl, Nat.lt_succ_self _, (by first | omega | (simp only [sS_len, sL_len]; omega) | (simp only [List.length_replicate, sI_len]; omega) | (simp only [List.length_append, List.length_cons, List.length_nil, sI_len, cond_true, cond_false]; omega) | (simp only [List.length_append, List.length_cons, List.length_nil, sI_len, cond_eq_ite, apply_ite List.length]; split <;> simp only [List.length_append, List.length_cons, List.length_nil, sI_len] <;> omega) | grind), (hE61.sub (L' := [(1, .slice classesA classes.length classesC), (2, .pointer (some ⟨b3, 0, none⟩)), (5, .int .i64 x5), (6, .int .i64 0)]) ⟨rfl, rfl, rfl, rfl, trivial⟩), (St.pick (Γ' := [.blk b3 #[.int .i64 f0, .slice f1A f1.length f1C] 30, .rd 1 classesA classes.length classesC classes, .rd 1 f1A f1.length f1C f1]) hS41 [0, 1, 2] (by decide) rfl)⟩
       ·
        clear hE61 hS41
        rintro r70 a63 w64 ⟨y6L2, hT67, hr68, hi69, hE65, hS66⟩
        obtain ⟨r70, rfl⟩ : ∃ r', r70 = r' + 1 := ⟨r70 - 1, by omega⟩
        refine c_seq ?_
        refine c_seq ?_
        refine c_reg ?_
        refine q_step (v := .int .i64 y6L2) hE65 (y_move rfl) rfl rfl rfl ?_; intro a71 hE72; clear hE65
        refine q_step (v := .int .i64 x5) hE72 (y_move rfl) rfl rfl rfl ?_; intro a73 hE74; clear hE72
        refine q_step (v := .bool (decide (y6L2 < x5))) hE74 (y_lss rfl rfl) rfl rfl rfl ?_; intro a75 hE76; clear hE74
        refine c_nil ?_
        have hE77 := hE76.sub (L' := [(1, .slice classesA classes.length classesC), (2, .pointer (some ⟨b3, 0, none⟩)), (5, .int .i64 x5), (6, .int .i64 y6L2), (19, .bool (decide (y6L2 < x5)))]) ⟨rfl, rfl, rfl, rfl, rfl, trivial⟩; clear hE76
        refine p_tn ?_
        refine c_cond hE77 rfl (fun ht78 => ?_) (fun ht78 => ?_)
        ·
         have hp79 := of_decide_eq_true ht78
         have hE80 := hE77; rw [ht78] at hE80; clear hE77
         refine wp_skip ?_
         refine p_tn ?_
         refine c_seq ?_
         refine wp_block ?_
         refine c_cut (fun a' w' => E a' 48 [(1, .slice classesA classes.length classesC), (2, .pointer (some ⟨b3, 0, none⟩)), (5, .int .i64 x5), (6, .int .i64 y6L2), (47, .bool ((decide ((gI classes x5) = (gI classes y6L2))) && (!decide ((F_l08Image classes (gI f1 x5)) = (F_l08Image classes (gI f1 y6L2))))))] ∧ St w w' [.rd 1 f1A f1.length f1C f1, .blk b3 #[.int .i64 f0, .slice f1A f1.length f1C] 30, .rd 1 classesA classes.length classesC classes]) ?_ ?_
         ·
          refine d_start (fun w w' => (fun w' => w'.cell? (adr classesA (Int.toNat x5)) = some (.int .i64 (gI classes x5)) ∧ w'.cell? (adr classesA (Int.toNat y6L2)) = some (.int .i64 (gI classes y6L2)) ∧ w'.cell? ⟨b3, 1, none⟩ = some (.slice f1A f1.length f1C) ∧ w'.cell? (adr f1A (Int.toNat x5)) = some (.int .i64 (gI f1 x5)) ∧ w'.cell? ⟨b3, 1, none⟩ = some (.slice f1A f1.length f1C) ∧ w'.cell? (adr f1A (Int.toNat y6L2)) = some (.int .i64 (gI f1 y6L2)) ∧ True) w → (fun w' => w'.cell? (adr classesA (Int.toNat x5)) = some (.int .i64 (gI classes x5)) ∧ w'.cell? (adr classesA (Int.toNat y6L2)) = some (.int .i64 (gI classes y6L2)) ∧ w'.cell? ⟨b3, 1, none⟩ = some (.slice f1A f1.length f1C) ∧ w'.cell? (adr f1A (Int.toNat x5)) = some (.int .i64 (gI f1 x5)) ∧ w'.cell? ⟨b3, 1, none⟩ = some (.slice f1A f1.length f1C) ∧ w'.cell? (adr f1A (Int.toNat y6L2)) = some (.int .i64 (gI f1 y6L2)) ∧ True) w') [3, 7, 12, 15, 19, 22] 26 (by kernel_rfl) rfl ?_
          intro w81 he82; have hS83 := St.go hS66 he82; clear hS66
          refine d_pure (fun _ h => h) (v := .slice classesA classes.length classesC) 0 rfl hE80 (y_move rfl) rfl (by kernel_rfl) (by kernel_rfl) (by kernel_rfl) rfl rfl (fun _ _ _ h => h) ?_; intro a84 hE85; clear hE80
          refine d_pure (fun _ h => h) (v := .int .i64 x5) 1 rfl hE85 (y_move rfl) rfl (by kernel_rfl) (by kernel_rfl) (by kernel_rfl) rfl rfl (fun _ _ _ h => h) ?_; intro a86 hE87; clear hE85
          refine d_pure (fun _ h => h) (v := .pointer (some (adr classesA (Int.toNat x5)))) 2 rfl hE87 (y_idx (by kernel_rfl) (fun _ => by kernel_rfl) rfl rfl (RdS.isS (m := x5) (St.rdR (i := 1) hS83 rfl) (by omega) (by omega)) (by omega) (by omega) (Nat.mul_one _).symm) rfl (by kernel_rfl) (by kernel_rfl) (by kernel_rfl) rfl rfl (fun _ _ _ h => h) ?_; intro a88 hE89; clear hE87
          refine d_take (fun _ h => h) (fun _ _ h k => h k) (v := .int .i64 (gI classes x5)) 3 rfl hE89 (S := fun w' => w'.cell? (adr classesA (Int.toNat x5)) = some (.int .i64 (gI classes x5)) ∧ w'.cell? (adr classesA (Int.toNat y6L2)) = some (.int .i64 (gI classes y6L2)) ∧ w'.cell? ⟨b3, 1, none⟩ = some (.slice f1A f1.length f1C) ∧ w'.cell? (adr f1A (Int.toNat x5)) = some (.int .i64 (gI f1 x5)) ∧ w'.cell? ⟨b3, 1, none⟩ = some (.slice f1A f1.length f1C) ∧ w'.cell? (adr f1A (Int.toNat y6L2)) = some (.int .i64 (gI f1 y6L2)) ∧ True) ⟨(RdS.elt (St.rdR (i := 1) hS83 rfl) (by omega) (by omega) _ (Ext.refl _)), (RdS.elt (St.rdR (i := 1) hS83 rfl) (by omega) (by omega) _ (Ext.refl _)), (St.cell (i := 0) hS83 rfl rfl _ (Ext.refl _)), (RdS.elt (St.rdR (i := 2) hS83 rfl) (by omega) (by omega) _ (Ext.refl _)), (St.cell (i := 0) hS83 rfl rfl _ (Ext.refl _)), (RdS.elt (St.rdR (i := 2) hS83 rfl) (by omega) (by omega) _ (Ext.refl _)), trivial⟩ (y_load (fun _ => by kernel_rfl) rfl (fun _ h => h.1)) rfl rfl (by kernel_rfl) (by kernel_rfl) (by kernel_rfl) (by kernel_rfl) rfl rfl (fun _ _ _ h => h) ?_; intro a90 hE91; clear hE89
          refine d_pure (fun _ h => h) (v := .slice classesA classes.length classesC) 4 rfl hE91 (y_move rfl) rfl (by kernel_rfl) (by kernel_rfl) (by kernel_rfl) rfl rfl (fun _ _ _ h => h) ?_; intro a92 hE93; clear hE91
          refine d_pure (fun _ h => h) (v := .int .i64 y6L2) 5 rfl hE93 (y_move rfl) rfl (by kernel_rfl) (by kernel_rfl) (by kernel_rfl) rfl rfl (fun _ _ _ h => h) ?_; intro a94 hE95; clear hE93
          refine d_pure (fun _ h => h) (v := .pointer (some (adr classesA (Int.toNat y6L2)))) 6 rfl hE95 (y_idx (by kernel_rfl) (fun _ => by kernel_rfl) rfl rfl (RdS.isS (m := y6L2) (St.rdR (i := 1) hS83 rfl) (by omega) (by omega)) (by omega) (by omega) (Nat.mul_one _).symm) rfl (by kernel_rfl) (by kernel_rfl) (by kernel_rfl) rfl rfl (fun _ _ _ h => h) ?_; intro a96 hE97; clear hE95
          refine d_take (fun _ h => h) (fun _ _ h k => h k) (v := .int .i64 (gI classes y6L2)) 7 rfl hE97 (S := fun w' => w'.cell? (adr classesA (Int.toNat x5)) = some (.int .i64 (gI classes x5)) ∧ w'.cell? (adr classesA (Int.toNat y6L2)) = some (.int .i64 (gI classes y6L2)) ∧ w'.cell? ⟨b3, 1, none⟩ = some (.slice f1A f1.length f1C) ∧ w'.cell? (adr f1A (Int.toNat x5)) = some (.int .i64 (gI f1 x5)) ∧ w'.cell? ⟨b3, 1, none⟩ = some (.slice f1A f1.length f1C) ∧ w'.cell? (adr f1A (Int.toNat y6L2)) = some (.int .i64 (gI f1 y6L2)) ∧ True) ⟨(RdS.elt (St.rdR (i := 1) hS83 rfl) (by omega) (by omega) _ (Ext.refl _)), (RdS.elt (St.rdR (i := 1) hS83 rfl) (by omega) (by omega) _ (Ext.refl _)), (St.cell (i := 0) hS83 rfl rfl _ (Ext.refl _)), (RdS.elt (St.rdR (i := 2) hS83 rfl) (by omega) (by omega) _ (Ext.refl _)), (St.cell (i := 0) hS83 rfl rfl _ (Ext.refl _)), (RdS.elt (St.rdR (i := 2) hS83 rfl) (by omega) (by omega) _ (Ext.refl _)), trivial⟩ (y_load (fun _ => by kernel_rfl) rfl (fun _ h => h.2.1)) rfl rfl (by kernel_rfl) (by kernel_rfl) (by kernel_rfl) (by kernel_rfl) rfl rfl (fun _ _ _ h => h) ?_; intro a98 hE99; clear hE97
          refine d_pure (fun _ h => h) (v := .bool (decide ((gI classes x5) = (gI classes y6L2)))) 8 rfl hE99 (y_eql rfl rfl) rfl (by kernel_rfl) (by kernel_rfl) (by kernel_rfl) rfl rfl (fun _ _ _ h => h) ?_; intro a100 hE101; clear hE99
          refine d_pure (fun _ h => h) (v := .bool (decide ((gI classes x5) = (gI classes y6L2)))) 9 rfl hE101 (y_move rfl) rfl (by kernel_rfl) (by kernel_rfl) (by kernel_rfl) rfl rfl (fun _ _ _ h => h) ?_; intro a102 hE103; clear hE101
          rcases Bool.eq_false_or_eq_true (decide ((gI classes x5) = (gI classes y6L2))) with hb104 | hb104
          ·
           have hE105 := hE103; (try rw [hb104] at hE105); clear hE103
           have hp106 := of_decide_eq_true hb104
           refine d_pure (fun _ h => h) (v := .slice classesA classes.length classesC) 10 rfl hE105 (y_move rfl) rfl (by kernel_rfl) (by kernel_rfl) (by kernel_rfl) rfl rfl (fun _ _ _ h => h) ?_; intro a107 hE108; clear hE105
           refine d_pure (fun _ h => h) (v := .pointer (some ⟨b3, 1, none⟩)) 11 rfl hE108 (y_field rfl (fun _ => by kernel_rfl)) rfl (by kernel_rfl) (by kernel_rfl) (by kernel_rfl) rfl rfl (fun _ _ _ h => h) ?_; intro a109 hE110; clear hE108
           refine d_take (fun _ h => h) (fun _ _ h k => h k) (v := .slice f1A f1.length f1C) 12 rfl hE110 (S := fun w' => w'.cell? (adr classesA (Int.toNat x5)) = some (.int .i64 (gI classes x5)) ∧ w'.cell? (adr classesA (Int.toNat y6L2)) = some (.int .i64 (gI classes y6L2)) ∧ w'.cell? ⟨b3, 1, none⟩ = some (.slice f1A f1.length f1C) ∧ w'.cell? (adr f1A (Int.toNat x5)) = some (.int .i64 (gI f1 x5)) ∧ w'.cell? ⟨b3, 1, none⟩ = some (.slice f1A f1.length f1C) ∧ w'.cell? (adr f1A (Int.toNat y6L2)) = some (.int .i64 (gI f1 y6L2)) ∧ True) ⟨(RdS.elt (St.rdR (i := 1) hS83 rfl) (by omega) (by omega) _ (Ext.refl _)), (RdS.elt (St.rdR (i := 1) hS83 rfl) (by omega) (by omega) _ (Ext.refl _)), (St.cell (i := 0) hS83 rfl rfl _ (Ext.refl _)), (RdS.elt (St.rdR (i := 2) hS83 rfl) (by omega) (by omega) _ (Ext.refl _)), (St.cell (i := 0) hS83 rfl rfl _ (Ext.refl _)), (RdS.elt (St.rdR (i := 2) hS83 rfl) (by omega) (by omega) _ (Ext.refl _)), trivial⟩ (y_load (fun _ => by kernel_rfl) rfl (fun _ h => h.2.2.1)) rfl rfl (by kernel_rfl) (by kernel_rfl) (by kernel_rfl) (by kernel_rfl) rfl rfl (fun _ _ _ h => h) ?_; intro a111 hE112; clear hE110
           refine d_pure (fun _ h => h) (v := .int .i64 x5) 13 rfl hE112 (y_move rfl) rfl (by kernel_rfl) (by kernel_rfl) (by kernel_rfl) rfl rfl (fun _ _ _ h => h) ?_; intro a113 hE114; clear hE112
           refine d_pure (fun _ h => h) (v := .pointer (some (adr f1A (Int.toNat x5)))) 14 rfl hE114 (y_idx (by kernel_rfl) (fun _ => by kernel_rfl) rfl rfl (RdS.isS (m := x5) (St.rdR (i := 2) hS83 rfl) (by omega) (by omega)) (by omega) (by omega) (Nat.mul_one _).symm) rfl (by kernel_rfl) (by kernel_rfl) (by kernel_rfl) rfl rfl (fun _ _ _ h => h) ?_; intro a115 hE116; clear hE114
           refine d_take (fun _ h => h) (fun _ _ h k => h k) (v := .int .i64 (gI f1 x5)) 15 rfl hE116 (S := fun w' => w'.cell? (adr classesA (Int.toNat x5)) = some (.int .i64 (gI classes x5)) ∧ w'.cell? (adr classesA (Int.toNat y6L2)) = some (.int .i64 (gI classes y6L2)) ∧ w'.cell? ⟨b3, 1, none⟩ = some (.slice f1A f1.length f1C) ∧ w'.cell? (adr f1A (Int.toNat x5)) = some (.int .i64 (gI f1 x5)) ∧ w'.cell? ⟨b3, 1, none⟩ = some (.slice f1A f1.length f1C) ∧ w'.cell? (adr f1A (Int.toNat y6L2)) = some (.int .i64 (gI f1 y6L2)) ∧ True) ⟨(RdS.elt (St.rdR (i := 1) hS83 rfl) (by omega) (by omega) _ (Ext.refl _)), (RdS.elt (St.rdR (i := 1) hS83 rfl) (by omega) (by omega) _ (Ext.refl _)), (St.cell (i := 0) hS83 rfl rfl _ (Ext.refl _)), (RdS.elt (St.rdR (i := 2) hS83 rfl) (by omega) (by omega) _ (Ext.refl _)), (St.cell (i := 0) hS83 rfl rfl _ (Ext.refl _)), (RdS.elt (St.rdR (i := 2) hS83 rfl) (by omega) (by omega) _ (Ext.refl _)), trivial⟩ (y_load (fun _ => by kernel_rfl) rfl (fun _ h => h.2.2.2.1)) rfl rfl (by kernel_rfl) (by kernel_rfl) (by kernel_rfl) (by kernel_rfl) rfl rfl (fun _ _ _ h => h) ?_; intro a117 hE118; clear hE116
           refine d_pure (fun _ h => h) (v := .slice classesA classes.length classesC) 17 rfl hE118 (y_move rfl) rfl (by kernel_rfl) (by kernel_rfl) (by kernel_rfl) rfl rfl (fun _ _ _ h => h) ?_; intro a119 hE120; clear hE118
           refine d_pure (fun _ h => h) (v := .pointer (some ⟨b3, 1, none⟩)) 18 rfl hE120 (y_field rfl (fun _ => by kernel_rfl)) rfl (by kernel_rfl) (by kernel_rfl) (by kernel_rfl) rfl rfl (fun _ _ _ h => h) ?_; intro a121 hE122; clear hE120
           refine d_take (fun _ h => h) (fun _ _ h k => h k) (v := .slice f1A f1.length f1C) 19 rfl hE122 (S := fun w' => w'.cell? (adr classesA (Int.toNat x5)) = some (.int .i64 (gI classes x5)) ∧ w'.cell? (adr classesA (Int.toNat y6L2)) = some (.int .i64 (gI classes y6L2)) ∧ w'.cell? ⟨b3, 1, none⟩ = some (.slice f1A f1.length f1C) ∧ w'.cell? (adr f1A (Int.toNat x5)) = some (.int .i64 (gI f1 x5)) ∧ w'.cell? ⟨b3, 1, none⟩ = some (.slice f1A f1.length f1C) ∧ w'.cell? (adr f1A (Int.toNat y6L2)) = some (.int .i64 (gI f1 y6L2)) ∧ True) ⟨(RdS.elt (St.rdR (i := 1) hS83 rfl) (by omega) (by omega) _ (Ext.refl _)), (RdS.elt (St.rdR (i := 1) hS83 rfl) (by omega) (by omega) _ (Ext.refl _)), (St.cell (i := 0) hS83 rfl rfl _ (Ext.refl _)), (RdS.elt (St.rdR (i := 2) hS83 rfl) (by omega) (by omega) _ (Ext.refl _)), (St.cell (i := 0) hS83 rfl rfl _ (Ext.refl _)), (RdS.elt (St.rdR (i := 2) hS83 rfl) (by omega) (by omega) _ (Ext.refl _)), trivial⟩ (y_load (fun _ => by kernel_rfl) rfl (fun _ h => h.2.2.2.2.1)) rfl rfl (by kernel_rfl) (by kernel_rfl) (by kernel_rfl) (by kernel_rfl) rfl rfl (fun _ _ _ h => h) ?_; intro a123 hE124; clear hE122
           refine d_pure (fun _ h => h) (v := .int .i64 y6L2) 20 rfl hE124 (y_move rfl) rfl (by kernel_rfl) (by kernel_rfl) (by kernel_rfl) rfl rfl (fun _ _ _ h => h) ?_; intro a125 hE126; clear hE124
           refine d_pure (fun _ h => h) (v := .pointer (some (adr f1A (Int.toNat y6L2)))) 21 rfl hE126 (y_idx (by kernel_rfl) (fun _ => by kernel_rfl) rfl rfl (RdS.isS (m := y6L2) (St.rdR (i := 2) hS83 rfl) (by omega) (by omega)) (by omega) (by omega) (Nat.mul_one _).symm) rfl (by kernel_rfl) (by kernel_rfl) (by kernel_rfl) rfl rfl (fun _ _ _ h => h) ?_; intro a127 hE128; clear hE126
           refine d_take (fun _ h => h) (fun _ _ h k => h k) (v := .int .i64 (gI f1 y6L2)) 22 rfl hE128 (S := fun w' => w'.cell? (adr classesA (Int.toNat x5)) = some (.int .i64 (gI classes x5)) ∧ w'.cell? (adr classesA (Int.toNat y6L2)) = some (.int .i64 (gI classes y6L2)) ∧ w'.cell? ⟨b3, 1, none⟩ = some (.slice f1A f1.length f1C) ∧ w'.cell? (adr f1A (Int.toNat x5)) = some (.int .i64 (gI f1 x5)) ∧ w'.cell? ⟨b3, 1, none⟩ = some (.slice f1A f1.length f1C) ∧ w'.cell? (adr f1A (Int.toNat y6L2)) = some (.int .i64 (gI f1 y6L2)) ∧ True) ⟨(RdS.elt (St.rdR (i := 1) hS83 rfl) (by omega) (by omega) _ (Ext.refl _)), (RdS.elt (St.rdR (i := 1) hS83 rfl) (by omega) (by omega) _ (Ext.refl _)), (St.cell (i := 0) hS83 rfl rfl _ (Ext.refl _)), (RdS.elt (St.rdR (i := 2) hS83 rfl) (by omega) (by omega) _ (Ext.refl _)), (St.cell (i := 0) hS83 rfl rfl _ (Ext.refl _)), (RdS.elt (St.rdR (i := 2) hS83 rfl) (by omega) (by omega) _ (Ext.refl _)), trivial⟩ (y_load (fun _ => by kernel_rfl) rfl (fun _ h => h.2.2.2.2.2.1)) rfl rfl (by kernel_rfl) (by kernel_rfl) (by kernel_rfl) (by kernel_rfl) rfl rfl (fun _ _ _ h => h) ?_; intro a129 hE130; clear hE128
           refine d_only 16 (by kernel_rfl) rfl hE130 rfl (l_call (f := 196) (argv := [.slice classesA classes.length classesC, .int .i64 (gI f1 x5)]) hE130 (fun _ => cf_l08Image _ _) rfl rfl (c_l08Image classesA classes.length classesC classes (gI f1 x5) w81 (St.rdR (i := 1) hS83 rfl) (by omega) (l08Ordered_7 (by assumption) hf.2)) ?_)
           rintro _ w132 ⟨rfl, he136⟩ a133 hE134; clear hE130
           have hS135 := St.go hS83 he136; clear hS83
           refine ⟨fun _ _ => ⟨(RdS.elt (St.rdR (i := 1) hS135 rfl) (by omega) (by omega) _ (Ext.refl _)), (RdS.elt (St.rdR (i := 1) hS135 rfl) (by omega) (by omega) _ (Ext.refl _)), (St.cell (i := 0) hS135 rfl rfl _ (Ext.refl _)), (RdS.elt (St.rdR (i := 2) hS135 rfl) (by omega) (by omega) _ (Ext.refl _)), (St.cell (i := 0) hS135 rfl rfl _ (Ext.refl _)), (RdS.elt (St.rdR (i := 2) hS135 rfl) (by omega) (by omega) _ (Ext.refl _)), trivial⟩, ?_⟩
           refine d_only 23 (by kernel_rfl) rfl hE134 rfl (l_call (f := 196) (argv := [.slice classesA classes.length classesC, .int .i64 (gI f1 y6L2)]) hE134 (fun _ => cf_l08Image _ _) rfl rfl (c_l08Image classesA classes.length classesC classes (gI f1 y6L2) w132 (St.rdR (i := 1) hS135 rfl) (by omega) (l08Ordered_7 (by assumption) hf.2)) ?_)
           rintro _ w138 ⟨rfl, he142⟩ a139 hE140; clear hE134
           have hS141 := St.go hS135 he142; clear hS135
           refine ⟨fun h => Bool.noConfusion (h.symm.trans (show exm _ _ _ = true by kernel_rfl)), ?_⟩
           refine d_pure (fun _ h => h) (v := .bool (!decide ((F_l08Image classes (gI f1 x5)) = (F_l08Image classes (gI f1 y6L2))))) 24 rfl hE140 (y_neq rfl rfl) rfl (by kernel_rfl) (by kernel_rfl) (by kernel_rfl) rfl rfl (fun _ _ _ h => h) ?_; intro a143 hE144; clear hE140
           refine d_pure (fun _ h => h) (v := .bool (!decide ((F_l08Image classes (gI f1 x5)) = (F_l08Image classes (gI f1 y6L2))))) 25 rfl hE144 (y_pick (b := true) rfl rfl) rfl (by kernel_rfl) (by kernel_rfl) (by kernel_rfl) rfl rfl (fun _ _ _ h => h) ?_; intro a145 hE146; clear hE144
           refine d_done (by kernel_rfl) ?_
           have hE147 := hE146.sub (L' := [(1, .slice classesA classes.length classesC), (2, .pointer (some ⟨b3, 0, none⟩)), (5, .int .i64 x5), (6, .int .i64 y6L2), (47, .bool (!decide ((F_l08Image classes (gI f1 x5)) = (F_l08Image classes (gI f1 y6L2)))))]) ⟨rfl, rfl, rfl, rfl, rfl, trivial⟩; clear hE146
           refine p_tn ?_
           have hE148 := hE147.sub (L' := [(1, .slice classesA classes.length classesC), (2, .pointer (some ⟨b3, 0, none⟩)), (5, .int .i64 x5), (6, .int .i64 y6L2), (47, .bool (!decide ((F_l08Image classes (gI f1 x5)) = (F_l08Image classes (gI f1 y6L2)))))]) ⟨rfl, rfl, rfl, rfl, rfl, trivial⟩
           have hS149 := (St.pick (Γ' := [.rd 1 f1A f1.length f1C f1, .blk b3 #[.int .i64 f0, .slice f1A f1.length f1C] 30, .rd 1 classesA classes.length classesC classes]) hS141 [2, 0, 1] (by decide) rfl)
           exact ⟨(by rw [hb104]; exact hE148), hS149⟩
          ·
           have hE150 := hE103; (try rw [hb104] at hE150); clear hE103
           have hp151 := of_decide_eq_false hb104
           refine d_skip (fun _ h => h) 10 rfl hE150 rfl (by kernel_rfl) (by kernel_rfl) (by kernel_rfl) rfl rfl (fun _ _ _ h => h) ?_; intro a152 hE153; clear hE150
           refine d_skip (fun _ h => h) 11 rfl hE153 rfl (by kernel_rfl) (by kernel_rfl) (by kernel_rfl) rfl rfl (fun _ _ _ h => h) ?_; intro a154 hE155; clear hE153
           refine d_skip (fun _ h => h) 12 rfl hE155 rfl (by kernel_rfl) (by kernel_rfl) (by kernel_rfl) rfl rfl (fun _ _ _ h => h) ?_; intro a156 hE157; clear hE155
           refine d_skip (fun _ h => h) 13 rfl hE157 rfl (by kernel_rfl) (by kernel_rfl) (by kernel_rfl) rfl rfl (fun _ _ _ h => h) ?_; intro a158 hE159; clear hE157
           refine d_skip (fun _ h => h) 14 rfl hE159 rfl (by kernel_rfl) (by kernel_rfl) (by kernel_rfl) rfl rfl (fun _ _ _ h => h) ?_; intro a160 hE161; clear hE159
           refine d_skip (fun _ h => h) 15 rfl hE161 rfl (by kernel_rfl) (by kernel_rfl) (by kernel_rfl) rfl rfl (fun _ _ _ h => h) ?_; intro a162 hE163; clear hE161
           refine d_skip (fun _ h => h) 16 rfl hE163 rfl (by kernel_rfl) (by kernel_rfl) (by kernel_rfl) rfl rfl (fun _ _ _ h => h) ?_; intro a164 hE165; clear hE163
           refine d_skip (fun _ h => h) 17 rfl hE165 rfl (by kernel_rfl) (by kernel_rfl) (by kernel_rfl) rfl rfl (fun _ _ _ h => h) ?_; intro a166 hE167; clear hE165
           refine d_skip (fun _ h => h) 18 rfl hE167 rfl (by kernel_rfl) (by kernel_rfl) (by kernel_rfl) rfl rfl (fun _ _ _ h => h) ?_; intro a168 hE169; clear hE167
           refine d_skip (fun _ h => h) 19 rfl hE169 rfl (by kernel_rfl) (by kernel_rfl) (by kernel_rfl) rfl rfl (fun _ _ _ h => h) ?_; intro a170 hE171; clear hE169
           refine d_skip (fun _ h => h) 20 rfl hE171 rfl (by kernel_rfl) (by kernel_rfl) (by kernel_rfl) rfl rfl (fun _ _ _ h => h) ?_; intro a172 hE173; clear hE171
           refine d_skip (fun _ h => h) 21 rfl hE173 rfl (by kernel_rfl) (by kernel_rfl) (by kernel_rfl) rfl rfl (fun _ _ _ h => h) ?_; intro a174 hE175; clear hE173
           refine d_skip (fun _ h => h) 22 rfl hE175 rfl (by kernel_rfl) (by kernel_rfl) (by kernel_rfl) rfl rfl (fun _ _ _ h => h) ?_; intro a176 hE177; clear hE175
           refine d_skip (fun _ h => h) 23 rfl hE177 rfl (by kernel_rfl) (by kernel_rfl) (by kernel_rfl) rfl rfl (fun _ _ _ h => h) ?_; intro a178 hE179; clear hE177
           refine d_skip (fun _ h => h) 24 rfl hE179 rfl (by kernel_rfl) (by kernel_rfl) (by kernel_rfl) rfl rfl (fun _ _ _ h => h) ?_; intro a180 hE181; clear hE179
           refine d_pure (fun _ h => h) (v := .bool false) 25 rfl hE181 (y_pick (b := false) rfl rfl) rfl (by kernel_rfl) (by kernel_rfl) (by kernel_rfl) rfl rfl (fun _ _ _ h => h) ?_; intro a182 hE183; clear hE181
           refine d_done (by kernel_rfl) ?_
           have hE184 := hE183.sub (L' := [(1, .slice classesA classes.length classesC), (2, .pointer (some ⟨b3, 0, none⟩)), (5, .int .i64 x5), (6, .int .i64 y6L2), (47, .bool false)]) ⟨rfl, rfl, rfl, rfl, rfl, trivial⟩; clear hE183
           refine p_tn ?_
           have hE185 := hE184.sub (L' := [(1, .slice classesA classes.length classesC), (2, .pointer (some ⟨b3, 0, none⟩)), (5, .int .i64 x5), (6, .int .i64 y6L2), (47, .bool false)]) ⟨rfl, rfl, rfl, rfl, rfl, trivial⟩
           have hS186 := (St.pick (Γ' := [.rd 1 f1A f1.length f1C f1, .blk b3 #[.int .i64 f0, .slice f1A f1.length f1C] 30, .rd 1 classesA classes.length classesC classes]) hS83 [2, 0, 1] (by decide) rfl)
           exact ⟨(by rw [hb104]; exact hE185), hS186⟩
         ·
          rintro a187 w188 ⟨hE189, hS190⟩; clear hE80 hS66
          refine c_cond hE189 rfl (fun ht192 => ?_) (fun ht192 => ?_)
          ·
           obtain ⟨ht193, ht194⟩ := band_t ht192
           have hp195 := of_decide_eq_true ht193
           have ht196 := bn_t ht194
           have hp197 := of_decide_eq_false ht196
           have hE198 := hE189; rw [ht192] at hE198; clear hE189
           refine c_seq ?_
           refine c_reg ?_
           refine q_step (v := .bool false) hE198 (y_assign rfl) rfl rfl rfl ?_; intro a199 hE200; clear hE198
           refine c_nil ?_
           have hE201 := hE200.sub (L' := [(4, .bool false)]) ⟨rfl, trivial⟩; clear hE200
           refine p_tn ?_
           refine wp_ret ?_
           refine p_br ?_
           refine p_tr ?_
           have hX202 : F_l08Congruence_L2 f1 classes x5 (Int.toNat (x5 - 0) + 1) 0 = .error false := hT67.symm.trans (show F_l08Congruence_L2b f1 classes x5 (F_l08Congruence_L2 f1 classes x5 r70) y6L2 = .error false by unfold F_l08Congruence_L2b; rw [ht192, ht78]; first | done | rfl)
           refine p_tr (p_br (p_tr ?_))
           refine p_br ?_
           refine p_tr ?_
           have hX203 : F_l08Congruence_L1 f1 classes (Int.toNat ((classes.length : Int) - 0) + 1) 0 = .error false := hT42.symm.trans (show F_l08Congruence_L1b f1 classes (F_l08Congruence_L1 f1 classes r46) x5 = .error false by unfold F_l08Congruence_L1b; rw [hX202, ht56]; first | done | rfl)
           refine p_tr (p_br (p_tr ?_))
           refine p_tr ?_
           have hF : F_l08Congruence f0 f1 classes = false := by unfold F_l08Congruence; rw [hX203, ht25]; first | done | rfl
           refine c_ret1 hE201 rfl rfl ?_
           exact ⟨(by rw [hF]; first | done | (dsimp only; done) | rfl), hS190.ext⟩
          ·
           have hE204 := hE189; rw [ht192] at hE204; clear hE189
           refine wp_skip ?_
           refine p_bn ?_
           refine p_tn ?_
           refine c_reg ?_
           refine q_step (v := .int .i64 y6L2) hE204 (y_move rfl) rfl rfl rfl ?_; intro a205 hE206; clear hE204
           refine q_step (v := .int .i64 (y6L2 + 1)) hE206 (y_add rfl rfl ⟨(by omega), (by omega)⟩) rfl rfl rfl ?_; intro a207 hE208; clear hE206
           refine q_step (v := .int .i64 (y6L2 + 1)) hE208 (y_assign rfl) rfl rfl rfl ?_; intro a209 hE210; clear hE208
           refine c_nil ?_
           have hE211 := hE210.sub (L' := [(1, .slice classesA classes.length classesC), (2, .pointer (some ⟨b3, 0, none⟩)), (5, .int .i64 x5), (6, .int .i64 (y6L2 + 1))]) ⟨rfl, rfl, rfl, rfl, trivial⟩; clear hE210
           refine p_tn ⟨r70, Nat.lt_succ_self _, y6L2 + 1, (hT67.symm.trans (show F_l08Congruence_L2b f1 classes x5 (F_l08Congruence_L2 f1 classes x5 r70) y6L2 = F_l08Congruence_L2 f1 classes x5 r70 (y6L2 + 1) by unfold F_l08Congruence_L2b; rw [ht192, ht78]; first | done | rfl)).symm, (by omega), (by first | omega | (simp only [sS_len, sL_len]; omega) | (simp only [List.length_replicate, sI_len]; omega) | (simp only [List.length_append, List.length_cons, List.length_nil, sI_len, cond_true, cond_false]; omega) | (simp only [List.length_append, List.length_cons, List.length_nil, sI_len, cond_eq_ite, apply_ite List.length]; split <;> simp only [List.length_append, List.length_cons, List.length_nil, sI_len] <;> omega) | grind), (hE211.sub (L' := [(1, .slice classesA classes.length classesC), (2, .pointer (some ⟨b3, 0, none⟩)), (5, .int .i64 x5), (6, .int .i64 (y6L2 + 1))]) ⟨rfl, rfl, rfl, rfl, trivial⟩), (St.pick (Γ' := [.blk b3 #[.int .i64 f0, .slice f1A f1.length f1C] 30, .rd 1 classesA classes.length classesC classes, .rd 1 f1A f1.length f1C f1]) hS190 [1, 2, 0] (by decide) rfl)⟩
        ·
         have hp212 := of_decide_eq_false ht78
         have hE213 := hE77; rw [ht78] at hE213; clear hE77
         refine wp_exit ?_
         refine p_te ?_
         have hX214 : F_l08Congruence_L2 f1 classes x5 (Int.toNat (x5 - 0) + 1) 0 = .ok y6L2 := hT67.symm.trans (show F_l08Congruence_L2b f1 classes x5 (F_l08Congruence_L2 f1 classes x5 r70) y6L2 = .ok y6L2 by unfold F_l08Congruence_L2b; rw [ht78]; first | done | rfl)
         refine p_te (p_be (p_tn ?_))
         exact ⟨(by rw [hX214]; rfl), (by rw [hX214]; exact (show 0 ≤ y6L2 from (by first | omega | (simp only [sS_len, sL_len]; omega) | (simp only [List.length_replicate, sI_len]; omega) | (simp only [List.length_append, List.length_cons, List.length_nil, sI_len, cond_true, cond_false]; omega) | (simp only [List.length_append, List.length_cons, List.length_nil, sI_len, cond_eq_ite, apply_ite List.length]; split <;> simp only [List.length_append, List.length_cons, List.length_nil, sI_len] <;> omega) | grind))), (by rw [hX214]; exact (hE213.sub (L' := [(1, .slice classesA classes.length classesC), (2, .pointer (some ⟨b3, 0, none⟩)), (5, .int .i64 x5), (6, .int .i64 y6L2)]) ⟨rfl, rfl, rfl, rfl, trivial⟩)), (St.pick (Γ' := [.blk b3 #[.int .i64 f0, .slice f1A f1.length f1C] 30, .rd 1 classesA classes.length classesC classes, .rd 1 f1A f1.length f1C f1]) hS66 [0, 1, 2] (by decide) rfl)⟩
      ·
       rintro a215 w216 ⟨hO219, hi220, hE217, hS218⟩; clear hE61 hS41
       refine p_bn ?_
       refine p_tn ?_
       refine c_reg ?_
       refine q_step (v := .int .i64 x5) hE217 (y_move rfl) rfl rfl rfl ?_; intro a221 hE222; clear hE217
       refine q_step (v := .int .i64 (x5 + 1)) hE222 (y_add rfl rfl ⟨(by omega), (by omega)⟩) rfl rfl rfl ?_; intro a223 hE224; clear hE222
       refine q_step (v := .int .i64 (x5 + 1)) hE224 (y_assign rfl) rfl rfl rfl ?_; intro a225 hE226; clear hE224
       refine c_nil ?_
       have hE227 := hE226.sub (L' := [(1, .slice classesA classes.length classesC), (2, .pointer (some ⟨b3, 0, none⟩)), (5, .int .i64 (x5 + 1))]) ⟨rfl, rfl, rfl, trivial⟩; clear hE226
       refine p_tn ⟨r46, Nat.lt_succ_self _, x5 + 1, (hT42.symm.trans (show F_l08Congruence_L1b f1 classes (F_l08Congruence_L1 f1 classes r46) x5 = F_l08Congruence_L1 f1 classes r46 (x5 + 1) by unfold F_l08Congruence_L1b; rw [hO219, ht56]; first | done | rfl)).symm, (by omega), (by first | omega | (simp only [sS_len, sL_len]; omega) | (simp only [List.length_replicate, sI_len]; omega) | (simp only [List.length_append, List.length_cons, List.length_nil, sI_len, cond_true, cond_false]; omega) | (simp only [List.length_append, List.length_cons, List.length_nil, sI_len, cond_eq_ite, apply_ite List.length]; split <;> simp only [List.length_append, List.length_cons, List.length_nil, sI_len] <;> omega) | grind), (by first | omega | (simp only [sS_len, sL_len]; omega) | (simp only [List.length_replicate, sI_len]; omega) | (simp only [List.length_append, List.length_cons, List.length_nil, sI_len, cond_true, cond_false]; omega) | (simp only [List.length_append, List.length_cons, List.length_nil, sI_len, cond_eq_ite, apply_ite List.length]; split <;> simp only [List.length_append, List.length_cons, List.length_nil, sI_len] <;> omega) | grind), (hE227.sub (L' := [(1, .slice classesA classes.length classesC), (2, .pointer (some ⟨b3, 0, none⟩)), (5, .int .i64 (x5 + 1))]) ⟨rfl, rfl, rfl, trivial⟩), (St.pick (Γ' := [.blk b3 #[.int .i64 f0, .slice f1A f1.length f1C] 30, .rd 1 classesA classes.length classesC classes, .rd 1 f1A f1.length f1C f1]) hS218 [0, 1, 2] (by decide) rfl)⟩
     ·
      have hp228 := of_decide_eq_false ht56
      have hE229 := hE55; rw [ht56] at hE229; clear hE55
      refine wp_exit ?_
      refine p_te ?_
      have hX230 : F_l08Congruence_L1 f1 classes (Int.toNat ((classes.length : Int) - 0) + 1) 0 = .ok x5 := hT42.symm.trans (show F_l08Congruence_L1b f1 classes (F_l08Congruence_L1 f1 classes r46) x5 = .ok x5 by unfold F_l08Congruence_L1b; rw [ht56]; first | done | rfl)
      refine p_te (p_be (p_tn ?_))
      exact ⟨(by rw [hX230]; rfl), (by rw [hX230]; exact (show 0 ≤ x5 from (by first | omega | (simp only [sS_len, sL_len]; omega) | (simp only [List.length_replicate, sI_len]; omega) | (simp only [List.length_append, List.length_cons, List.length_nil, sI_len, cond_true, cond_false]; omega) | (simp only [List.length_append, List.length_cons, List.length_nil, sI_len, cond_eq_ite, apply_ite List.length]; split <;> simp only [List.length_append, List.length_cons, List.length_nil, sI_len] <;> omega) | grind))), (by rw [hX230]; exact (show x5 ≤ (classes.length : Int) from (by first | omega | (simp only [sS_len, sL_len]; omega) | (simp only [List.length_replicate, sI_len]; omega) | (simp only [List.length_append, List.length_cons, List.length_nil, sI_len, cond_true, cond_false]; omega) | (simp only [List.length_append, List.length_cons, List.length_nil, sI_len, cond_eq_ite, apply_ite List.length]; split <;> simp only [List.length_append, List.length_cons, List.length_nil, sI_len] <;> omega) | grind))), (by rw [hX230]; exact (hE229.sub (L' := [(1, .slice classesA classes.length classesC), (2, .pointer (some ⟨b3, 0, none⟩)), (5, .int .i64 x5)]) ⟨rfl, rfl, rfl, trivial⟩)), (St.pick (Γ' := [.blk b3 #[.int .i64 f0, .slice f1A f1.length f1C] 30, .rd 1 classesA classes.length classesC classes, .rd 1 f1A f1.length f1C f1]) hS41 [0, 1, 2] (by decide) rfl)⟩
   ·
    rintro a231 w232 ⟨hO235, hi236, hi237, hE233, hS234⟩; clear hE36 hS20
    refine p_tn ?_
    refine c_seq ?_
    refine c_reg ?_
    refine q_step (v := .bool true) hE233 (y_assign rfl) rfl rfl rfl ?_; intro a238 hE239; clear hE233
    refine c_nil ?_
    have hE240 := hE239.sub (L' := [(4, .bool true)]) ⟨rfl, trivial⟩; clear hE239
    refine p_tn ?_
    refine wp_ret ?_
    have hF : F_l08Congruence f0 f1 classes = true := by unfold F_l08Congruence; rw [hO235, ht25]; first | done | rfl
    refine c_ret1 hE240 rfl rfl ?_
    exact ⟨(by rw [hF]; first | done | (dsimp only; done) | rfl), hS234.ext⟩
def F_s_IsCongruence (f0 : Int) (f1 : List Int) (classes : List Int) : (Bool) × (Int) :=
  bif (!(F_l05Is f0 f1)) then (false, 1) else (F_l08Congruence f0 f1 classes, 0)
theorem cf_s_IsCongruence (args : Array Value) (w : World) : (callFunc 54 args).run Try.prog w = .ok (.enter 54 args) w := by kernel_rfl
set_option maxRecDepth 100000 in
theorem c_s_IsCongruence (f0 : Int) (f1A : Option Addr) (f1N f1C : Nat) (f1 : List Int) (classesA : Option Addr) (classesN classesC : Nat) (classes : List Int) (w : World) (f1R : RdS w 1 f1A f1N f1C f1) (classesR : RdS w 1 classesA classesN classesC classes) (hl : classes.length ≤ 1048576) :
    Calls Try.prog 54 #[.agg #[.int .i64 f0, .slice f1A f1N f1C], .slice classesA classesN classesC] w (Ret fun v w' => v = .tuple #[.bool ((F_s_IsCongruence f0 f1 classes).1), .int .i64 ((F_s_IsCongruence f0 f1 classes).2)] ∧ Ext w w') := by
  obtain rfl : f1N = f1.length := f1R.len1.symm
  have f1Le := f1R.le
  obtain rfl : classesN = classes.length := classesR.len1.symm
  have classesLe := classesR.le
  have hS := St.nil w
  have hS1 := St.rd0 hS rfl f1R; clear hS
  have hS2 := St.rd0 hS1 rfl classesR; clear hS1
  refine enter (args := [.agg #[.int .i64 f0, .slice f1A f1.length f1C], .slice classesA classes.length classesC]) Try.func54 rfl rfl ?_
  rw [Try.ntmps54]; intro a hE
  have hE := hE.sub (L' := [(0, .agg #[.int .i64 f0, .slice f1A f1.length f1C]), (1, .slice classesA classes.length classesC)]) ⟨rfl, rfl, trivial⟩
  refine c_seq ?_
  refine c_reg ?_
  refine l_step hE rfl (l_box (v := .agg #[.int .i64 f0, .slice f1A f1.length f1C]) (cs := #[.int .i64 f0, .slice f1A f1.length f1C]) hS2 hE rfl rfl rfl ?_)
  intro b3 w4 hS7 he8 a5 hE6; clear hS2 hE
  refine q_step (v := .bool false) hE6 (y_assign rfl) rfl rfl rfl ?_; intro a9 hE10; clear hE6
  refine q_step (v := .int .i64 0) hE10 (y_assign rfl) rfl rfl rfl ?_; intro a11 hE12; clear hE10
  refine c_nil ?_
  have hE13 := hE12.sub (L' := [(1, .slice classesA classes.length classesC), (2, .pointer (some ⟨b3, 0, none⟩))]) ⟨rfl, rfl, trivial⟩; clear hE12
  refine p_tn ?_
  refine c_seq ?_
  refine c_seq ?_
  refine c_reg ?_
  refine q_step (v := .agg #[.int .i64 f0, .slice f1A f1.length f1C]) hE13 (y_loadS Try.underlying30 rfl (by kernel_rfl) rfl (St.row (i := 0) hS7 rfl)) rfl rfl rfl ?_; intro a14 hE15; clear hE13
  refine l_step hE15 rfl (l_call (f := 94) (argv := [.agg #[.int .i64 f0, .slice f1A f1.length f1C]]) hE15 (fun _ => cf_l05Is _ _) rfl rfl (c_l05Is f0 f1A f1.length f1C f1 w4 (St.rdR (i := 2) hS7 rfl)) ?_)
  rintro _ w17 ⟨rfl, he21⟩ a18 hE19; clear hE15
  have hS20 := St.go hS7 he21; clear hS7
  refine q_step (v := .bool (!(F_l05Is f0 f1))) hE19 (y_not rfl) rfl rfl rfl ?_; intro a22 hE23; clear hE19
  refine c_nil ?_
  have hE24 := hE23.sub (L' := [(1, .slice classesA classes.length classesC), (2, .pointer (some ⟨b3, 0, none⟩)), (8, .bool (!(F_l05Is f0 f1)))]) ⟨rfl, rfl, rfl, trivial⟩; clear hE23
  refine p_tn ?_
  refine c_cond hE24 rfl (fun ht25 => ?_) (fun ht25 => ?_)
  ·
   have ht26 := bn_t ht25
   have hE27 := hE24; rw [ht25] at hE27; clear hE24
   refine c_seq ?_
   refine c_reg ?_
   refine q_step (v := .bool false) hE27 (y_assign rfl) rfl rfl rfl ?_; intro a28 hE29; clear hE27
   refine q_step (v := .int .i64 1) hE29 (y_assign rfl) rfl rfl rfl ?_; intro a30 hE31; clear hE29
   refine c_nil ?_
   have hE32 := hE31.sub (L' := [(4, .bool false), (5, .int .i64 1)]) ⟨rfl, rfl, trivial⟩; clear hE31
   refine p_tn ?_
   refine wp_ret ?_
   refine p_tr ?_
   have hF : F_s_IsCongruence f0 f1 classes = (false, 1) := by unfold F_s_IsCongruence; rw [ht25]; first | done | rfl
   refine c_ret2 hE32 rfl rfl rfl ?_
   exact ⟨(by rw [hF]; first | done | (dsimp only; done) | rfl), hS20.ext⟩
  ·
   have ht33 := bn_f ht25
   have hp34 := l05Is_t ht33
   have hE35 := hE24; rw [ht25] at hE35; clear hE24
   refine wp_skip ?_
   refine p_tn ?_
   refine c_seq ?_
   refine c_reg ?_
   refine q_step (v := .agg #[.int .i64 f0, .slice f1A f1.length f1C]) hE35 (y_loadS Try.underlying30 rfl (by kernel_rfl) rfl (St.row (i := 0) hS20 rfl)) rfl rfl rfl ?_; intro a36 hE37; clear hE35
   refine q_step (v := .slice classesA classes.length classesC) hE37 (y_move rfl) rfl rfl rfl ?_; intro a38 hE39; clear hE37
   refine l_step hE39 rfl (l_call (f := 113) (argv := [.agg #[.int .i64 f0, .slice f1A f1.length f1C], .slice classesA classes.length classesC]) hE39 (fun _ => cf_l08Congruence _ _) rfl rfl (c_l08Congruence f0 f1A f1.length f1C f1 classesA classes.length classesC classes w17 (St.rdR (i := 2) hS20 rfl) (St.rdR (i := 1) hS20 rfl) (by omega) (by omega) (l05Is_m (by assumption)) (by omega)) ?_)
   rintro _ w41 ⟨rfl, he45⟩ a42 hE43; clear hE39
   have hS44 := St.go hS20 he45; clear hS20
   refine q_step (v := .bool (F_l08Congruence f0 f1 classes)) hE43 (y_assign rfl) rfl rfl rfl ?_; intro a46 hE47; clear hE43
   refine q_step (v := .int .i64 0) hE47 (y_assign rfl) rfl rfl rfl ?_; intro a48 hE49; clear hE47
   refine c_nil ?_
   have hE50 := hE49.sub (L' := [(4, .bool (F_l08Congruence f0 f1 classes)), (5, .int .i64 0)]) ⟨rfl, rfl, trivial⟩; clear hE49
   refine p_tn ?_
   refine wp_ret ?_
   have hF : F_s_IsCongruence f0 f1 classes = (F_l08Congruence f0 f1 classes, 0) := by unfold F_s_IsCongruence; rw [ht25]; first | done | rfl
   refine c_ret2 hE50 rfl rfl rfl ?_
   exact ⟨(by rw [hF]; first | done | (dsimp only; done) | rfl), hS44.ext⟩
def F_isCongruence (f0 : Int) (f1 : List Int) (classes : List Int) : Bool :=
  bif ((!decide ((classes.length : Int) = f0)) || (!(F_areClasses classes))) then false else (F_isMorphism f0 f1 ((F_frameOf (F_quotientRelation f1 classes)).1) (F_quotientRelation f1 classes) classes)
theorem cf_isCongruence (args : Array Value) (w : World) : (callFunc 111 args).run Try.prog w = .ok (.enter 111 args) w := by kernel_rfl
set_option maxRecDepth 100000 in
theorem c_isCongruence (f0 : Int) (f1A : Option Addr) (f1N f1C : Nat) (f1 : List Int) (classesA : Option Addr) (classesN classesC : Nat) (classes : List Int) (w : World) (f1R : RdS w 1 f1A f1N f1C f1) (classesR : RdS w 1 classesA classesN classesC classes) (hf : 0 ≤ f0 ∧ f0 ≤ 8) (hfl : (f1.length : Int) = f0) (hfm : ∀ m : Int, 0 ≤ m → m < (f1.length : Int) → 0 ≤ gI f1 m ∧ gI f1 m ≤ fullI f0) (hl : classes.length ≤ 1048576) :
    Calls Try.prog 111 #[.agg #[.int .i64 f0, .slice f1A f1N f1C], .slice classesA classesN classesC] w (Ret fun v w' => v = .bool (F_isCongruence f0 f1 classes) ∧ Ext w w') := by
  obtain rfl : f1N = f1.length := f1R.len1.symm
  have f1Le := f1R.le
  obtain rfl : classesN = classes.length := classesR.len1.symm
  have classesLe := classesR.le
  have hS := St.nil w
  have hS1 := St.rd0 hS rfl f1R; clear hS
  have hS2 := St.rd0 hS1 rfl classesR; clear hS1
  refine enter (args := [.agg #[.int .i64 f0, .slice f1A f1.length f1C], .slice classesA classes.length classesC]) Try.func111 rfl rfl ?_
  rw [Try.ntmps111]; intro a hE
  have hE := hE.sub (L' := [(0, .agg #[.int .i64 f0, .slice f1A f1.length f1C]), (1, .slice classesA classes.length classesC)]) ⟨rfl, rfl, trivial⟩
  refine c_seq ?_
  refine c_reg ?_
  refine l_step hE rfl (l_box (v := .agg #[.int .i64 f0, .slice f1A f1.length f1C]) (cs := #[.int .i64 f0, .slice f1A f1.length f1C]) hS2 hE rfl rfl rfl ?_)
  intro b3 w4 hS7 he8 a5 hE6; clear hS2 hE
  refine q_step (v := .bool false) hE6 (y_assign rfl) rfl rfl rfl ?_; intro a9 hE10; clear hE6
  refine c_nil ?_
  have hE11 := hE10.sub (L' := [(1, .slice classesA classes.length classesC), (2, .pointer (some ⟨b3, 0, none⟩))]) ⟨rfl, rfl, trivial⟩; clear hE10
  refine p_tn ?_
  refine c_seq ?_
  refine c_cut (fun a' w' => E a' 23 [(1, .slice classesA classes.length classesC), (2, .pointer (some ⟨b3, 0, none⟩)), (14, .bool ((!decide ((classes.length : Int) = f0)) || (!(F_areClasses classes))))] ∧ St w w' [.rd 1 f1A f1.length f1C f1, .blk b3 #[.int .i64 f0, .slice f1A f1.length f1C] 30, .rd 1 classesA classes.length classesC classes]) ?_ ?_
  ·
   refine d_start (fun w w' => (fun w' => w'.cell? ⟨b3, 0, none⟩ = some (.int .i64 f0) ∧ True) w → (fun w' => w'.cell? ⟨b3, 0, none⟩ = some (.int .i64 f0) ∧ True) w') [3] 10 (by kernel_rfl) rfl ?_
   intro w12 he13; have hS14 := St.go hS7 he13; clear hS7
   refine d_pure (fun _ h => h) (v := .slice classesA classes.length classesC) 0 rfl hE11 (y_move rfl) rfl (by kernel_rfl) (by kernel_rfl) (by kernel_rfl) rfl rfl (fun _ _ _ h => h) ?_; intro a15 hE16; clear hE11
   refine d_pure (fun _ h => h) (v := .pointer (some ⟨b3, 0, none⟩)) 2 rfl hE16 (y_field rfl (fun _ => by kernel_rfl)) rfl (by kernel_rfl) (by kernel_rfl) (by kernel_rfl) rfl rfl (fun _ _ _ h => h) ?_; intro a17 hE18; clear hE16
   refine d_take (fun _ h => h) (fun _ _ h k => h k) (v := .int .i64 f0) 3 rfl hE18 (S := fun w' => w'.cell? ⟨b3, 0, none⟩ = some (.int .i64 f0) ∧ True) ⟨(St.cell (i := 0) hS14 rfl rfl _ (Ext.refl _)), trivial⟩ (y_load (fun _ => by kernel_rfl) rfl (fun _ h => h.1)) rfl rfl (by kernel_rfl) (by kernel_rfl) (by kernel_rfl) (by kernel_rfl) rfl rfl (fun _ _ _ h => h) ?_; intro a19 hE20; clear hE18
   refine d_only 1 (by kernel_rfl) rfl hE20 rfl (l_call (f := 165) (argv := [.slice classesA classes.length classesC]) hE20 (fun _ => cf_size _ _) rfl rfl (d_size classesA classes.length classesC classes w12 (St.rdR (i := 1) hS14 rfl)) ?_)
   rintro _ _ ⟨rfl, rfl⟩ a23 hE24; clear hE20
   refine ⟨fun _ _ => ⟨(St.cell (i := 0) hS14 rfl rfl _ (Ext.refl _)), trivial⟩, ?_⟩
   refine d_pure (fun _ h => h) (v := .bool (!decide ((classes.length : Int) = f0))) 4 rfl hE24 (y_neq rfl rfl) rfl (by kernel_rfl) (by kernel_rfl) (by kernel_rfl) rfl rfl (fun _ _ _ h => h) ?_; intro a27 hE28; clear hE24
   refine d_pure (fun _ h => h) (v := .bool (!decide ((classes.length : Int) = f0))) 5 rfl hE28 (y_move rfl) rfl (by kernel_rfl) (by kernel_rfl) (by kernel_rfl) rfl rfl (fun _ _ _ h => h) ?_; intro a29 hE30; clear hE28
   rcases Bool.eq_false_or_eq_true (!decide ((classes.length : Int) = f0)) with hb31 | hb31
   ·
    have hE32 := hE30; (try rw [hb31] at hE32); clear hE30
    have ht33 := bn_t hb31
    have hp34 := of_decide_eq_false ht33
    refine d_skip (fun _ h => h) 6 rfl hE32 rfl (by kernel_rfl) (by kernel_rfl) (by kernel_rfl) rfl rfl (fun _ _ _ h => h) ?_; intro a35 hE36; clear hE32
    refine d_skip (fun _ h => h) 7 rfl hE36 rfl (by kernel_rfl) (by kernel_rfl) (by kernel_rfl) rfl rfl (fun _ _ _ h => h) ?_; intro a37 hE38; clear hE36
    refine d_skip (fun _ h => h) 8 rfl hE38 rfl (by kernel_rfl) (by kernel_rfl) (by kernel_rfl) rfl rfl (fun _ _ _ h => h) ?_; intro a39 hE40; clear hE38
    refine d_pure (fun _ h => h) (v := .bool true) 9 rfl hE40 (y_pick (b := true) rfl rfl) rfl (by kernel_rfl) (by kernel_rfl) (by kernel_rfl) rfl rfl (fun _ _ _ h => h) ?_; intro a41 hE42; clear hE40
    refine d_done (by kernel_rfl) ?_
    have hE43 := hE42.sub (L' := [(1, .slice classesA classes.length classesC), (2, .pointer (some ⟨b3, 0, none⟩)), (14, .bool true)]) ⟨rfl, rfl, rfl, trivial⟩; clear hE42
    refine p_tn ?_
    have hE44 := hE43.sub (L' := [(1, .slice classesA classes.length classesC), (2, .pointer (some ⟨b3, 0, none⟩)), (14, .bool true)]) ⟨rfl, rfl, rfl, trivial⟩
    have hS45 := (St.pick (Γ' := [.rd 1 f1A f1.length f1C f1, .blk b3 #[.int .i64 f0, .slice f1A f1.length f1C] 30, .rd 1 classesA classes.length classesC classes]) hS14 [2, 0, 1] (by decide) rfl)
    exact ⟨(by rw [hb31]; exact hE44), hS45⟩
   ·
    have hE46 := hE30; (try rw [hb31] at hE46); clear hE30
    have ht47 := bn_f hb31
    have hp48 := of_decide_eq_true ht47
    refine d_pure (fun _ h => h) (v := .slice classesA classes.length classesC) 6 rfl hE46 (y_move rfl) rfl (by kernel_rfl) (by kernel_rfl) (by kernel_rfl) rfl rfl (fun _ _ _ h => h) ?_; intro a49 hE50; clear hE46
    refine d_only 7 (by kernel_rfl) rfl hE50 rfl (l_call (f := 192) (argv := [.slice classesA classes.length classesC]) hE50 (fun _ => cf_areClasses _ _) rfl rfl (c_areClasses classesA classes.length classesC classes w12 (St.rdR (i := 1) hS14 rfl) (by omega)) ?_)
    rintro _ w52 ⟨rfl, he56⟩ a53 hE54; clear hE50
    have hS55 := St.go hS14 he56; clear hS14
    refine ⟨fun h => Bool.noConfusion (h.symm.trans (show exm _ _ _ = true by kernel_rfl)), ?_⟩
    refine d_pure (fun _ h => h) (v := .bool (!(F_areClasses classes))) 8 rfl hE54 (y_not rfl) rfl (by kernel_rfl) (by kernel_rfl) (by kernel_rfl) rfl rfl (fun _ _ _ h => h) ?_; intro a57 hE58; clear hE54
    refine d_pure (fun _ h => h) (v := .bool (!(F_areClasses classes))) 9 rfl hE58 (y_pick (b := false) rfl rfl) rfl (by kernel_rfl) (by kernel_rfl) (by kernel_rfl) rfl rfl (fun _ _ _ h => h) ?_; intro a59 hE60; clear hE58
    refine d_done (by kernel_rfl) ?_
    have hE61 := hE60.sub (L' := [(1, .slice classesA classes.length classesC), (2, .pointer (some ⟨b3, 0, none⟩)), (14, .bool (!(F_areClasses classes)))]) ⟨rfl, rfl, rfl, trivial⟩; clear hE60
    refine p_tn ?_
    have hE62 := hE61.sub (L' := [(1, .slice classesA classes.length classesC), (2, .pointer (some ⟨b3, 0, none⟩)), (14, .bool (!(F_areClasses classes)))]) ⟨rfl, rfl, rfl, trivial⟩
    have hS63 := (St.pick (Γ' := [.rd 1 f1A f1.length f1C f1, .blk b3 #[.int .i64 f0, .slice f1A f1.length f1C] 30, .rd 1 classesA classes.length classesC classes]) hS55 [2, 0, 1] (by decide) rfl)
    exact ⟨(by rw [hb31]; exact hE62), hS63⟩
  ·
   rintro a64 w65 ⟨hE66, hS67⟩; clear hE11 hS7
   refine c_cond hE66 rfl (fun ht69 => ?_) (fun ht69 => ?_)
   ·
    have hE70 := hE66; rw [ht69] at hE70; clear hE66
    refine c_seq ?_
    refine c_reg ?_
    refine q_step (v := .bool false) hE70 (y_assign rfl) rfl rfl rfl ?_; intro a71 hE72; clear hE70
    refine c_nil ?_
    have hE73 := hE72.sub (L' := [(4, .bool false)]) ⟨rfl, trivial⟩; clear hE72
    refine p_tn ?_
    refine wp_ret ?_
    refine p_tr ?_
    have hF : F_isCongruence f0 f1 classes = false := by unfold F_isCongruence; rw [ht69]; first | done | rfl
    refine c_ret1 hE73 rfl rfl ?_
    exact ⟨(by rw [hF]; first | done | (dsimp only; done) | rfl), hS67.ext⟩
   ·
    obtain ⟨ht74, ht75⟩ := bor_f ht69
    have ht76 := bn_f ht74
    have hp77 := of_decide_eq_true ht76
    have ht78 := bn_f ht75
    have hp79 := areClasses_t ht78
    have hE80 := hE66; rw [ht69] at hE80; clear hE66
    refine wp_skip ?_
    refine p_tn ?_
    refine c_seq ?_
    refine d_start (fun w w' => (fun w' => w'.heap[b3]? = some (.cells #[.int .i64 f0, .slice f1A f1.length f1C] 30 (0, 0)) ∧ w'.cell? ⟨b3, 1, none⟩ = some (.slice f1A f1.length f1C) ∧ True) w → (fun w' => w'.heap[b3]? = some (.cells #[.int .i64 f0, .slice f1A f1.length f1C] 30 (0, 0)) ∧ w'.cell? ⟨b3, 1, none⟩ = some (.slice f1A f1.length f1C) ∧ True) w') [0, 2] 9 (by kernel_rfl) rfl ?_
    intro w81 he82; have hS83 := St.go hS67 he82; clear hS67
    refine d_take (fun _ h => h) (fun _ _ h k => h k) (v := .agg #[.int .i64 f0, .slice f1A f1.length f1C]) 0 rfl hE80 (S := fun w' => w'.heap[b3]? = some (.cells #[.int .i64 f0, .slice f1A f1.length f1C] 30 (0, 0)) ∧ w'.cell? ⟨b3, 1, none⟩ = some (.slice f1A f1.length f1C) ∧ True) ⟨(St.row (i := 1) hS83 rfl _ (Ext.refl _)), (St.cell (i := 1) hS83 rfl rfl _ (Ext.refl _)), trivial⟩ (y_loadS Try.underlying30 rfl (by kernel_rfl) rfl (fun _ h => h.1)) rfl rfl (by kernel_rfl) (by kernel_rfl) (by kernel_rfl) (by kernel_rfl) rfl rfl (fun _ _ _ h => h) ?_; intro a84 hE85; clear hE80
    refine d_pure (fun _ h => h) (v := .pointer (some ⟨b3, 1, none⟩)) 1 rfl hE85 (y_field rfl (fun _ => by kernel_rfl)) rfl (by kernel_rfl) (by kernel_rfl) (by kernel_rfl) rfl rfl (fun _ _ _ h => h) ?_; intro a86 hE87; clear hE85
    refine d_take (fun _ h => h) (fun _ _ h k => h k) (v := .slice f1A f1.length f1C) 2 rfl hE87 (S := fun w' => w'.heap[b3]? = some (.cells #[.int .i64 f0, .slice f1A f1.length f1C] 30 (0, 0)) ∧ w'.cell? ⟨b3, 1, none⟩ = some (.slice f1A f1.length f1C) ∧ True) ⟨(St.row (i := 1) hS83 rfl _ (Ext.refl _)), (St.cell (i := 1) hS83 rfl rfl _ (Ext.refl _)), trivial⟩ (y_load (fun _ => by kernel_rfl) rfl (fun _ h => h.2.1)) rfl rfl (by kernel_rfl) (by kernel_rfl) (by kernel_rfl) (by kernel_rfl) rfl rfl (fun _ _ _ h => h) ?_; intro a88 hE89; clear hE87
    refine d_pure (fun _ h => h) (v := .slice classesA classes.length classesC) 3 rfl hE89 (y_move rfl) rfl (by kernel_rfl) (by kernel_rfl) (by kernel_rfl) rfl rfl (fun _ _ _ h => h) ?_; intro a90 hE91; clear hE89
    refine d_pure (fun _ h => h) (v := .slice classesA classes.length classesC) 6 rfl hE91 (y_move rfl) rfl (by kernel_rfl) (by kernel_rfl) (by kernel_rfl) rfl rfl (fun _ _ _ h => h) ?_; intro a92 hE93; clear hE91
    refine d_only 4 (by kernel_rfl) rfl hE93 rfl (l_call (f := 112) (argv := [.slice f1A f1.length f1C, .slice classesA classes.length classesC]) hE93 (fun _ => cf_quotientRelation _ _) rfl rfl (c_quotientRelation f1A f1.length f1C f1 classesA classes.length classesC classes w81 (St.rdR (i := 0) hS83 rfl) (St.rdR (i := 2) hS83 rfl) (by omega) (by omega) (areClasses_7 (by assumption) (by omega)) (fun m h0 h1 => by rw [hfl]; exact hfm m h0 h1)) ?_)
    rintro _ w95 ⟨b100, c101, rfl, ho102, he99⟩ a96 hE97; clear hE93
    have hS98 := St.own hS83 he99 ho102; clear hS83
    refine ⟨fun _ _ => ⟨(St.row (i := 2) hS98 rfl _ (Ext.refl _)), (St.cell (i := 2) hS98 rfl rfl _ (Ext.refl _)), trivial⟩, ?_⟩
    refine d_only 5 (by kernel_rfl) rfl hE97 rfl (l_call (f := 106) (argv := [.slice b100 ((F_quotientRelation f1 classes).length) c101]) hE97 (fun _ => cf_frameOf _ _) rfl rfl (c_frameOf b100 ((F_quotientRelation f1 classes).length) c101 (F_quotientRelation f1 classes) w95 (St.rdO (i := 0) hS98 rfl)) ?_)
    rintro _ w104 ⟨rfl, he108⟩ a105 hE106; clear hE97
    have hS107 := St.go hS98 he108; clear hS98
    refine ⟨fun _ _ => ⟨(St.row (i := 2) hS107 rfl _ (Ext.refl _)), (St.cell (i := 2) hS107 rfl rfl _ (Ext.refl _)), trivial⟩, ?_⟩
    refine d_only 7 (by kernel_rfl) rfl hE106 rfl (l_call (f := 116) (argv := [.agg #[.int .i64 f0, .slice f1A f1.length f1C], .agg #[.int .i64 ((F_frameOf (F_quotientRelation f1 classes)).1), .slice b100 ((F_quotientRelation f1 classes).length) c101], .slice classesA classes.length classesC]) hE106 (fun _ => cf_isMorphism _ _) rfl rfl (c_isMorphism f0 f1A f1.length f1C f1 ((F_frameOf (F_quotientRelation f1 classes)).1) b100 ((F_quotientRelation f1 classes).length) c101 (F_quotientRelation f1 classes) classesA classes.length classesC classes w104 (St.rdR (i := 1) hS107 rfl) (St.rdO (i := 0) hS107 rfl) (St.rdR (i := 3) hS107 rfl) (by omega) (by omega) (by omega) (quot_g f1 (by assumption) (by omega)) rfl (by omega) (quot_im f1 (by assumption) (by omega)) hfm) ?_)
    rintro _ w110 ⟨rfl, he114⟩ a111 hE112; clear hE106
    have hS113 := St.go hS107 he114; clear hS107
    refine ⟨fun h => Bool.noConfusion (h.symm.trans (show exm _ _ _ = true by kernel_rfl)), ?_⟩
    refine d_pure (fun _ h => h) (v := .bool (F_isMorphism f0 f1 ((F_frameOf (F_quotientRelation f1 classes)).1) (F_quotientRelation f1 classes) classes)) 8 rfl hE112 (y_assign rfl) rfl (by kernel_rfl) (by kernel_rfl) (by kernel_rfl) rfl rfl (fun _ _ _ h => h) ?_; intro a115 hE116; clear hE112
    refine d_done (by kernel_rfl) ?_
    have hE117 := hE116.sub (L' := [(4, .bool (F_isMorphism f0 f1 ((F_frameOf (F_quotientRelation f1 classes)).1) (F_quotientRelation f1 classes) classes))]) ⟨rfl, trivial⟩; clear hE116
    refine p_tn ?_
    refine wp_ret ?_
    have hF : F_isCongruence f0 f1 classes = F_isMorphism f0 f1 ((F_frameOf (F_quotientRelation f1 classes)).1) (F_quotientRelation f1 classes) classes := by unfold F_isCongruence; rw [ht69]; first | done | rfl
    refine c_ret1 hE117 rfl rfl ?_
    exact ⟨(by rw [hF]; first | done | (dsimp only; done) | rfl), hS113.ext⟩
def F_IsCongruence (f0 : Int) (f1 : List Int) (classes : List Int) : (Bool) × (Int) :=
  bif (!(F_isFrame f0 f1)) then (false, 1) else (F_isCongruence f0 f1 classes, 0)
theorem cf_IsCongruence (args : Array Value) (w : World) : (callFunc 53 args).run Try.prog w = .ok (.enter 53 args) w := by kernel_rfl
set_option maxRecDepth 100000 in
theorem c_IsCongruence (f0 : Int) (f1A : Option Addr) (f1N f1C : Nat) (f1 : List Int) (classesA : Option Addr) (classesN classesC : Nat) (classes : List Int) (w : World) (f1R : RdS w 1 f1A f1N f1C f1) (classesR : RdS w 1 classesA classesN classesC classes) (hl : classes.length ≤ 1048576) :
    Calls Try.prog 53 #[.agg #[.int .i64 f0, .slice f1A f1N f1C], .slice classesA classesN classesC] w (Ret fun v w' => v = .tuple #[.bool ((F_IsCongruence f0 f1 classes).1), .int .i64 ((F_IsCongruence f0 f1 classes).2)] ∧ Ext w w') := by
  obtain rfl : f1N = f1.length := f1R.len1.symm
  have f1Le := f1R.le
  obtain rfl : classesN = classes.length := classesR.len1.symm
  have classesLe := classesR.le
  have hS := St.nil w
  have hS1 := St.rd0 hS rfl f1R; clear hS
  have hS2 := St.rd0 hS1 rfl classesR; clear hS1
  refine enter (args := [.agg #[.int .i64 f0, .slice f1A f1.length f1C], .slice classesA classes.length classesC]) Try.func53 rfl rfl ?_
  rw [Try.ntmps53]; intro a hE
  have hE := hE.sub (L' := [(0, .agg #[.int .i64 f0, .slice f1A f1.length f1C]), (1, .slice classesA classes.length classesC)]) ⟨rfl, rfl, trivial⟩
  refine c_seq ?_
  refine c_reg ?_
  refine l_step hE rfl (l_box (v := .agg #[.int .i64 f0, .slice f1A f1.length f1C]) (cs := #[.int .i64 f0, .slice f1A f1.length f1C]) hS2 hE rfl rfl rfl ?_)
  intro b3 w4 hS7 he8 a5 hE6; clear hS2 hE
  refine q_step (v := .bool false) hE6 (y_assign rfl) rfl rfl rfl ?_; intro a9 hE10; clear hE6
  refine q_step (v := .int .i64 0) hE10 (y_assign rfl) rfl rfl rfl ?_; intro a11 hE12; clear hE10
  refine c_nil ?_
  have hE13 := hE12.sub (L' := [(1, .slice classesA classes.length classesC), (2, .pointer (some ⟨b3, 0, none⟩))]) ⟨rfl, rfl, trivial⟩; clear hE12
  refine p_tn ?_
  refine c_seq ?_
  refine c_seq ?_
  refine c_reg ?_
  refine q_step (v := .agg #[.int .i64 f0, .slice f1A f1.length f1C]) hE13 (y_loadS Try.underlying30 rfl (by kernel_rfl) rfl (St.row (i := 0) hS7 rfl)) rfl rfl rfl ?_; intro a14 hE15; clear hE13
  refine l_step hE15 rfl (l_call (f := 96) (argv := [.agg #[.int .i64 f0, .slice f1A f1.length f1C]]) hE15 (fun _ => cf_isFrame _ _) rfl rfl (c_isFrame f0 f1A f1.length f1C f1 w4 (St.rdR (i := 2) hS7 rfl)) ?_)
  rintro _ w17 ⟨rfl, he21⟩ a18 hE19; clear hE15
  have hS20 := St.go hS7 he21; clear hS7
  refine q_step (v := .bool (!(F_isFrame f0 f1))) hE19 (y_not rfl) rfl rfl rfl ?_; intro a22 hE23; clear hE19
  refine c_nil ?_
  have hE24 := hE23.sub (L' := [(1, .slice classesA classes.length classesC), (2, .pointer (some ⟨b3, 0, none⟩)), (8, .bool (!(F_isFrame f0 f1)))]) ⟨rfl, rfl, rfl, trivial⟩; clear hE23
  refine p_tn ?_
  refine c_cond hE24 rfl (fun ht25 => ?_) (fun ht25 => ?_)
  ·
   have ht26 := bn_t ht25
   have hE27 := hE24; rw [ht25] at hE27; clear hE24
   refine c_seq ?_
   refine c_reg ?_
   refine q_step (v := .bool false) hE27 (y_assign rfl) rfl rfl rfl ?_; intro a28 hE29; clear hE27
   refine q_step (v := .int .i64 1) hE29 (y_assign rfl) rfl rfl rfl ?_; intro a30 hE31; clear hE29
   refine c_nil ?_
   have hE32 := hE31.sub (L' := [(4, .bool false), (5, .int .i64 1)]) ⟨rfl, rfl, trivial⟩; clear hE31
   refine p_tn ?_
   refine wp_ret ?_
   refine p_tr ?_
   have hF : F_IsCongruence f0 f1 classes = (false, 1) := by unfold F_IsCongruence; rw [ht25]; first | done | rfl
   refine c_ret2 hE32 rfl rfl rfl ?_
   exact ⟨(by rw [hF]; first | done | (dsimp only; done) | rfl), hS20.ext⟩
  ·
   have ht33 := bn_f ht25
   have hp34 := isFrame_t ht33
   have hE35 := hE24; rw [ht25] at hE35; clear hE24
   refine wp_skip ?_
   refine p_tn ?_
   refine c_seq ?_
   refine c_reg ?_
   refine q_step (v := .agg #[.int .i64 f0, .slice f1A f1.length f1C]) hE35 (y_loadS Try.underlying30 rfl (by kernel_rfl) rfl (St.row (i := 0) hS20 rfl)) rfl rfl rfl ?_; intro a36 hE37; clear hE35
   refine q_step (v := .slice classesA classes.length classesC) hE37 (y_move rfl) rfl rfl rfl ?_; intro a38 hE39; clear hE37
   refine l_step hE39 rfl (l_call (f := 111) (argv := [.agg #[.int .i64 f0, .slice f1A f1.length f1C], .slice classesA classes.length classesC]) hE39 (fun _ => cf_isCongruence _ _) rfl rfl (c_isCongruence f0 f1A f1.length f1C f1 classesA classes.length classesC classes w17 (St.rdR (i := 2) hS20 rfl) (St.rdR (i := 1) hS20 rfl) (by omega) (by omega) (l05Is_m (by rw [← isFrame_eq]; assumption)) (by omega)) ?_)
   rintro _ w41 ⟨rfl, he45⟩ a42 hE43; clear hE39
   have hS44 := St.go hS20 he45; clear hS20
   refine q_step (v := .bool (F_isCongruence f0 f1 classes)) hE43 (y_assign rfl) rfl rfl rfl ?_; intro a46 hE47; clear hE43
   refine q_step (v := .int .i64 0) hE47 (y_assign rfl) rfl rfl rfl ?_; intro a48 hE49; clear hE47
   refine c_nil ?_
   have hE50 := hE49.sub (L' := [(4, .bool (F_isCongruence f0 f1 classes)), (5, .int .i64 0)]) ⟨rfl, rfl, trivial⟩; clear hE49
   refine p_tn ?_
   refine wp_ret ?_
   have hF : F_IsCongruence f0 f1 classes = (F_isCongruence f0 f1 classes, 0) := by unfold F_IsCongruence; rw [ht25]; first | done | rfl
   refine c_ret2 hE50 rfl rfl rfl ?_
   exact ⟨(by rw [hF]; first | done | (dsimp only; done) | rfl), hS44.ext⟩
theorem isMorphism_all {f0 : Int} {f1 : List Int} {g0 : Int} {g1 images : List Int} (hf2 : F_l05Is f0 f1 = true) (hg0 : g0 ≤ 8) (hl : (images.length : Int) = f0) (hx : ∀ m : Int, 0 ≤ m → m < (images.length : Int) → 0 ≤ gI images m ∧ gI images m < g0) : F_isMorphism f0 f1 g0 g1 images = (List.range images.length).all fun (j : Nat) => decide (F_l08Image images (gI f1 (j : Int)) = gI g1 (gI images (j : Int))) := by
  have hf := l05Is_t hf2
  unfold F_isMorphism F_Frame_everyWorld
  rw [show Int.toNat (f0 - 0) = images.length by omega,
    allLoop (F_Frame_everyWorld_L1 f0 _) f0 (fun i => !(F_isMorphism_k1 i images f0 f1 g0 g1)) (fun _ _ => rfl) images.length 0 (by omega)]
  apply all_congr_range
  intro j hj
  have hm := l05Is_m hf2 (j : Int) (by omega) (by omega)
  unfold F_isMorphism_k1
  rw [show (0 : Int) + (j : Int) = (j : Int) by omega, Bool.not_not, mapMask_eq (by omega) hm.1 (by rw [hl]; exact hm.2) (fun m h0 h1 => by have := hx m h0 h1; omega)]
theorem l08Cong_eq (f0 : Int) (f1 classes : List Int) : F_l08Congruence f0 f1 classes = (F_l08Ordered f0 f1 classes && (List.range classes.length).all fun (x : Nat) => (List.range x).all fun (y : Nat) => !(decide (gI classes (x : Int) = gI classes (y : Int)) && !decide (F_l08Image classes (gI f1 (x : Int)) = F_l08Image classes (gI f1 (y : Int))))) := by
  unfold F_l08Congruence
  have inner : ∀ x : Int, 0 ≤ x → F_l08Congruence_L2 f1 classes x (Int.toNat (x - 0) + 1) 0 = bif (List.range x.toNat).all (fun (y : Nat) => !(decide (gI classes x = gI classes (y : Int)) && !decide (F_l08Image classes (gI f1 x) = F_l08Image classes (gI f1 (y : Int))))) then .ok x else .error false := fun x hx =>
    allE (F_l08Congruence_L2 f1 classes x) false x (fun y => (decide (gI classes x = gI classes y) && !decide (F_l08Image classes (gI f1 x) = F_l08Image classes (gI f1 y)))) hx (fun _ _ _ _ => rfl)
  rw [allE (F_l08Congruence_L1 f1 classes) false (classes.length : Int) (fun x => !(List.range x.toNat).all (fun (y : Nat) => !(decide (gI classes x = gI classes (y : Int)) && !decide (F_l08Image classes (gI f1 x) = F_l08Image classes (gI f1 (y : Int)))))) (by omega) (fun r i h0 _ => ?_), isOk_bif, errD_bif, bif_tf, Int.toNat_natCast]
  · simp only [Bool.not_not, Int.toNat_natCast]
    cases F_l08Ordered f0 f1 classes <;> rfl
  · show F_l08Congruence_L1b f1 classes _ i = _
    unfold F_l08Congruence_L1b
    rw [inner i h0, isOk_bif]
    cases (List.range i.toNat).all (fun (y : Nat) => !(decide (gI classes i = gI classes (y : Int)) && !decide (F_l08Image classes (gI f1 i) = F_l08Image classes (gI f1 (y : Int))))) <;> rfl
theorem l08Image_mk {images : List Int} (hl : images.length ≤ 8) (hx : ∀ m : Int, 0 ≤ m → m < (images.length : Int) → 0 ≤ gI images m ∧ gI images m ≤ 7) (mask : Int) : Mk 8 (F_l08Image images mask) := by
  unfold F_l08Image
  rw [rangeLoop0 (images.length : Int) (by omega) (fun o j => bif F_l01Bit mask j then orI o (powI (gI images j)) else o) (F_l08Image_L1 images mask) (fun _ _ _ => rfl), Int.toNat_natCast]
  refine (fold_or (n := 8) (by omega) (fun j => F_l01Bit mask (j : Int)) (fun j => powI (gI images (j : Int))) (List.range images.length) 0 (Mk.zero 8) (fun j hj _ => ?_)).1
  have hj := List.mem_range.1 hj
  have h := hx (j : Int) (by omega) (by omega)
  rw [show gI images (j : Int) = ((gI images (j : Int)).toNat : Int) by omega]
  exact Mk.pow (by omega)
/-- Under equal images in a class, a bucket holds the image of each of its worlds. -/
theorem bucket_same {c v : Int → Int} {N : Nat} (hv : ∀ x : Nat, x < N → Mk 8 (v x)) {x : Nat} (hx : x < N) {k : Nat} (hk : c x = (k : Int)) (hs : ∀ y : Nat, y < N → c y = c x → v y = v x) : bucket c v N k = v x := by
  unfold bucket
  obtain ⟨h1, h2⟩ := fold_or (n := 8) (by omega) (fun y : Nat => decide (c (y : Int) = (k : Int))) (fun y : Nat => v (y : Int)) (List.range N) 0 (Mk.zero 8) (fun y hy _ => hv y (List.mem_range.1 hy))
  apply tb_ext h1.1 (hv x hx).1
  intro j
  rw [Bool.eq_iff_iff, h2 j]
  constructor
  · rintro (h | ⟨y, hy, h3, h4⟩)
    · rw [tb_zero] at h; cases h
    · rw [← hs y (List.mem_range.1 hy) ((of_decide_eq_true h3).trans hk.symm)]; exact h4
  · intro h
    exact .inr ⟨x, List.mem_range.2 hx, decide_eq_true hk, h⟩
theorem quot_mask {f0 : Int} {f1 classes : List Int} (hf2 : F_l05Is f0 f1 = true) (hl : (classes.length : Int) = f0) (hcl : ∀ m : Int, 0 ≤ m → m < (classes.length : Int) → 0 ≤ gI classes m ∧ gI classes m ≤ 7) (x : Nat) (hx : x < classes.length) : F_mapMask classes (gI f1 (x : Int)) = F_l08Image classes (gI f1 (x : Int)) := by
  have hf := l05Is_t hf2
  have hm := l05Is_m hf2 (x : Int) (by omega) (by omega)
  exact mapMask_eq (by omega) hm.1 (by rw [hl]; exact hm.2) hcl
theorem isCong_eq {f0 : Int} {f1 classes : List Int} (hf2 : F_l05Is f0 f1 = true) : F_isCongruence f0 f1 classes = F_l08Congruence f0 f1 classes := by
  have hf := l05Is_t hf2
  rw [l08Cong_eq, l08Ordered_eq]
  unfold F_isCongruence
  by_cases hl : (classes.length : Int) = f0
  · cases ha : F_areClasses classes
    · rw [decide_eq_true hl]; rfl
    · rw [decide_eq_true hl, Bool.not_true, Bool.false_or, cond_false, Bool.true_and, Bool.true_and]
      have hcl := areClasses_7 ha (by omega)
      have hcc := classCount_bd hcl
      obtain ⟨q1, q2⟩ := quot_spec (ap := f1) (classes := classes) (by omega) hcl
      rw [isMorphism_all hf2 (quot_g f1 ha (by omega)).2 hl (quot_im f1 ha (by omega))]
      have hQ : ∀ x : Nat, x < classes.length → gI (F_quotientRelation f1 classes) (gI classes (x : Int)) = bucket (gI classes) (fun y => F_mapMask classes (gI f1 y)) f1.length (gI classes (x : Int)).toNat := fun x hx => by
        have h1 := hcl (x : Int) (by omega) (by omega)
        have h2 := hcc.2.1 (x : Int) (by omega) (by omega)
        have h3 := q2 (gI classes (x : Int)).toNat (by omega)
        rwa [show ((gI classes (x : Int)).toNat : Int) = gI classes (x : Int) by omega] at h3
      rw [Bool.eq_iff_iff, List.all_eq_true, List.all_eq_true]
      constructor
      · intro h x hx
        rw [List.all_eq_true]
        intro y hy
        have hx' := List.mem_range.1 hx
        have hy' := List.mem_range.1 hy
        have e1 := h x hx
        have e2 := h y (List.mem_range.2 (by omega))
        rw [decide_eq_true_iff] at e1 e2
        cases hd : decide (gI classes (x : Int) = gI classes (y : Int))
        · rfl
        · rw [e1, e2, of_decide_eq_true hd]; simp
      · intro h x hx
        have hx' := List.mem_range.1 hx
        rw [decide_eq_true_iff, hQ x hx', ← quot_mask hf2 hl hcl x hx']
        have hxc := hcl (x : Int) (by omega) (by omega)
        refine (bucket_same (c := gI classes) (v := fun y => F_mapMask classes (gI f1 y)) (N := f1.length) (fun y hy => ?_) (x := x) (by omega) (by omega) (fun y hy hyx => ?_)).symm
        · show Mk 8 (F_mapMask classes (gI f1 (y : Int)))
          rw [quot_mask hf2 hl hcl y (by omega)]; exact l08Image_mk (by omega) hcl _
        · show F_mapMask classes (gI f1 (y : Int)) = F_mapMask classes (gI f1 (x : Int))
          rw [quot_mask hf2 hl hcl y (by omega), quot_mask hf2 hl hcl x hx']
          have sym : ∀ a b : Nat, a < classes.length → b < a → gI classes (a : Int) = gI classes (b : Int) → F_l08Image classes (gI f1 (a : Int)) = F_l08Image classes (gI f1 (b : Int)) := fun a b ha hb hab => by
            have h1 := h a (List.mem_range.2 ha)
            rw [List.all_eq_true] at h1
            have h2 := h1 b (List.mem_range.2 hb)
            rw [decide_eq_true hab, Bool.true_and, Bool.not_not] at h2
            exact of_decide_eq_true h2
          rcases Nat.lt_trichotomy x y with hlt | rfl | hgt
          · exact sym y x (by omega) hlt hyx
          · rfl
          · exact (sym x y hx' hgt hyx.symm).symm
  · rw [decide_eq_false hl]; rfl
theorem IsCongruence_eq (f0 : Int) (f1 classes : List Int) : F_IsCongruence f0 f1 classes = F_s_IsCongruence f0 f1 classes := by
  unfold F_IsCongruence F_s_IsCongruence
  rw [isFrame_eq]
  cases h : F_l05Is f0 f1
  · rfl
  · rw [isCong_eq h]
theorem isCongruence_t {f0 : Int} {f1 classes : List Int} (h : F_isCongruence f0 f1 classes = true) : (classes.length : Int) = f0 := by
  unfold F_isCongruence at h
  by_cases hl : (classes.length : Int) = f0
  · exact hl
  · rw [decide_eq_false hl] at h; cases h
theorem isCongruence_7 {f0 : Int} {f1 classes : List Int} (h : F_isCongruence f0 f1 classes = true) (h8 : f0 ≤ 8) : ∀ m : Int, 0 ≤ m → m < (classes.length : Int) → 0 ≤ gI classes m ∧ gI classes m ≤ 7 := by
  have hl := isCongruence_t h
  unfold F_isCongruence at h
  cases ha : F_areClasses classes
  · rw [ha, decide_eq_true hl] at h; cases h
  · exact areClasses_7 ha (by omega)
theorem l08Congruence_t {f0 : Int} {f1 classes : List Int} (h : F_l08Congruence f0 f1 classes = true) : (classes.length : Int) = f0 := by
  rw [l08Cong_eq, Bool.and_eq_true] at h; exact l08Ordered_t h.1
theorem l08Congruence_7 {f0 : Int} {f1 classes : List Int} (h : F_l08Congruence f0 f1 classes = true) (h8 : f0 ≤ 8) : ∀ m : Int, 0 ≤ m → m < (classes.length : Int) → 0 ≤ gI classes m ∧ gI classes m ≤ 7 := by
  rw [l08Cong_eq, Bool.and_eq_true] at h; exact l08Ordered_7 h.1 h8
end Go.Proofs.Ytlbonhloeefnmaa
