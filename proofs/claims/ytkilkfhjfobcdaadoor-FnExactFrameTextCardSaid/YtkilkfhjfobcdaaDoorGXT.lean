/- GXT: models and contracts, printed by wip/gen/gen.py -/
import Derived.Test.YtkilkfhjfobcdaaDoorGP
import Derived.Test.YtkilkfhjfobcdaaDoorDig
set_option linter.unusedVariables false
set_option linter.unusedSimpArgs false
namespace Go.Proofs.YtkilkfhjfobcdaaDoor
open Go.RowKit

def F_l05Text_L2b (f1 : List Int) (w4 : Int) (rec : ByteArray → Int → ByteArray × Int) (out3L2 : ByteArray) (k6L2 : Int) : ByteArray × Int :=
  bif (decide (k6L2 < ((F_l01List (gI f1 w4)).length : Int))) then (rec ((((out3L2 ++ (⟨#[32]⟩ : ByteArray)) ++ (digS w4)) ++ (⟨#[62]⟩ : ByteArray)) ++ (digS (gI (F_l01List (gI f1 w4)) k6L2))) (k6L2 + 1)) else (out3L2, k6L2)
def F_l05Text_L2 (f1 : List Int) (w4 : Int) : Nat → ByteArray → Int → ByteArray × Int
  | 0, out3L2, k6L2 => (out3L2, k6L2)
  | r + 1, out3L2, k6L2 => F_l05Text_L2b f1 w4 (F_l05Text_L2 f1 w4 r) out3L2 k6L2
def F_l05Text_L1b (f0 : Int) (f1 : List Int) (rec : ByteArray → Int → ByteArray × Int) (out3 : ByteArray) (w4 : Int) : ByteArray × Int :=
  bif (decide (w4 < f0)) then (rec ((F_l05Text_L2 f1 w4 (Int.toNat (((F_l01List (gI f1 w4)).length : Int) - 0) + 1) out3 0).1) (w4 + 1)) else (out3, w4)
def F_l05Text_L1 (f0 : Int) (f1 : List Int) : Nat → ByteArray → Int → ByteArray × Int
  | 0, out3, w4 => (out3, w4)
  | r + 1, out3, w4 => F_l05Text_L1b f0 f1 (F_l05Text_L1 f0 f1 r) out3 w4
def F_l05Text (f0 : Int) (f1 : List Int) : ByteArray :=
  (F_l05Text_L1 f0 f1 (Int.toNat (f0 - 0) + 1) ((digS f0) ++ (⟨#[58]⟩ : ByteArray)) 0).1
theorem cf_l05Text (args : Array Value) (w : World) : (callFunc 11 args).run Tryd.prog w = .ok (.enter 11 args) w := by kernel_rfl
set_option maxRecDepth 100000 in
theorem c_l05Text (f0 : Int) (f1A : Option Addr) (f1N f1C : Nat) (f1 : List Int) (w : World) (f1R : RdS w 1 f1A f1N f1C f1) (hf : 0 ≤ f0 ∧ f0 ≤ 8) (hfl : (f1.length : Int) = f0) (hfm : ∀ m : Int, 0 ≤ m → m < (f1.length : Int) → 0 ≤ gI f1 m ∧ gI f1 m ≤ fullI f0) :
    Calls Tryd.prog 11 #[.agg #[.int .i64 f0, .slice f1A f1N f1C]] w (Ret fun v w' => v = .string (F_l05Text f0 f1) ∧ Ext w w') := by
  obtain rfl : f1N = f1.length := f1R.len1.symm
  have f1Le := f1R.le
  have hf8 := fullI_bd (n := f0) (by omega) (by omega)
  have hS := St.nil w
  have hS1 := St.rd0 hS rfl f1R; clear hS
  refine enter (args := [.agg #[.int .i64 f0, .slice f1A f1.length f1C]]) Tryd.func11 rfl rfl ?_
  rw [Tryd.ntmps11]; intro a hE
  have hE := hE.sub (L' := [(0, .agg #[.int .i64 f0, .slice f1A f1.length f1C])]) ⟨rfl, trivial⟩
  refine c_seq ?_
  refine c_reg ?_
  refine l_step hE rfl (l_box (v := .agg #[.int .i64 f0, .slice f1A f1.length f1C]) (cs := #[.int .i64 f0, .slice f1A f1.length f1C]) hS1 hE rfl rfl rfl ?_)
  intro b2 w3 hS6 he7 a4 hE5; clear hS1 hE
  refine q_step (v := .string (⟨#[]⟩ : ByteArray)) hE5 (y_assign rfl) rfl rfl rfl ?_; intro a8 hE9; clear hE5
  refine c_nil ?_
  have hE10 := hE9.sub (L' := [(1, .pointer (some ⟨b2, 0, none⟩))]) ⟨rfl, trivial⟩; clear hE9
  refine p_tn ?_
  refine c_seq ?_
  refine c_reg ?_
  refine q_step (v := .pointer (some ⟨b2, 0, none⟩)) hE10 (y_field rfl (fun _ => by kernel_rfl)) rfl rfl rfl ?_; intro a11 hE12; clear hE10
  refine q_step (v := .int .i64 f0) hE12 (y_load (fun _ => by kernel_rfl) rfl (St.cell (i := 0) hS6 rfl rfl)) rfl rfl rfl ?_; intro a13 hE14; clear hE12
  refine l_step hE14 rfl (l_call (f := 18) (argv := [.int .i64 f0]) hE14 (fun _ => cf_l01Dec _ _) rfl rfl (c_l01Dec f0 w3 (by omega) (by omega)) ?_)
  rintro _ w16 ⟨rfl, he20⟩ a17 hE18; clear hE14
  have hS19 := St.go hS6 he20; clear hS6
  refine q_step (v := .string ((digS f0) ++ (⟨#[58]⟩ : ByteArray))) hE18 (y_addS rfl rfl (by first | omega | (simp only [ByteArray.size_append, digS_size, sz1, sz0]; omega))) rfl rfl rfl ?_; intro a21 hE22; clear hE18
  refine q_step (v := .string ((digS f0) ++ (⟨#[58]⟩ : ByteArray))) hE22 (y_assign rfl) rfl rfl rfl ?_; intro a23 hE24; clear hE22
  refine c_nil ?_
  have hE25 := hE24.sub (L' := [(1, .pointer (some ⟨b2, 0, none⟩)), (3, .string ((digS f0) ++ (⟨#[58]⟩ : ByteArray)))]) ⟨rfl, rfl, trivial⟩; clear hE24
  refine p_tn ?_
  refine c_seq ?_
  refine c_seq ?_
  refine c_reg ?_
  refine q_step (v := .int .i64 0) hE25 (y_assign rfl) rfl rfl rfl ?_; intro a26 hE27; clear hE25
  refine c_nil ?_
  have hE28 := hE27.sub (L' := [(1, .pointer (some ⟨b2, 0, none⟩)), (3, .string ((digS f0) ++ (⟨#[58]⟩ : ByteArray))), (4, .int .i64 0)]) ⟨rfl, rfl, rfl, trivial⟩; clear hE27
  refine p_tn ?_
  refine c_cut1 (fun a' w' => (0 ≤ ((F_l05Text_L1 f0 f1 (Int.toNat (f0 - 0) + 1) ((digS f0) ++ (⟨#[58]⟩ : ByteArray)) 0).2)) ∧ ((((F_l05Text_L1 f0 f1 (Int.toNat (f0 - 0) + 1) ((digS f0) ++ (⟨#[58]⟩ : ByteArray)) 0).1).size : Int) ≤ 2 + ((F_l05Text_L1 f0 f1 (Int.toNat (f0 - 0) + 1) ((digS f0) ++ (⟨#[58]⟩ : ByteArray)) 0).2) * 40) ∧ E a' 42 [(1, .pointer (some ⟨b2, 0, none⟩)), (3, .string ((F_l05Text_L1 f0 f1 (Int.toNat (f0 - 0) + 1) ((digS f0) ++ (⟨#[58]⟩ : ByteArray)) 0).1)), (4, .int .i64 ((F_l05Text_L1 f0 f1 (Int.toNat (f0 - 0) + 1) ((digS f0) ++ (⟨#[58]⟩ : ByteArray)) 0).2))] ∧ St w w' [.blk b2 #[.int .i64 f0, .slice f1A f1.length f1C] 28, .rd 1 f1A f1.length f1C f1]) ?_ ?_
  ·
   refine wp_block ?_
   refine c_loop (fun r a' w' => ∃ out3 : ByteArray, ∃ w4 : Int, F_l05Text_L1 f0 f1 r out3 w4 = F_l05Text_L1 f0 f1 (Int.toNat (f0 - 0) + 1) ((digS f0) ++ (⟨#[58]⟩ : ByteArray)) 0 ∧ Int.toNat (f0 - w4) < r ∧ (0 ≤ w4) ∧ ((out3.size : Int) ≤ 2 + w4 * 40) ∧ E a' 42 [(1, .pointer (some ⟨b2, 0, none⟩)), (3, .string out3), (4, .int .i64 w4)] ∧ St w w' [.blk b2 #[.int .i64 f0, .slice f1A f1.length f1C] 28, .rd 1 f1A f1.length f1C f1]) (r := (Int.toNat (f0 - 0) + 1)) ?_ ?_
   · exact ⟨((digS f0) ++ (⟨#[58]⟩ : ByteArray)), 0, rfl, Nat.lt_succ_self _, (by first | omega | (simp only [sS_len, sL_len]; omega) | (simp only [List.length_replicate, sI_len]; omega) | (simp only [List.length_append, List.length_cons, List.length_nil, sI_len, cond_true, cond_false]; omega) | (simp only [List.length_append, List.length_cons, List.length_nil, sI_len, cond_eq_ite, apply_ite List.length]; split <;> simp only [List.length_append, List.length_cons, List.length_nil, sI_len] <;> omega) | grind), (by first | omega | (simp only [ByteArray.size_append, digS_size, sz1, sz0]; omega)), (hE28.sub (L' := [(1, .pointer (some ⟨b2, 0, none⟩)), (3, .string ((digS f0) ++ (⟨#[58]⟩ : ByteArray))), (4, .int .i64 0)]) ⟨rfl, rfl, rfl, trivial⟩), (St.pick (Γ' := [.blk b2 #[.int .i64 f0, .slice f1A f1.length f1C] 28, .rd 1 f1A f1.length f1C f1]) hS19 [0, 1] (by decide) rfl)⟩
   ·
    clear hE28 hS19
    rintro r38 a30 w31 ⟨out3, w4, hT34, hr35, hi36, hi37, hE32, hS33⟩
    obtain ⟨r38, rfl⟩ : ∃ r', r38 = r' + 1 := ⟨r38 - 1, by omega⟩
    refine c_seq ?_
    refine c_seq ?_
    refine c_reg ?_
    refine q_step (v := .int .i64 w4) hE32 (y_move rfl) rfl rfl rfl ?_; intro a39 hE40; clear hE32
    refine q_step (v := .pointer (some ⟨b2, 0, none⟩)) hE40 (y_field rfl (fun _ => by kernel_rfl)) rfl rfl rfl ?_; intro a41 hE42; clear hE40
    refine q_step (v := .int .i64 f0) hE42 (y_load (fun _ => by kernel_rfl) rfl (St.cell (i := 0) hS33 rfl rfl)) rfl rfl rfl ?_; intro a43 hE44; clear hE42
    refine q_step (v := .bool (decide (w4 < f0))) hE44 (y_lss rfl rfl) rfl rfl rfl ?_; intro a45 hE46; clear hE44
    refine c_nil ?_
    have hE47 := hE46.sub (L' := [(1, .pointer (some ⟨b2, 0, none⟩)), (3, .string out3), (4, .int .i64 w4), (14, .bool (decide (w4 < f0)))]) ⟨rfl, rfl, rfl, rfl, trivial⟩; clear hE46
    refine p_tn ?_
    refine c_cond hE47 rfl (fun ht48 => ?_) (fun ht48 => ?_)
    ·
     have hp49 := of_decide_eq_true ht48
     have hE50 := hE47; rw [ht48] at hE50; clear hE47
     have hx1 := hfm w4 (by omega) (by omega)
     refine wp_skip ?_
     refine p_tn ?_
     refine c_seq ?_
     refine wp_block ?_
     refine c_seq ?_
     refine c_reg ?_
     refine q_step (v := .pointer (some ⟨b2, 1, none⟩)) hE50 (y_field rfl (fun _ => by kernel_rfl)) rfl rfl rfl ?_; intro a51 hE52; clear hE50
     refine q_step (v := .slice f1A f1.length f1C) hE52 (y_load (fun _ => by kernel_rfl) rfl (St.cell (i := 0) hS33 rfl rfl)) rfl rfl rfl ?_; intro a53 hE54; clear hE52
     refine q_step (v := .int .i64 w4) hE54 (y_move rfl) rfl rfl rfl ?_; intro a55 hE56; clear hE54
     refine q_step (v := .pointer (some (adr f1A (Int.toNat w4)))) hE56 (y_idx (by kernel_rfl) (fun _ => by kernel_rfl) rfl rfl (RdS.isS (m := w4) (St.rdR (i := 1) hS33 rfl) (by omega) (by omega)) (by omega) (by omega) (Nat.mul_one _).symm) rfl rfl rfl ?_; intro a57 hE58; clear hE56
     refine q_step (v := .int .i64 (gI f1 w4)) hE58 (y_load (fun _ => by kernel_rfl) rfl (RdS.elt (St.rdR (i := 1) hS33 rfl) (by omega) (by omega))) rfl rfl rfl ?_; intro a59 hE60; clear hE58
     refine l_step hE60 rfl (l_call (f := 19) (argv := [.int .i64 (gI f1 w4)]) hE60 (fun _ => cf_l01List _ _) rfl rfl (c_l01List (gI f1 w4) w31 (by omega) (by omega)) ?_)
     rintro _ w62 ⟨b67, c68, rfl, ho69, he66⟩ a63 hE64; clear hE60
     obtain ⟨hL0, hL⟩ := list_lt (f0 := f0) (mask := gI f1 w4) (by omega) (by omega)
     have hS65 := St.own hS33 he66 ho69; clear hS33
     refine q_step (v := .slice b67 ((F_l01List (gI f1 w4)).length) c68) hE64 (y_assign rfl) rfl rfl rfl ?_; intro a70 hE71; clear hE64
     refine c_nil ?_
     have hE72 := hE71.sub (L' := [(1, .pointer (some ⟨b2, 0, none⟩)), (3, .string out3), (4, .int .i64 w4), (5, .slice b67 ((F_l01List (gI f1 w4)).length) c68)]) ⟨rfl, rfl, rfl, rfl, trivial⟩; clear hE71
     refine p_tn ?_
     refine c_seq ?_
     refine c_reg ?_
     refine q_step (v := .int .i64 0) hE72 (y_assign rfl) rfl rfl rfl ?_; intro a73 hE74; clear hE72
     refine c_nil ?_
     have hE75 := hE74.sub (L' := [(1, .pointer (some ⟨b2, 0, none⟩)), (3, .string out3), (4, .int .i64 w4), (5, .slice b67 ((F_l01List (gI f1 w4)).length) c68), (6, .int .i64 0)]) ⟨rfl, rfl, rfl, rfl, rfl, trivial⟩; clear hE74
     refine p_tn ?_
     refine c_cut1 (fun a' w' => (0 ≤ ((F_l05Text_L2 f1 w4 (Int.toNat (((F_l01List (gI f1 w4)).length : Int) - 0) + 1) out3 0).2)) ∧ ((((F_l05Text_L2 f1 w4 (Int.toNat (((F_l01List (gI f1 w4)).length : Int) - 0) + 1) out3 0).1).size : Int) ≤ 2 + w4 * 40 + ((F_l05Text_L2 f1 w4 (Int.toNat (((F_l01List (gI f1 w4)).length : Int) - 0) + 1) out3 0).2) * 4) ∧ (((F_l05Text_L2 f1 w4 (Int.toNat (((F_l01List (gI f1 w4)).length : Int) - 0) + 1) out3 0).2) ≤ ((F_l01List (gI f1 w4)).length : Int)) ∧ E a' 42 [(1, .pointer (some ⟨b2, 0, none⟩)), (3, .string ((F_l05Text_L2 f1 w4 (Int.toNat (((F_l01List (gI f1 w4)).length : Int) - 0) + 1) out3 0).1)), (4, .int .i64 w4), (5, .slice b67 ((F_l01List (gI f1 w4)).length) c68), (6, .int .i64 ((F_l05Text_L2 f1 w4 (Int.toNat (((F_l01List (gI f1 w4)).length : Int) - 0) + 1) out3 0).2))] ∧ St w w' [.own 2 1 b67 ((F_l01List (gI f1 w4)).length) c68 (F_l01List (gI f1 w4)), .blk b2 #[.int .i64 f0, .slice f1A f1.length f1C] 28, .rd 1 f1A f1.length f1C f1]) ?_ ?_
     ·
      refine wp_block ?_
      refine c_loop (fun r a' w' => ∃ out3L2 : ByteArray, ∃ k6L2 : Int, F_l05Text_L2 f1 w4 r out3L2 k6L2 = F_l05Text_L2 f1 w4 (Int.toNat (((F_l01List (gI f1 w4)).length : Int) - 0) + 1) out3 0 ∧ Int.toNat (((F_l01List (gI f1 w4)).length : Int) - k6L2) < r ∧ (0 ≤ k6L2) ∧ ((out3L2.size : Int) ≤ 2 + w4 * 40 + k6L2 * 4) ∧ (k6L2 ≤ ((F_l01List (gI f1 w4)).length : Int)) ∧ E a' 42 [(1, .pointer (some ⟨b2, 0, none⟩)), (3, .string out3L2), (4, .int .i64 w4), (5, .slice b67 ((F_l01List (gI f1 w4)).length) c68), (6, .int .i64 k6L2)] ∧ St w w' [.own 2 1 b67 ((F_l01List (gI f1 w4)).length) c68 (F_l01List (gI f1 w4)), .blk b2 #[.int .i64 f0, .slice f1A f1.length f1C] 28, .rd 1 f1A f1.length f1C f1]) (r := (Int.toNat (((F_l01List (gI f1 w4)).length : Int) - 0) + 1)) ?_ ?_
      · exact ⟨out3, 0, rfl, Nat.lt_succ_self _, (by first | omega | (simp only [sS_len, sL_len]; omega) | (simp only [List.length_replicate, sI_len]; omega) | (simp only [List.length_append, List.length_cons, List.length_nil, sI_len, cond_true, cond_false]; omega) | (simp only [List.length_append, List.length_cons, List.length_nil, sI_len, cond_eq_ite, apply_ite List.length]; split <;> simp only [List.length_append, List.length_cons, List.length_nil, sI_len] <;> omega) | grind), (by first | omega | (simp only [ByteArray.size_append, digS_size, sz1, sz0]; omega)), (by first | omega | (simp only [sS_len, sL_len]; omega) | (simp only [List.length_replicate, sI_len]; omega) | (simp only [List.length_append, List.length_cons, List.length_nil, sI_len, cond_true, cond_false]; omega) | (simp only [List.length_append, List.length_cons, List.length_nil, sI_len, cond_eq_ite, apply_ite List.length]; split <;> simp only [List.length_append, List.length_cons, List.length_nil, sI_len] <;> omega) | grind), (hE75.sub (L' := [(1, .pointer (some ⟨b2, 0, none⟩)), (3, .string out3), (4, .int .i64 w4), (5, .slice b67 ((F_l01List (gI f1 w4)).length) c68), (6, .int .i64 0)]) ⟨rfl, rfl, rfl, rfl, rfl, trivial⟩), (St.pick (Γ' := [.own 2 1 b67 ((F_l01List (gI f1 w4)).length) c68 (F_l01List (gI f1 w4)), .blk b2 #[.int .i64 f0, .slice f1A f1.length f1C] 28, .rd 1 f1A f1.length f1C f1]) hS65 [0, 1, 2] (by decide) rfl)⟩
      ·
       clear hE75 hS65
       rintro r86 a77 w78 ⟨out3L2, k6L2, hT81, hr82, hi83, hi84, hi85, hE79, hS80⟩
       obtain ⟨r86, rfl⟩ : ∃ r', r86 = r' + 1 := ⟨r86 - 1, by omega⟩
       refine c_seq ?_
       refine c_seq ?_
       refine c_reg ?_
       refine q_step (v := .int .i64 k6L2) hE79 (y_move rfl) rfl rfl rfl ?_; intro a87 hE88; clear hE79
       refine q_step (v := .slice b67 ((F_l01List (gI f1 w4)).length) c68) hE88 (y_move rfl) rfl rfl rfl ?_; intro a89 hE90; clear hE88
       refine q_step (v := .int .i64 ((F_l01List (gI f1 w4)).length : Int)) hE90 (y_len (e := 2) (by kernel_rfl) rfl) rfl rfl rfl ?_; intro a91 hE92; clear hE90
       refine q_step (v := .bool (decide (k6L2 < ((F_l01List (gI f1 w4)).length : Int)))) hE92 (y_lss rfl rfl) rfl rfl rfl ?_; intro a93 hE94; clear hE92
       refine c_nil ?_
       have hE95 := hE94.sub (L' := [(1, .pointer (some ⟨b2, 0, none⟩)), (3, .string out3L2), (4, .int .i64 w4), (5, .slice b67 ((F_l01List (gI f1 w4)).length) c68), (6, .int .i64 k6L2), (26, .bool (decide (k6L2 < ((F_l01List (gI f1 w4)).length : Int))))]) ⟨rfl, rfl, rfl, rfl, rfl, rfl, trivial⟩; clear hE94
       refine p_tn ?_
       refine c_cond hE95 rfl (fun ht96 => ?_) (fun ht96 => ?_)
       ·
        have hp97 := of_decide_eq_true ht96
        have hE98 := hE95; rw [ht96] at hE98; clear hE95
        have hL1 := hL k6L2 (by omega) (by omega)
        refine wp_skip ?_
        refine p_tn ?_
        refine c_seq ?_
        refine wp_block ?_
        refine d_start (fun w w' => (fun w' => w'.cell? (adr b67 (Int.toNat k6L2)) = some (.int .i64 (gI (F_l01List (gI f1 w4)) k6L2)) ∧ True) w → (fun w' => w'.cell? (adr b67 (Int.toNat k6L2)) = some (.int .i64 (gI (F_l01List (gI f1 w4)) k6L2)) ∧ True) w') [9] 13 (by kernel_rfl) rfl ?_
        intro w99 he100; have hS101 := St.go hS80 he100; clear hS80
        refine d_pure (fun _ h => h) (v := .string out3L2) 0 rfl hE98 (y_move rfl) rfl (by kernel_rfl) (by kernel_rfl) (by kernel_rfl) rfl rfl (fun _ _ _ h => h) ?_; intro a102 hE103; clear hE98
        refine d_pure (fun _ h => h) (v := .string (out3L2 ++ (⟨#[32]⟩ : ByteArray))) 1 rfl hE103 (y_addS rfl rfl (by first | omega | (simp only [ByteArray.size_append, digS_size, sz1, sz0]; omega))) rfl (by kernel_rfl) (by kernel_rfl) (by kernel_rfl) rfl rfl (fun _ _ _ h => h) ?_; intro a104 hE105; clear hE103
        refine d_pure (fun _ h => h) (v := .int .i64 w4) 2 rfl hE105 (y_move rfl) rfl (by kernel_rfl) (by kernel_rfl) (by kernel_rfl) rfl rfl (fun _ _ _ h => h) ?_; intro a106 hE107; clear hE105
        refine d_pure (fun _ h => h) (v := .slice b67 ((F_l01List (gI f1 w4)).length) c68) 6 rfl hE107 (y_move rfl) rfl (by kernel_rfl) (by kernel_rfl) (by kernel_rfl) rfl rfl (fun _ _ _ h => h) ?_; intro a108 hE109; clear hE107
        refine d_pure (fun _ h => h) (v := .int .i64 k6L2) 7 rfl hE109 (y_move rfl) rfl (by kernel_rfl) (by kernel_rfl) (by kernel_rfl) rfl rfl (fun _ _ _ h => h) ?_; intro a110 hE111; clear hE109
        refine d_pure (fun _ h => h) (v := .pointer (some (adr b67 (Int.toNat k6L2)))) 8 rfl hE111 (y_idx (by kernel_rfl) (fun _ => by kernel_rfl) rfl rfl (RdS.isS (m := k6L2) (St.rdO (i := 0) hS101 rfl) (by omega) (by omega)) (by omega) (by omega) (Nat.mul_one _).symm) rfl (by kernel_rfl) (by kernel_rfl) (by kernel_rfl) rfl rfl (fun _ _ _ h => h) ?_; intro a112 hE113; clear hE111
        refine d_take (fun _ h => h) (fun _ _ h k => h k) (v := .int .i64 (gI (F_l01List (gI f1 w4)) k6L2)) 9 rfl hE113 (S := fun w' => w'.cell? (adr b67 (Int.toNat k6L2)) = some (.int .i64 (gI (F_l01List (gI f1 w4)) k6L2)) ∧ True) ⟨(RdS.elt (St.rdO (i := 0) hS101 rfl) (by omega) (by omega) _ (Ext.refl _)), trivial⟩ (y_load (fun _ => by kernel_rfl) rfl (fun _ h => h.1)) rfl rfl (by kernel_rfl) (by kernel_rfl) (by kernel_rfl) (by kernel_rfl) rfl rfl (fun _ _ _ h => h) ?_; intro a114 hE115; clear hE113
        refine d_only 3 (by kernel_rfl) rfl hE115 rfl (l_call (f := 18) (argv := [.int .i64 w4]) hE115 (fun _ => cf_l01Dec _ _) rfl rfl (c_l01Dec w4 w99 (by omega) (by omega)) ?_)
        rintro _ w117 ⟨rfl, he121⟩ a118 hE119; clear hE115
        have hS120 := St.go hS101 he121; clear hS101
        refine ⟨fun _ _ => ⟨(RdS.elt (St.rdO (i := 0) hS120 rfl) (by omega) (by omega) _ (Ext.refl _)), trivial⟩, ?_⟩
        refine d_pure (fun _ h => h) (v := .string ((out3L2 ++ (⟨#[32]⟩ : ByteArray)) ++ (digS w4))) 4 rfl hE119 (y_addS rfl rfl (by first | omega | (simp only [ByteArray.size_append, digS_size, sz1, sz0]; omega))) rfl (by kernel_rfl) (by kernel_rfl) (by kernel_rfl) rfl rfl (fun _ _ _ h => h) ?_; intro a122 hE123; clear hE119
        refine d_pure (fun _ h => h) (v := .string (((out3L2 ++ (⟨#[32]⟩ : ByteArray)) ++ (digS w4)) ++ (⟨#[62]⟩ : ByteArray))) 5 rfl hE123 (y_addS rfl rfl (by first | omega | (simp only [ByteArray.size_append, digS_size, sz1, sz0]; omega))) rfl (by kernel_rfl) (by kernel_rfl) (by kernel_rfl) rfl rfl (fun _ _ _ h => h) ?_; intro a124 hE125; clear hE123
        refine d_only 10 (by kernel_rfl) rfl hE125 rfl (l_call (f := 18) (argv := [.int .i64 (gI (F_l01List (gI f1 w4)) k6L2)]) hE125 (fun _ => cf_l01Dec _ _) rfl rfl (c_l01Dec (gI (F_l01List (gI f1 w4)) k6L2) w117 (by omega) (by omega)) ?_)
        rintro _ w127 ⟨rfl, he131⟩ a128 hE129; clear hE125
        have hS130 := St.go hS120 he131; clear hS120
        refine ⟨fun h => Bool.noConfusion (h.symm.trans (show exm _ _ _ = true by kernel_rfl)), ?_⟩
        refine d_pure (fun _ h => h) (v := .string ((((out3L2 ++ (⟨#[32]⟩ : ByteArray)) ++ (digS w4)) ++ (⟨#[62]⟩ : ByteArray)) ++ (digS (gI (F_l01List (gI f1 w4)) k6L2)))) 11 rfl hE129 (y_addS rfl rfl (by first | omega | (simp only [ByteArray.size_append, digS_size, sz1, sz0]; omega))) rfl (by kernel_rfl) (by kernel_rfl) (by kernel_rfl) rfl rfl (fun _ _ _ h => h) ?_; intro a132 hE133; clear hE129
        refine d_pure (fun _ h => h) (v := .string ((((out3L2 ++ (⟨#[32]⟩ : ByteArray)) ++ (digS w4)) ++ (⟨#[62]⟩ : ByteArray)) ++ (digS (gI (F_l01List (gI f1 w4)) k6L2)))) 12 rfl hE133 (y_assign rfl) rfl (by kernel_rfl) (by kernel_rfl) (by kernel_rfl) rfl rfl (fun _ _ _ h => h) ?_; intro a134 hE135; clear hE133
        refine d_done (by kernel_rfl) ?_
        have hE136 := hE135.sub (L' := [(1, .pointer (some ⟨b2, 0, none⟩)), (3, .string ((((out3L2 ++ (⟨#[32]⟩ : ByteArray)) ++ (digS w4)) ++ (⟨#[62]⟩ : ByteArray)) ++ (digS (gI (F_l01List (gI f1 w4)) k6L2)))), (4, .int .i64 w4), (5, .slice b67 ((F_l01List (gI f1 w4)).length) c68), (6, .int .i64 k6L2)]) ⟨rfl, rfl, rfl, rfl, rfl, trivial⟩; clear hE135
        refine p_bn ?_
        refine p_tn ?_
        refine c_reg ?_
        refine q_step (v := .int .i64 k6L2) hE136 (y_move rfl) rfl rfl rfl ?_; intro a137 hE138; clear hE136
        refine q_step (v := .int .i64 (k6L2 + 1)) hE138 (y_add rfl rfl ⟨(by omega), (by omega)⟩) rfl rfl rfl ?_; intro a139 hE140; clear hE138
        refine q_step (v := .int .i64 (k6L2 + 1)) hE140 (y_assign rfl) rfl rfl rfl ?_; intro a141 hE142; clear hE140
        refine c_nil ?_
        have hE143 := hE142.sub (L' := [(1, .pointer (some ⟨b2, 0, none⟩)), (3, .string ((((out3L2 ++ (⟨#[32]⟩ : ByteArray)) ++ (digS w4)) ++ (⟨#[62]⟩ : ByteArray)) ++ (digS (gI (F_l01List (gI f1 w4)) k6L2)))), (4, .int .i64 w4), (5, .slice b67 ((F_l01List (gI f1 w4)).length) c68), (6, .int .i64 (k6L2 + 1))]) ⟨rfl, rfl, rfl, rfl, rfl, trivial⟩; clear hE142
        refine p_tn ⟨r86, Nat.lt_succ_self _, ((((out3L2 ++ (⟨#[32]⟩ : ByteArray)) ++ (digS w4)) ++ (⟨#[62]⟩ : ByteArray)) ++ (digS (gI (F_l01List (gI f1 w4)) k6L2))), k6L2 + 1, (hT81.symm.trans (show F_l05Text_L2b f1 w4 (F_l05Text_L2 f1 w4 r86) out3L2 k6L2 = F_l05Text_L2 f1 w4 r86 ((((out3L2 ++ (⟨#[32]⟩ : ByteArray)) ++ (digS w4)) ++ (⟨#[62]⟩ : ByteArray)) ++ (digS (gI (F_l01List (gI f1 w4)) k6L2))) (k6L2 + 1) by unfold F_l05Text_L2b; rw [ht96]; first | done | rfl)).symm, (by omega), (by first | omega | (simp only [sS_len, sL_len]; omega) | (simp only [List.length_replicate, sI_len]; omega) | (simp only [List.length_append, List.length_cons, List.length_nil, sI_len, cond_true, cond_false]; omega) | (simp only [List.length_append, List.length_cons, List.length_nil, sI_len, cond_eq_ite, apply_ite List.length]; split <;> simp only [List.length_append, List.length_cons, List.length_nil, sI_len] <;> omega) | grind), (by first | omega | (simp only [ByteArray.size_append, digS_size, sz1, sz0]; omega)), (by first | omega | (simp only [sS_len, sL_len]; omega) | (simp only [List.length_replicate, sI_len]; omega) | (simp only [List.length_append, List.length_cons, List.length_nil, sI_len, cond_true, cond_false]; omega) | (simp only [List.length_append, List.length_cons, List.length_nil, sI_len, cond_eq_ite, apply_ite List.length]; split <;> simp only [List.length_append, List.length_cons, List.length_nil, sI_len] <;> omega) | grind), (hE143.sub (L' := [(1, .pointer (some ⟨b2, 0, none⟩)), (3, .string ((((out3L2 ++ (⟨#[32]⟩ : ByteArray)) ++ (digS w4)) ++ (⟨#[62]⟩ : ByteArray)) ++ (digS (gI (F_l01List (gI f1 w4)) k6L2)))), (4, .int .i64 w4), (5, .slice b67 ((F_l01List (gI f1 w4)).length) c68), (6, .int .i64 (k6L2 + 1))]) ⟨rfl, rfl, rfl, rfl, rfl, trivial⟩), (St.pick (Γ' := [.own 2 1 b67 ((F_l01List (gI f1 w4)).length) c68 (F_l01List (gI f1 w4)), .blk b2 #[.int .i64 f0, .slice f1A f1.length f1C] 28, .rd 1 f1A f1.length f1C f1]) hS130 [0, 1, 2] (by decide) rfl)⟩
       ·
        have hp144 := of_decide_eq_false ht96
        have hE145 := hE95; rw [ht96] at hE145; clear hE95
        refine wp_exit ?_
        refine p_te ?_
        have hX146 : F_l05Text_L2 f1 w4 (Int.toNat (((F_l01List (gI f1 w4)).length : Int) - 0) + 1) out3 0 = (out3L2, k6L2) := hT81.symm.trans (show F_l05Text_L2b f1 w4 (F_l05Text_L2 f1 w4 r86) out3L2 k6L2 = (out3L2, k6L2) by unfold F_l05Text_L2b; rw [ht96]; first | done | rfl)
        refine p_te (p_be (p_tn ?_))
        exact ⟨(by rw [hX146]; exact (show 0 ≤ k6L2 from (by first | omega | (simp only [sS_len, sL_len]; omega) | (simp only [List.length_replicate, sI_len]; omega) | (simp only [List.length_append, List.length_cons, List.length_nil, sI_len, cond_true, cond_false]; omega) | (simp only [List.length_append, List.length_cons, List.length_nil, sI_len, cond_eq_ite, apply_ite List.length]; split <;> simp only [List.length_append, List.length_cons, List.length_nil, sI_len] <;> omega) | grind))), (by rw [hX146]; exact (show (out3L2.size : Int) ≤ 2 + w4 * 40 + k6L2 * 4 from (by first | omega | (simp only [sS_len, sL_len]; omega) | (simp only [List.length_replicate, sI_len]; omega) | (simp only [List.length_append, List.length_cons, List.length_nil, sI_len, cond_true, cond_false]; omega) | (simp only [List.length_append, List.length_cons, List.length_nil, sI_len, cond_eq_ite, apply_ite List.length]; split <;> simp only [List.length_append, List.length_cons, List.length_nil, sI_len] <;> omega) | grind))), (by rw [hX146]; exact (show k6L2 ≤ ((F_l01List (gI f1 w4)).length : Int) from (by first | omega | (simp only [sS_len, sL_len]; omega) | (simp only [List.length_replicate, sI_len]; omega) | (simp only [List.length_append, List.length_cons, List.length_nil, sI_len, cond_true, cond_false]; omega) | (simp only [List.length_append, List.length_cons, List.length_nil, sI_len, cond_eq_ite, apply_ite List.length]; split <;> simp only [List.length_append, List.length_cons, List.length_nil, sI_len] <;> omega) | grind))), (by rw [hX146]; exact (hE145.sub (L' := [(1, .pointer (some ⟨b2, 0, none⟩)), (3, .string out3L2), (4, .int .i64 w4), (5, .slice b67 ((F_l01List (gI f1 w4)).length) c68), (6, .int .i64 k6L2)]) ⟨rfl, rfl, rfl, rfl, rfl, trivial⟩)), (St.pick (Γ' := [.own 2 1 b67 ((F_l01List (gI f1 w4)).length) c68 (F_l01List (gI f1 w4)), .blk b2 #[.int .i64 f0, .slice f1A f1.length f1C] 28, .rd 1 f1A f1.length f1C f1]) hS80 [0, 1, 2] (by decide) rfl)⟩
     ·
      rintro a147 w148 ⟨hi152, hi153, hi154, hE149, hS150⟩; clear hE75 hS65
      refine p_bn ?_
      refine p_tn ?_
      refine c_reg ?_
      refine q_step (v := .int .i64 w4) hE149 (y_move rfl) rfl rfl rfl ?_; intro a155 hE156; clear hE149
      refine q_step (v := .int .i64 (w4 + 1)) hE156 (y_add rfl rfl ⟨(by omega), (by omega)⟩) rfl rfl rfl ?_; intro a157 hE158; clear hE156
      refine q_step (v := .int .i64 (w4 + 1)) hE158 (y_assign rfl) rfl rfl rfl ?_; intro a159 hE160; clear hE158
      refine c_nil ?_
      have hE161 := hE160.sub (L' := [(1, .pointer (some ⟨b2, 0, none⟩)), (3, .string ((F_l05Text_L2 f1 w4 (Int.toNat (((F_l01List (gI f1 w4)).length : Int) - 0) + 1) out3 0).1)), (4, .int .i64 (w4 + 1))]) ⟨rfl, rfl, rfl, trivial⟩; clear hE160
      refine p_tn ⟨r38, Nat.lt_succ_self _, (F_l05Text_L2 f1 w4 (Int.toNat (((F_l01List (gI f1 w4)).length : Int) - 0) + 1) out3 0).1, w4 + 1, (hT34.symm.trans (show F_l05Text_L1b f0 f1 (F_l05Text_L1 f0 f1 r38) out3 w4 = F_l05Text_L1 f0 f1 r38 ((F_l05Text_L2 f1 w4 (Int.toNat (((F_l01List (gI f1 w4)).length : Int) - 0) + 1) out3 0).1) (w4 + 1) by unfold F_l05Text_L1b; rw [ht48]; first | done | rfl)).symm, (by omega), (by first | omega | (simp only [sS_len, sL_len]; omega) | (simp only [List.length_replicate, sI_len]; omega) | (simp only [List.length_append, List.length_cons, List.length_nil, sI_len, cond_true, cond_false]; omega) | (simp only [List.length_append, List.length_cons, List.length_nil, sI_len, cond_eq_ite, apply_ite List.length]; split <;> simp only [List.length_append, List.length_cons, List.length_nil, sI_len] <;> omega) | grind), (by first | omega | (simp only [ByteArray.size_append, digS_size, sz1, sz0]; omega)), (hE161.sub (L' := [(1, .pointer (some ⟨b2, 0, none⟩)), (3, .string ((F_l05Text_L2 f1 w4 (Int.toNat (((F_l01List (gI f1 w4)).length : Int) - 0) + 1) out3 0).1)), (4, .int .i64 (w4 + 1))]) ⟨rfl, rfl, rfl, trivial⟩), (St.pick (Γ' := [.blk b2 #[.int .i64 f0, .slice f1A f1.length f1C] 28, .rd 1 f1A f1.length f1C f1]) hS150 [1, 2] (by decide) rfl)⟩
    ·
     have hp162 := of_decide_eq_false ht48
     have hE163 := hE47; rw [ht48] at hE163; clear hE47
     refine wp_exit ?_
     refine p_te ?_
     have hX164 : F_l05Text_L1 f0 f1 (Int.toNat (f0 - 0) + 1) ((digS f0) ++ (⟨#[58]⟩ : ByteArray)) 0 = (out3, w4) := hT34.symm.trans (show F_l05Text_L1b f0 f1 (F_l05Text_L1 f0 f1 r38) out3 w4 = (out3, w4) by unfold F_l05Text_L1b; rw [ht48]; first | done | rfl)
     refine p_te (p_be (p_tn ?_))
     exact ⟨(by rw [hX164]; exact (show 0 ≤ w4 from (by first | omega | (simp only [sS_len, sL_len]; omega) | (simp only [List.length_replicate, sI_len]; omega) | (simp only [List.length_append, List.length_cons, List.length_nil, sI_len, cond_true, cond_false]; omega) | (simp only [List.length_append, List.length_cons, List.length_nil, sI_len, cond_eq_ite, apply_ite List.length]; split <;> simp only [List.length_append, List.length_cons, List.length_nil, sI_len] <;> omega) | grind))), (by rw [hX164]; exact (show (out3.size : Int) ≤ 2 + w4 * 40 from (by first | omega | (simp only [sS_len, sL_len]; omega) | (simp only [List.length_replicate, sI_len]; omega) | (simp only [List.length_append, List.length_cons, List.length_nil, sI_len, cond_true, cond_false]; omega) | (simp only [List.length_append, List.length_cons, List.length_nil, sI_len, cond_eq_ite, apply_ite List.length]; split <;> simp only [List.length_append, List.length_cons, List.length_nil, sI_len] <;> omega) | grind))), (by rw [hX164]; exact (hE163.sub (L' := [(1, .pointer (some ⟨b2, 0, none⟩)), (3, .string out3), (4, .int .i64 w4)]) ⟨rfl, rfl, rfl, trivial⟩)), (St.pick (Γ' := [.blk b2 #[.int .i64 f0, .slice f1A f1.length f1C] 28, .rd 1 f1A f1.length f1C f1]) hS33 [0, 1] (by decide) rfl)⟩
  ·
   rintro a165 w166 ⟨hi170, hi171, hE167, hS168⟩; clear hE28 hS19
   refine p_tn ?_
   refine c_seq ?_
   refine c_reg ?_
   refine q_step (v := .string ((F_l05Text_L1 f0 f1 (Int.toNat (f0 - 0) + 1) ((digS f0) ++ (⟨#[58]⟩ : ByteArray)) 0).1)) hE167 (y_move rfl) rfl rfl rfl ?_; intro a172 hE173; clear hE167
   refine q_step (v := .string ((F_l05Text_L1 f0 f1 (Int.toNat (f0 - 0) + 1) ((digS f0) ++ (⟨#[58]⟩ : ByteArray)) 0).1)) hE173 (y_assign rfl) rfl rfl rfl ?_; intro a174 hE175; clear hE173
   refine c_nil ?_
   have hE176 := hE175.sub (L' := [(2, .string ((F_l05Text_L1 f0 f1 (Int.toNat (f0 - 0) + 1) ((digS f0) ++ (⟨#[58]⟩ : ByteArray)) 0).1))]) ⟨rfl, trivial⟩; clear hE175
   refine p_tn ?_
   refine wp_ret ?_
   have hF : F_l05Text f0 f1 = (F_l05Text_L1 f0 f1 (Int.toNat (f0 - 0) + 1) ((digS f0) ++ (⟨#[58]⟩ : ByteArray)) 0).1 := by unfold F_l05Text; rfl
   refine c_ret1 hE176 rfl rfl ?_
   exact ⟨(by rw [hF]; first | done | (dsimp only; done) | rfl), hS168.ext⟩

def F_s_FrameText (f0 : Int) (f1 : List Int) : (ByteArray) × (Int) :=
  bif (!(F_l05Is f0 f1)) then ((⟨#[]⟩ : ByteArray), 1) else (F_l05Text f0 f1, 0)
theorem cf_s_FrameText (args : Array Value) (w : World) : (callFunc 5 args).run Tryd.prog w = .ok (.enter 5 args) w := by kernel_rfl
set_option maxRecDepth 100000 in
theorem c_s_FrameText (f0 : Int) (f1A : Option Addr) (f1N f1C : Nat) (f1 : List Int) (w : World) (f1R : RdS w 1 f1A f1N f1C f1) :
    Calls Tryd.prog 5 #[.agg #[.int .i64 f0, .slice f1A f1N f1C]] w (Ret fun v w' => v = .tuple #[.string ((F_s_FrameText f0 f1).1), .int .i64 ((F_s_FrameText f0 f1).2)] ∧ Ext w w') := by
  obtain rfl : f1N = f1.length := f1R.len1.symm
  have f1Le := f1R.le
  have hS := St.nil w
  have hS1 := St.rd0 hS rfl f1R; clear hS
  refine enter (args := [.agg #[.int .i64 f0, .slice f1A f1.length f1C]]) Tryd.func5 rfl rfl ?_
  rw [Tryd.ntmps5]; intro a hE
  have hE := hE.sub (L' := [(0, .agg #[.int .i64 f0, .slice f1A f1.length f1C])]) ⟨rfl, trivial⟩
  refine c_seq ?_
  refine c_reg ?_
  refine l_step hE rfl (l_box (v := .agg #[.int .i64 f0, .slice f1A f1.length f1C]) (cs := #[.int .i64 f0, .slice f1A f1.length f1C]) hS1 hE rfl rfl rfl ?_)
  intro b2 w3 hS6 he7 a4 hE5; clear hS1 hE
  refine q_step (v := .string (⟨#[]⟩ : ByteArray)) hE5 (y_assign rfl) rfl rfl rfl ?_; intro a8 hE9; clear hE5
  refine q_step (v := .int .i64 0) hE9 (y_assign rfl) rfl rfl rfl ?_; intro a10 hE11; clear hE9
  refine c_nil ?_
  have hE12 := hE11.sub (L' := [(1, .pointer (some ⟨b2, 0, none⟩))]) ⟨rfl, trivial⟩; clear hE11
  refine p_tn ?_
  refine c_seq ?_
  refine c_seq ?_
  refine c_reg ?_
  refine q_step (v := .agg #[.int .i64 f0, .slice f1A f1.length f1C]) hE12 (y_loadS Tryd.underlying28 rfl (by kernel_rfl) rfl (St.row (i := 0) hS6 rfl)) rfl rfl rfl ?_; intro a13 hE14; clear hE12
  refine l_step hE14 rfl (l_call (f := 10) (argv := [.agg #[.int .i64 f0, .slice f1A f1.length f1C]]) hE14 (fun _ => cf_l05Is _ _) rfl rfl (c_l05Is f0 f1A f1.length f1C f1 w3 (St.rdR (i := 1) hS6 rfl)) ?_)
  rintro _ w16 ⟨rfl, he20⟩ a17 hE18; clear hE14
  have hS19 := St.go hS6 he20; clear hS6
  refine q_step (v := .bool (!(F_l05Is f0 f1))) hE18 (y_not rfl) rfl rfl rfl ?_; intro a21 hE22; clear hE18
  refine c_nil ?_
  have hE23 := hE22.sub (L' := [(1, .pointer (some ⟨b2, 0, none⟩)), (6, .bool (!(F_l05Is f0 f1)))]) ⟨rfl, rfl, trivial⟩; clear hE22
  refine p_tn ?_
  refine c_cond hE23 rfl (fun ht24 => ?_) (fun ht24 => ?_)
  ·
   have ht25 := bn_t ht24
   have hE26 := hE23; rw [ht24] at hE26; clear hE23
   refine c_seq ?_
   refine c_reg ?_
   refine q_step (v := .string (⟨#[]⟩ : ByteArray)) hE26 (y_assign rfl) rfl rfl rfl ?_; intro a27 hE28; clear hE26
   refine q_step (v := .int .i64 1) hE28 (y_assign rfl) rfl rfl rfl ?_; intro a29 hE30; clear hE28
   refine c_nil ?_
   have hE31 := hE30.sub (L' := [(2, .string (⟨#[]⟩ : ByteArray)), (3, .int .i64 1)]) ⟨rfl, rfl, trivial⟩; clear hE30
   refine p_tn ?_
   refine wp_ret ?_
   refine p_tr ?_
   have hF : F_s_FrameText f0 f1 = ((⟨#[]⟩ : ByteArray), 1) := by unfold F_s_FrameText; rw [ht24]; first | done | rfl
   refine c_ret2 hE31 rfl rfl rfl ?_
   exact ⟨(by rw [hF]; first | done | (dsimp only; done) | rfl), hS19.ext⟩
  ·
   have ht32 := bn_f ht24
   have hp33 := l05Is_t ht32
   have hE34 := hE23; rw [ht24] at hE34; clear hE23
   refine wp_skip ?_
   refine p_tn ?_
   refine c_seq ?_
   refine c_reg ?_
   refine q_step (v := .agg #[.int .i64 f0, .slice f1A f1.length f1C]) hE34 (y_loadS Tryd.underlying28 rfl (by kernel_rfl) rfl (St.row (i := 0) hS19 rfl)) rfl rfl rfl ?_; intro a35 hE36; clear hE34
   refine l_step hE36 rfl (l_call (f := 11) (argv := [.agg #[.int .i64 f0, .slice f1A f1.length f1C]]) hE36 (fun _ => cf_l05Text _ _) rfl rfl (c_l05Text f0 f1A f1.length f1C f1 w16 (St.rdR (i := 1) hS19 rfl) (by omega) (by omega) (l05Is_m (by assumption))) ?_)
   rintro _ w38 ⟨rfl, he42⟩ a39 hE40; clear hE36
   have hS41 := St.go hS19 he42; clear hS19
   refine q_step (v := .string (F_l05Text f0 f1)) hE40 (y_assign rfl) rfl rfl rfl ?_; intro a43 hE44; clear hE40
   refine q_step (v := .int .i64 0) hE44 (y_assign rfl) rfl rfl rfl ?_; intro a45 hE46; clear hE44
   refine c_nil ?_
   have hE47 := hE46.sub (L' := [(2, .string (F_l05Text f0 f1)), (3, .int .i64 0)]) ⟨rfl, rfl, trivial⟩; clear hE46
   refine p_tn ?_
   refine wp_ret ?_
   have hF : F_s_FrameText f0 f1 = (F_l05Text f0 f1, 0) := by unfold F_s_FrameText; rw [ht24]; first | done | rfl
   refine c_ret2 hE47 rfl rfl rfl ?_
   exact ⟨(by rw [hF]; first | done | (dsimp only; done) | rfl), hS41.ext⟩

def F_frameText_L2b (f1 : List Int) (t16 : Int) (rec : Int → ByteArray → Int × ByteArray) (t24L2 : Int) (x3sL2 : ByteArray) : Int × ByteArray :=
  bif (decide (t24L2 < ((F_membersOf (gI f1 t16)).length : Int))) then (rec (t24L2 + 1) (x3sL2 ++ ((((⟨#[32]⟩ : ByteArray) ++ (digS t16)) ++ (⟨#[62]⟩ : ByteArray)) ++ (digS (gI (F_membersOf (gI f1 t16)) t24L2))))) else (t24L2, x3sL2)
def F_frameText_L2 (f1 : List Int) (t16 : Int) : Nat → Int → ByteArray → Int × ByteArray
  | 0, t24L2, x3sL2 => (t24L2, x3sL2)
  | r + 1, t24L2, x3sL2 => F_frameText_L2b f1 t16 (F_frameText_L2 f1 t16 r) t24L2 x3sL2
def F_frameText_L1b (f1 : List Int) (rec : Int → ByteArray → Int × ByteArray) (t16 : Int) (x3s : ByteArray) : Int × ByteArray :=
  bif (decide (t16 < (f1.length : Int))) then (rec (t16 + 1) ((F_frameText_L2 f1 t16 (Int.toNat (((F_membersOf (gI f1 t16)).length : Int) - 0) + 1) 0 x3s).2)) else (t16, x3s)
def F_frameText_L1 (f1 : List Int) : Nat → Int → ByteArray → Int × ByteArray
  | 0, t16, x3s => (t16, x3s)
  | r + 1, t16, x3s => F_frameText_L1b f1 (F_frameText_L1 f1 r) t16 x3s
def F_frameText (f0 : Int) (f1 : List Int) : ByteArray :=
  (F_frameText_L1 f1 (Int.toNat ((f1.length : Int) - 0) + 1) 0 ((⟨#[]⟩ : ByteArray) ++ ((digS f0) ++ (⟨#[58]⟩ : ByteArray)))).2
theorem cf_frameText (args : Array Value) (w : World) : (callFunc 14 args).run Tryd.prog w = .ok (.enter 14 args) w := by kernel_rfl
set_option maxRecDepth 100000 in
theorem c_frameText (f0 : Int) (f1A : Option Addr) (f1N f1C : Nat) (f1 : List Int) (w : World) (f1R : RdS w 1 f1A f1N f1C f1) (hf : 0 ≤ f0 ∧ f0 ≤ 8) (hfl : (f1.length : Int) = f0) (hfm : ∀ m : Int, 0 ≤ m → m < (f1.length : Int) → 0 ≤ gI f1 m ∧ gI f1 m ≤ fullI f0) :
    Calls Tryd.prog 14 #[.agg #[.int .i64 f0, .slice f1A f1N f1C]] w (Ret fun v w' => v = .string (F_frameText f0 f1) ∧ Ext w w') := by
  obtain rfl : f1N = f1.length := f1R.len1.symm
  have f1Le := f1R.le
  have hf8 := fullI_bd (n := f0) (by omega) (by omega)
  have hS := St.nil w
  have hS1 := St.rd0 hS rfl f1R; clear hS
  refine enter (args := [.agg #[.int .i64 f0, .slice f1A f1.length f1C]]) Tryd.func14 rfl rfl ?_
  rw [Tryd.ntmps14]; intro a hE
  have hE := hE.sub (L' := [(0, .agg #[.int .i64 f0, .slice f1A f1.length f1C])]) ⟨rfl, trivial⟩
  refine c_seq ?_
  refine c_reg ?_
  refine l_step hE rfl (l_box (v := .agg #[.int .i64 f0, .slice f1A f1.length f1C]) (cs := #[.int .i64 f0, .slice f1A f1.length f1C]) hS1 hE rfl rfl rfl ?_)
  intro b2 w3 hS6 he7 a4 hE5; clear hS1 hE
  refine q_step (v := .string (⟨#[]⟩ : ByteArray)) hE5 (y_assign rfl) rfl rfl rfl ?_; intro a8 hE9; clear hE5
  refine c_nil ?_
  have hE10 := hE9.sub (L' := [(1, .pointer (some ⟨b2, 0, none⟩))]) ⟨rfl, trivial⟩; clear hE9
  refine p_tn ?_
  refine c_seq ?_
  refine c_reg ?_
  refine l_step hE10 rfl (l_alloc (z := .agg #[.pointer none, .slice none 0 0]) (cs := #[.pointer none, .slice none 0 0]) hS6 hE10 (fun _ => by kernel_rfl) rfl rfl ?_)
  intro b11 w12 hS15 he16 a13 hE14; clear hS6 hE10
  have hS17 := St.toBld (k := 0) hS15 rfl; clear hS15
  refine c_nil ?_
  have hE18 := hE14.sub (L' := [(1, .pointer (some ⟨b2, 0, none⟩)), (3, .pointer (some ⟨b11, 0, none⟩))]) ⟨rfl, rfl, trivial⟩; clear hE14
  refine p_tn ?_
  refine c_seq ?_
  refine c_reg ?_
  refine q_step (v := .pointer (some ⟨b2, 0, none⟩)) hE18 (y_field rfl (fun _ => by kernel_rfl)) rfl rfl rfl ?_; intro a19 hE20; clear hE18
  refine q_step (v := .int .i64 f0) hE20 (y_load (fun _ => by kernel_rfl) rfl (St.cell (i := 1) hS17 rfl rfl)) rfl rfl rfl ?_; intro a21 hE22; clear hE20
  refine l_step hE22 rfl (l_call (f := 24) (argv := [.int .i64 f0]) hE22 (fun _ => cf_decimal _ _) rfl rfl (c_decimal f0 w12 (by omega) (by omega)) ?_)
  rintro _ _ ⟨rfl, rfl⟩ a25 hE26; clear hE22
  refine q_step (v := .string ((digS f0) ++ (⟨#[58]⟩ : ByteArray))) hE26 (y_addS rfl rfl (by first | omega | (simp only [ByteArray.size_append, digS_size, sz1, sz0]; omega))) rfl rfl rfl ?_; intro a29 hE30; clear hE26
  refine l_step hE30 rfl (l_call (f := 23) (argv := [.pointer (some ⟨b11, 0, none⟩), .string ((digS f0) ++ (⟨#[58]⟩ : ByteArray))]) hE30 (fun _ => cf_WriteString _ _) rfl rfl (c_WriteS (k := 0) (⟨#[]⟩ : ByteArray) ((digS f0) ++ (⟨#[58]⟩ : ByteArray)) hS17 rfl (by first | omega | (simp only [ByteArray.size_append, digS_size, sz1, sz0]; omega))) ?_)
  rintro _ w32 ⟨v37, rfl, hS35⟩ a33 hE34; clear hE30 hS17
  refine c_nil ?_
  have hE38 := hE34.sub (L' := [(1, .pointer (some ⟨b2, 0, none⟩)), (3, .pointer (some ⟨b11, 0, none⟩))]) ⟨rfl, rfl, trivial⟩; clear hE34
  refine p_tn ?_
  refine c_seq ?_
  refine c_seq ?_
  refine c_reg ?_
  refine q_step (v := .pointer (some ⟨b2, 1, none⟩)) hE38 (y_field rfl (fun _ => by kernel_rfl)) rfl rfl rfl ?_; intro a39 hE40; clear hE38
  refine q_step (v := .slice f1A f1.length f1C) hE40 (y_load (fun _ => by kernel_rfl) rfl (St.cell (i := 1) hS35 rfl rfl)) rfl rfl rfl ?_; intro a41 hE42; clear hE40
  refine q_step (v := .int .i64 (f1.length : Int)) hE42 (y_len (e := 2) (by kernel_rfl) rfl) rfl rfl rfl ?_; intro a43 hE44; clear hE42
  refine q_step (v := .int .i64 0) hE44 (y_move rfl) rfl rfl rfl ?_; intro a45 hE46; clear hE44
  refine c_nil ?_
  have hE47 := hE46.sub (L' := [(3, .pointer (some ⟨b11, 0, none⟩)), (14, .slice f1A f1.length f1C), (15, .int .i64 (f1.length : Int)), (16, .int .i64 0)]) ⟨rfl, rfl, rfl, rfl, trivial⟩; clear hE46
  refine p_tn ?_
  refine c_cut1 (fun a' w' => ∃ x3sV_48 : Value, (0 ≤ ((F_frameText_L1 f1 (Int.toNat ((f1.length : Int) - 0) + 1) 0 ((⟨#[]⟩ : ByteArray) ++ ((digS f0) ++ (⟨#[58]⟩ : ByteArray)))).1)) ∧ ((((F_frameText_L1 f1 (Int.toNat ((f1.length : Int) - 0) + 1) 0 ((⟨#[]⟩ : ByteArray) ++ ((digS f0) ++ (⟨#[58]⟩ : ByteArray)))).2).size : Int) ≤ 2 + ((F_frameText_L1 f1 (Int.toNat ((f1.length : Int) - 0) + 1) 0 ((⟨#[]⟩ : ByteArray) ++ ((digS f0) ++ (⟨#[58]⟩ : ByteArray)))).1) * 40) ∧ (1 ≤ ((F_frameText_L1 f1 (Int.toNat ((f1.length : Int) - 0) + 1) 0 ((⟨#[]⟩ : ByteArray) ++ ((digS f0) ++ (⟨#[58]⟩ : ByteArray)))).2).size) ∧ (((F_frameText_L1 f1 (Int.toNat ((f1.length : Int) - 0) + 1) 0 ((⟨#[]⟩ : ByteArray) ++ ((digS f0) ++ (⟨#[58]⟩ : ByteArray)))).1) ≤ (f1.length : Int)) ∧ E a' 39 [(3, .pointer (some ⟨b11, 0, none⟩)), (14, .slice f1A f1.length f1C), (15, .int .i64 (f1.length : Int)), (16, .int .i64 ((F_frameText_L1 f1 (Int.toNat ((f1.length : Int) - 0) + 1) 0 ((⟨#[]⟩ : ByteArray) ++ ((digS f0) ++ (⟨#[58]⟩ : ByteArray)))).1))] ∧ St w w' [.bld b11 46 5 x3sV_48 (Lib.strCells ((F_frameText_L1 f1 (Int.toNat ((f1.length : Int) - 0) + 1) 0 ((⟨#[]⟩ : ByteArray) ++ ((digS f0) ++ (⟨#[58]⟩ : ByteArray)))).2)), .blk b2 #[.int .i64 f0, .slice f1A f1.length f1C] 28, .rd 1 f1A f1.length f1C f1]) ?_ ?_
  ·
   refine wp_block ?_
   refine c_loop (fun r a' w' => ∃ t16 : Int, ∃ x3s : ByteArray, ∃ x3sV : Value, F_frameText_L1 f1 r t16 x3s = F_frameText_L1 f1 (Int.toNat ((f1.length : Int) - 0) + 1) 0 ((⟨#[]⟩ : ByteArray) ++ ((digS f0) ++ (⟨#[58]⟩ : ByteArray))) ∧ Int.toNat ((f1.length : Int) - t16) < r ∧ (0 ≤ t16) ∧ ((x3s.size : Int) ≤ 2 + t16 * 40) ∧ (1 ≤ x3s.size) ∧ (t16 ≤ (f1.length : Int)) ∧ E a' 39 [(3, .pointer (some ⟨b11, 0, none⟩)), (14, .slice f1A f1.length f1C), (15, .int .i64 (f1.length : Int)), (16, .int .i64 t16)] ∧ St w w' [.bld b11 46 5 x3sV (Lib.strCells x3s), .blk b2 #[.int .i64 f0, .slice f1A f1.length f1C] 28, .rd 1 f1A f1.length f1C f1]) (r := (Int.toNat ((f1.length : Int) - 0) + 1)) ?_ ?_
   · exact ⟨0, (⟨#[]⟩ : ByteArray) ++ ((digS f0) ++ (⟨#[58]⟩ : ByteArray)), v37, rfl, Nat.lt_succ_self _, (by first | omega | (simp only [sS_len, sL_len]; omega) | (simp only [List.length_replicate, sI_len]; omega) | (simp only [List.length_append, List.length_cons, List.length_nil, sI_len, cond_true, cond_false]; omega) | (simp only [List.length_append, List.length_cons, List.length_nil, sI_len, cond_eq_ite, apply_ite List.length]; split <;> simp only [List.length_append, List.length_cons, List.length_nil, sI_len] <;> omega) | grind), (by first | omega | (simp only [ByteArray.size_append, digS_size, sz1, sz0]; omega)), (by first | omega | (simp only [ByteArray.size_append, digS_size, sz1, sz0]; omega)), (by first | omega | (simp only [sS_len, sL_len]; omega) | (simp only [List.length_replicate, sI_len]; omega) | (simp only [List.length_append, List.length_cons, List.length_nil, sI_len, cond_true, cond_false]; omega) | (simp only [List.length_append, List.length_cons, List.length_nil, sI_len, cond_eq_ite, apply_ite List.length]; split <;> simp only [List.length_append, List.length_cons, List.length_nil, sI_len] <;> omega) | grind), (hE47.sub (L' := [(3, .pointer (some ⟨b11, 0, none⟩)), (14, .slice f1A f1.length f1C), (15, .int .i64 (f1.length : Int)), (16, .int .i64 0)]) ⟨rfl, rfl, rfl, rfl, trivial⟩), (St.pick (Γ' := [.bld b11 46 5 v37 (Lib.strCells ((⟨#[]⟩ : ByteArray) ++ ((digS f0) ++ (⟨#[58]⟩ : ByteArray)))), .blk b2 #[.int .i64 f0, .slice f1A f1.length f1C] 28, .rd 1 f1A f1.length f1C f1]) hS35 [0, 1, 2] (by decide) rfl)⟩
   ·
    clear hE47 hS35
    rintro r59 a49 w50 ⟨t16, x3s, x3sV, hT53, hr54, hi55, hi56, hi57, hi58, hE51, hS52⟩
    obtain ⟨r59, rfl⟩ : ∃ r', r59 = r' + 1 := ⟨r59 - 1, by omega⟩
    refine c_seq ?_
    refine c_reg ?_
    refine q_step (v := .bool (decide (t16 < (f1.length : Int)))) hE51 (y_lss rfl rfl) rfl rfl rfl ?_; intro a60 hE61; clear hE51
    refine c_nil ?_
    have hE62 := hE61.sub (L' := [(3, .pointer (some ⟨b11, 0, none⟩)), (14, .slice f1A f1.length f1C), (15, .int .i64 (f1.length : Int)), (16, .int .i64 t16), (17, .bool (decide (t16 < (f1.length : Int))))]) ⟨rfl, rfl, rfl, rfl, rfl, trivial⟩; clear hE61
    refine p_tn ?_
    refine c_seq ?_
    refine c_cond hE62 rfl (fun ht63 => ?_) (fun ht63 => ?_)
    ·
     have hp64 := of_decide_eq_true ht63
     have hE65 := hE62; rw [ht63] at hE65; clear hE62
     have hx1 := hfm t16 (by omega) (by omega)
     have hml := members_len (mask := gI f1 t16) (n := f1.length) (by omega) hx1.1 (by rw [hfl]; exact hx1.2)
     refine wp_skip ?_
     refine p_tn ?_
     refine c_seq ?_
     refine wp_block ?_
     refine c_seq ?_
     refine c_reg ?_
     refine q_step (v := .int .i64 t16) hE65 (y_move rfl) rfl rfl rfl ?_; intro a66 hE67; clear hE65
     refine q_step (v := .pointer (some (adr f1A (Int.toNat t16)))) hE67 (y_idx (by kernel_rfl) (fun _ => by kernel_rfl) rfl rfl (RdS.isS (m := t16) (St.rdR (i := 2) hS52 rfl) (by omega) (by omega)) (by omega) (by omega) (Nat.mul_one _).symm) rfl rfl rfl ?_; intro a68 hE69; clear hE67
     refine q_step (v := .int .i64 (gI f1 t16)) hE69 (y_load (fun _ => by kernel_rfl) rfl (RdS.elt (St.rdR (i := 2) hS52 rfl) (by omega) (by omega))) rfl rfl rfl ?_; intro a70 hE71; clear hE69
     refine q_step (v := .int .i64 t16) hE71 (y_assign rfl) rfl rfl rfl ?_; intro a72 hE73; clear hE71
     refine q_step (v := .int .i64 (gI f1 t16)) hE73 (y_assign rfl) rfl rfl rfl ?_; intro a74 hE75; clear hE73
     refine c_nil ?_
     have hE76 := hE75.sub (L' := [(3, .pointer (some ⟨b11, 0, none⟩)), (4, .int .i64 t16), (5, .int .i64 (gI f1 t16)), (14, .slice f1A f1.length f1C), (15, .int .i64 (f1.length : Int)), (16, .int .i64 t16)]) ⟨rfl, rfl, rfl, rfl, rfl, rfl, trivial⟩; clear hE75
     refine p_tn ?_
     refine c_seq ?_
     refine c_reg ?_
     refine q_step (v := .int .i64 (gI f1 t16)) hE76 (y_move rfl) rfl rfl rfl ?_; intro a77 hE78; clear hE76
     refine l_step hE78 rfl (l_call (f := 25) (argv := [.int .i64 (gI f1 t16)]) hE78 (fun _ => cf_membersOf _ _) rfl rfl (c_membersOf (gI f1 t16) w50 (by omega) (by omega)) ?_)
     rintro _ w80 ⟨b85, c86, rfl, ho87, he84⟩ a81 hE82; clear hE78
     have hS83 := St.own hS52 he84 ho87; clear hS52
     refine q_step (v := .int .i64 ((F_membersOf (gI f1 t16)).length : Int)) hE82 (y_len (e := 2) (by kernel_rfl) rfl) rfl rfl rfl ?_; intro a88 hE89; clear hE82
     refine q_step (v := .int .i64 0) hE89 (y_move rfl) rfl rfl rfl ?_; intro a90 hE91; clear hE89
     refine c_nil ?_
     have hE92 := hE91.sub (L' := [(3, .pointer (some ⟨b11, 0, none⟩)), (4, .int .i64 t16), (14, .slice f1A f1.length f1C), (15, .int .i64 (f1.length : Int)), (16, .int .i64 t16), (22, .slice b85 ((F_membersOf (gI f1 t16)).length) c86), (23, .int .i64 ((F_membersOf (gI f1 t16)).length : Int)), (24, .int .i64 0)]) ⟨rfl, rfl, rfl, rfl, rfl, rfl, rfl, rfl, trivial⟩; clear hE91
     refine p_tn ?_
     refine c_cut1 (fun a' w' => ∃ x3sL2V_93 : Value, (0 ≤ ((F_frameText_L2 f1 t16 (Int.toNat (((F_membersOf (gI f1 t16)).length : Int) - 0) + 1) 0 x3s).1)) ∧ ((((F_frameText_L2 f1 t16 (Int.toNat (((F_membersOf (gI f1 t16)).length : Int) - 0) + 1) 0 x3s).2).size : Int) ≤ 2 + t16 * 40 + ((F_frameText_L2 f1 t16 (Int.toNat (((F_membersOf (gI f1 t16)).length : Int) - 0) + 1) 0 x3s).1) * 4) ∧ (1 ≤ ((F_frameText_L2 f1 t16 (Int.toNat (((F_membersOf (gI f1 t16)).length : Int) - 0) + 1) 0 x3s).2).size) ∧ (((F_frameText_L2 f1 t16 (Int.toNat (((F_membersOf (gI f1 t16)).length : Int) - 0) + 1) 0 x3s).1) ≤ ((F_membersOf (gI f1 t16)).length : Int)) ∧ E a' 39 [(3, .pointer (some ⟨b11, 0, none⟩)), (4, .int .i64 t16), (14, .slice f1A f1.length f1C), (15, .int .i64 (f1.length : Int)), (16, .int .i64 t16), (22, .slice b85 ((F_membersOf (gI f1 t16)).length) c86), (23, .int .i64 ((F_membersOf (gI f1 t16)).length : Int)), (24, .int .i64 ((F_frameText_L2 f1 t16 (Int.toNat (((F_membersOf (gI f1 t16)).length : Int) - 0) + 1) 0 x3s).1))] ∧ St w w' [.own 2 1 b85 ((F_membersOf (gI f1 t16)).length) c86 (F_membersOf (gI f1 t16)), .bld b11 46 5 x3sL2V_93 (Lib.strCells ((F_frameText_L2 f1 t16 (Int.toNat (((F_membersOf (gI f1 t16)).length : Int) - 0) + 1) 0 x3s).2)), .blk b2 #[.int .i64 f0, .slice f1A f1.length f1C] 28, .rd 1 f1A f1.length f1C f1]) ?_ ?_
     ·
      refine wp_block ?_
      refine c_loop (fun r a' w' => ∃ t24L2 : Int, ∃ x3sL2 : ByteArray, ∃ x3sL2V : Value, F_frameText_L2 f1 t16 r t24L2 x3sL2 = F_frameText_L2 f1 t16 (Int.toNat (((F_membersOf (gI f1 t16)).length : Int) - 0) + 1) 0 x3s ∧ Int.toNat (((F_membersOf (gI f1 t16)).length : Int) - t24L2) < r ∧ (0 ≤ t24L2) ∧ ((x3sL2.size : Int) ≤ 2 + t16 * 40 + t24L2 * 4) ∧ (1 ≤ x3sL2.size) ∧ (t24L2 ≤ ((F_membersOf (gI f1 t16)).length : Int)) ∧ E a' 39 [(3, .pointer (some ⟨b11, 0, none⟩)), (4, .int .i64 t16), (14, .slice f1A f1.length f1C), (15, .int .i64 (f1.length : Int)), (16, .int .i64 t16), (22, .slice b85 ((F_membersOf (gI f1 t16)).length) c86), (23, .int .i64 ((F_membersOf (gI f1 t16)).length : Int)), (24, .int .i64 t24L2)] ∧ St w w' [.own 2 1 b85 ((F_membersOf (gI f1 t16)).length) c86 (F_membersOf (gI f1 t16)), .bld b11 46 5 x3sL2V (Lib.strCells x3sL2), .blk b2 #[.int .i64 f0, .slice f1A f1.length f1C] 28, .rd 1 f1A f1.length f1C f1]) (r := (Int.toNat (((F_membersOf (gI f1 t16)).length : Int) - 0) + 1)) ?_ ?_
      · exact ⟨0, x3s, x3sV, rfl, Nat.lt_succ_self _, (by first | omega | (simp only [sS_len, sL_len]; omega) | (simp only [List.length_replicate, sI_len]; omega) | (simp only [List.length_append, List.length_cons, List.length_nil, sI_len, cond_true, cond_false]; omega) | (simp only [List.length_append, List.length_cons, List.length_nil, sI_len, cond_eq_ite, apply_ite List.length]; split <;> simp only [List.length_append, List.length_cons, List.length_nil, sI_len] <;> omega) | grind), (by first | omega | (simp only [ByteArray.size_append, digS_size, sz1, sz0]; omega)), (by first | omega | (simp only [ByteArray.size_append, digS_size, sz1, sz0]; omega)), (by first | omega | (simp only [sS_len, sL_len]; omega) | (simp only [List.length_replicate, sI_len]; omega) | (simp only [List.length_append, List.length_cons, List.length_nil, sI_len, cond_true, cond_false]; omega) | (simp only [List.length_append, List.length_cons, List.length_nil, sI_len, cond_eq_ite, apply_ite List.length]; split <;> simp only [List.length_append, List.length_cons, List.length_nil, sI_len] <;> omega) | grind), (hE92.sub (L' := [(3, .pointer (some ⟨b11, 0, none⟩)), (4, .int .i64 t16), (14, .slice f1A f1.length f1C), (15, .int .i64 (f1.length : Int)), (16, .int .i64 t16), (22, .slice b85 ((F_membersOf (gI f1 t16)).length) c86), (23, .int .i64 ((F_membersOf (gI f1 t16)).length : Int)), (24, .int .i64 0)]) ⟨rfl, rfl, rfl, rfl, rfl, rfl, rfl, rfl, trivial⟩), (St.pick (Γ' := [.own 2 1 b85 ((F_membersOf (gI f1 t16)).length) c86 (F_membersOf (gI f1 t16)), .bld b11 46 5 x3sV (Lib.strCells x3s), .blk b2 #[.int .i64 f0, .slice f1A f1.length f1C] 28, .rd 1 f1A f1.length f1C f1]) hS83 [0, 1, 2, 3] (by decide) rfl)⟩
      ·
       clear hE92 hS83
       rintro r104 a94 w95 ⟨t24L2, x3sL2, x3sL2V, hT98, hr99, hi100, hi101, hi102, hi103, hE96, hS97⟩
       obtain ⟨r104, rfl⟩ : ∃ r', r104 = r' + 1 := ⟨r104 - 1, by omega⟩
       refine c_seq ?_
       refine c_reg ?_
       refine q_step (v := .bool (decide (t24L2 < ((F_membersOf (gI f1 t16)).length : Int)))) hE96 (y_lss rfl rfl) rfl rfl rfl ?_; intro a105 hE106; clear hE96
       refine c_nil ?_
       have hE107 := hE106.sub (L' := [(3, .pointer (some ⟨b11, 0, none⟩)), (4, .int .i64 t16), (14, .slice f1A f1.length f1C), (15, .int .i64 (f1.length : Int)), (16, .int .i64 t16), (22, .slice b85 ((F_membersOf (gI f1 t16)).length) c86), (23, .int .i64 ((F_membersOf (gI f1 t16)).length : Int)), (24, .int .i64 t24L2), (25, .bool (decide (t24L2 < ((F_membersOf (gI f1 t16)).length : Int))))]) ⟨rfl, rfl, rfl, rfl, rfl, rfl, rfl, rfl, rfl, trivial⟩; clear hE106
       refine p_tn ?_
       refine c_seq ?_
       refine c_cond hE107 rfl (fun ht108 => ?_) (fun ht108 => ?_)
       ·
        have hp109 := of_decide_eq_true ht108
        have hE110 := hE107; rw [ht108] at hE110; clear hE107
        have hm1 := members_lt (mask := gI f1 t16) (n := f1.length) (by omega) hx1.1 (by rw [hfl]; exact hx1.2) t24L2 (by omega) (by omega)
        refine wp_skip ?_
        refine p_tn ?_
        refine c_seq ?_
        refine wp_block ?_
        refine c_seq ?_
        refine c_reg ?_
        refine q_step (v := .pointer (some (adr b85 (Int.toNat t24L2)))) hE110 (y_idx (by kernel_rfl) (fun _ => by kernel_rfl) rfl rfl (RdS.isS (m := t24L2) (St.rdO (i := 0) hS97 rfl) (by omega) (by omega)) (by omega) (by omega) (Nat.mul_one _).symm) rfl rfl rfl ?_; intro a111 hE112; clear hE110
        refine q_step (v := .int .i64 (gI (F_membersOf (gI f1 t16)) t24L2)) hE112 (y_load (fun _ => by kernel_rfl) rfl (RdS.elt (St.rdO (i := 0) hS97 rfl) (by omega) (by omega))) rfl rfl rfl ?_; intro a113 hE114; clear hE112
        refine q_step (v := .int .i64 (gI (F_membersOf (gI f1 t16)) t24L2)) hE114 (y_assign rfl) rfl rfl rfl ?_; intro a115 hE116; clear hE114
        refine c_nil ?_
        have hE117 := hE116.sub (L' := [(3, .pointer (some ⟨b11, 0, none⟩)), (4, .int .i64 t16), (7, .int .i64 (gI (F_membersOf (gI f1 t16)) t24L2)), (14, .slice f1A f1.length f1C), (15, .int .i64 (f1.length : Int)), (16, .int .i64 t16), (22, .slice b85 ((F_membersOf (gI f1 t16)).length) c86), (23, .int .i64 ((F_membersOf (gI f1 t16)).length : Int)), (24, .int .i64 t24L2)]) ⟨rfl, rfl, rfl, rfl, rfl, rfl, rfl, rfl, rfl, trivial⟩; clear hE116
        refine p_tn ?_
        refine c_reg ?_
        refine q_step (v := .int .i64 t16) hE117 (y_move rfl) rfl rfl rfl ?_; intro a118 hE119; clear hE117
        refine l_step hE119 rfl (l_call (f := 24) (argv := [.int .i64 t16]) hE119 (fun _ => cf_decimal _ _) rfl rfl (c_decimal t16 w95 (by omega) (by omega)) ?_)
        rintro _ _ ⟨rfl, rfl⟩ a122 hE123; clear hE119
        refine q_step (v := .string ((⟨#[32]⟩ : ByteArray) ++ (digS t16))) hE123 (y_addS rfl rfl (by first | omega | (simp only [ByteArray.size_append, digS_size, sz1, sz0]; omega))) rfl rfl rfl ?_; intro a126 hE127; clear hE123
        refine q_step (v := .string (((⟨#[32]⟩ : ByteArray) ++ (digS t16)) ++ (⟨#[62]⟩ : ByteArray))) hE127 (y_addS rfl rfl (by first | omega | (simp only [ByteArray.size_append, digS_size, sz1, sz0]; omega))) rfl rfl rfl ?_; intro a128 hE129; clear hE127
        refine q_step (v := .int .i64 (gI (F_membersOf (gI f1 t16)) t24L2)) hE129 (y_move rfl) rfl rfl rfl ?_; intro a130 hE131; clear hE129
        refine l_step hE131 rfl (l_call (f := 24) (argv := [.int .i64 (gI (F_membersOf (gI f1 t16)) t24L2)]) hE131 (fun _ => cf_decimal _ _) rfl rfl (c_decimal (gI (F_membersOf (gI f1 t16)) t24L2) w95 (by omega) (by omega)) ?_)
        rintro _ _ ⟨rfl, rfl⟩ a134 hE135; clear hE131
        refine q_step (v := .string ((((⟨#[32]⟩ : ByteArray) ++ (digS t16)) ++ (⟨#[62]⟩ : ByteArray)) ++ (digS (gI (F_membersOf (gI f1 t16)) t24L2)))) hE135 (y_addS rfl rfl (by first | omega | (simp only [ByteArray.size_append, digS_size, sz1, sz0]; omega))) rfl rfl rfl ?_; intro a138 hE139; clear hE135
        refine l_step hE139 rfl (l_call (f := 23) (argv := [.pointer (some ⟨b11, 0, none⟩), .string ((((⟨#[32]⟩ : ByteArray) ++ (digS t16)) ++ (⟨#[62]⟩ : ByteArray)) ++ (digS (gI (F_membersOf (gI f1 t16)) t24L2)))]) hE139 (fun _ => cf_WriteString _ _) rfl rfl (c_WriteS (k := 1) x3sL2 ((((⟨#[32]⟩ : ByteArray) ++ (digS t16)) ++ (⟨#[62]⟩ : ByteArray)) ++ (digS (gI (F_membersOf (gI f1 t16)) t24L2))) hS97 rfl (by first | omega | (simp only [ByteArray.size_append, digS_size, sz1, sz0]; omega))) ?_)
        rintro _ w141 ⟨v146, rfl, hS144⟩ a142 hE143; clear hE139 hS97
        refine c_nil ?_
        have hE147 := hE143.sub (L' := [(3, .pointer (some ⟨b11, 0, none⟩)), (4, .int .i64 t16), (14, .slice f1A f1.length f1C), (15, .int .i64 (f1.length : Int)), (16, .int .i64 t16), (22, .slice b85 ((F_membersOf (gI f1 t16)).length) c86), (23, .int .i64 ((F_membersOf (gI f1 t16)).length : Int)), (24, .int .i64 t24L2)]) ⟨rfl, rfl, rfl, rfl, rfl, rfl, rfl, rfl, trivial⟩; clear hE143
        refine p_bn ?_
        refine p_tn ?_
        refine c_reg ?_
        refine q_step (v := .int .i64 (t24L2 + 1)) hE147 (y_add rfl rfl ⟨(by omega), (by omega)⟩) rfl rfl rfl ?_; intro a148 hE149; clear hE147
        refine q_step (v := .int .i64 (t24L2 + 1)) hE149 (y_move rfl) rfl rfl rfl ?_; intro a150 hE151; clear hE149
        refine c_nil ?_
        have hE152 := hE151.sub (L' := [(3, .pointer (some ⟨b11, 0, none⟩)), (4, .int .i64 t16), (14, .slice f1A f1.length f1C), (15, .int .i64 (f1.length : Int)), (16, .int .i64 t16), (22, .slice b85 ((F_membersOf (gI f1 t16)).length) c86), (23, .int .i64 ((F_membersOf (gI f1 t16)).length : Int)), (24, .int .i64 (t24L2 + 1))]) ⟨rfl, rfl, rfl, rfl, rfl, rfl, rfl, rfl, trivial⟩; clear hE151
        refine p_tn ⟨r104, Nat.lt_succ_self _, t24L2 + 1, x3sL2 ++ ((((⟨#[32]⟩ : ByteArray) ++ (digS t16)) ++ (⟨#[62]⟩ : ByteArray)) ++ (digS (gI (F_membersOf (gI f1 t16)) t24L2))), v146, (hT98.symm.trans (show F_frameText_L2b f1 t16 (F_frameText_L2 f1 t16 r104) t24L2 x3sL2 = F_frameText_L2 f1 t16 r104 (t24L2 + 1) (x3sL2 ++ ((((⟨#[32]⟩ : ByteArray) ++ (digS t16)) ++ (⟨#[62]⟩ : ByteArray)) ++ (digS (gI (F_membersOf (gI f1 t16)) t24L2)))) by unfold F_frameText_L2b; rw [ht108]; first | done | rfl)).symm, (by omega), (by first | omega | (simp only [sS_len, sL_len]; omega) | (simp only [List.length_replicate, sI_len]; omega) | (simp only [List.length_append, List.length_cons, List.length_nil, sI_len, cond_true, cond_false]; omega) | (simp only [List.length_append, List.length_cons, List.length_nil, sI_len, cond_eq_ite, apply_ite List.length]; split <;> simp only [List.length_append, List.length_cons, List.length_nil, sI_len] <;> omega) | grind), (by first | omega | (simp only [ByteArray.size_append, digS_size, sz1, sz0]; omega)), (by first | omega | (simp only [ByteArray.size_append, digS_size, sz1, sz0]; omega)), (by first | omega | (simp only [sS_len, sL_len]; omega) | (simp only [List.length_replicate, sI_len]; omega) | (simp only [List.length_append, List.length_cons, List.length_nil, sI_len, cond_true, cond_false]; omega) | (simp only [List.length_append, List.length_cons, List.length_nil, sI_len, cond_eq_ite, apply_ite List.length]; split <;> simp only [List.length_append, List.length_cons, List.length_nil, sI_len] <;> omega) | grind), (hE152.sub (L' := [(3, .pointer (some ⟨b11, 0, none⟩)), (4, .int .i64 t16), (14, .slice f1A f1.length f1C), (15, .int .i64 (f1.length : Int)), (16, .int .i64 t16), (22, .slice b85 ((F_membersOf (gI f1 t16)).length) c86), (23, .int .i64 ((F_membersOf (gI f1 t16)).length : Int)), (24, .int .i64 (t24L2 + 1))]) ⟨rfl, rfl, rfl, rfl, rfl, rfl, rfl, rfl, trivial⟩), (St.pick (Γ' := [.own 2 1 b85 ((F_membersOf (gI f1 t16)).length) c86 (F_membersOf (gI f1 t16)), .bld b11 46 5 v146 (Lib.strCells (x3sL2 ++ ((((⟨#[32]⟩ : ByteArray) ++ (digS t16)) ++ (⟨#[62]⟩ : ByteArray)) ++ (digS (gI (F_membersOf (gI f1 t16)) t24L2))))), .blk b2 #[.int .i64 f0, .slice f1A f1.length f1C] 28, .rd 1 f1A f1.length f1C f1]) hS144 [0, 1, 2, 3] (by decide) rfl)⟩
       ·
        have hp153 := of_decide_eq_false ht108
        have hE154 := hE107; rw [ht108] at hE154; clear hE107
        refine wp_exit ?_
        refine p_te ?_
        have hX155 : F_frameText_L2 f1 t16 (Int.toNat (((F_membersOf (gI f1 t16)).length : Int) - 0) + 1) 0 x3s = (t24L2, x3sL2) := hT98.symm.trans (show F_frameText_L2b f1 t16 (F_frameText_L2 f1 t16 r104) t24L2 x3sL2 = (t24L2, x3sL2) by unfold F_frameText_L2b; rw [ht108]; first | done | rfl)
        refine p_te (p_be (p_tn ?_))
        exact ⟨x3sL2V, (by rw [hX155]; exact (show 0 ≤ t24L2 from (by first | omega | (simp only [sS_len, sL_len]; omega) | (simp only [List.length_replicate, sI_len]; omega) | (simp only [List.length_append, List.length_cons, List.length_nil, sI_len, cond_true, cond_false]; omega) | (simp only [List.length_append, List.length_cons, List.length_nil, sI_len, cond_eq_ite, apply_ite List.length]; split <;> simp only [List.length_append, List.length_cons, List.length_nil, sI_len] <;> omega) | grind))), (by rw [hX155]; exact (show (x3sL2.size : Int) ≤ 2 + t16 * 40 + t24L2 * 4 from (by first | omega | (simp only [sS_len, sL_len]; omega) | (simp only [List.length_replicate, sI_len]; omega) | (simp only [List.length_append, List.length_cons, List.length_nil, sI_len, cond_true, cond_false]; omega) | (simp only [List.length_append, List.length_cons, List.length_nil, sI_len, cond_eq_ite, apply_ite List.length]; split <;> simp only [List.length_append, List.length_cons, List.length_nil, sI_len] <;> omega) | grind))), (by rw [hX155]; exact (show 1 ≤ x3sL2.size from (by first | omega | (simp only [sS_len, sL_len]; omega) | (simp only [List.length_replicate, sI_len]; omega) | (simp only [List.length_append, List.length_cons, List.length_nil, sI_len, cond_true, cond_false]; omega) | (simp only [List.length_append, List.length_cons, List.length_nil, sI_len, cond_eq_ite, apply_ite List.length]; split <;> simp only [List.length_append, List.length_cons, List.length_nil, sI_len] <;> omega) | grind))), (by rw [hX155]; exact (show t24L2 ≤ ((F_membersOf (gI f1 t16)).length : Int) from (by first | omega | (simp only [sS_len, sL_len]; omega) | (simp only [List.length_replicate, sI_len]; omega) | (simp only [List.length_append, List.length_cons, List.length_nil, sI_len, cond_true, cond_false]; omega) | (simp only [List.length_append, List.length_cons, List.length_nil, sI_len, cond_eq_ite, apply_ite List.length]; split <;> simp only [List.length_append, List.length_cons, List.length_nil, sI_len] <;> omega) | grind))), (by rw [hX155]; exact (hE154.sub (L' := [(3, .pointer (some ⟨b11, 0, none⟩)), (4, .int .i64 t16), (14, .slice f1A f1.length f1C), (15, .int .i64 (f1.length : Int)), (16, .int .i64 t16), (22, .slice b85 ((F_membersOf (gI f1 t16)).length) c86), (23, .int .i64 ((F_membersOf (gI f1 t16)).length : Int)), (24, .int .i64 t24L2)]) ⟨rfl, rfl, rfl, rfl, rfl, rfl, rfl, rfl, trivial⟩)), (by rw [hX155]; exact (St.pick (Γ' := [.own 2 1 b85 ((F_membersOf (gI f1 t16)).length) c86 (F_membersOf (gI f1 t16)), .bld b11 46 5 x3sL2V (Lib.strCells x3sL2), .blk b2 #[.int .i64 f0, .slice f1A f1.length f1C] 28, .rd 1 f1A f1.length f1C f1]) hS97 [0, 1, 2, 3] (by decide) rfl))⟩
     ·
      rintro a156 w157 ⟨x3sL2V_93, hi161, hi162, hi163, hi164, hE158, hS159⟩; clear hE92 hS83
      refine p_bn ?_
      refine p_tn ?_
      refine c_reg ?_
      refine q_step (v := .int .i64 (t16 + 1)) hE158 (y_add rfl rfl ⟨(by omega), (by omega)⟩) rfl rfl rfl ?_; intro a165 hE166; clear hE158
      refine q_step (v := .int .i64 (t16 + 1)) hE166 (y_move rfl) rfl rfl rfl ?_; intro a167 hE168; clear hE166
      refine c_nil ?_
      have hE169 := hE168.sub (L' := [(3, .pointer (some ⟨b11, 0, none⟩)), (14, .slice f1A f1.length f1C), (15, .int .i64 (f1.length : Int)), (16, .int .i64 (t16 + 1))]) ⟨rfl, rfl, rfl, rfl, trivial⟩; clear hE168
      refine p_tn ⟨r59, Nat.lt_succ_self _, t16 + 1, (F_frameText_L2 f1 t16 (Int.toNat (((F_membersOf (gI f1 t16)).length : Int) - 0) + 1) 0 x3s).2, x3sL2V_93, (hT53.symm.trans (show F_frameText_L1b f1 (F_frameText_L1 f1 r59) t16 x3s = F_frameText_L1 f1 r59 (t16 + 1) ((F_frameText_L2 f1 t16 (Int.toNat (((F_membersOf (gI f1 t16)).length : Int) - 0) + 1) 0 x3s).2) by unfold F_frameText_L1b; rw [ht63]; first | done | rfl)).symm, (by omega), (by first | omega | (simp only [sS_len, sL_len]; omega) | (simp only [List.length_replicate, sI_len]; omega) | (simp only [List.length_append, List.length_cons, List.length_nil, sI_len, cond_true, cond_false]; omega) | (simp only [List.length_append, List.length_cons, List.length_nil, sI_len, cond_eq_ite, apply_ite List.length]; split <;> simp only [List.length_append, List.length_cons, List.length_nil, sI_len] <;> omega) | grind), (by first | omega | (simp only [ByteArray.size_append, digS_size, sz1, sz0]; omega)), (by first | omega | (simp only [ByteArray.size_append, digS_size, sz1, sz0]; omega)), (by first | omega | (simp only [sS_len, sL_len]; omega) | (simp only [List.length_replicate, sI_len]; omega) | (simp only [List.length_append, List.length_cons, List.length_nil, sI_len, cond_true, cond_false]; omega) | (simp only [List.length_append, List.length_cons, List.length_nil, sI_len, cond_eq_ite, apply_ite List.length]; split <;> simp only [List.length_append, List.length_cons, List.length_nil, sI_len] <;> omega) | grind), (hE169.sub (L' := [(3, .pointer (some ⟨b11, 0, none⟩)), (14, .slice f1A f1.length f1C), (15, .int .i64 (f1.length : Int)), (16, .int .i64 (t16 + 1))]) ⟨rfl, rfl, rfl, rfl, trivial⟩), (St.pick (Γ' := [.bld b11 46 5 x3sL2V_93 (Lib.strCells ((F_frameText_L2 f1 t16 (Int.toNat (((F_membersOf (gI f1 t16)).length : Int) - 0) + 1) 0 x3s).2)), .blk b2 #[.int .i64 f0, .slice f1A f1.length f1C] 28, .rd 1 f1A f1.length f1C f1]) hS159 [1, 2, 3] (by decide) rfl)⟩
    ·
     have hp170 := of_decide_eq_false ht63
     have hE171 := hE62; rw [ht63] at hE171; clear hE62
     refine wp_exit ?_
     refine p_te ?_
     have hX172 : F_frameText_L1 f1 (Int.toNat ((f1.length : Int) - 0) + 1) 0 ((⟨#[]⟩ : ByteArray) ++ ((digS f0) ++ (⟨#[58]⟩ : ByteArray))) = (t16, x3s) := hT53.symm.trans (show F_frameText_L1b f1 (F_frameText_L1 f1 r59) t16 x3s = (t16, x3s) by unfold F_frameText_L1b; rw [ht63]; first | done | rfl)
     refine p_te (p_be (p_tn ?_))
     exact ⟨x3sV, (by rw [hX172]; exact (show 0 ≤ t16 from (by first | omega | (simp only [sS_len, sL_len]; omega) | (simp only [List.length_replicate, sI_len]; omega) | (simp only [List.length_append, List.length_cons, List.length_nil, sI_len, cond_true, cond_false]; omega) | (simp only [List.length_append, List.length_cons, List.length_nil, sI_len, cond_eq_ite, apply_ite List.length]; split <;> simp only [List.length_append, List.length_cons, List.length_nil, sI_len] <;> omega) | grind))), (by rw [hX172]; exact (show (x3s.size : Int) ≤ 2 + t16 * 40 from (by first | omega | (simp only [sS_len, sL_len]; omega) | (simp only [List.length_replicate, sI_len]; omega) | (simp only [List.length_append, List.length_cons, List.length_nil, sI_len, cond_true, cond_false]; omega) | (simp only [List.length_append, List.length_cons, List.length_nil, sI_len, cond_eq_ite, apply_ite List.length]; split <;> simp only [List.length_append, List.length_cons, List.length_nil, sI_len] <;> omega) | grind))), (by rw [hX172]; exact (show 1 ≤ x3s.size from (by first | omega | (simp only [sS_len, sL_len]; omega) | (simp only [List.length_replicate, sI_len]; omega) | (simp only [List.length_append, List.length_cons, List.length_nil, sI_len, cond_true, cond_false]; omega) | (simp only [List.length_append, List.length_cons, List.length_nil, sI_len, cond_eq_ite, apply_ite List.length]; split <;> simp only [List.length_append, List.length_cons, List.length_nil, sI_len] <;> omega) | grind))), (by rw [hX172]; exact (show t16 ≤ (f1.length : Int) from (by first | omega | (simp only [sS_len, sL_len]; omega) | (simp only [List.length_replicate, sI_len]; omega) | (simp only [List.length_append, List.length_cons, List.length_nil, sI_len, cond_true, cond_false]; omega) | (simp only [List.length_append, List.length_cons, List.length_nil, sI_len, cond_eq_ite, apply_ite List.length]; split <;> simp only [List.length_append, List.length_cons, List.length_nil, sI_len] <;> omega) | grind))), (by rw [hX172]; exact (hE171.sub (L' := [(3, .pointer (some ⟨b11, 0, none⟩)), (14, .slice f1A f1.length f1C), (15, .int .i64 (f1.length : Int)), (16, .int .i64 t16)]) ⟨rfl, rfl, rfl, rfl, trivial⟩)), (by rw [hX172]; exact (St.pick (Γ' := [.bld b11 46 5 x3sV (Lib.strCells x3s), .blk b2 #[.int .i64 f0, .slice f1A f1.length f1C] 28, .rd 1 f1A f1.length f1C f1]) hS52 [0, 1, 2] (by decide) rfl))⟩
  ·
   rintro a173 w174 ⟨x3sV_48, hi178, hi179, hi180, hi181, hE175, hS176⟩; clear hE47 hS35
   refine p_tn ?_
   refine c_seq ?_
   refine c_reg ?_
   refine l_step hE175 rfl (l_call (f := 26) (argv := [.pointer (some ⟨b11, 0, none⟩)]) hE175 (fun _ => cf_String _ _) rfl rfl (c_String (k := 0) ((F_frameText_L1 f1 (Int.toNat ((f1.length : Int) - 0) + 1) 0 ((⟨#[]⟩ : ByteArray) ++ ((digS f0) ++ (⟨#[58]⟩ : ByteArray)))).2) (by first | omega | (simp only [ByteArray.size_append, digS_size, sz1, sz0]; omega)) hS176 rfl) ?_)
   rintro _ w183 ⟨rfl, he187⟩ a184 hE185; clear hE175
   have hS186 : St w w183 [] := St.go (St.nil w) he187; clear hS176
   refine q_step (v := .string ((F_frameText_L1 f1 (Int.toNat ((f1.length : Int) - 0) + 1) 0 ((⟨#[]⟩ : ByteArray) ++ ((digS f0) ++ (⟨#[58]⟩ : ByteArray)))).2)) hE185 (y_assign rfl) rfl rfl rfl ?_; intro a188 hE189; clear hE185
   refine c_nil ?_
   have hE190 := hE189.sub (L' := [(2, .string ((F_frameText_L1 f1 (Int.toNat ((f1.length : Int) - 0) + 1) 0 ((⟨#[]⟩ : ByteArray) ++ ((digS f0) ++ (⟨#[58]⟩ : ByteArray)))).2))]) ⟨rfl, trivial⟩; clear hE189
   refine p_tn ?_
   refine wp_ret ?_
   have hF : F_frameText f0 f1 = (F_frameText_L1 f1 (Int.toNat ((f1.length : Int) - 0) + 1) 0 ((⟨#[]⟩ : ByteArray) ++ ((digS f0) ++ (⟨#[58]⟩ : ByteArray)))).2 := by unfold F_frameText; rfl
   refine c_ret1 hE190 rfl rfl ?_
   exact ⟨(by rw [hF]; first | done | (dsimp only; done) | rfl), hS186.ext⟩

def F_FrameText (f0 : Int) (f1 : List Int) : (ByteArray) × (Int) :=
  bif (!(F_isFrame f0 f1)) then ((⟨#[]⟩ : ByteArray), 1) else (F_frameText f0 f1, 0)
theorem cf_FrameText (args : Array Value) (w : World) : (callFunc 7 args).run Tryd.prog w = .ok (.enter 7 args) w := by kernel_rfl
set_option maxRecDepth 100000 in
theorem c_FrameText (f0 : Int) (f1A : Option Addr) (f1N f1C : Nat) (f1 : List Int) (w : World) (f1R : RdS w 1 f1A f1N f1C f1) :
    Calls Tryd.prog 7 #[.agg #[.int .i64 f0, .slice f1A f1N f1C]] w (Ret fun v w' => v = .tuple #[.string ((F_FrameText f0 f1).1), .int .i64 ((F_FrameText f0 f1).2)] ∧ Ext w w') := by
  obtain rfl : f1N = f1.length := f1R.len1.symm
  have f1Le := f1R.le
  have hS := St.nil w
  have hS1 := St.rd0 hS rfl f1R; clear hS
  refine enter (args := [.agg #[.int .i64 f0, .slice f1A f1.length f1C]]) Tryd.func7 rfl rfl ?_
  rw [Tryd.ntmps7]; intro a hE
  have hE := hE.sub (L' := [(0, .agg #[.int .i64 f0, .slice f1A f1.length f1C])]) ⟨rfl, trivial⟩
  refine c_seq ?_
  refine c_reg ?_
  refine l_step hE rfl (l_box (v := .agg #[.int .i64 f0, .slice f1A f1.length f1C]) (cs := #[.int .i64 f0, .slice f1A f1.length f1C]) hS1 hE rfl rfl rfl ?_)
  intro b2 w3 hS6 he7 a4 hE5; clear hS1 hE
  refine q_step (v := .string (⟨#[]⟩ : ByteArray)) hE5 (y_assign rfl) rfl rfl rfl ?_; intro a8 hE9; clear hE5
  refine q_step (v := .int .i64 0) hE9 (y_assign rfl) rfl rfl rfl ?_; intro a10 hE11; clear hE9
  refine c_nil ?_
  have hE12 := hE11.sub (L' := [(1, .pointer (some ⟨b2, 0, none⟩))]) ⟨rfl, trivial⟩; clear hE11
  refine p_tn ?_
  refine c_seq ?_
  refine c_seq ?_
  refine c_reg ?_
  refine q_step (v := .agg #[.int .i64 f0, .slice f1A f1.length f1C]) hE12 (y_loadS Tryd.underlying28 rfl (by kernel_rfl) rfl (St.row (i := 0) hS6 rfl)) rfl rfl rfl ?_; intro a13 hE14; clear hE12
  refine l_step hE14 rfl (l_call (f := 13) (argv := [.agg #[.int .i64 f0, .slice f1A f1.length f1C]]) hE14 (fun _ => cf_isFrame _ _) rfl rfl (c_isFrame f0 f1A f1.length f1C f1 w3 (St.rdR (i := 1) hS6 rfl)) ?_)
  rintro _ w16 ⟨rfl, he20⟩ a17 hE18; clear hE14
  have hS19 := St.go hS6 he20; clear hS6
  refine q_step (v := .bool (!(F_isFrame f0 f1))) hE18 (y_not rfl) rfl rfl rfl ?_; intro a21 hE22; clear hE18
  refine c_nil ?_
  have hE23 := hE22.sub (L' := [(1, .pointer (some ⟨b2, 0, none⟩)), (6, .bool (!(F_isFrame f0 f1)))]) ⟨rfl, rfl, trivial⟩; clear hE22
  refine p_tn ?_
  refine c_cond hE23 rfl (fun ht24 => ?_) (fun ht24 => ?_)
  ·
   have ht25 := bn_t ht24
   have hE26 := hE23; rw [ht24] at hE26; clear hE23
   refine c_seq ?_
   refine c_reg ?_
   refine q_step (v := .string (⟨#[]⟩ : ByteArray)) hE26 (y_assign rfl) rfl rfl rfl ?_; intro a27 hE28; clear hE26
   refine q_step (v := .int .i64 1) hE28 (y_assign rfl) rfl rfl rfl ?_; intro a29 hE30; clear hE28
   refine c_nil ?_
   have hE31 := hE30.sub (L' := [(2, .string (⟨#[]⟩ : ByteArray)), (3, .int .i64 1)]) ⟨rfl, rfl, trivial⟩; clear hE30
   refine p_tn ?_
   refine wp_ret ?_
   refine p_tr ?_
   have hF : F_FrameText f0 f1 = ((⟨#[]⟩ : ByteArray), 1) := by unfold F_FrameText; rw [ht24]; first | done | rfl
   refine c_ret2 hE31 rfl rfl rfl ?_
   exact ⟨(by rw [hF]; first | done | (dsimp only; done) | rfl), hS19.ext⟩
  ·
   have ht32 := bn_f ht24
   have hp33 := isFrame_t ht32
   have hE34 := hE23; rw [ht24] at hE34; clear hE23
   refine wp_skip ?_
   refine p_tn ?_
   refine c_seq ?_
   refine c_reg ?_
   refine q_step (v := .agg #[.int .i64 f0, .slice f1A f1.length f1C]) hE34 (y_loadS Tryd.underlying28 rfl (by kernel_rfl) rfl (St.row (i := 0) hS19 rfl)) rfl rfl rfl ?_; intro a35 hE36; clear hE34
   refine l_step hE36 rfl (l_call (f := 14) (argv := [.agg #[.int .i64 f0, .slice f1A f1.length f1C]]) hE36 (fun _ => cf_frameText _ _) rfl rfl (c_frameText f0 f1A f1.length f1C f1 w16 (St.rdR (i := 1) hS19 rfl) (by omega) (by omega) (l05Is_m (by rw [← isFrame_eq]; assumption))) ?_)
   rintro _ w38 ⟨rfl, he42⟩ a39 hE40; clear hE36
   have hS41 := St.go hS19 he42; clear hS19
   refine q_step (v := .string (F_frameText f0 f1)) hE40 (y_assign rfl) rfl rfl rfl ?_; intro a43 hE44; clear hE40
   refine q_step (v := .int .i64 0) hE44 (y_assign rfl) rfl rfl rfl ?_; intro a45 hE46; clear hE44
   refine c_nil ?_
   have hE47 := hE46.sub (L' := [(2, .string (F_frameText f0 f1)), (3, .int .i64 0)]) ⟨rfl, rfl, trivial⟩; clear hE46
   refine p_tn ?_
   refine wp_ret ?_
   have hF : F_FrameText f0 f1 = (F_frameText f0 f1, 0) := by unfold F_FrameText; rw [ht24]; first | done | rfl
   refine c_ret2 hE47 rfl rfl rfl ?_
   exact ⟨(by rw [hF]; first | done | (dsimp only; done) | rfl), hS41.ext⟩

theorem xt_L2 {f0 : Int} {f1 : List Int} {w : Int} (h0 : 0 ≤ gI f1 w) (h1 : gI f1 w < 4611686018427387904) : ∀ (r : Nat) (out : ByteArray) (k : Int), (F_l05Text_L2 f1 w r out k).1 = (F_frameText_L2 f1 w r k out).2 := by
  intro r
  induction r with
  | zero => intro out k; rfl
  | succ r ih =>
    intro out k
    show (F_l05Text_L2b f1 w (F_l05Text_L2 f1 w r) out k).1 = (F_frameText_L2b f1 w (F_frameText_L2 f1 w r) k out).2
    unfold F_l05Text_L2b F_frameText_L2b
    rw [l01List_eq h0 h1]
    cases decide (k < ((F_membersOf (gI f1 w)).length : Int))
    · rw [cond_false, cond_false]
    · rw [cond_true, cond_true, ih]
      congr 2
      simp only [ByteArray.append_assoc]
theorem xt_L1 {f0 : Int} {f1 : List Int} (h8 : 0 ≤ f0 ∧ f0 ≤ 8) (hl : (f1.length : Int) = f0) (hm : ∀ m : Int, 0 ≤ m → m < (f1.length : Int) → 0 ≤ gI f1 m ∧ gI f1 m ≤ fullI f0) : ∀ (r : Nat) (out : ByteArray) (w : Int), 0 ≤ w → (F_l05Text_L1 f0 f1 r out w).1 = (F_frameText_L1 f1 r w out).2 := by
  intro r
  induction r with
  | zero => intro out w _; rfl
  | succ r ih =>
    intro out w h0
    show (F_l05Text_L1b f0 f1 (F_l05Text_L1 f0 f1 r) out w).1 = (F_frameText_L1b f1 (F_frameText_L1 f1 r) w out).2
    unfold F_l05Text_L1b F_frameText_L1b
    rw [hl]
    by_cases hw : w < f0
    · rw [decide_eq_true hw, cond_true, cond_true]
      have hx := hm w h0 (by omega)
      have hf := fullI_bd (n := f0) (by omega) (by omega)
      have hlt : gI f1 w < 4611686018427387904 := by omega
      rw [xt_L2 (f0 := f0) hx.1 hlt, l01List_eq hx.1 hlt]
      exact ih _ _ (by omega)
    · rw [decide_eq_false hw, cond_false, cond_false]
theorem FrameText_eq (f0 : Int) (f1 : List Int) : F_FrameText f0 f1 = F_s_FrameText f0 f1 := by
  unfold F_FrameText F_s_FrameText
  rw [isFrame_eq]
  cases h : F_l05Is f0 f1
  · rfl
  · rw [Bool.not_true, cond_false, cond_false]
    have ht := l05Is_t h
    have e : F_frameText f0 f1 = F_l05Text f0 f1 := by
      unfold F_frameText F_l05Text
      rw [xt_L1 ht.1 ht.2 (l05Is_m h) _ _ _ (Int.le_refl _), ht.2]
      congr 2
    rw [e]


end Go.Proofs.YtkilkfhjfobcdaaDoor
