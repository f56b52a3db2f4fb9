/- GCF: models and contracts, printed by wip/gen/gen.py -/
import Derived.Test.YtkilkfhjfobcdaaKCHGW
set_option linter.unusedVariables false
set_option linter.unusedSimpArgs false
namespace Go.Proofs.Ytkilkfhjfobcdaa
open Go.RowKit
theorem sI_self {xs : List Int} {t : Int} (h0 : 0 ≤ t) (h : t < (xs.length : Int)) : sI xs t (gI xs t) = xs := by
  apply ext_gi (by rw [sI_len])
  intro j hj
  unfold sI gI
  rw [gi_set (by omega)]
  by_cases e : t.toNat = j
  · rw [if_pos e, e]
  · rw [if_neg e]
theorem mapLoop_key (n : Int) (h : Int → Int → Int) (L : Nat → Int → List Int → Int × List Int) (hL : ∀ r t xs, 0 ≤ t → (xs.length : Int) = n → L (r + 1) t xs = bif decide (t < n) then L r (t + 1) (sI xs t (h t (gI xs t))) else (t, xs)) (xs : List Int) :
    ∀ (k : Nat) (t : Int) (ys : List Int), 0 ≤ t → n - t = (k : Int) → (ys.length : Int) = n → (∀ j : Nat, (j : Int) < t → gI ys j = h j (gI xs j)) → (∀ j : Nat, t ≤ (j : Int) → gI ys j = gI xs j) →
    ((L (k + 1) t ys).2.length : Int) = n ∧ ∀ j : Nat, (j : Int) < n → gI (L (k + 1) t ys).2 j = h j (gI xs j) := by
  intro k
  induction k with
  | zero =>
    intro t ys h0 hk hl h1 h2
    rw [hL _ _ _ h0 hl, decide_eq_false (by omega), cond_false]
    exact ⟨hl, fun j hj => h1 j (by omega)⟩
  | succ k ih =>
    intro t ys h0 hk hl h1 h2
    rw [hL _ _ _ h0 hl, decide_eq_true (by omega), cond_true]
    have hs : ∀ j : Nat, gI (sI ys t (h t (gI ys t))) j = if t.toNat = j then h t (gI ys t) else gI ys j := fun j => by
      unfold sI
      show gi _ _ = _
      rw [gi_set (by omega), Int.toNat_natCast]; rfl
    refine ih (t + 1) _ (by omega) (by omega) (by rw [sI_len]; exact hl) (fun j hj => ?_) (fun j hj => ?_)
    · rw [hs]
      by_cases e : t.toNat = j
      · rw [if_pos e]
        have e2 : t = (j : Int) := by omega
        rw [e2, h2 j (by omega)]
      · rw [if_neg e]; exact h1 j (by omega)
    · rw [hs, if_neg (by omega)]; exact h2 j (by omega)
theorem mapLoop (n : Int) (h : Int → Int → Int) (L : Nat → Int → List Int → Int × List Int) (hL : ∀ r t xs, 0 ≤ t → (xs.length : Int) = n → L (r + 1) t xs = bif decide (t < n) then L r (t + 1) (sI xs t (h t (gI xs t))) else (t, xs)) (xs : List Int) (hl : (xs.length : Int) = n) :
    ((L (Int.toNat (n - 0) + 1) 0 xs).2.length : Int) = n ∧ ∀ j : Nat, (j : Int) < n → gI (L (Int.toNat (n - 0) + 1) 0 xs).2 j = h j (gI xs j) :=
  mapLoop_key n h L hL xs (Int.toNat (n - 0)) 0 xs (by omega) (by omega) hl (fun j hj => by omega) (fun _ _ => rfl)
def sumN (xs : List Int) : Nat := (xs.map Int.toNat).sum
theorem Mk.and {n : Nat} (hn : n ≤ 62) {a b : Int} (ha : Mk n a) (hb : Mk n b) : Mk n (andI a b) ∧ (∀ j, tb (andI a b) j = (tb a j && tb b j)) ∧ andI a b ≤ b := by
  have h1 := ha.sm hn
  have h2 := hb.sm hn
  obtain ⟨h3, h4, h5⟩ := andI_testBit ha.1 (by omega) hb.1 (by omega)
  refine ⟨Mk.ofBits h3 fun j hj => ?_, h5, (andI_le ha.1 (by omega) hb.1 (by omega)).2.2⟩
  have e : tb (andI a b) j = (tb a j && tb b j) := h5 j
  rw [e, Bool.and_eq_true] at hj
  exact tb_lt ha hj.1
theorem rl_ofL {a : List Int} (h : ∀ m : Int, 0 ≤ m → m < (a.length : Int) → 0 ≤ gI a m ∧ gI a m ≤ fullI (a.length : Int)) : Rl a.length a := ⟨rfl, fun i hi => h (i : Int) (by omega) (by omega)⟩
/-- It has grown, or the flag is down. -/
def Gr (b0 b : List Int) (f : Bool) : Prop := sumN b0 ≤ sumN b ∧ (f = true → sumN b0 < sumN b)
theorem Gr.refl (b : List Int) : Gr b b false := ⟨Nat.le_refl _, fun h => by cases h⟩
def F_l01Inverse_L2b (ap : List Int) (i4 : Int) (rec : Int → (List Int) → Int × (List Int)) (j5L2 : Int) (out3L2 : List Int) : Int × (List Int) :=
  bif (decide (j5L2 < (ap.length : Int))) then (rec (j5L2 + 1) (bif (F_l01Bit (gI ap j5L2) i4) then sI out3L2 i4 (orI (gI out3L2 i4) (powI j5L2)) else out3L2)) else (j5L2, out3L2)
def F_l01Inverse_L2 (ap : List Int) (i4 : Int) : Nat → Int → (List Int) → Int × (List Int)
  | 0, j5L2, out3L2 => (j5L2, out3L2)
  | r + 1, j5L2, out3L2 => F_l01Inverse_L2b ap i4 (F_l01Inverse_L2 ap i4 r) j5L2 out3L2
def F_l01Inverse_L1b (ap : List Int) (rec : Int → (List Int) → Int × (List Int)) (i4 : Int) (out3 : List Int) : Int × (List Int) :=
  bif (decide (i4 < (ap.length : Int))) then (rec (i4 + 1) ((F_l01Inverse_L2 ap i4 (Int.toNat ((ap.length : Int) - 0) + 1) 0 out3).2)) else (i4, out3)
def F_l01Inverse_L1 (ap : List Int) : Nat → Int → (List Int) → Int × (List Int)
  | 0, i4, out3 => (i4, out3)
  | r + 1, i4, out3 => F_l01Inverse_L1b ap (F_l01Inverse_L1 ap r) i4 out3
def F_l01Inverse (ap : List Int) : List Int :=
  (F_l01Inverse_L1 ap (Int.toNat ((ap.length : Int) - 0) + 1) 0 (List.replicate (Int.toNat (ap.length : Int)) 0)).2
theorem cf_l01Inverse (args : Array Value) (w : World) : (callFunc 208 args).run Try.prog w = .ok (.enter 208 args) w := by kernel_rfl
set_option maxRecDepth 100000 in
theorem c_l01Inverse (apA : Option Addr) (apN apC : Nat) (ap : List Int) (w : World) (apR : RdS w 1 apA apN apC ap) (hl : ap.length ≤ 30) :
    Calls Try.prog 208 #[.slice apA apN apC] w (Ret fun v w' => ∃ b1 : Option Addr, ∃ c1 : Nat, v = .slice b1 (F_l01Inverse ap).length c1 ∧ OwnS w' w.heap.size 2 1 b1 (F_l01Inverse ap).length c1 (F_l01Inverse ap) ∧ Ext w w') := by
  obtain rfl : apN = ap.length := apR.len1.symm
  have apLe := apR.le
  have hS := St.nil w
  have hS1 := St.rd0 hS rfl apR; clear hS
  refine enter (args := [.slice apA ap.length apC]) Try.func208 rfl rfl ?_
  rw [Try.ntmps208]; intro a hE
  have hE := hE.sub (L' := [(0, .slice apA ap.length apC)]) ⟨rfl, trivial⟩
  refine c_seq ?_
  refine c_reg ?_
  refine q_step (v := .slice none 0 0) hE (y_assign rfl) rfl rfl rfl ?_; intro a2 hE3; clear hE
  refine c_nil ?_
  have hE4 := hE3.sub (L' := [(0, .slice apA ap.length apC)]) ⟨rfl, trivial⟩; clear hE3
  refine p_tn ?_
  refine c_seq ?_
  refine c_reg ?_
  refine q_step (v := .slice apA ap.length apC) hE4 (y_move rfl) rfl rfl rfl ?_; intro a5 hE6; clear hE4
  refine q_step (v := .int .i64 (ap.length : Int)) hE6 (y_len (e := 2) (by kernel_rfl) rfl) rfl rfl rfl ?_; intro a7 hE8; clear hE6
  refine l_step hE8 rfl (l_make (e := 2) (m := (ap.length : Int)) hS1 hE8 (by kernel_rfl) (by kernel_rfl) rfl rfl (by omega) (by omega) rfl ?_)
  intro b9 w10 hS13 he14 a11 hE12; clear hS1 hE8
  refine q_step (v := .slice b9 (Int.toNat (ap.length : Int)) (Int.toNat (ap.length : Int))) hE12 (y_assign rfl) rfl rfl rfl ?_; intro a15 hE16; clear hE12
  refine c_nil ?_
  have hE17 := hE16.sub (L' := [(0, .slice apA ap.length apC), (3, .slice b9 (Int.toNat (ap.length : Int)) (Int.toNat (ap.length : Int)))]) ⟨rfl, rfl, trivial⟩; clear hE16
  refine p_tn ?_
  refine c_seq ?_
  refine c_seq ?_
  refine c_reg ?_
  refine q_step (v := .int .i64 0) hE17 (y_assign rfl) rfl rfl rfl ?_; intro a18 hE19; clear hE17
  refine c_nil ?_
  have hE20 := hE19.sub (L' := [(0, .slice apA ap.length apC), (3, .slice b9 (Int.toNat (ap.length : Int)) (Int.toNat (ap.length : Int))), (4, .int .i64 0)]) ⟨rfl, rfl, rfl, trivial⟩; clear hE19
  refine p_tn ?_
  refine c_cut1 (fun a' w' => (0 ≤ ((F_l01Inverse_L1 ap (Int.toNat ((ap.length : Int) - 0) + 1) 0 (List.replicate (Int.toNat (ap.length : Int)) 0)).1)) ∧ ((((F_l01Inverse_L1 ap (Int.toNat ((ap.length : Int) - 0) + 1) 0 (List.replicate (Int.toNat (ap.length : Int)) 0)).2).length : Int) = (ap.length : Int)) ∧ (((F_l01Inverse_L1 ap (Int.toNat ((ap.length : Int) - 0) + 1) 0 (List.replicate (Int.toNat (ap.length : Int)) 0)).1) ≤ (ap.length : Int)) ∧ E a' 38 [(0, .slice apA ap.length apC), (3, .slice b9 (Int.toNat (ap.length : Int)) (Int.toNat (ap.length : Int))), (4, .int .i64 ((F_l01Inverse_L1 ap (Int.toNat ((ap.length : Int) - 0) + 1) 0 (List.replicate (Int.toNat (ap.length : Int)) 0)).1))] ∧ St w w' [.own 2 1 b9 (Int.toNat (ap.length : Int)) (Int.toNat (ap.length : Int)) ((F_l01Inverse_L1 ap (Int.toNat ((ap.length : Int) - 0) + 1) 0 (List.replicate (Int.toNat (ap.length : Int)) 0)).2), .rd 1 apA ap.length apC ap]) ?_ ?_
  ·
   refine wp_block ?_
   refine c_loop (fun r a' w' => ∃ i4 : Int, ∃ out3 : List Int, F_l01Inverse_L1 ap r i4 out3 = F_l01Inverse_L1 ap (Int.toNat ((ap.length : Int) - 0) + 1) 0 (List.replicate (Int.toNat (ap.length : Int)) 0) ∧ Int.toNat ((ap.length : Int) - i4) < r ∧ (0 ≤ i4) ∧ ((out3.length : Int) = (ap.length : Int)) ∧ (i4 ≤ (ap.length : Int)) ∧ E a' 38 [(0, .slice apA ap.length apC), (3, .slice b9 (Int.toNat (ap.length : Int)) (Int.toNat (ap.length : Int))), (4, .int .i64 i4)] ∧ St w w' [.own 2 1 b9 (Int.toNat (ap.length : Int)) (Int.toNat (ap.length : Int)) out3, .rd 1 apA ap.length apC ap]) (r := (Int.toNat ((ap.length : Int) - 0) + 1)) ?_ ?_
   · exact ⟨0, List.replicate (Int.toNat (ap.length : Int)) 0, rfl, Nat.lt_succ_self _, (by first | omega | (simp only [sS_len, sL_len]; omega) | (simp only [List.length_replicate, sI_len]; omega) | (simp only [List.length_append, List.length_cons, List.length_nil, sI_len, cond_true, cond_false]; omega) | (simp only [List.length_append, List.length_cons, List.length_nil, sI_len, cond_eq_ite, apply_ite List.length]; split <;> simp only [List.length_append, List.length_cons, List.length_nil, sI_len] <;> omega) | grind), (by first | omega | (simp only [sS_len, sL_len]; omega) | (simp only [List.length_replicate, sI_len]; omega) | (simp only [List.length_append, List.length_cons, List.length_nil, sI_len, cond_true, cond_false]; omega) | (simp only [List.length_append, List.length_cons, List.length_nil, sI_len, cond_eq_ite, apply_ite List.length]; split <;> simp only [List.length_append, List.length_cons, List.length_nil, sI_len] <;> omega) | grind), (by first | omega | (simp only [sS_len, sL_len]; omega) | (simp only [List.length_replicate, sI_len]; omega) | (simp only [List.length_append, List.length_cons, List.length_nil, sI_len, cond_true, cond_false]; omega) | (simp only [List.length_append, List.length_cons, List.length_nil, sI_len, cond_eq_ite, apply_ite List.length]; split <;> simp only [List.length_append, List.length_cons, List.length_nil, sI_len] <;> omega) | grind), (hE20.sub (L' := [(0, .slice apA ap.length apC), (3, .slice b9 (Int.toNat (ap.length : Int)) (Int.toNat (ap.length : Int))), (4, .int .i64 0)]) ⟨rfl, rfl, rfl, trivial⟩), (St.pick (Γ' := [.own 2 1 b9 (Int.toNat (ap.length : Int)) (Int.toNat (ap.length : Int)) (List.replicate (Int.toNat (ap.length : Int)) 0), .rd 1 apA ap.length apC ap]) hS13 [0, 1] (by decide) rfl)⟩
   ·
    clear hE20 hS13
    rintro r31 a22 w23 ⟨i4, out3, hT26, hr27, hi28, hi29, hi30, hE24, hS25⟩
    obtain ⟨r31, rfl⟩ : ∃ r', r31 = r' + 1 := ⟨r31 - 1, by omega⟩
    refine c_seq ?_
    refine c_seq ?_
    refine c_reg ?_
    refine q_step (v := .int .i64 i4) hE24 (y_move rfl) rfl rfl rfl ?_; intro a32 hE33; clear hE24
    refine q_step (v := .slice apA ap.length apC) hE33 (y_move rfl) rfl rfl rfl ?_; intro a34 hE35; clear hE33
    refine q_step (v := .int .i64 (ap.length : Int)) hE35 (y_len (e := 2) (by kernel_rfl) rfl) rfl rfl rfl ?_; intro a36 hE37; clear hE35
    refine q_step (v := .bool (decide (i4 < (ap.length : Int)))) hE37 (y_lss rfl rfl) rfl rfl rfl ?_; intro a38 hE39; clear hE37
    refine c_nil ?_
    have hE40 := hE39.sub (L' := [(0, .slice apA ap.length apC), (3, .slice b9 (Int.toNat (ap.length : Int)) (Int.toNat (ap.length : Int))), (4, .int .i64 i4), (12, .bool (decide (i4 < (ap.length : Int))))]) ⟨rfl, rfl, rfl, rfl, trivial⟩; clear hE39
    refine p_tn ?_
    refine c_cond hE40 rfl (fun ht41 => ?_) (fun ht41 => ?_)
    ·
     have hp42 := of_decide_eq_true ht41
     have hE43 := hE40; rw [ht41] at hE43; clear hE40
     refine wp_skip ?_
     refine p_tn ?_
     refine c_seq ?_
     refine wp_block ?_
     refine c_seq ?_
     refine c_reg ?_
     refine q_step (v := .int .i64 0) hE43 (y_assign rfl) rfl rfl rfl ?_; intro a44 hE45; clear hE43
     refine c_nil ?_
     have hE46 := hE45.sub (L' := [(0, .slice apA ap.length apC), (3, .slice b9 (Int.toNat (ap.length : Int)) (Int.toNat (ap.length : Int))), (4, .int .i64 i4), (5, .int .i64 0)]) ⟨rfl, rfl, rfl, rfl, trivial⟩; clear hE45
     refine p_tn ?_
     refine c_cut1 (fun a' w' => (0 ≤ ((F_l01Inverse_L2 ap i4 (Int.toNat ((ap.length : Int) - 0) + 1) 0 out3).1)) ∧ ((((F_l01Inverse_L2 ap i4 (Int.toNat ((ap.length : Int) - 0) + 1) 0 out3).2).length : Int) = (ap.length : Int)) ∧ (((F_l01Inverse_L2 ap i4 (Int.toNat ((ap.length : Int) - 0) + 1) 0 out3).1) ≤ (ap.length : Int)) ∧ E a' 38 [(0, .slice apA ap.length apC), (3, .slice b9 (Int.toNat (ap.length : Int)) (Int.toNat (ap.length : Int))), (4, .int .i64 i4), (5, .int .i64 ((F_l01Inverse_L2 ap i4 (Int.toNat ((ap.length : Int) - 0) + 1) 0 out3).1))] ∧ St w w' [.own 2 1 b9 (Int.toNat (ap.length : Int)) (Int.toNat (ap.length : Int)) ((F_l01Inverse_L2 ap i4 (Int.toNat ((ap.length : Int) - 0) + 1) 0 out3).2), .rd 1 apA ap.length apC ap]) ?_ ?_
     ·
      refine wp_block ?_
      refine c_loop (fun r a' w' => ∃ j5L2 : Int, ∃ out3L2 : List Int, F_l01Inverse_L2 ap i4 r j5L2 out3L2 = F_l01Inverse_L2 ap i4 (Int.toNat ((ap.length : Int) - 0) + 1) 0 out3 ∧ Int.toNat ((ap.length : Int) - j5L2) < r ∧ (0 ≤ j5L2) ∧ ((out3L2.length : Int) = (ap.length : Int)) ∧ (j5L2 ≤ (ap.length : Int)) ∧ E a' 38 [(0, .slice apA ap.length apC), (3, .slice b9 (Int.toNat (ap.length : Int)) (Int.toNat (ap.length : Int))), (4, .int .i64 i4), (5, .int .i64 j5L2)] ∧ St w w' [.own 2 1 b9 (Int.toNat (ap.length : Int)) (Int.toNat (ap.length : Int)) out3L2, .rd 1 apA ap.length apC ap]) (r := (Int.toNat ((ap.length : Int) - 0) + 1)) ?_ ?_
      · exact ⟨0, out3, rfl, Nat.lt_succ_self _, (by first | omega | (simp only [sS_len, sL_len]; omega) | (simp only [List.length_replicate, sI_len]; omega) | (simp only [List.length_append, List.length_cons, List.length_nil, sI_len, cond_true, cond_false]; omega) | (simp only [List.length_append, List.length_cons, List.length_nil, sI_len, cond_eq_ite, apply_ite List.length]; split <;> simp only [List.length_append, List.length_cons, List.length_nil, sI_len] <;> omega) | grind), (by first | omega | (simp only [sS_len, sL_len]; omega) | (simp only [List.length_replicate, sI_len]; omega) | (simp only [List.length_append, List.length_cons, List.length_nil, sI_len, cond_true, cond_false]; omega) | (simp only [List.length_append, List.length_cons, List.length_nil, sI_len, cond_eq_ite, apply_ite List.length]; split <;> simp only [List.length_append, List.length_cons, List.length_nil, sI_len] <;> omega) | grind), (by first | omega | (simp only [sS_len, sL_len]; omega) | (simp only [List.length_replicate, sI_len]; omega) | (simp only [List.length_append, List.length_cons, List.length_nil, sI_len, cond_true, cond_false]; omega) | (simp only [List.length_append, List.length_cons, List.length_nil, sI_len, cond_eq_ite, apply_ite List.length]; split <;> simp only [List.length_append, List.length_cons, List.length_nil, sI_len] <;> omega) | grind), (hE46.sub (L' := [(0, .slice apA ap.length apC), (3, .slice b9 (Int.toNat (ap.length : Int)) (Int.toNat (ap.length : Int))), (4, .int .i64 i4), (5, .int .i64 0)]) ⟨rfl, rfl, rfl, rfl, trivial⟩), (St.pick (Γ' := [.own 2 1 b9 (Int.toNat (ap.length : Int)) (Int.toNat (ap.length : Int)) out3, .rd 1 apA ap.length apC ap]) hS25 [0, 1] (by decide) rfl)⟩
      ·
       clear hE46 hS25
       rintro r57 a48 w49 ⟨j5L2, out3L2, hT52, hr53, hi54, hi55, hi56, hE50, hS51⟩
       obtain ⟨r57, rfl⟩ : ∃ r', r57 = r' + 1 := ⟨r57 - 1, by omega⟩
       refine c_seq ?_
       refine c_seq ?_
       refine c_reg ?_
       refine q_step (v := .int .i64 j5L2) hE50 (y_move rfl) rfl rfl rfl ?_; intro a58 hE59; clear hE50
       refine q_step (v := .slice apA ap.length apC) hE59 (y_move rfl) rfl rfl rfl ?_; intro a60 hE61; clear hE59
       refine q_step (v := .int .i64 (ap.length : Int)) hE61 (y_len (e := 2) (by kernel_rfl) rfl) rfl rfl rfl ?_; intro a62 hE63; clear hE61
       refine q_step (v := .bool (decide (j5L2 < (ap.length : Int)))) hE63 (y_lss rfl rfl) rfl rfl rfl ?_; intro a64 hE65; clear hE63
       refine c_nil ?_
       have hE66 := hE65.sub (L' := [(0, .slice apA ap.length apC), (3, .slice b9 (Int.toNat (ap.length : Int)) (Int.toNat (ap.length : Int))), (4, .int .i64 i4), (5, .int .i64 j5L2), (18, .bool (decide (j5L2 < (ap.length : Int))))]) ⟨rfl, rfl, rfl, rfl, rfl, trivial⟩; clear hE65
       refine p_tn ?_
       refine c_cond hE66 rfl (fun ht67 => ?_) (fun ht67 => ?_)
       ·
        have hp68 := of_decide_eq_true ht67
        have hE69 := hE66; rw [ht67] at hE69; clear hE66
        refine wp_skip ?_
        refine p_tn ?_
        refine c_cut (fun a' w' => E a' 38 [(0, .slice apA ap.length apC), (3, .slice b9 (Int.toNat (ap.length : Int)) (Int.toNat (ap.length : Int))), (4, .int .i64 i4), (5, .int .i64 j5L2)] ∧ St w w' [.own 2 1 b9 (Int.toNat (ap.length : Int)) (Int.toNat (ap.length : Int)) (bif (F_l01Bit (gI ap j5L2) i4) then sI out3L2 i4 (orI (gI out3L2 i4) (powI j5L2)) else out3L2), .rd 1 apA ap.length apC ap]) ?_ ?_
        ·
         refine wp_block ?_
         refine c_seq ?_
         refine c_reg ?_
         refine q_step (v := .slice apA ap.length apC) hE69 (y_move rfl) rfl rfl rfl ?_; intro a70 hE71; clear hE69
         refine q_step (v := .int .i64 j5L2) hE71 (y_move rfl) rfl rfl rfl ?_; intro a72 hE73; clear hE71
         refine q_step (v := .pointer (some (adr apA (Int.toNat j5L2)))) hE73 (y_idx (by kernel_rfl) (fun _ => by kernel_rfl) rfl rfl (RdS.isS (m := j5L2) (St.rdR (i := 1) hS51 rfl) (by omega) (by omega)) (by omega) (by omega) (Nat.mul_one _).symm) rfl rfl rfl ?_; intro a74 hE75; clear hE73
         refine q_step (v := .int .i64 (gI ap j5L2)) hE75 (y_load (fun _ => by kernel_rfl) rfl (RdS.elt (St.rdR (i := 1) hS51 rfl) (by omega) (by omega))) rfl rfl rfl ?_; intro a76 hE77; clear hE75
         refine q_step (v := .int .i64 i4) hE77 (y_move rfl) rfl rfl rfl ?_; intro a78 hE79; clear hE77
         refine l_step hE79 rfl (l_call (f := 179) (argv := [.int .i64 (gI ap j5L2), .int .i64 i4]) hE79 (fun _ => cf_l01Bit _ _) rfl rfl (c_l01Bit (gI ap j5L2) i4 w49 (by omega) (by omega)) ?_)
         rintro _ _ ⟨rfl, rfl⟩ a82 hE83; clear hE79
         refine c_nil ?_
         have hE86 := hE83.sub (L' := [(0, .slice apA ap.length apC), (3, .slice b9 (Int.toNat (ap.length : Int)) (Int.toNat (ap.length : Int))), (4, .int .i64 i4), (5, .int .i64 j5L2), (26, .bool (F_l01Bit (gI ap j5L2) i4))]) ⟨rfl, rfl, rfl, rfl, rfl, trivial⟩; clear hE83
         refine p_tn ?_
         refine c_cond hE86 rfl (fun ht87 => ?_) (fun ht87 => ?_)
         ·
          have hE88 := hE86; rw [ht87] at hE88; clear hE86
          refine d_start (fun w w' => (fun w' => w'.cell? (adr b9 (Int.toNat i4)) = some (.int .i64 (gI out3L2 i4)) ∧ True) w → (fun w' => w'.cell? (adr b9 (Int.toNat i4)) = some (.int .i64 (gI out3L2 i4)) ∧ True) w') [5] 11 (by kernel_rfl) rfl ?_
          intro w89 he90; have hS91 := St.go hS51 he90; clear hS51
          refine d_pure (fun _ h => h) (v := .slice b9 (Int.toNat (ap.length : Int)) (Int.toNat (ap.length : Int))) 0 rfl hE88 (y_move rfl) rfl (by kernel_rfl) (by kernel_rfl) (by kernel_rfl) rfl rfl (fun _ _ _ h => h) ?_; intro a92 hE93; clear hE88
          refine d_pure (fun _ h => h) (v := .int .i64 i4) 1 rfl hE93 (y_move rfl) rfl (by kernel_rfl) (by kernel_rfl) (by kernel_rfl) rfl rfl (fun _ _ _ h => h) ?_; intro a94 hE95; clear hE93
          refine d_pure (fun _ h => h) (v := .slice b9 (Int.toNat (ap.length : Int)) (Int.toNat (ap.length : Int))) 2 rfl hE95 (y_move rfl) rfl (by kernel_rfl) (by kernel_rfl) (by kernel_rfl) rfl rfl (fun _ _ _ h => h) ?_; intro a96 hE97; clear hE95
          refine d_pure (fun _ h => h) (v := .int .i64 i4) 3 rfl hE97 (y_move rfl) rfl (by kernel_rfl) (by kernel_rfl) (by kernel_rfl) rfl rfl (fun _ _ _ h => h) ?_; intro a98 hE99; clear hE97
          refine d_pure (fun _ h => h) (v := .pointer (some (adr b9 (Int.toNat i4)))) 4 rfl hE99 (y_idx (by kernel_rfl) (fun _ => by kernel_rfl) rfl rfl (RdS.isS (m := i4) (St.rdO (i := 0) hS91 rfl) (by omega) (by omega)) (by omega) (by omega) (Nat.mul_one _).symm) rfl (by kernel_rfl) (by kernel_rfl) (by kernel_rfl) rfl rfl (fun _ _ _ h => h) ?_; intro a100 hE101; clear hE99
          refine d_take (fun _ h => h) (fun _ _ h k => h k) (v := .int .i64 (gI out3L2 i4)) 5 rfl hE101 (S := fun w' => w'.cell? (adr b9 (Int.toNat i4)) = some (.int .i64 (gI out3L2 i4)) ∧ True) ⟨(RdS.elt (St.rdO (i := 0) hS91 rfl) (by omega) (by omega) _ (Ext.refl _)), trivial⟩ (y_load (fun _ => by kernel_rfl) rfl (fun _ h => h.1)) rfl rfl (by kernel_rfl) (by kernel_rfl) (by kernel_rfl) (by kernel_rfl) rfl rfl (fun _ _ _ h => h) ?_; intro a102 hE103; clear hE101
          refine d_pure (fun _ h => h) (v := .int .i64 j5L2) 6 rfl hE103 (y_move rfl) rfl (by kernel_rfl) (by kernel_rfl) (by kernel_rfl) rfl rfl (fun _ _ _ h => h) ?_; intro a104 hE105; clear hE103
          refine d_only 7 (by kernel_rfl) rfl hE105 rfl (l_call (f := 164) (argv := [.int .i64 j5L2]) hE105 (fun _ => cf_l01One _ _) rfl rfl (d_l01One j5L2 w89 (by omega) (by omega)) ?_)
          rintro _ _ ⟨rfl, rfl⟩ a108 hE109; clear hE105
          refine ⟨fun _ _ => ⟨(RdS.elt (St.rdO (i := 0) hS91 rfl) (by omega) (by omega) _ (Ext.refl _)), trivial⟩, ?_⟩
          refine d_pure (fun _ h => h) (v := .int .i64 (orI (gI out3L2 i4) (powI j5L2))) 8 rfl hE109 (y_or rfl rfl) rfl (by kernel_rfl) (by kernel_rfl) (by kernel_rfl) rfl rfl (fun _ _ _ h => h) ?_; intro a112 hE113; clear hE109
          refine d_pure (fun _ h => h) (v := .pointer (some (adr b9 (Int.toNat i4)))) 9 rfl hE113 (y_idx (by kernel_rfl) (fun _ => by kernel_rfl) rfl rfl (RdS.isS (m := i4) (St.rdO (i := 0) hS91 rfl) (by omega) (by omega)) (by omega) (by omega) (Nat.mul_one _).symm) rfl (by kernel_rfl) (by kernel_rfl) (by kernel_rfl) rfl rfl (fun _ _ _ h => h) ?_; intro a114 hE115; clear hE113
          refine d_only 10 (by kernel_rfl) rfl hE115 rfl (l_store (k := 0) hS91 hE115 (fun _ => by kernel_rfl) rfl rfl rfl (by omega) (by omega) ?_)
          intro w117 hS120 a118 hE119; clear hS91 hE115
          refine ⟨fun h => Bool.noConfusion (h.symm.trans (show exm _ _ _ = true by kernel_rfl)), ?_⟩
          refine d_done (by kernel_rfl) ?_
          have hE122 := hE119.sub (L' := [(0, .slice apA ap.length apC), (3, .slice b9 (Int.toNat (ap.length : Int)) (Int.toNat (ap.length : Int))), (4, .int .i64 i4), (5, .int .i64 j5L2)]) ⟨rfl, rfl, rfl, rfl, trivial⟩; clear hE119
          refine p_bn ?_
          refine p_tn ?_
          have hE123 := hE122.sub (L' := [(0, .slice apA ap.length apC), (3, .slice b9 (Int.toNat (ap.length : Int)) (Int.toNat (ap.length : Int))), (4, .int .i64 i4), (5, .int .i64 j5L2)]) ⟨rfl, rfl, rfl, rfl, trivial⟩
          have hS124 := (St.pick (Γ' := [.own 2 1 b9 (Int.toNat (ap.length : Int)) (Int.toNat (ap.length : Int)) (sI out3L2 i4 (orI (gI out3L2 i4) (powI j5L2))), .rd 1 apA ap.length apC ap]) hS120 [0, 1] (by decide) rfl)
          exact ⟨hE123, (by rw [ht87]; exact hS124)⟩
         ·
          have hE125 := hE86; rw [ht87] at hE125; clear hE86
          refine wp_skip ?_
          refine p_bn ?_
          refine p_tn ?_
          have hE126 := hE125.sub (L' := [(0, .slice apA ap.length apC), (3, .slice b9 (Int.toNat (ap.length : Int)) (Int.toNat (ap.length : Int))), (4, .int .i64 i4), (5, .int .i64 j5L2)]) ⟨rfl, rfl, rfl, rfl, trivial⟩
          have hS127 := (St.pick (Γ' := [.own 2 1 b9 (Int.toNat (ap.length : Int)) (Int.toNat (ap.length : Int)) out3L2, .rd 1 apA ap.length apC ap]) hS51 [0, 1] (by decide) rfl)
          exact ⟨hE126, (by rw [ht87]; exact hS127)⟩
        ·
         rintro a128 w129 ⟨hE130, hS131⟩; clear hE69 hS51
         refine c_reg ?_
         refine q_step (v := .int .i64 j5L2) hE130 (y_move rfl) rfl rfl rfl ?_; intro a133 hE134; clear hE130
         refine q_step (v := .int .i64 (j5L2 + 1)) hE134 (y_add rfl rfl ⟨(by omega), (by omega)⟩) rfl rfl rfl ?_; intro a135 hE136; clear hE134
         refine q_step (v := .int .i64 (j5L2 + 1)) hE136 (y_assign rfl) rfl rfl rfl ?_; intro a137 hE138; clear hE136
         refine c_nil ?_
         have hE139 := hE138.sub (L' := [(0, .slice apA ap.length apC), (3, .slice b9 (Int.toNat (ap.length : Int)) (Int.toNat (ap.length : Int))), (4, .int .i64 i4), (5, .int .i64 (j5L2 + 1))]) ⟨rfl, rfl, rfl, rfl, trivial⟩; clear hE138
         have hl140 := (St.rdO (i := 0) hS131 rfl).len1
         refine p_tn ⟨r57, Nat.lt_succ_self _, j5L2 + 1, bif (F_l01Bit (gI ap j5L2) i4) then sI out3L2 i4 (orI (gI out3L2 i4) (powI j5L2)) else out3L2, (hT52.symm.trans (show F_l01Inverse_L2b ap i4 (F_l01Inverse_L2 ap i4 r57) j5L2 out3L2 = F_l01Inverse_L2 ap i4 r57 (j5L2 + 1) (bif (F_l01Bit (gI ap j5L2) i4) then sI out3L2 i4 (orI (gI out3L2 i4) (powI j5L2)) else out3L2) by unfold F_l01Inverse_L2b; rw [ht67]; first | done | rfl)).symm, (by omega), (by first | omega | (simp only [sS_len, sL_len]; omega) | (simp only [List.length_replicate, sI_len]; omega) | (simp only [List.length_append, List.length_cons, List.length_nil, sI_len, cond_true, cond_false]; omega) | (simp only [List.length_append, List.length_cons, List.length_nil, sI_len, cond_eq_ite, apply_ite List.length]; split <;> simp only [List.length_append, List.length_cons, List.length_nil, sI_len] <;> omega) | grind), (by first | omega | (simp only [sS_len, sL_len]; omega) | (simp only [List.length_replicate, sI_len]; omega) | (simp only [List.length_append, List.length_cons, List.length_nil, sI_len, cond_true, cond_false]; omega) | (simp only [List.length_append, List.length_cons, List.length_nil, sI_len, cond_eq_ite, apply_ite List.length]; split <;> simp only [List.length_append, List.length_cons, List.length_nil, sI_len] <;> omega) | grind), (by first | omega | (simp only [sS_len, sL_len]; omega) | (simp only [List.length_replicate, sI_len]; omega) | (simp only [List.length_append, List.length_cons, List.length_nil, sI_len, cond_true, cond_false]; omega) | (simp only [List.length_append, List.length_cons, List.length_nil, sI_len, cond_eq_ite, apply_ite List.length]; split <;> simp only [List.length_append, List.length_cons, List.length_nil, sI_len] <;> omega) | grind), (hE139.sub (L' := [(0, .slice apA ap.length apC), (3, .slice b9 (Int.toNat (ap.length : Int)) (Int.toNat (ap.length : Int))), (4, .int .i64 i4), (5, .int .i64 (j5L2 + 1))]) ⟨rfl, rfl, rfl, rfl, trivial⟩), (St.pick (Γ' := [.own 2 1 b9 (Int.toNat (ap.length : Int)) (Int.toNat (ap.length : Int)) (bif (F_l01Bit (gI ap j5L2) i4) then sI out3L2 i4 (orI (gI out3L2 i4) (powI j5L2)) else out3L2), .rd 1 apA ap.length apC ap]) hS131 [0, 1] (by decide) rfl)⟩
       ·
        have hp141 := of_decide_eq_false ht67
        have hE142 := hE66; rw [ht67] at hE142; clear hE66
        refine wp_exit ?_
        refine p_te ?_
        have hX143 : F_l01Inverse_L2 ap i4 (Int.toNat ((ap.length : Int) - 0) + 1) 0 out3 = (j5L2, out3L2) := hT52.symm.trans (show F_l01Inverse_L2b ap i4 (F_l01Inverse_L2 ap i4 r57) j5L2 out3L2 = (j5L2, out3L2) by unfold F_l01Inverse_L2b; rw [ht67]; first | done | rfl)
        refine p_te (p_be (p_tn ?_))
        exact ⟨(by rw [hX143]; exact (show 0 ≤ j5L2 from (by first | omega | (simp only [sS_len, sL_len]; omega) | (simp only [List.length_replicate, sI_len]; omega) | (simp only [List.length_append, List.length_cons, List.length_nil, sI_len, cond_true, cond_false]; omega) | (simp only [List.length_append, List.length_cons, List.length_nil, sI_len, cond_eq_ite, apply_ite List.length]; split <;> simp only [List.length_append, List.length_cons, List.length_nil, sI_len] <;> omega) | grind))), (by rw [hX143]; exact (show (out3L2.length : Int) = (ap.length : Int) from (by first | omega | (simp only [sS_len, sL_len]; omega) | (simp only [List.length_replicate, sI_len]; omega) | (simp only [List.length_append, List.length_cons, List.length_nil, sI_len, cond_true, cond_false]; omega) | (simp only [List.length_append, List.length_cons, List.length_nil, sI_len, cond_eq_ite, apply_ite List.length]; split <;> simp only [List.length_append, List.length_cons, List.length_nil, sI_len] <;> omega) | grind))), (by rw [hX143]; exact (show j5L2 ≤ (ap.length : Int) from (by first | omega | (simp only [sS_len, sL_len]; omega) | (simp only [List.length_replicate, sI_len]; omega) | (simp only [List.length_append, List.length_cons, List.length_nil, sI_len, cond_true, cond_false]; omega) | (simp only [List.length_append, List.length_cons, List.length_nil, sI_len, cond_eq_ite, apply_ite List.length]; split <;> simp only [List.length_append, List.length_cons, List.length_nil, sI_len] <;> omega) | grind))), (by rw [hX143]; exact (hE142.sub (L' := [(0, .slice apA ap.length apC), (3, .slice b9 (Int.toNat (ap.length : Int)) (Int.toNat (ap.length : Int))), (4, .int .i64 i4), (5, .int .i64 j5L2)]) ⟨rfl, rfl, rfl, rfl, trivial⟩)), (by rw [hX143]; exact (St.pick (Γ' := [.own 2 1 b9 (Int.toNat (ap.length : Int)) (Int.toNat (ap.length : Int)) out3L2, .rd 1 apA ap.length apC ap]) hS51 [0, 1] (by decide) rfl))⟩
     ·
      rintro a144 w145 ⟨hi149, hi150, hi151, hE146, hS147⟩; clear hE46 hS25
      refine p_bn ?_
      refine p_tn ?_
      refine c_reg ?_
      refine q_step (v := .int .i64 i4) hE146 (y_move rfl) rfl rfl rfl ?_; intro a152 hE153; clear hE146
      refine q_step (v := .int .i64 (i4 + 1)) hE153 (y_add rfl rfl ⟨(by omega), (by omega)⟩) rfl rfl rfl ?_; intro a154 hE155; clear hE153
      refine q_step (v := .int .i64 (i4 + 1)) hE155 (y_assign rfl) rfl rfl rfl ?_; intro a156 hE157; clear hE155
      refine c_nil ?_
      have hE158 := hE157.sub (L' := [(0, .slice apA ap.length apC), (3, .slice b9 (Int.toNat (ap.length : Int)) (Int.toNat (ap.length : Int))), (4, .int .i64 (i4 + 1))]) ⟨rfl, rfl, rfl, trivial⟩; clear hE157
      refine p_tn ⟨r31, Nat.lt_succ_self _, i4 + 1, (F_l01Inverse_L2 ap i4 (Int.toNat ((ap.length : Int) - 0) + 1) 0 out3).2, (hT26.symm.trans (show F_l01Inverse_L1b ap (F_l01Inverse_L1 ap r31) i4 out3 = F_l01Inverse_L1 ap r31 (i4 + 1) ((F_l01Inverse_L2 ap i4 (Int.toNat ((ap.length : Int) - 0) + 1) 0 out3).2) by unfold F_l01Inverse_L1b; rw [ht41]; first | done | rfl)).symm, (by omega), (by first | omega | (simp only [sS_len, sL_len]; omega) | (simp only [List.length_replicate, sI_len]; omega) | (simp only [List.length_append, List.length_cons, List.length_nil, sI_len, cond_true, cond_false]; omega) | (simp only [List.length_append, List.length_cons, List.length_nil, sI_len, cond_eq_ite, apply_ite List.length]; split <;> simp only [List.length_append, List.length_cons, List.length_nil, sI_len] <;> omega) | grind), (by first | omega | (simp only [sS_len, sL_len]; omega) | (simp only [List.length_replicate, sI_len]; omega) | (simp only [List.length_append, List.length_cons, List.length_nil, sI_len, cond_true, cond_false]; omega) | (simp only [List.length_append, List.length_cons, List.length_nil, sI_len, cond_eq_ite, apply_ite List.length]; split <;> simp only [List.length_append, List.length_cons, List.length_nil, sI_len] <;> omega) | grind), (by first | omega | (simp only [sS_len, sL_len]; omega) | (simp only [List.length_replicate, sI_len]; omega) | (simp only [List.length_append, List.length_cons, List.length_nil, sI_len, cond_true, cond_false]; omega) | (simp only [List.length_append, List.length_cons, List.length_nil, sI_len, cond_eq_ite, apply_ite List.length]; split <;> simp only [List.length_append, List.length_cons, List.length_nil, sI_len] <;> omega) | grind), (hE158.sub (L' := [(0, .slice apA ap.length apC), (3, .slice b9 (Int.toNat (ap.length : Int)) (Int.toNat (ap.length : Int))), (4, .int .i64 (i4 + 1))]) ⟨rfl, rfl, rfl, trivial⟩), (St.pick (Γ' := [.own 2 1 b9 (Int.toNat (ap.length : Int)) (Int.toNat (ap.length : Int)) ((F_l01Inverse_L2 ap i4 (Int.toNat ((ap.length : Int) - 0) + 1) 0 out3).2), .rd 1 apA ap.length apC ap]) hS147 [0, 1] (by decide) rfl)⟩
    ·
     have hp159 := of_decide_eq_false ht41
     have hE160 := hE40; rw [ht41] at hE160; clear hE40
     refine wp_exit ?_
     refine p_te ?_
     have hX161 : F_l01Inverse_L1 ap (Int.toNat ((ap.length : Int) - 0) + 1) 0 (List.replicate (Int.toNat (ap.length : Int)) 0) = (i4, out3) := hT26.symm.trans (show F_l01Inverse_L1b ap (F_l01Inverse_L1 ap r31) i4 out3 = (i4, out3) by unfold F_l01Inverse_L1b; rw [ht41]; first | done | rfl)
     refine p_te (p_be (p_tn ?_))
     exact ⟨(by rw [hX161]; exact (show 0 ≤ i4 from (by first | omega | (simp only [sS_len, sL_len]; omega) | (simp only [List.length_replicate, sI_len]; omega) | (simp only [List.length_append, List.length_cons, List.length_nil, sI_len, cond_true, cond_false]; omega) | (simp only [List.length_append, List.length_cons, List.length_nil, sI_len, cond_eq_ite, apply_ite List.length]; split <;> simp only [List.length_append, List.length_cons, List.length_nil, sI_len] <;> omega) | grind))), (by rw [hX161]; exact (show (out3.length : Int) = (ap.length : Int) from (by first | omega | (simp only [sS_len, sL_len]; omega) | (simp only [List.length_replicate, sI_len]; omega) | (simp only [List.length_append, List.length_cons, List.length_nil, sI_len, cond_true, cond_false]; omega) | (simp only [List.length_append, List.length_cons, List.length_nil, sI_len, cond_eq_ite, apply_ite List.length]; split <;> simp only [List.length_append, List.length_cons, List.length_nil, sI_len] <;> omega) | grind))), (by rw [hX161]; exact (show i4 ≤ (ap.length : Int) from (by first | omega | (simp only [sS_len, sL_len]; omega) | (simp only [List.length_replicate, sI_len]; omega) | (simp only [List.length_append, List.length_cons, List.length_nil, sI_len, cond_true, cond_false]; omega) | (simp only [List.length_append, List.length_cons, List.length_nil, sI_len, cond_eq_ite, apply_ite List.length]; split <;> simp only [List.length_append, List.length_cons, List.length_nil, sI_len] <;> omega) | grind))), (by rw [hX161]; exact (hE160.sub (L' := [(0, .slice apA ap.length apC), (3, .slice b9 (Int.toNat (ap.length : Int)) (Int.toNat (ap.length : Int))), (4, .int .i64 i4)]) ⟨rfl, rfl, rfl, trivial⟩)), (by rw [hX161]; exact (St.pick (Γ' := [.own 2 1 b9 (Int.toNat (ap.length : Int)) (Int.toNat (ap.length : Int)) out3, .rd 1 apA ap.length apC ap]) hS25 [0, 1] (by decide) rfl))⟩
  ·
   rintro a162 w163 ⟨hi167, hi168, hi169, hE164, hS165⟩; clear hE20 hS13
   refine p_tn ?_
   refine c_seq ?_
   refine c_reg ?_
   refine q_step (v := .slice b9 (Int.toNat (ap.length : Int)) (Int.toNat (ap.length : Int))) hE164 (y_move rfl) rfl rfl rfl ?_; intro a170 hE171; clear hE164
   refine q_step (v := .slice b9 (Int.toNat (ap.length : Int)) (Int.toNat (ap.length : Int))) hE171 (y_assign rfl) rfl rfl rfl ?_; intro a172 hE173; clear hE171
   refine c_nil ?_
   have hE174 := hE173.sub (L' := [(2, .slice b9 (Int.toNat (ap.length : Int)) (Int.toNat (ap.length : Int)))]) ⟨rfl, trivial⟩; clear hE173
   refine p_tn ?_
   refine wp_ret ?_
   have hF : F_l01Inverse ap = (F_l01Inverse_L1 ap (Int.toNat ((ap.length : Int) - 0) + 1) 0 (List.replicate (Int.toNat (ap.length : Int)) 0)).2 := by unfold F_l01Inverse; rfl
   refine c_ret1 hE174 rfl rfl ?_
   exact ⟨b9, Int.toNat (ap.length : Int), (by rw [hF]; first | rfl | (rw [(St.rdO (i := 0) hS165 rfl).len1])), (by rw [hF, (St.rdO (i := 0) hS165 rfl).len1]; (try dsimp only); exact hS165.ok 0 _ rfl), hS165.ext⟩
def F_inverse_L2b (ap : List Int) (t13 : Int) (rec : Int → (List Int) → Int × (List Int)) (t21L2 : Int) (out3L2 : List Int) : Int × (List Int) :=
  bif (decide (t21L2 < ((F_membersOf (gI ap t13)).length : Int))) then (rec (t21L2 + 1) (sI out3L2 (gI (F_membersOf (gI ap t13)) t21L2) (orI (gI out3L2 (gI (F_membersOf (gI ap t13)) t21L2)) (shlI 1 t13)))) else (t21L2, out3L2)
def F_inverse_L2 (ap : List Int) (t13 : Int) : Nat → Int → (List Int) → Int × (List Int)
  | 0, t21L2, out3L2 => (t21L2, out3L2)
  | r + 1, t21L2, out3L2 => F_inverse_L2b ap t13 (F_inverse_L2 ap t13 r) t21L2 out3L2
def F_inverse_L1b (ap : List Int) (rec : Int → (List Int) → Int × (List Int)) (t13 : Int) (out3 : List Int) : Int × (List Int) :=
  bif (decide (t13 < (ap.length : Int))) then (rec (t13 + 1) ((F_inverse_L2 ap t13 (Int.toNat (((F_membersOf (gI ap t13)).length : Int) - 0) + 1) 0 out3).2)) else (t13, out3)
def F_inverse_L1 (ap : List Int) : Nat → Int → (List Int) → Int × (List Int)
  | 0, t13, out3 => (t13, out3)
  | r + 1, t13, out3 => F_inverse_L1b ap (F_inverse_L1 ap r) t13 out3
def F_inverse (ap : List Int) : List Int :=
  (F_inverse_L1 ap (Int.toNat ((ap.length : Int) - 0) + 1) 0 (List.replicate (Int.toNat (ap.length : Int)) 0)).2
theorem cf_inverse (args : Array Value) (w : World) : (callFunc 188 args).run Try.prog w = .ok (.enter 188 args) w := by kernel_rfl
set_option maxRecDepth 100000 in
theorem c_inverse (apA : Option Addr) (apN apC : Nat) (ap : List Int) (w : World) (apR : RdS w 1 apA apN apC ap) (hl : ap.length ≤ 30) (hxa : ∀ m : Int, 0 ≤ m → m < (ap.length : Int) → 0 ≤ gI ap m ∧ gI ap m ≤ fullI (ap.length : Int)) :
    Calls Try.prog 188 #[.slice apA apN apC] w (Ret fun v w' => ∃ b1 : Option Addr, ∃ c1 : Nat, v = .slice b1 (F_inverse ap).length c1 ∧ OwnS w' w.heap.size 2 1 b1 (F_inverse ap).length c1 (F_inverse ap) ∧ Ext w w') := by
  obtain rfl : apN = ap.length := apR.len1.symm
  have apLe := apR.le
  have hf8 := fullI_bd (n := (ap.length : Int)) (by omega) (by omega)
  have hS := St.nil w
  have hS1 := St.rd0 hS rfl apR; clear hS
  refine enter (args := [.slice apA ap.length apC]) Try.func188 rfl rfl ?_
  rw [Try.ntmps188]; intro a hE
  have hE := hE.sub (L' := [(0, .slice apA ap.length apC)]) ⟨rfl, trivial⟩
  refine c_seq ?_
  refine c_reg ?_
  refine q_step (v := .slice none 0 0) hE (y_assign rfl) rfl rfl rfl ?_; intro a2 hE3; clear hE
  refine c_nil ?_
  have hE4 := hE3.sub (L' := [(0, .slice apA ap.length apC)]) ⟨rfl, trivial⟩; clear hE3
  refine p_tn ?_
  refine c_seq ?_
  refine c_reg ?_
  refine q_step (v := .slice apA ap.length apC) hE4 (y_move rfl) rfl rfl rfl ?_; intro a5 hE6; clear hE4
  refine q_step (v := .int .i64 (ap.length : Int)) hE6 (y_len (e := 2) (by kernel_rfl) rfl) rfl rfl rfl ?_; intro a7 hE8; clear hE6
  refine l_step hE8 rfl (l_make (e := 2) (m := (ap.length : Int)) hS1 hE8 (by kernel_rfl) (by kernel_rfl) rfl rfl (by omega) (by omega) rfl ?_)
  intro b9 w10 hS13 he14 a11 hE12; clear hS1 hE8
  refine q_step (v := .slice b9 (Int.toNat (ap.length : Int)) (Int.toNat (ap.length : Int))) hE12 (y_assign rfl) rfl rfl rfl ?_; intro a15 hE16; clear hE12
  refine c_nil ?_
  have hE17 := hE16.sub (L' := [(0, .slice apA ap.length apC), (3, .slice b9 (Int.toNat (ap.length : Int)) (Int.toNat (ap.length : Int)))]) ⟨rfl, rfl, trivial⟩; clear hE16
  refine p_tn ?_
  refine c_seq ?_
  refine c_seq ?_
  refine c_reg ?_
  refine q_step (v := .slice apA ap.length apC) hE17 (y_move rfl) rfl rfl rfl ?_; intro a18 hE19; clear hE17
  refine q_step (v := .int .i64 (ap.length : Int)) hE19 (y_len (e := 2) (by kernel_rfl) rfl) rfl rfl rfl ?_; intro a20 hE21; clear hE19
  refine q_step (v := .int .i64 0) hE21 (y_move rfl) rfl rfl rfl ?_; intro a22 hE23; clear hE21
  refine c_nil ?_
  have hE24 := hE23.sub (L' := [(3, .slice b9 (Int.toNat (ap.length : Int)) (Int.toNat (ap.length : Int))), (11, .slice apA ap.length apC), (12, .int .i64 (ap.length : Int)), (13, .int .i64 0)]) ⟨rfl, rfl, rfl, rfl, trivial⟩; clear hE23
  refine p_tn ?_
  refine c_cut1 (fun a' w' => (0 ≤ ((F_inverse_L1 ap (Int.toNat ((ap.length : Int) - 0) + 1) 0 (List.replicate (Int.toNat (ap.length : Int)) 0)).1)) ∧ ((((F_inverse_L1 ap (Int.toNat ((ap.length : Int) - 0) + 1) 0 (List.replicate (Int.toNat (ap.length : Int)) 0)).2).length : Int) = (ap.length : Int)) ∧ (((F_inverse_L1 ap (Int.toNat ((ap.length : Int) - 0) + 1) 0 (List.replicate (Int.toNat (ap.length : Int)) 0)).1) ≤ (ap.length : Int)) ∧ E a' 36 [(3, .slice b9 (Int.toNat (ap.length : Int)) (Int.toNat (ap.length : Int))), (11, .slice apA ap.length apC), (12, .int .i64 (ap.length : Int)), (13, .int .i64 ((F_inverse_L1 ap (Int.toNat ((ap.length : Int) - 0) + 1) 0 (List.replicate (Int.toNat (ap.length : Int)) 0)).1))] ∧ St w w' [.own 2 1 b9 (Int.toNat (ap.length : Int)) (Int.toNat (ap.length : Int)) ((F_inverse_L1 ap (Int.toNat ((ap.length : Int) - 0) + 1) 0 (List.replicate (Int.toNat (ap.length : Int)) 0)).2), .rd 1 apA ap.length apC ap]) ?_ ?_
  ·
   refine wp_block ?_
   refine c_loop (fun r a' w' => ∃ t13 : Int, ∃ out3 : List Int, F_inverse_L1 ap r t13 out3 = F_inverse_L1 ap (Int.toNat ((ap.length : Int) - 0) + 1) 0 (List.replicate (Int.toNat (ap.length : Int)) 0) ∧ Int.toNat ((ap.length : Int) - t13) < r ∧ (0 ≤ t13) ∧ ((out3.length : Int) = (ap.length : Int)) ∧ (t13 ≤ (ap.length : Int)) ∧ E a' 36 [(3, .slice b9 (Int.toNat (ap.length : Int)) (Int.toNat (ap.length : Int))), (11, .slice apA ap.length apC), (12, .int .i64 (ap.length : Int)), (13, .int .i64 t13)] ∧ St w w' [.own 2 1 b9 (Int.toNat (ap.length : Int)) (Int.toNat (ap.length : Int)) out3, .rd 1 apA ap.length apC ap]) (r := (Int.toNat ((ap.length : Int) - 0) + 1)) ?_ ?_
   · exact ⟨0, List.replicate (Int.toNat (ap.length : Int)) 0, rfl, Nat.lt_succ_self _, (by first | omega | (simp only [sS_len, sL_len]; omega) | (simp only [List.length_replicate, sI_len]; omega) | (simp only [List.length_append, List.length_cons, List.length_nil, sI_len, cond_true, cond_false]; omega) | (simp only [List.length_append, List.length_cons, List.length_nil, sI_len, cond_eq_ite, apply_ite List.length]; split <;> simp only [List.length_append, List.length_cons, List.length_nil, sI_len] <;> omega) | grind), (by first | omega | (simp only [sS_len, sL_len]; omega) | (simp only [List.length_replicate, sI_len]; omega) | (simp only [List.length_append, List.length_cons, List.length_nil, sI_len, cond_true, cond_false]; omega) | (simp only [List.length_append, List.length_cons, List.length_nil, sI_len, cond_eq_ite, apply_ite List.length]; split <;> simp only [List.length_append, List.length_cons, List.length_nil, sI_len] <;> omega) | grind), (by first | omega | (simp only [sS_len, sL_len]; omega) | (simp only [List.length_replicate, sI_len]; omega) | (simp only [List.length_append, List.length_cons, List.length_nil, sI_len, cond_true, cond_false]; omega) | (simp only [List.length_append, List.length_cons, List.length_nil, sI_len, cond_eq_ite, apply_ite List.length]; split <;> simp only [List.length_append, List.length_cons, List.length_nil, sI_len] <;> omega) | grind), (hE24.sub (L' := [(3, .slice b9 (Int.toNat (ap.length : Int)) (Int.toNat (ap.length : Int))), (11, .slice apA ap.length apC), (12, .int .i64 (ap.length : Int)), (13, .int .i64 0)]) ⟨rfl, rfl, rfl, rfl, trivial⟩), (St.pick (Γ' := [.own 2 1 b9 (Int.toNat (ap.length : Int)) (Int.toNat (ap.length : Int)) (List.replicate (Int.toNat (ap.length : Int)) 0), .rd 1 apA ap.length apC ap]) hS13 [0, 1] (by decide) rfl)⟩
   ·
    clear hE24 hS13
    rintro r35 a26 w27 ⟨t13, out3, hT30, hr31, hi32, hi33, hi34, hE28, hS29⟩
    obtain ⟨r35, rfl⟩ : ∃ r', r35 = r' + 1 := ⟨r35 - 1, by omega⟩
    refine c_seq ?_
    refine c_reg ?_
    refine q_step (v := .bool (decide (t13 < (ap.length : Int)))) hE28 (y_lss rfl rfl) rfl rfl rfl ?_; intro a36 hE37; clear hE28
    refine c_nil ?_
    have hE38 := hE37.sub (L' := [(3, .slice b9 (Int.toNat (ap.length : Int)) (Int.toNat (ap.length : Int))), (11, .slice apA ap.length apC), (12, .int .i64 (ap.length : Int)), (13, .int .i64 t13), (14, .bool (decide (t13 < (ap.length : Int))))]) ⟨rfl, rfl, rfl, rfl, rfl, trivial⟩; clear hE37
    refine p_tn ?_
    refine c_seq ?_
    refine c_cond hE38 rfl (fun ht39 => ?_) (fun ht39 => ?_)
    ·
     have hp40 := of_decide_eq_true ht39
     have hE41 := hE38; rw [ht39] at hE41; clear hE38
     have hx1 := hxa t13 (by omega) (by omega)
     have hml := members_len (mask := gI ap t13) (n := ap.length) (by omega) hx1.1 hx1.2
     refine wp_skip ?_
     refine p_tn ?_
     refine c_seq ?_
     refine wp_block ?_
     refine c_seq ?_
     refine c_reg ?_
     refine q_step (v := .int .i64 t13) hE41 (y_move rfl) rfl rfl rfl ?_; intro a42 hE43; clear hE41
     refine q_step (v := .pointer (some (adr apA (Int.toNat t13)))) hE43 (y_idx (by kernel_rfl) (fun _ => by kernel_rfl) rfl rfl (RdS.isS (m := t13) (St.rdR (i := 1) hS29 rfl) (by omega) (by omega)) (by omega) (by omega) (Nat.mul_one _).symm) rfl rfl rfl ?_; intro a44 hE45; clear hE43
     refine q_step (v := .int .i64 (gI ap t13)) hE45 (y_load (fun _ => by kernel_rfl) rfl (RdS.elt (St.rdR (i := 1) hS29 rfl) (by omega) (by omega))) rfl rfl rfl ?_; intro a46 hE47; clear hE45
     refine q_step (v := .int .i64 t13) hE47 (y_assign rfl) rfl rfl rfl ?_; intro a48 hE49; clear hE47
     refine q_step (v := .int .i64 (gI ap t13)) hE49 (y_assign rfl) rfl rfl rfl ?_; intro a50 hE51; clear hE49
     refine c_nil ?_
     have hE52 := hE51.sub (L' := [(3, .slice b9 (Int.toNat (ap.length : Int)) (Int.toNat (ap.length : Int))), (4, .int .i64 t13), (5, .int .i64 (gI ap t13)), (11, .slice apA ap.length apC), (12, .int .i64 (ap.length : Int)), (13, .int .i64 t13)]) ⟨rfl, rfl, rfl, rfl, rfl, rfl, trivial⟩; clear hE51
     refine p_tn ?_
     refine c_seq ?_
     refine c_reg ?_
     refine q_step (v := .int .i64 (gI ap t13)) hE52 (y_move rfl) rfl rfl rfl ?_; intro a53 hE54; clear hE52
     refine l_step hE54 rfl (l_call (f := 194) (argv := [.int .i64 (gI ap t13)]) hE54 (fun _ => cf_membersOf _ _) rfl rfl (c_membersOf (gI ap t13) w27 (by omega) (by omega)) ?_)
     rintro _ w56 ⟨b61, c62, rfl, ho63, he60⟩ a57 hE58; clear hE54
     have hS59 := St.own hS29 he60 ho63; clear hS29
     refine q_step (v := .int .i64 ((F_membersOf (gI ap t13)).length : Int)) hE58 (y_len (e := 2) (by kernel_rfl) rfl) rfl rfl rfl ?_; intro a64 hE65; clear hE58
     refine q_step (v := .int .i64 0) hE65 (y_move rfl) rfl rfl rfl ?_; intro a66 hE67; clear hE65
     refine c_nil ?_
     have hE68 := hE67.sub (L' := [(3, .slice b9 (Int.toNat (ap.length : Int)) (Int.toNat (ap.length : Int))), (4, .int .i64 t13), (11, .slice apA ap.length apC), (12, .int .i64 (ap.length : Int)), (13, .int .i64 t13), (19, .slice b61 ((F_membersOf (gI ap t13)).length) c62), (20, .int .i64 ((F_membersOf (gI ap t13)).length : Int)), (21, .int .i64 0)]) ⟨rfl, rfl, rfl, rfl, rfl, rfl, rfl, rfl, trivial⟩; clear hE67
     refine p_tn ?_
     refine c_cut1 (fun a' w' => (0 ≤ ((F_inverse_L2 ap t13 (Int.toNat (((F_membersOf (gI ap t13)).length : Int) - 0) + 1) 0 out3).1)) ∧ ((((F_inverse_L2 ap t13 (Int.toNat (((F_membersOf (gI ap t13)).length : Int) - 0) + 1) 0 out3).2).length : Int) = (ap.length : Int)) ∧ (((F_inverse_L2 ap t13 (Int.toNat (((F_membersOf (gI ap t13)).length : Int) - 0) + 1) 0 out3).1) ≤ ((F_membersOf (gI ap t13)).length : Int)) ∧ E a' 36 [(3, .slice b9 (Int.toNat (ap.length : Int)) (Int.toNat (ap.length : Int))), (4, .int .i64 t13), (11, .slice apA ap.length apC), (12, .int .i64 (ap.length : Int)), (13, .int .i64 t13), (19, .slice b61 ((F_membersOf (gI ap t13)).length) c62), (20, .int .i64 ((F_membersOf (gI ap t13)).length : Int)), (21, .int .i64 ((F_inverse_L2 ap t13 (Int.toNat (((F_membersOf (gI ap t13)).length : Int) - 0) + 1) 0 out3).1))] ∧ St w w' [.own 2 1 b61 ((F_membersOf (gI ap t13)).length) c62 (F_membersOf (gI ap t13)), .own 2 1 b9 (Int.toNat (ap.length : Int)) (Int.toNat (ap.length : Int)) ((F_inverse_L2 ap t13 (Int.toNat (((F_membersOf (gI ap t13)).length : Int) - 0) + 1) 0 out3).2), .rd 1 apA ap.length apC ap]) ?_ ?_
     ·
      refine wp_block ?_
      refine c_loop (fun r a' w' => ∃ t21L2 : Int, ∃ out3L2 : List Int, F_inverse_L2 ap t13 r t21L2 out3L2 = F_inverse_L2 ap t13 (Int.toNat (((F_membersOf (gI ap t13)).length : Int) - 0) + 1) 0 out3 ∧ Int.toNat (((F_membersOf (gI ap t13)).length : Int) - t21L2) < r ∧ (0 ≤ t21L2) ∧ ((out3L2.length : Int) = (ap.length : Int)) ∧ (t21L2 ≤ ((F_membersOf (gI ap t13)).length : Int)) ∧ E a' 36 [(3, .slice b9 (Int.toNat (ap.length : Int)) (Int.toNat (ap.length : Int))), (4, .int .i64 t13), (11, .slice apA ap.length apC), (12, .int .i64 (ap.length : Int)), (13, .int .i64 t13), (19, .slice b61 ((F_membersOf (gI ap t13)).length) c62), (20, .int .i64 ((F_membersOf (gI ap t13)).length : Int)), (21, .int .i64 t21L2)] ∧ St w w' [.own 2 1 b61 ((F_membersOf (gI ap t13)).length) c62 (F_membersOf (gI ap t13)), .own 2 1 b9 (Int.toNat (ap.length : Int)) (Int.toNat (ap.length : Int)) out3L2, .rd 1 apA ap.length apC ap]) (r := (Int.toNat (((F_membersOf (gI ap t13)).length : Int) - 0) + 1)) ?_ ?_
      · exact ⟨0, out3, rfl, Nat.lt_succ_self _, (by first | omega | (simp only [sS_len, sL_len]; omega) | (simp only [List.length_replicate, sI_len]; omega) | (simp only [List.length_append, List.length_cons, List.length_nil, sI_len, cond_true, cond_false]; omega) | (simp only [List.length_append, List.length_cons, List.length_nil, sI_len, cond_eq_ite, apply_ite List.length]; split <;> simp only [List.length_append, List.length_cons, List.length_nil, sI_len] <;> omega) | grind), (by first | omega | (simp only [sS_len, sL_len]; omega) | (simp only [List.length_replicate, sI_len]; omega) | (simp only [List.length_append, List.length_cons, List.length_nil, sI_len, cond_true, cond_false]; omega) | (simp only [List.length_append, List.length_cons, List.length_nil, sI_len, cond_eq_ite, apply_ite List.length]; split <;> simp only [List.length_append, List.length_cons, List.length_nil, sI_len] <;> omega) | grind), (by first | omega | (simp only [sS_len, sL_len]; omega) | (simp only [List.length_replicate, sI_len]; omega) | (simp only [List.length_append, List.length_cons, List.length_nil, sI_len, cond_true, cond_false]; omega) | (simp only [List.length_append, List.length_cons, List.length_nil, sI_len, cond_eq_ite, apply_ite List.length]; split <;> simp only [List.length_append, List.length_cons, List.length_nil, sI_len] <;> omega) | grind), (hE68.sub (L' := [(3, .slice b9 (Int.toNat (ap.length : Int)) (Int.toNat (ap.length : Int))), (4, .int .i64 t13), (11, .slice apA ap.length apC), (12, .int .i64 (ap.length : Int)), (13, .int .i64 t13), (19, .slice b61 ((F_membersOf (gI ap t13)).length) c62), (20, .int .i64 ((F_membersOf (gI ap t13)).length : Int)), (21, .int .i64 0)]) ⟨rfl, rfl, rfl, rfl, rfl, rfl, rfl, rfl, trivial⟩), (St.pick (Γ' := [.own 2 1 b61 ((F_membersOf (gI ap t13)).length) c62 (F_membersOf (gI ap t13)), .own 2 1 b9 (Int.toNat (ap.length : Int)) (Int.toNat (ap.length : Int)) out3, .rd 1 apA ap.length apC ap]) hS59 [0, 1, 2] (by decide) rfl)⟩
      ·
       clear hE68 hS59
       rintro r79 a70 w71 ⟨t21L2, out3L2, hT74, hr75, hi76, hi77, hi78, hE72, hS73⟩
       obtain ⟨r79, rfl⟩ : ∃ r', r79 = r' + 1 := ⟨r79 - 1, by omega⟩
       refine c_seq ?_
       refine c_reg ?_
       refine q_step (v := .bool (decide (t21L2 < ((F_membersOf (gI ap t13)).length : Int)))) hE72 (y_lss rfl rfl) rfl rfl rfl ?_; intro a80 hE81; clear hE72
       refine c_nil ?_
       have hE82 := hE81.sub (L' := [(3, .slice b9 (Int.toNat (ap.length : Int)) (Int.toNat (ap.length : Int))), (4, .int .i64 t13), (11, .slice apA ap.length apC), (12, .int .i64 (ap.length : Int)), (13, .int .i64 t13), (19, .slice b61 ((F_membersOf (gI ap t13)).length) c62), (20, .int .i64 ((F_membersOf (gI ap t13)).length : Int)), (21, .int .i64 t21L2), (22, .bool (decide (t21L2 < ((F_membersOf (gI ap t13)).length : Int))))]) ⟨rfl, rfl, rfl, rfl, rfl, rfl, rfl, rfl, rfl, trivial⟩; clear hE81
       refine p_tn ?_
       refine c_seq ?_
       refine c_cond hE82 rfl (fun ht83 => ?_) (fun ht83 => ?_)
       ·
        have hp84 := of_decide_eq_true ht83
        have hE85 := hE82; rw [ht83] at hE85; clear hE82
        have hx2 := members_lt (mask := gI ap t13) (n := ap.length) (by omega) hx1.1 hx1.2 t21L2 (by omega) (by omega)
        refine wp_skip ?_
        refine p_tn ?_
        refine c_seq ?_
        refine wp_block ?_
        refine c_seq ?_
        refine c_reg ?_
        refine q_step (v := .pointer (some (adr b61 (Int.toNat t21L2)))) hE85 (y_idx (by kernel_rfl) (fun _ => by kernel_rfl) rfl rfl (RdS.isS (m := t21L2) (St.rdO (i := 0) hS73 rfl) (by omega) (by omega)) (by omega) (by omega) (Nat.mul_one _).symm) rfl rfl rfl ?_; intro a86 hE87; clear hE85
        refine q_step (v := .int .i64 (gI (F_membersOf (gI ap t13)) t21L2)) hE87 (y_load (fun _ => by kernel_rfl) rfl (RdS.elt (St.rdO (i := 0) hS73 rfl) (by omega) (by omega))) rfl rfl rfl ?_; intro a88 hE89; clear hE87
        refine q_step (v := .int .i64 (gI (F_membersOf (gI ap t13)) t21L2)) hE89 (y_assign rfl) rfl rfl rfl ?_; intro a90 hE91; clear hE89
        refine c_nil ?_
        have hE92 := hE91.sub (L' := [(3, .slice b9 (Int.toNat (ap.length : Int)) (Int.toNat (ap.length : Int))), (4, .int .i64 t13), (7, .int .i64 (gI (F_membersOf (gI ap t13)) t21L2)), (11, .slice apA ap.length apC), (12, .int .i64 (ap.length : Int)), (13, .int .i64 t13), (19, .slice b61 ((F_membersOf (gI ap t13)).length) c62), (20, .int .i64 ((F_membersOf (gI ap t13)).length : Int)), (21, .int .i64 t21L2)]) ⟨rfl, rfl, rfl, rfl, rfl, rfl, rfl, rfl, rfl, trivial⟩; clear hE91
        refine p_tn ?_
        refine d_start (fun w w' => (fun w' => w'.cell? (adr b9 (Int.toNat (gI (F_membersOf (gI ap t13)) t21L2))) = some (.int .i64 (gI out3L2 (gI (F_membersOf (gI ap t13)) t21L2))) ∧ True) w → (fun w' => w'.cell? (adr b9 (Int.toNat (gI (F_membersOf (gI ap t13)) t21L2))) = some (.int .i64 (gI out3L2 (gI (F_membersOf (gI ap t13)) t21L2))) ∧ True) w') [3] 9 (by kernel_rfl) rfl ?_
        intro w93 he94; have hS95 := St.go hS73 he94; clear hS73
        refine d_pure (fun _ h => h) (v := .slice b9 (Int.toNat (ap.length : Int)) (Int.toNat (ap.length : Int))) 0 rfl hE92 (y_move rfl) rfl (by kernel_rfl) (by kernel_rfl) (by kernel_rfl) rfl rfl (fun _ _ _ h => h) ?_; intro a96 hE97; clear hE92
        refine d_pure (fun _ h => h) (v := .int .i64 (gI (F_membersOf (gI ap t13)) t21L2)) 1 rfl hE97 (y_move rfl) rfl (by kernel_rfl) (by kernel_rfl) (by kernel_rfl) rfl rfl (fun _ _ _ h => h) ?_; intro a98 hE99; clear hE97
        refine d_pure (fun _ h => h) (v := .pointer (some (adr b9 (Int.toNat (gI (F_membersOf (gI ap t13)) t21L2))))) 2 rfl hE99 (y_idx (by kernel_rfl) (fun _ => by kernel_rfl) rfl rfl (RdS.isS (m := gI (F_membersOf (gI ap t13)) t21L2) (St.rdO (i := 1) hS95 rfl) (by omega) (by omega)) (by omega) (by omega) (Nat.mul_one _).symm) rfl (by kernel_rfl) (by kernel_rfl) (by kernel_rfl) rfl rfl (fun _ _ _ h => h) ?_; intro a100 hE101; clear hE99
        refine d_take (fun _ h => h) (fun _ _ h k => h k) (v := .int .i64 (gI out3L2 (gI (F_membersOf (gI ap t13)) t21L2))) 3 rfl hE101 (S := fun w' => w'.cell? (adr b9 (Int.toNat (gI (F_membersOf (gI ap t13)) t21L2))) = some (.int .i64 (gI out3L2 (gI (F_membersOf (gI ap t13)) t21L2))) ∧ True) ⟨(RdS.elt (St.rdO (i := 1) hS95 rfl) (by omega) (by omega) _ (Ext.refl _)), trivial⟩ (y_load (fun _ => by kernel_rfl) rfl (fun _ h => h.1)) rfl rfl (by kernel_rfl) (by kernel_rfl) (by kernel_rfl) (by kernel_rfl) rfl rfl (fun _ _ _ h => h) ?_; intro a102 hE103; clear hE101
        refine d_pure (fun _ h => h) (v := .int .i64 t13) 4 rfl hE103 (y_move rfl) rfl (by kernel_rfl) (by kernel_rfl) (by kernel_rfl) rfl rfl (fun _ _ _ h => h) ?_; intro a104 hE105; clear hE103
        refine d_pure (fun _ h => h) (v := .int .i64 (shlI 1 t13)) 5 rfl hE105 (y_shl rfl rfl (by omega)) rfl (by kernel_rfl) (by kernel_rfl) (by kernel_rfl) rfl rfl (fun _ _ _ h => h) ?_; intro a106 hE107; clear hE105
        refine d_pure (fun _ h => h) (v := .int .i64 (orI (gI out3L2 (gI (F_membersOf (gI ap t13)) t21L2)) (shlI 1 t13))) 6 rfl hE107 (y_or rfl rfl) rfl (by kernel_rfl) (by kernel_rfl) (by kernel_rfl) rfl rfl (fun _ _ _ h => h) ?_; intro a108 hE109; clear hE107
        refine d_pure (fun _ h => h) (v := .pointer (some (adr b9 (Int.toNat (gI (F_membersOf (gI ap t13)) t21L2))))) 7 rfl hE109 (y_idx (by kernel_rfl) (fun _ => by kernel_rfl) rfl rfl (RdS.isS (m := gI (F_membersOf (gI ap t13)) t21L2) (St.rdO (i := 1) hS95 rfl) (by omega) (by omega)) (by omega) (by omega) (Nat.mul_one _).symm) rfl (by kernel_rfl) (by kernel_rfl) (by kernel_rfl) rfl rfl (fun _ _ _ h => h) ?_; intro a110 hE111; clear hE109
        refine d_only 8 (by kernel_rfl) rfl hE111 rfl (l_store (k := 1) hS95 hE111 (fun _ => by kernel_rfl) rfl rfl rfl (by omega) (by omega) ?_)
        intro w113 hS116 a114 hE115; clear hS95 hE111
        refine ⟨fun h => Bool.noConfusion (h.symm.trans (show exm _ _ _ = true by kernel_rfl)), ?_⟩
        refine d_done (by kernel_rfl) ?_
        have hE118 := hE115.sub (L' := [(3, .slice b9 (Int.toNat (ap.length : Int)) (Int.toNat (ap.length : Int))), (4, .int .i64 t13), (11, .slice apA ap.length apC), (12, .int .i64 (ap.length : Int)), (13, .int .i64 t13), (19, .slice b61 ((F_membersOf (gI ap t13)).length) c62), (20, .int .i64 ((F_membersOf (gI ap t13)).length : Int)), (21, .int .i64 t21L2)]) ⟨rfl, rfl, rfl, rfl, rfl, rfl, rfl, rfl, trivial⟩; clear hE115
        refine p_bn ?_
        refine p_tn ?_
        refine c_reg ?_
        refine q_step (v := .int .i64 (t21L2 + 1)) hE118 (y_add rfl rfl ⟨(by omega), (by omega)⟩) rfl rfl rfl ?_; intro a119 hE120; clear hE118
        refine q_step (v := .int .i64 (t21L2 + 1)) hE120 (y_move rfl) rfl rfl rfl ?_; intro a121 hE122; clear hE120
        refine c_nil ?_
        have hE123 := hE122.sub (L' := [(3, .slice b9 (Int.toNat (ap.length : Int)) (Int.toNat (ap.length : Int))), (4, .int .i64 t13), (11, .slice apA ap.length apC), (12, .int .i64 (ap.length : Int)), (13, .int .i64 t13), (19, .slice b61 ((F_membersOf (gI ap t13)).length) c62), (20, .int .i64 ((F_membersOf (gI ap t13)).length : Int)), (21, .int .i64 (t21L2 + 1))]) ⟨rfl, rfl, rfl, rfl, rfl, rfl, rfl, rfl, trivial⟩; clear hE122
        refine p_tn ⟨r79, Nat.lt_succ_self _, t21L2 + 1, sI out3L2 (gI (F_membersOf (gI ap t13)) t21L2) (orI (gI out3L2 (gI (F_membersOf (gI ap t13)) t21L2)) (shlI 1 t13)), (hT74.symm.trans (show F_inverse_L2b ap t13 (F_inverse_L2 ap t13 r79) t21L2 out3L2 = F_inverse_L2 ap t13 r79 (t21L2 + 1) (sI out3L2 (gI (F_membersOf (gI ap t13)) t21L2) (orI (gI out3L2 (gI (F_membersOf (gI ap t13)) t21L2)) (shlI 1 t13))) by unfold F_inverse_L2b; rw [ht83]; first | done | rfl)).symm, (by omega), (by first | omega | (simp only [sS_len, sL_len]; omega) | (simp only [List.length_replicate, sI_len]; omega) | (simp only [List.length_append, List.length_cons, List.length_nil, sI_len, cond_true, cond_false]; omega) | (simp only [List.length_append, List.length_cons, List.length_nil, sI_len, cond_eq_ite, apply_ite List.length]; split <;> simp only [List.length_append, List.length_cons, List.length_nil, sI_len] <;> omega) | grind), (by first | omega | (simp only [sS_len, sL_len]; omega) | (simp only [List.length_replicate, sI_len]; omega) | (simp only [List.length_append, List.length_cons, List.length_nil, sI_len, cond_true, cond_false]; omega) | (simp only [List.length_append, List.length_cons, List.length_nil, sI_len, cond_eq_ite, apply_ite List.length]; split <;> simp only [List.length_append, List.length_cons, List.length_nil, sI_len] <;> omega) | grind), (by first | omega | (simp only [sS_len, sL_len]; omega) | (simp only [List.length_replicate, sI_len]; omega) | (simp only [List.length_append, List.length_cons, List.length_nil, sI_len, cond_true, cond_false]; omega) | (simp only [List.length_append, List.length_cons, List.length_nil, sI_len, cond_eq_ite, apply_ite List.length]; split <;> simp only [List.length_append, List.length_cons, List.length_nil, sI_len] <;> omega) | grind), (hE123.sub (L' := [(3, .slice b9 (Int.toNat (ap.length : Int)) (Int.toNat (ap.length : Int))), (4, .int .i64 t13), (11, .slice apA ap.length apC), (12, .int .i64 (ap.length : Int)), (13, .int .i64 t13), (19, .slice b61 ((F_membersOf (gI ap t13)).length) c62), (20, .int .i64 ((F_membersOf (gI ap t13)).length : Int)), (21, .int .i64 (t21L2 + 1))]) ⟨rfl, rfl, rfl, rfl, rfl, rfl, rfl, rfl, trivial⟩), (St.pick (Γ' := [.own 2 1 b61 ((F_membersOf (gI ap t13)).length) c62 (F_membersOf (gI ap t13)), .own 2 1 b9 (Int.toNat (ap.length : Int)) (Int.toNat (ap.length : Int)) (sI out3L2 (gI (F_membersOf (gI ap t13)) t21L2) (orI (gI out3L2 (gI (F_membersOf (gI ap t13)) t21L2)) (shlI 1 t13))), .rd 1 apA ap.length apC ap]) hS116 [0, 1, 2] (by decide) rfl)⟩
       ·
        have hp124 := of_decide_eq_false ht83
        have hE125 := hE82; rw [ht83] at hE125; clear hE82
        refine wp_exit ?_
        refine p_te ?_
        have hX126 : F_inverse_L2 ap t13 (Int.toNat (((F_membersOf (gI ap t13)).length : Int) - 0) + 1) 0 out3 = (t21L2, out3L2) := hT74.symm.trans (show F_inverse_L2b ap t13 (F_inverse_L2 ap t13 r79) t21L2 out3L2 = (t21L2, out3L2) by unfold F_inverse_L2b; rw [ht83]; first | done | rfl)
        refine p_te (p_be (p_tn ?_))
        exact ⟨(by rw [hX126]; exact (show 0 ≤ t21L2 from (by first | omega | (simp only [sS_len, sL_len]; omega) | (simp only [List.length_replicate, sI_len]; omega) | (simp only [List.length_append, List.length_cons, List.length_nil, sI_len, cond_true, cond_false]; omega) | (simp only [List.length_append, List.length_cons, List.length_nil, sI_len, cond_eq_ite, apply_ite List.length]; split <;> simp only [List.length_append, List.length_cons, List.length_nil, sI_len] <;> omega) | grind))), (by rw [hX126]; exact (show (out3L2.length : Int) = (ap.length : Int) from (by first | omega | (simp only [sS_len, sL_len]; omega) | (simp only [List.length_replicate, sI_len]; omega) | (simp only [List.length_append, List.length_cons, List.length_nil, sI_len, cond_true, cond_false]; omega) | (simp only [List.length_append, List.length_cons, List.length_nil, sI_len, cond_eq_ite, apply_ite List.length]; split <;> simp only [List.length_append, List.length_cons, List.length_nil, sI_len] <;> omega) | grind))), (by rw [hX126]; exact (show t21L2 ≤ ((F_membersOf (gI ap t13)).length : Int) from (by first | omega | (simp only [sS_len, sL_len]; omega) | (simp only [List.length_replicate, sI_len]; omega) | (simp only [List.length_append, List.length_cons, List.length_nil, sI_len, cond_true, cond_false]; omega) | (simp only [List.length_append, List.length_cons, List.length_nil, sI_len, cond_eq_ite, apply_ite List.length]; split <;> simp only [List.length_append, List.length_cons, List.length_nil, sI_len] <;> omega) | grind))), (by rw [hX126]; exact (hE125.sub (L' := [(3, .slice b9 (Int.toNat (ap.length : Int)) (Int.toNat (ap.length : Int))), (4, .int .i64 t13), (11, .slice apA ap.length apC), (12, .int .i64 (ap.length : Int)), (13, .int .i64 t13), (19, .slice b61 ((F_membersOf (gI ap t13)).length) c62), (20, .int .i64 ((F_membersOf (gI ap t13)).length : Int)), (21, .int .i64 t21L2)]) ⟨rfl, rfl, rfl, rfl, rfl, rfl, rfl, rfl, trivial⟩)), (by rw [hX126]; exact (St.pick (Γ' := [.own 2 1 b61 ((F_membersOf (gI ap t13)).length) c62 (F_membersOf (gI ap t13)), .own 2 1 b9 (Int.toNat (ap.length : Int)) (Int.toNat (ap.length : Int)) out3L2, .rd 1 apA ap.length apC ap]) hS73 [0, 1, 2] (by decide) rfl))⟩
     ·
      rintro a127 w128 ⟨hi132, hi133, hi134, hE129, hS130⟩; clear hE68 hS59
      refine p_bn ?_
      refine p_tn ?_
      refine c_reg ?_
      refine q_step (v := .int .i64 (t13 + 1)) hE129 (y_add rfl rfl ⟨(by omega), (by omega)⟩) rfl rfl rfl ?_; intro a135 hE136; clear hE129
      refine q_step (v := .int .i64 (t13 + 1)) hE136 (y_move rfl) rfl rfl rfl ?_; intro a137 hE138; clear hE136
      refine c_nil ?_
      have hE139 := hE138.sub (L' := [(3, .slice b9 (Int.toNat (ap.length : Int)) (Int.toNat (ap.length : Int))), (11, .slice apA ap.length apC), (12, .int .i64 (ap.length : Int)), (13, .int .i64 (t13 + 1))]) ⟨rfl, rfl, rfl, rfl, trivial⟩; clear hE138
      refine p_tn ⟨r35, Nat.lt_succ_self _, t13 + 1, (F_inverse_L2 ap t13 (Int.toNat (((F_membersOf (gI ap t13)).length : Int) - 0) + 1) 0 out3).2, (hT30.symm.trans (show F_inverse_L1b ap (F_inverse_L1 ap r35) t13 out3 = F_inverse_L1 ap r35 (t13 + 1) ((F_inverse_L2 ap t13 (Int.toNat (((F_membersOf (gI ap t13)).length : Int) - 0) + 1) 0 out3).2) by unfold F_inverse_L1b; rw [ht39]; first | done | rfl)).symm, (by omega), (by first | omega | (simp only [sS_len, sL_len]; omega) | (simp only [List.length_replicate, sI_len]; omega) | (simp only [List.length_append, List.length_cons, List.length_nil, sI_len, cond_true, cond_false]; omega) | (simp only [List.length_append, List.length_cons, List.length_nil, sI_len, cond_eq_ite, apply_ite List.length]; split <;> simp only [List.length_append, List.length_cons, List.length_nil, sI_len] <;> omega) | grind), (by first | omega | (simp only [sS_len, sL_len]; omega) | (simp only [List.length_replicate, sI_len]; omega) | (simp only [List.length_append, List.length_cons, List.length_nil, sI_len, cond_true, cond_false]; omega) | (simp only [List.length_append, List.length_cons, List.length_nil, sI_len, cond_eq_ite, apply_ite List.length]; split <;> simp only [List.length_append, List.length_cons, List.length_nil, sI_len] <;> omega) | grind), (by first | omega | (simp only [sS_len, sL_len]; omega) | (simp only [List.length_replicate, sI_len]; omega) | (simp only [List.length_append, List.length_cons, List.length_nil, sI_len, cond_true, cond_false]; omega) | (simp only [List.length_append, List.length_cons, List.length_nil, sI_len, cond_eq_ite, apply_ite List.length]; split <;> simp only [List.length_append, List.length_cons, List.length_nil, sI_len] <;> omega) | grind), (hE139.sub (L' := [(3, .slice b9 (Int.toNat (ap.length : Int)) (Int.toNat (ap.length : Int))), (11, .slice apA ap.length apC), (12, .int .i64 (ap.length : Int)), (13, .int .i64 (t13 + 1))]) ⟨rfl, rfl, rfl, rfl, trivial⟩), (St.pick (Γ' := [.own 2 1 b9 (Int.toNat (ap.length : Int)) (Int.toNat (ap.length : Int)) ((F_inverse_L2 ap t13 (Int.toNat (((F_membersOf (gI ap t13)).length : Int) - 0) + 1) 0 out3).2), .rd 1 apA ap.length apC ap]) hS130 [1, 2] (by decide) rfl)⟩
    ·
     have hp140 := of_decide_eq_false ht39
     have hE141 := hE38; rw [ht39] at hE141; clear hE38
     refine wp_exit ?_
     refine p_te ?_
     have hX142 : F_inverse_L1 ap (Int.toNat ((ap.length : Int) - 0) + 1) 0 (List.replicate (Int.toNat (ap.length : Int)) 0) = (t13, out3) := hT30.symm.trans (show F_inverse_L1b ap (F_inverse_L1 ap r35) t13 out3 = (t13, out3) by unfold F_inverse_L1b; rw [ht39]; first | done | rfl)
     refine p_te (p_be (p_tn ?_))
     exact ⟨(by rw [hX142]; exact (show 0 ≤ t13 from (by first | omega | (simp only [sS_len, sL_len]; omega) | (simp only [List.length_replicate, sI_len]; omega) | (simp only [List.length_append, List.length_cons, List.length_nil, sI_len, cond_true, cond_false]; omega) | (simp only [List.length_append, List.length_cons, List.length_nil, sI_len, cond_eq_ite, apply_ite List.length]; split <;> simp only [List.length_append, List.length_cons, List.length_nil, sI_len] <;> omega) | grind))), (by rw [hX142]; exact (show (out3.length : Int) = (ap.length : Int) from (by first | omega | (simp only [sS_len, sL_len]; omega) | (simp only [List.length_replicate, sI_len]; omega) | (simp only [List.length_append, List.length_cons, List.length_nil, sI_len, cond_true, cond_false]; omega) | (simp only [List.length_append, List.length_cons, List.length_nil, sI_len, cond_eq_ite, apply_ite List.length]; split <;> simp only [List.length_append, List.length_cons, List.length_nil, sI_len] <;> omega) | grind))), (by rw [hX142]; exact (show t13 ≤ (ap.length : Int) from (by first | omega | (simp only [sS_len, sL_len]; omega) | (simp only [List.length_replicate, sI_len]; omega) | (simp only [List.length_append, List.length_cons, List.length_nil, sI_len, cond_true, cond_false]; omega) | (simp only [List.length_append, List.length_cons, List.length_nil, sI_len, cond_eq_ite, apply_ite List.length]; split <;> simp only [List.length_append, List.length_cons, List.length_nil, sI_len] <;> omega) | grind))), (by rw [hX142]; exact (hE141.sub (L' := [(3, .slice b9 (Int.toNat (ap.length : Int)) (Int.toNat (ap.length : Int))), (11, .slice apA ap.length apC), (12, .int .i64 (ap.length : Int)), (13, .int .i64 t13)]) ⟨rfl, rfl, rfl, rfl, trivial⟩)), (by rw [hX142]; exact (St.pick (Γ' := [.own 2 1 b9 (Int.toNat (ap.length : Int)) (Int.toNat (ap.length : Int)) out3, .rd 1 apA ap.length apC ap]) hS29 [0, 1] (by decide) rfl))⟩
  ·
   rintro a143 w144 ⟨hi148, hi149, hi150, hE145, hS146⟩; clear hE24 hS13
   refine p_tn ?_
   refine c_seq ?_
   refine c_reg ?_
   refine q_step (v := .slice b9 (Int.toNat (ap.length : Int)) (Int.toNat (ap.length : Int))) hE145 (y_move rfl) rfl rfl rfl ?_; intro a151 hE152; clear hE145
   refine q_step (v := .slice b9 (Int.toNat (ap.length : Int)) (Int.toNat (ap.length : Int))) hE152 (y_assign rfl) rfl rfl rfl ?_; intro a153 hE154; clear hE152
   refine c_nil ?_
   have hE155 := hE154.sub (L' := [(2, .slice b9 (Int.toNat (ap.length : Int)) (Int.toNat (ap.length : Int)))]) ⟨rfl, trivial⟩; clear hE154
   refine p_tn ?_
   refine wp_ret ?_
   have hF : F_inverse ap = (F_inverse_L1 ap (Int.toNat ((ap.length : Int) - 0) + 1) 0 (List.replicate (Int.toNat (ap.length : Int)) 0)).2 := by unfold F_inverse; rfl
   refine c_ret1 hE155 rfl rfl ?_
   exact ⟨b9, Int.toNat (ap.length : Int), (by rw [hF]; first | rfl | (rw [(St.rdO (i := 0) hS146 rfl).len1])), (by rw [hF, (St.rdO (i := 0) hS146 rfl).len1]; (try dsimp only); exact hS146.ok 0 _ rfl), hS146.ext⟩
theorem listLoopR {α : Type} (xs : List Int) (g : α → Int → α) (L : Nat → Int → α → Int × α) (hL : ∀ r t o, L (r + 1) t o = bif decide (t < (xs.length : Int)) then L r (t + 1) (g o (gI xs t)) else (t, o)) (o : α) :
    (L (Int.toNat ((xs.length : Int) - 0) + 1) 0 o).2 = xs.foldl g o := by
  rw [rangeLoopR0 (xs.length : Int) (by omega) (fun o t => g o (gI xs t)) L hL, Int.toNat_natCast]
  conv => rhs; rw [← map_gI xs]
  rw [List.foldl_map]
theorem l01Inverse_row (ap : List Int) (i : Nat) (out : List Int) (hi : i < out.length) : (F_l01Inverse_L2 ap (i : Int) (Int.toNat ((ap.length : Int) - 0) + 1) 0 out).2 = sI out (i : Int) ((List.range ap.length).foldl (fun o (j : Nat) => bif F_l01Bit (gI ap (j : Int)) (i : Int) then orI o (powI (j : Int)) else o) (gI out (i : Int))) := by
  rw [rangeLoopR0 (ap.length : Int) (by omega) (fun o j => bif F_l01Bit (gI ap j) (i : Int) then sI o (i : Int) (orI (gI o (i : Int)) (powI j)) else o) (F_l01Inverse_L2 ap (i : Int)) (fun _ _ _ => rfl), Int.toNat_natCast]
  have key : ∀ (l : List Nat) (a : Int), l.foldl (fun o (j : Nat) => bif F_l01Bit (gI ap (j : Int)) (i : Int) then sI o (i : Int) (orI (gI o (i : Int)) (powI (j : Int))) else o) (sI out (i : Int) a) = sI out (i : Int) (l.foldl (fun o (j : Nat) => bif F_l01Bit (gI ap (j : Int)) (i : Int) then orI o (powI (j : Int)) else o) a) := by
    intro l
    induction l with
    | nil => intro a; rfl
    | cons y l ih =>
      intro a
      rw [List.foldl_cons, List.foldl_cons]
      cases F_l01Bit (gI ap (y : Int)) (i : Int)
      · rw [cond_false, cond_false]; exact ih a
      · rw [cond_true, cond_true, gI_sI hi, if_pos rfl]
        have e : sI (sI out (i : Int) a) (i : Int) (orI a (powI (y : Int))) = sI out (i : Int) (orI a (powI (y : Int))) := by unfold sI; rw [List.set_set]
        rw [e]; exact ih _
  have := key (List.range ap.length) (gI out (i : Int))
  rw [sI_self (by omega) (by omega)] at this
  exact this
theorem l01Inverse_rows (ap : List Int) : (F_l01Inverse ap).length = ap.length ∧ ∀ i : Nat, i < ap.length → gI (F_l01Inverse ap) (i : Int) = (List.range ap.length).foldl (fun o (j : Nat) => bif F_l01Bit (gI ap (j : Int)) (i : Int) then orI o (powI (j : Int)) else o) 0 := by
  unfold F_l01Inverse
  obtain ⟨h1, h2⟩ := mapLoop (ap.length : Int) (fun t o => (List.range ap.length).foldl (fun o (j : Nat) => bif F_l01Bit (gI ap (j : Int)) t then orI o (powI (j : Int)) else o) o) (F_l01Inverse_L1 ap) (fun r t xs h0 hl => by
    show F_l01Inverse_L1b ap _ t xs = _
    unfold F_l01Inverse_L1b
    by_cases h : t < (ap.length : Int)
    · have e := l01Inverse_row ap t.toNat xs (by omega)
      rw [show ((t.toNat : Nat) : Int) = t by omega] at e
      rw [decide_eq_true h, cond_true, cond_true, e]
    · rw [decide_eq_false h, cond_false, cond_false]) (List.replicate (Int.toNat (ap.length : Int)) 0) (by rw [List.length_replicate]; omega)
  refine ⟨by omega, fun i hi => ?_⟩
  rw [h2 i (by omega), gI_replicate (by omega)]
theorem l01Inverse_len (ap : List Int) : (F_l01Inverse ap).length = ap.length := (l01Inverse_rows ap).1
theorem inverse_len (ap : List Int) : (F_inverse ap).length = ap.length := by
  unfold F_inverse
  have k2 : ∀ (t : Int) (r : Nat) (v : Int) (o : List Int), (F_inverse_L2 ap t r v o).2.length = o.length := by
    intro t r
    induction r with
    | zero => intro v o; rfl
    | succ r ih =>
      intro v o
      show (F_inverse_L2b ap t _ v o).2.length = _
      unfold F_inverse_L2b
      cases decide (v < ((F_membersOf (gI ap t)).length : Int))
      · rfl
      · rw [cond_true, ih, sI_len]
  have k1 : ∀ (r : Nat) (t : Int) (o : List Int), (F_inverse_L1 ap r t o).2.length = o.length := by
    intro r
    induction r with
    | zero => intro t o; rfl
    | succ r ih =>
      intro t o
      show (F_inverse_L1b ap _ t o).2.length = _
      unfold F_inverse_L1b
      cases decide (t < (ap.length : Int))
      · rfl
      · rw [cond_true, ih, k2]
  rw [k1, List.length_replicate, Int.toNat_natCast]
/-- A value goes into all rows of a mask. -/
theorem put_rows {n : Nat} (c : Nat → Bool) (v : Int) : ∀ (k : Nat) (o : List Int), k ≤ o.length → ((List.range k).foldl (fun o (j : Nat) => bif c j then sI o (j : Int) (orI (gI o (j : Int)) v) else o) o).length = o.length ∧ ∀ j : Nat, j < o.length → gI ((List.range k).foldl (fun o (j : Nat) => bif c j then sI o (j : Int) (orI (gI o (j : Int)) v) else o) o) (j : Int) = bif decide (j < k) && c j then orI (gI o (j : Int)) v else gI o (j : Int) := by
  intro k
  induction k with
  | zero => intro o _; exact ⟨rfl, fun j _ => by rw [decide_eq_false (by omega)]; rfl⟩
  | succ k ih =>
    intro o hk
    obtain ⟨h1, h2⟩ := ih o (by omega)
    rw [List.range_succ, List.foldl_append, List.foldl_cons, List.foldl_nil]
    generalize (List.range k).foldl (fun o (j : Nat) => bif c j then sI o (j : Int) (orI (gI o (j : Int)) v) else o) o = q at h1 h2
    cases hc : c k
    · rw [cond_false]
      refine ⟨h1, fun j hj => ?_⟩
      rw [h2 j hj]
      by_cases e : j = k
      · subst e; rw [hc, Bool.and_false, Bool.and_false]
      · rw [show decide (j < k + 1) = decide (j < k) from decide_eq_decide.2 (by omega)]
    · rw [cond_true]
      refine ⟨by rw [sI_len]; exact h1, fun j hj => ?_⟩
      rw [gI_sI (by omega)]
      by_cases e : k = j
      · subst e
        rw [if_pos rfl, h2 k hj, decide_eq_false (by omega), decide_eq_true (by omega), hc]; rfl
      · rw [if_neg e, h2 j hj, show decide (j < k + 1) = decide (j < k) from decide_eq_decide.2 (by omega)]
theorem inverse_eq {ap : List Int} {n : Nat} (hn : n ≤ 30) (h : Rl n ap) : F_inverse ap = F_l01Inverse ap := by
  have hl := h.1
  obtain ⟨r1, r2⟩ := l01Inverse_rows ap
  have row : ∀ (t : Nat) (o : List Int), t < n → o.length = n → (F_inverse_L2 ap (t : Int) (Int.toNat (((F_membersOf (gI ap (t : Int))).length : Int) - 0) + 1) 0 o).2.length = n ∧ ∀ j : Nat, j < n → gI (F_inverse_L2 ap (t : Int) (Int.toNat (((F_membersOf (gI ap (t : Int))).length : Int) - 0) + 1) 0 o).2 (j : Int) = bif F_has (gI ap (t : Int)) (j : Int) then orI (gI o (j : Int)) (powI (t : Int)) else gI o (j : Int) := by
    intro t o ht ho
    have hm := h.2 t ht
    rw [listLoopR (F_membersOf (gI ap (t : Int))) (fun o m => sI o m (orI (gI o m) (shlI 1 (t : Int)))) (F_inverse_L2 ap (t : Int)) (fun _ _ _ => rfl), members_fold (n := n) (by omega) hm.1 hm.2, pow_shl (by omega) (by omega)]
    obtain ⟨p1, p2⟩ := put_rows (n := n) (fun j => F_has (gI ap (t : Int)) (j : Int)) (powI (t : Int)) n o (by omega)
    refine ⟨by omega, fun j hj => ?_⟩
    rw [p2 j (by omega), decide_eq_true hj, Bool.true_and]
  have outer : ∀ (k t : Nat) (o : List Int), t + k = n → o.length = n → (∀ j : Nat, j < n → gI o (j : Int) = (List.range t).foldl (fun o (i : Nat) => bif F_has (gI ap (i : Int)) (j : Int) then orI o (powI (i : Int)) else o) 0) →
      (F_inverse_L1 ap (k + 1) (t : Int) o).2.length = n ∧ ∀ j : Nat, j < n → gI (F_inverse_L1 ap (k + 1) (t : Int) o).2 (j : Int) = (List.range n).foldl (fun o (i : Nat) => bif F_has (gI ap (i : Int)) (j : Int) then orI o (powI (i : Int)) else o) 0 := by
    intro k
    induction k with
    | zero =>
      intro t o ht ho hj
      show (F_inverse_L1b ap _ _ o).2.length = n ∧ ∀ j : Nat, j < n → gI (F_inverse_L1b ap _ _ o).2 (j : Int) = _
      unfold F_inverse_L1b
      rw [decide_eq_false (by omega), cond_false]
      exact ⟨ho, fun j hjn => by rw [hj j hjn, show t = n by omega]⟩
    | succ k ih =>
      intro t o ht ho hj
      show (F_inverse_L1b ap _ _ o).2.length = n ∧ ∀ j : Nat, j < n → gI (F_inverse_L1b ap _ _ o).2 (j : Int) = _
      unfold F_inverse_L1b
      rw [decide_eq_true (by omega), cond_true, show (t : Int) + 1 = ((t + 1 : Nat) : Int) by omega]
      obtain ⟨q1, q2⟩ := row t o (by omega) ho
      refine ih (t + 1) _ (by omega) q1 fun j hjn => ?_
      rw [q2 j hjn, hj j hjn, List.range_succ, List.foldl_append]; rfl
  unfold F_inverse
  rw [show Int.toNat ((ap.length : Int) - 0) = n by omega, Int.toNat_natCast]
  obtain ⟨o1, o2⟩ := outer n 0 (List.replicate ap.length 0) (by omega) (by simp [hl]) (fun j hj => by rw [gI_replicate (by omega)]; rfl)
  have o1' : (F_inverse_L1 ap (n + 1) 0 (List.replicate ap.length 0)).2.length = n := o1
  apply ext_gi (by omega)
  intro j hj
  have a1 := o2 j (by omega)
  have a2 := r2 j (by omega)
  rw [hl] at a2
  unfold gI at a1 a2
  rw [Int.toNat_natCast] at a1 a2
  exact a1.trans a2.symm
end Go.Proofs.Ytkilkfhjfobcdaa
