/- GFA: models and contracts, printed by wip/gen/gen.py -/
import Derived.Test.YtlbonhloeefnmaaKMDGE
import Derived.Test.YtlbonhloeefnmaaKMDGQ
set_option linter.unusedVariables false
set_option linter.unusedSimpArgs false
namespace Go.Proofs.Ytlbonhloeefnmaa
open Go.RowKit
theorem anI_full {n x : Int} (h0 : 0 ≤ n) (h1 : n ≤ 62) (hx : 0 ≤ x) (hx1 : x ≤ fullI n) : anI (fullI n) x = fullI n - x := by
  have hf := fullI_bd h0 h1
  obtain ⟨h4, h5, h6⟩ := anI_testBit (m := fullI n) (k := x) (by omega) (by omega) hx (by omega)
  have e : (fullI n).toNat = 2 ^ n.toNat - 1 := by
    unfold fullI
    have : ((2 : Int) ^ n.toNat) = ((2 ^ n.toNat : Nat) : Int) := by norm_cast
    rw [this]; omega
  have hlt : x.toNat < 2 ^ n.toNat := by
    have : 0 < 2 ^ n.toNat := Nat.pow_pos (by decide)
    omega
  have : (anI (fullI n) x).toNat = 2 ^ n.toNat - 1 - x.toNat := by
    apply Nat.eq_of_testBit_eq; intro i
    rw [h6, e, Nat.testBit_two_pow_sub_one, show 2 ^ n.toNat - 1 - x.toNat = 2 ^ n.toNat - (x.toNat + 1) by omega, Nat.testBit_two_pow_sub_succ hlt]
  omega
theorem pow_full {n v : Int} (h0 : 0 ≤ v) (h1 : v < n) (h2 : n ≤ 62) : 1 ≤ powI v ∧ powI v ≤ fullI n := by
  have hv : Mk n.toNat (powI ((v.toNat : Nat) : Int)) := Mk.pow (by omega)
  have e1 : ((v.toNat : Nat) : Int) = v := by omega
  have e2 : ((n.toNat : Nat) : Int) = n := by omega
  have := hv.2
  rw [e1, e2] at this
  exact ⟨(powI_bd h0 (by omega)).1, this⟩
theorem foldl_app {β : Type} (f : β → Int) (l : List β) (o : List Int) : l.foldl (fun o j => o ++ [f j]) o = o ++ l.map f := by
  induction l generalizing o with
  | nil => simp
  | cons a l ih => rw [List.foldl_cons, ih, List.map_cons, List.append_assoc]; rfl
theorem sI_self {xs : List Int} {t : Int} (h0 : 0 ≤ t) (h : t < (xs.length : Int)) : sI xs t (gI xs t) = xs := by
  apply ext_gi (by rw [sI_len])
  intro j hj
  unfold sI gI
  rw [gi_set (by omega)]
  by_cases e : t.toNat = j
  · rw [if_pos e, e]
  · rw [if_neg e]
theorem mapLoop_key (n : Int) (h : Int → Int → Int) (L : Nat → Int → List Int → Int × List Int) (hL : ∀ r t xs, 0 ≤ t → (xs.length : Int) = n → L (r + 1) t xs = bif decide (t < n) then L r (t + 1) (sI xs t (h t (gI xs t))) else (t, xs)) (xs : List Int) :
    ∀ (k : Nat) (t : Int) (ys : List Int), 0 ≤ t → n - t = (k : Int) → (ys.length : Int) = n → (∀ j : Nat, (j : Int) < t → gI ys j = h j (gI xs j)) → (∀ j : Nat, t ≤ (j : Int) → gI ys j = gI xs j) →
    ((L (k + 1) t ys).2.length : Int) = n ∧ ∀ j : Nat, (j : Int) < n → gI (L (k + 1) t ys).2 j = h j (gI xs j) := by
  intro k
  induction k with
  | zero =>
    intro t ys h0 hk hl h1 h2
    rw [hL _ _ _ h0 hl, decide_eq_false (by omega), cond_false]
    exact ⟨hl, fun j hj => h1 j (by omega)⟩
  | succ k ih =>
    intro t ys h0 hk hl h1 h2
    rw [hL _ _ _ h0 hl, decide_eq_true (by omega), cond_true]
    have hs : ∀ j : Nat, gI (sI ys t (h t (gI ys t))) j = if t.toNat = j then h t (gI ys t) else gI ys j := fun j => by
      unfold sI
      show gi _ _ = _
      rw [gi_set (by omega), Int.toNat_natCast]; rfl
    refine ih (t + 1) _ (by omega) (by omega) (by rw [sI_len]; exact hl) (fun j hj => ?_) (fun j hj => ?_)
    · rw [hs]
      by_cases e : t.toNat = j
      · rw [if_pos e]
        have e2 : t = (j : Int) := by omega
        rw [e2, h2 j (by omega)]
      · rw [if_neg e]; exact h1 j (by omega)
    · rw [hs, if_neg (by omega)]; exact h2 j (by omega)
theorem mapLoop (n : Int) (h : Int → Int → Int) (L : Nat → Int → List Int → Int × List Int) (hL : ∀ r t xs, 0 ≤ t → (xs.length : Int) = n → L (r + 1) t xs = bif decide (t < n) then L r (t + 1) (sI xs t (h t (gI xs t))) else (t, xs)) (xs : List Int) (hl : (xs.length : Int) = n) :
    ((L (Int.toNat (n - 0) + 1) 0 xs).2.length : Int) = n ∧ ∀ j : Nat, (j : Int) < n → gI (L (Int.toNat (n - 0) + 1) 0 xs).2 j = h j (gI xs j) :=
  mapLoop_key n h L hL xs (Int.toNat (n - 0)) 0 xs (by omega) (by omega) hl (fun j hj => by omega) (fun _ _ => rfl)
theorem list_map_ext {xs : List Int} {n : Nat} {f : Nat → Int} (hl : xs.length = n) (h : ∀ j, j < n → gI xs (j : Int) = f j) : xs = (List.range n).map f := by
  rw [← map_gI xs, hl]
  exact List.map_congr_left fun j hj => h j (List.mem_range.1 hj)
def F_l15Frame_L2b (ap0 : Int) (ap1 : List Int) (w4 : Int) (rec : Int → Int → Int × Int) (mask5L2 : Int) (v6L2 : Int) : Int × Int :=
  bif (decide (v6L2 < ap0)) then (rec (bif (!(F_l01Bit (gI ap1 ((fullI ap0) - (powI v6L2))) w4)) then orI mask5L2 (powI v6L2) else mask5L2) (v6L2 + 1)) else (mask5L2, v6L2)
def F_l15Frame_L2 (ap0 : Int) (ap1 : List Int) (w4 : Int) : Nat → Int → Int → Int × Int
  | 0, mask5L2, v6L2 => (mask5L2, v6L2)
  | r + 1, mask5L2, v6L2 => F_l15Frame_L2b ap0 ap1 w4 (F_l15Frame_L2 ap0 ap1 w4 r) mask5L2 v6L2
def F_l15Frame_L1b (ap0 : Int) (ap1 : List Int) (rec : (List Int) → Int → (List Int) × Int) (arrows3 : List Int) (w4 : Int) : (List Int) × Int :=
  bif (decide (w4 < ap0)) then (rec (arrows3 ++ ([(F_l15Frame_L2 ap0 ap1 w4 (Int.toNat (ap0 - 0) + 1) 0 0).1])) (w4 + 1)) else (arrows3, w4)
def F_l15Frame_L1 (ap0 : Int) (ap1 : List Int) : Nat → (List Int) → Int → (List Int) × Int
  | 0, arrows3, w4 => (arrows3, w4)
  | r + 1, arrows3, w4 => F_l15Frame_L1b ap0 ap1 (F_l15Frame_L1 ap0 ap1 r) arrows3 w4
def F_l15Frame (ap0 : Int) (ap1 : List Int) : Int × List Int :=
  ((((F_l15Frame_L1 ap0 ap1 (Int.toNat (ap0 - 0) + 1) ([]) 0).1).length : Int), ((F_l15Frame_L1 ap0 ap1 (Int.toNat (ap0 - 0) + 1) ([]) 0).1))
theorem cf_l15Frame (args : Array Value) (w : World) : (callFunc 132 args).run Try.prog w = .ok (.enter 132 args) w := by kernel_rfl
set_option maxRecDepth 100000 in
theorem c_l15Frame (ap0 : Int) (ap1A : Option Addr) (ap1N ap1C : Nat) (ap1 : List Int) (w : World) (ap1R : RdS w 1 ap1A ap1N ap1C ap1) (ha : (0 ≤ ap0 ∧ ap0 ≤ 5) ∧ 0 ≤ fullI ap0 ∧ fullI ap0 ≤ 31) (hla : (ap1.length : Int) = fullI ap0 + 1) :
    Calls Try.prog 132 #[.agg #[.int .i64 ap0, .slice ap1A ap1N ap1C]] w (Ret fun v w' => ∃ b1 : Option Addr, ∃ c1 : Nat, v = .agg #[.int .i64 ((F_l15Frame ap0 ap1).1), .slice b1 ((F_l15Frame ap0 ap1).2).length c1] ∧ OwnS w' w.heap.size 2 1 b1 ((F_l15Frame ap0 ap1).2).length c1 ((F_l15Frame ap0 ap1).2) ∧ Ext w w') := by
  obtain rfl : ap1N = ap1.length := ap1R.len1.symm
  have ap1Le := ap1R.le
  have hS := St.nil w
  have hS1 := St.rd0 hS rfl ap1R; clear hS
  refine enter (args := [.agg #[.int .i64 ap0, .slice ap1A ap1.length ap1C]]) Try.func132 rfl rfl ?_
  rw [Try.ntmps132]; intro a hE
  have hE := hE.sub (L' := [(0, .agg #[.int .i64 ap0, .slice ap1A ap1.length ap1C])]) ⟨rfl, trivial⟩
  refine c_seq ?_
  refine c_reg ?_
  refine l_step hE rfl (l_box (v := .agg #[.int .i64 ap0, .slice ap1A ap1.length ap1C]) (cs := #[.int .i64 ap0, .slice ap1A ap1.length ap1C]) hS1 hE rfl rfl rfl ?_)
  intro b2 w3 hS6 he7 a4 hE5; clear hS1 hE
  refine l_step hE5 rfl (l_alloc (z := .agg #[.int .i64 0, .slice none 0 0]) (cs := #[.int .i64 0, .slice none 0 0]) hS6 hE5 (fun _ => by kernel_rfl) rfl rfl ?_)
  intro b8 w9 hS12 he13 a10 hE11; clear hS6 hE5
  refine c_nil ?_
  have hE14 := hE11.sub (L' := [(1, .pointer (some ⟨b2, 0, none⟩)), (2, .pointer (some ⟨b8, 0, none⟩))]) ⟨rfl, rfl, trivial⟩; clear hE11
  refine p_tn ?_
  refine c_seq ?_
  refine c_reg ?_
  refine l_step hE14 rfl (l_lit (e := 2) (s := 1) (xs := []) (vs := []) hS12 hE14 rfl (fun _ => by kernel_rfl) rfl rfl rfl ?_)
  intro b15 w16 hS19 he20 a17 hE18; clear hS12 hE14
  refine q_step (v := .slice (some ⟨b15, 0, none⟩) 0 0) hE18 (y_assign rfl) rfl rfl rfl ?_; intro a21 hE22; clear hE18
  refine c_nil ?_
  have hE23 := hE22.sub (L' := [(1, .pointer (some ⟨b2, 0, none⟩)), (2, .pointer (some ⟨b8, 0, none⟩)), (3, .slice (some ⟨b15, 0, none⟩) 0 0)]) ⟨rfl, rfl, rfl, trivial⟩; clear hE22
  refine p_tn ?_
  refine c_seq ?_
  refine c_seq ?_
  refine c_reg ?_
  refine q_step (v := .int .i64 0) hE23 (y_assign rfl) rfl rfl rfl ?_; intro a24 hE25; clear hE23
  refine c_nil ?_
  have hE26 := hE25.sub (L' := [(1, .pointer (some ⟨b2, 0, none⟩)), (2, .pointer (some ⟨b8, 0, none⟩)), (3, .slice (some ⟨b15, 0, none⟩) 0 0), (4, .int .i64 0)]) ⟨rfl, rfl, rfl, rfl, trivial⟩; clear hE25
  refine p_tn ?_
  refine c_cut1 (fun a' w' => ∃ arrows3A_27 : Option Addr, ∃ arrows3C_27 : Nat, (0 ≤ ((F_l15Frame_L1 ap0 ap1 (Int.toNat (ap0 - 0) + 1) ([]) 0).2)) ∧ (((F_l15Frame_L1 ap0 ap1 (Int.toNat (ap0 - 0) + 1) ([]) 0).2) ≤ ap0) ∧ ((((F_l15Frame_L1 ap0 ap1 (Int.toNat (ap0 - 0) + 1) ([]) 0).1).length : Int) ≤ ((F_l15Frame_L1 ap0 ap1 (Int.toNat (ap0 - 0) + 1) ([]) 0).2)) ∧ E a' 43 [(1, .pointer (some ⟨b2, 0, none⟩)), (2, .pointer (some ⟨b8, 0, none⟩)), (3, .slice arrows3A_27 (((F_l15Frame_L1 ap0 ap1 (Int.toNat (ap0 - 0) + 1) ([]) 0).1).length) arrows3C_27), (4, .int .i64 ((F_l15Frame_L1 ap0 ap1 (Int.toNat (ap0 - 0) + 1) ([]) 0).2))] ∧ St w w' [.own 2 1 arrows3A_27 (((F_l15Frame_L1 ap0 ap1 (Int.toNat (ap0 - 0) + 1) ([]) 0).1).length) arrows3C_27 ((F_l15Frame_L1 ap0 ap1 (Int.toNat (ap0 - 0) + 1) ([]) 0).1), .blk b8 #[.int .i64 0, .slice none 0 0] 30, .blk b2 #[.int .i64 ap0, .slice ap1A ap1.length ap1C] 79, .rd 1 ap1A ap1.length ap1C ap1]) ?_ ?_
  ·
   refine wp_block ?_
   refine c_loop (fun r a' w' => ∃ arrows3 : List Int, ∃ w4 : Int, ∃ arrows3A : Option Addr, ∃ arrows3C : Nat, F_l15Frame_L1 ap0 ap1 r arrows3 w4 = F_l15Frame_L1 ap0 ap1 (Int.toNat (ap0 - 0) + 1) ([]) 0 ∧ Int.toNat (ap0 - w4) < r ∧ (0 ≤ w4) ∧ (w4 ≤ ap0) ∧ ((arrows3.length : Int) ≤ w4) ∧ E a' 43 [(1, .pointer (some ⟨b2, 0, none⟩)), (2, .pointer (some ⟨b8, 0, none⟩)), (3, .slice arrows3A ((arrows3).length) arrows3C), (4, .int .i64 w4)] ∧ St w w' [.own 2 1 arrows3A ((arrows3).length) arrows3C arrows3, .blk b8 #[.int .i64 0, .slice none 0 0] 30, .blk b2 #[.int .i64 ap0, .slice ap1A ap1.length ap1C] 79, .rd 1 ap1A ap1.length ap1C ap1]) (r := (Int.toNat (ap0 - 0) + 1)) ?_ ?_
   · exact ⟨[], 0, some ⟨b15, 0, none⟩, 0, rfl, Nat.lt_succ_self _, (by first | omega | (simp only [sS_len, sL_len]; omega) | (simp only [List.length_replicate, sI_len]; omega) | (simp only [List.length_append, List.length_cons, List.length_nil, sI_len, cond_true, cond_false]; omega) | (simp only [List.length_append, List.length_cons, List.length_nil, sI_len, cond_eq_ite, apply_ite List.length]; split <;> simp only [List.length_append, List.length_cons, List.length_nil, sI_len] <;> omega) | grind), (by first | omega | (simp only [sS_len, sL_len]; omega) | (simp only [List.length_replicate, sI_len]; omega) | (simp only [List.length_append, List.length_cons, List.length_nil, sI_len, cond_true, cond_false]; omega) | (simp only [List.length_append, List.length_cons, List.length_nil, sI_len, cond_eq_ite, apply_ite List.length]; split <;> simp only [List.length_append, List.length_cons, List.length_nil, sI_len] <;> omega) | grind), (by first | omega | (simp only [sS_len, sL_len]; omega) | (simp only [List.length_replicate, sI_len]; omega) | (simp only [List.length_append, List.length_cons, List.length_nil, sI_len, cond_true, cond_false]; omega) | (simp only [List.length_append, List.length_cons, List.length_nil, sI_len, cond_eq_ite, apply_ite List.length]; split <;> simp only [List.length_append, List.length_cons, List.length_nil, sI_len] <;> omega) | grind), (hE26.sub (L' := [(1, .pointer (some ⟨b2, 0, none⟩)), (2, .pointer (some ⟨b8, 0, none⟩)), (3, .slice (some ⟨b15, 0, none⟩) 0 0), (4, .int .i64 0)]) ⟨rfl, rfl, rfl, rfl, trivial⟩), (St.pick (Γ' := [.own 2 1 (some ⟨b15, 0, none⟩) 0 0 ([]), .blk b8 #[.int .i64 0, .slice none 0 0] 30, .blk b2 #[.int .i64 ap0, .slice ap1A ap1.length ap1C] 79, .rd 1 ap1A ap1.length ap1C ap1]) hS19 [0, 1, 2, 3] (by decide) rfl)⟩
   ·
    clear hE26 hS19
    rintro r37 a28 w29 ⟨arrows3, w4, arrows3A, arrows3C, hT32, hr33, hi34, hi35, hi36, hE30, hS31⟩
    obtain ⟨r37, rfl⟩ : ∃ r', r37 = r' + 1 := ⟨r37 - 1, by omega⟩
    refine c_seq ?_
    refine c_seq ?_
    refine c_reg ?_
    refine q_step (v := .int .i64 w4) hE30 (y_move rfl) rfl rfl rfl ?_; intro a38 hE39; clear hE30
    refine q_step (v := .pointer (some ⟨b2, 0, none⟩)) hE39 (y_field rfl (fun _ => by kernel_rfl)) rfl rfl rfl ?_; intro a40 hE41; clear hE39
    refine q_step (v := .int .i64 ap0) hE41 (y_load (fun _ => by kernel_rfl) rfl (St.cell (i := 2) hS31 rfl rfl)) rfl rfl rfl ?_; intro a42 hE43; clear hE41
    refine q_step (v := .bool (decide (w4 < ap0))) hE43 (y_lss rfl rfl) rfl rfl rfl ?_; intro a44 hE45; clear hE43
    refine c_nil ?_
    have hE46 := hE45.sub (L' := [(1, .pointer (some ⟨b2, 0, none⟩)), (2, .pointer (some ⟨b8, 0, none⟩)), (3, .slice arrows3A ((arrows3).length) arrows3C), (4, .int .i64 w4), (11, .bool (decide (w4 < ap0)))]) ⟨rfl, rfl, rfl, rfl, rfl, trivial⟩; clear hE45
    refine p_tn ?_
    refine c_cond hE46 rfl (fun ht47 => ?_) (fun ht47 => ?_)
    ·
     have hp48 := of_decide_eq_true ht47
     have hE49 := hE46; rw [ht47] at hE49; clear hE46
     refine wp_skip ?_
     refine p_tn ?_
     refine c_seq ?_
     refine wp_block ?_
     refine c_seq ?_
     refine c_reg ?_
     refine q_step (v := .int .i64 0) hE49 (y_assign rfl) rfl rfl rfl ?_; intro a50 hE51; clear hE49
     refine c_nil ?_
     have hE52 := hE51.sub (L' := [(1, .pointer (some ⟨b2, 0, none⟩)), (2, .pointer (some ⟨b8, 0, none⟩)), (3, .slice arrows3A ((arrows3).length) arrows3C), (4, .int .i64 w4), (5, .int .i64 0)]) ⟨rfl, rfl, rfl, rfl, rfl, trivial⟩; clear hE51
     refine p_tn ?_
     refine c_seq ?_
     refine c_seq ?_
     refine c_reg ?_
     refine q_step (v := .int .i64 0) hE52 (y_assign rfl) rfl rfl rfl ?_; intro a53 hE54; clear hE52
     refine c_nil ?_
     have hE55 := hE54.sub (L' := [(1, .pointer (some ⟨b2, 0, none⟩)), (2, .pointer (some ⟨b8, 0, none⟩)), (3, .slice arrows3A ((arrows3).length) arrows3C), (4, .int .i64 w4), (5, .int .i64 0), (6, .int .i64 0)]) ⟨rfl, rfl, rfl, rfl, rfl, rfl, trivial⟩; clear hE54
     refine p_tn ?_
     refine c_cut1 (fun a' w' => (0 ≤ ((F_l15Frame_L2 ap0 ap1 w4 (Int.toNat (ap0 - 0) + 1) 0 0).2)) ∧ E a' 43 [(1, .pointer (some ⟨b2, 0, none⟩)), (2, .pointer (some ⟨b8, 0, none⟩)), (3, .slice arrows3A ((arrows3).length) arrows3C), (4, .int .i64 w4), (5, .int .i64 ((F_l15Frame_L2 ap0 ap1 w4 (Int.toNat (ap0 - 0) + 1) 0 0).1)), (6, .int .i64 ((F_l15Frame_L2 ap0 ap1 w4 (Int.toNat (ap0 - 0) + 1) 0 0).2))] ∧ St w w' [.own 2 1 arrows3A ((arrows3).length) arrows3C arrows3, .blk b8 #[.int .i64 0, .slice none 0 0] 30, .blk b2 #[.int .i64 ap0, .slice ap1A ap1.length ap1C] 79, .rd 1 ap1A ap1.length ap1C ap1]) ?_ ?_
     ·
      refine wp_block ?_
      refine c_loop (fun r a' w' => ∃ mask5L2 : Int, ∃ v6L2 : Int, F_l15Frame_L2 ap0 ap1 w4 r mask5L2 v6L2 = F_l15Frame_L2 ap0 ap1 w4 (Int.toNat (ap0 - 0) + 1) 0 0 ∧ Int.toNat (ap0 - v6L2) < r ∧ (0 ≤ v6L2) ∧ E a' 43 [(1, .pointer (some ⟨b2, 0, none⟩)), (2, .pointer (some ⟨b8, 0, none⟩)), (3, .slice arrows3A ((arrows3).length) arrows3C), (4, .int .i64 w4), (5, .int .i64 mask5L2), (6, .int .i64 v6L2)] ∧ St w w' [.own 2 1 arrows3A ((arrows3).length) arrows3C arrows3, .blk b8 #[.int .i64 0, .slice none 0 0] 30, .blk b2 #[.int .i64 ap0, .slice ap1A ap1.length ap1C] 79, .rd 1 ap1A ap1.length ap1C ap1]) (r := (Int.toNat (ap0 - 0) + 1)) ?_ ?_
      · exact ⟨0, 0, rfl, Nat.lt_succ_self _, (by first | omega | (simp only [sS_len, sL_len]; omega) | (simp only [List.length_replicate, sI_len]; omega) | (simp only [List.length_append, List.length_cons, List.length_nil, sI_len, cond_true, cond_false]; omega) | (simp only [List.length_append, List.length_cons, List.length_nil, sI_len, cond_eq_ite, apply_ite List.length]; split <;> simp only [List.length_append, List.length_cons, List.length_nil, sI_len] <;> omega) | grind), (hE55.sub (L' := [(1, .pointer (some ⟨b2, 0, none⟩)), (2, .pointer (some ⟨b8, 0, none⟩)), (3, .slice arrows3A ((arrows3).length) arrows3C), (4, .int .i64 w4), (5, .int .i64 0), (6, .int .i64 0)]) ⟨rfl, rfl, rfl, rfl, rfl, rfl, trivial⟩), (St.pick (Γ' := [.own 2 1 arrows3A ((arrows3).length) arrows3C arrows3, .blk b8 #[.int .i64 0, .slice none 0 0] 30, .blk b2 #[.int .i64 ap0, .slice ap1A ap1.length ap1C] 79, .rd 1 ap1A ap1.length ap1C ap1]) hS31 [0, 1, 2, 3] (by decide) rfl)⟩
      ·
       clear hE55 hS31
       rintro r64 a57 w58 ⟨mask5L2, v6L2, hT61, hr62, hi63, hE59, hS60⟩
       obtain ⟨r64, rfl⟩ : ∃ r', r64 = r' + 1 := ⟨r64 - 1, by omega⟩
       refine c_seq ?_
       refine c_seq ?_
       refine c_reg ?_
       refine q_step (v := .int .i64 v6L2) hE59 (y_move rfl) rfl rfl rfl ?_; intro a65 hE66; clear hE59
       refine q_step (v := .pointer (some ⟨b2, 0, none⟩)) hE66 (y_field rfl (fun _ => by kernel_rfl)) rfl rfl rfl ?_; intro a67 hE68; clear hE66
       refine q_step (v := .int .i64 ap0) hE68 (y_load (fun _ => by kernel_rfl) rfl (St.cell (i := 2) hS60 rfl rfl)) rfl rfl rfl ?_; intro a69 hE70; clear hE68
       refine q_step (v := .bool (decide (v6L2 < ap0))) hE70 (y_lss rfl rfl) rfl rfl rfl ?_; intro a71 hE72; clear hE70
       refine c_nil ?_
       have hE73 := hE72.sub (L' := [(1, .pointer (some ⟨b2, 0, none⟩)), (2, .pointer (some ⟨b8, 0, none⟩)), (3, .slice arrows3A ((arrows3).length) arrows3C), (4, .int .i64 w4), (5, .int .i64 mask5L2), (6, .int .i64 v6L2), (17, .bool (decide (v6L2 < ap0)))]) ⟨rfl, rfl, rfl, rfl, rfl, rfl, rfl, trivial⟩; clear hE72
       refine p_tn ?_
       refine c_cond hE73 rfl (fun ht74 => ?_) (fun ht74 => ?_)
       ·
        have hp75 := of_decide_eq_true ht74
        have hE76 := hE73; rw [ht74] at hE76; clear hE73
        have hp1 := pow_full (n := ap0) (v := v6L2) (by omega) (by omega) (by omega)
        refine wp_skip ?_
        refine p_tn ?_
        refine c_cut (fun a' w' => E a' 43 [(1, .pointer (some ⟨b2, 0, none⟩)), (2, .pointer (some ⟨b8, 0, none⟩)), (3, .slice arrows3A ((arrows3).length) arrows3C), (4, .int .i64 w4), (5, .int .i64 (bif (!(F_l01Bit (gI ap1 ((fullI ap0) - (powI v6L2))) w4)) then orI mask5L2 (powI v6L2) else mask5L2)), (6, .int .i64 v6L2)] ∧ St w w' [.own 2 1 arrows3A ((arrows3).length) arrows3C arrows3, .blk b8 #[.int .i64 0, .slice none 0 0] 30, .rd 1 ap1A ap1.length ap1C ap1, .blk b2 #[.int .i64 ap0, .slice ap1A ap1.length ap1C] 79]) ?_ ?_
        ·
         refine wp_block ?_
         refine c_seq ?_
         refine d_start (fun w w' => (fun w' => w'.cell? ⟨b2, 1, none⟩ = some (.slice ap1A ap1.length ap1C) ∧ w'.cell? ⟨b2, 0, none⟩ = some (.int .i64 ap0) ∧ w'.cell? (adr ap1A (Int.toNat ((fullI ap0) - (powI v6L2)))) = some (.int .i64 (gI ap1 ((fullI ap0) - (powI v6L2)))) ∧ True) w → (fun w' => w'.cell? ⟨b2, 1, none⟩ = some (.slice ap1A ap1.length ap1C) ∧ w'.cell? ⟨b2, 0, none⟩ = some (.int .i64 ap0) ∧ w'.cell? (adr ap1A (Int.toNat ((fullI ap0) - (powI v6L2)))) = some (.int .i64 (gI ap1 ((fullI ap0) - (powI v6L2)))) ∧ True) w') [1, 3, 9] 13 (by kernel_rfl) rfl ?_
         intro w77 he78; have hS79 := St.go hS60 he78; clear hS60
         refine d_pure (fun _ h => h) (v := .pointer (some ⟨b2, 1, none⟩)) 0 rfl hE76 (y_field rfl (fun _ => by kernel_rfl)) rfl (by kernel_rfl) (by kernel_rfl) (by kernel_rfl) rfl rfl (fun _ _ _ h => h) ?_; intro a80 hE81; clear hE76
         refine d_take (fun _ h => h) (fun _ _ h k => h k) (v := .slice ap1A ap1.length ap1C) 1 rfl hE81 (S := fun w' => w'.cell? ⟨b2, 1, none⟩ = some (.slice ap1A ap1.length ap1C) ∧ w'.cell? ⟨b2, 0, none⟩ = some (.int .i64 ap0) ∧ w'.cell? (adr ap1A (Int.toNat ((fullI ap0) - (powI v6L2)))) = some (.int .i64 (gI ap1 ((fullI ap0) - (powI v6L2)))) ∧ True) ⟨(St.cell (i := 2) hS79 rfl rfl _ (Ext.refl _)), (St.cell (i := 2) hS79 rfl rfl _ (Ext.refl _)), (RdS.elt (St.rdR (i := 3) hS79 rfl) (by omega) (by omega) _ (Ext.refl _)), trivial⟩ (y_load (fun _ => by kernel_rfl) rfl (fun _ h => h.1)) rfl rfl (by kernel_rfl) (by kernel_rfl) (by kernel_rfl) (by kernel_rfl) rfl rfl (fun _ _ _ h => h) ?_; intro a82 hE83; clear hE81
         refine d_pure (fun _ h => h) (v := .pointer (some ⟨b2, 0, none⟩)) 2 rfl hE83 (y_field rfl (fun _ => by kernel_rfl)) rfl (by kernel_rfl) (by kernel_rfl) (by kernel_rfl) rfl rfl (fun _ _ _ h => h) ?_; intro a84 hE85; clear hE83
         refine d_take (fun _ h => h) (fun _ _ h k => h k) (v := .int .i64 ap0) 3 rfl hE85 (S := fun w' => w'.cell? ⟨b2, 1, none⟩ = some (.slice ap1A ap1.length ap1C) ∧ w'.cell? ⟨b2, 0, none⟩ = some (.int .i64 ap0) ∧ w'.cell? (adr ap1A (Int.toNat ((fullI ap0) - (powI v6L2)))) = some (.int .i64 (gI ap1 ((fullI ap0) - (powI v6L2)))) ∧ True) ⟨(St.cell (i := 2) hS79 rfl rfl _ (Ext.refl _)), (St.cell (i := 2) hS79 rfl rfl _ (Ext.refl _)), (RdS.elt (St.rdR (i := 3) hS79 rfl) (by omega) (by omega) _ (Ext.refl _)), trivial⟩ (y_load (fun _ => by kernel_rfl) rfl (fun _ h => h.2.1)) rfl rfl (by kernel_rfl) (by kernel_rfl) (by kernel_rfl) (by kernel_rfl) rfl rfl (fun _ _ _ h => h) ?_; intro a86 hE87; clear hE85
         refine d_pure (fun _ h => h) (v := .int .i64 v6L2) 5 rfl hE87 (y_move rfl) rfl (by kernel_rfl) (by kernel_rfl) (by kernel_rfl) rfl rfl (fun _ _ _ h => h) ?_; intro a88 hE89; clear hE87
         refine d_pure (fun _ h => h) (v := .int .i64 w4) 10 rfl hE89 (y_move rfl) rfl (by kernel_rfl) (by kernel_rfl) (by kernel_rfl) rfl rfl (fun _ _ _ h => h) ?_; intro a90 hE91; clear hE89
         refine d_only 4 (by kernel_rfl) rfl hE91 rfl (l_call (f := 172) (argv := [.int .i64 ap0]) hE91 (fun _ => cf_l01Full _ _) rfl rfl (d_l01Full ap0 w77 (by omega) (by omega)) ?_)
         rintro _ _ ⟨rfl, rfl⟩ a94 hE95; clear hE91
         refine ⟨fun _ _ => ⟨(St.cell (i := 2) hS79 rfl rfl _ (Ext.refl _)), (St.cell (i := 2) hS79 rfl rfl _ (Ext.refl _)), (RdS.elt (St.rdR (i := 3) hS79 rfl) (by omega) (by omega) _ (Ext.refl _)), trivial⟩, ?_⟩
         refine d_only 6 (by kernel_rfl) rfl hE95 rfl (l_call (f := 209) (argv := [.int .i64 v6L2]) hE95 (fun _ => cf_l01One _ _) rfl rfl (d_l01One v6L2 w77 (by omega) (by omega)) ?_)
         rintro _ _ ⟨rfl, rfl⟩ a100 hE101; clear hE95
         refine ⟨fun _ _ => ⟨(St.cell (i := 2) hS79 rfl rfl _ (Ext.refl _)), (St.cell (i := 2) hS79 rfl rfl _ (Ext.refl _)), (RdS.elt (St.rdR (i := 3) hS79 rfl) (by omega) (by omega) _ (Ext.refl _)), trivial⟩, ?_⟩
         refine d_pure (fun _ h => h) (v := .int .i64 ((fullI ap0) - (powI v6L2))) 7 rfl hE101 (y_sub rfl rfl ⟨(by omega), (by omega)⟩) rfl (by kernel_rfl) (by kernel_rfl) (by kernel_rfl) rfl rfl (fun _ _ _ h => h) ?_; intro a104 hE105; clear hE101
         refine d_pure (fun _ h => h) (v := .pointer (some (adr ap1A (Int.toNat ((fullI ap0) - (powI v6L2)))))) 8 rfl hE105 (y_idx (by kernel_rfl) (fun _ => by kernel_rfl) rfl rfl (RdS.isS (m := (fullI ap0) - (powI v6L2)) (St.rdR (i := 3) hS79 rfl) (by omega) (by omega)) (by omega) (by omega) (Nat.mul_one _).symm) rfl (by kernel_rfl) (by kernel_rfl) (by kernel_rfl) rfl rfl (fun _ _ _ h => h) ?_; intro a106 hE107; clear hE105
         refine d_take (fun _ h => h) (fun _ _ h k => h k) (v := .int .i64 (gI ap1 ((fullI ap0) - (powI v6L2)))) 9 rfl hE107 (S := fun w' => w'.cell? ⟨b2, 1, none⟩ = some (.slice ap1A ap1.length ap1C) ∧ w'.cell? ⟨b2, 0, none⟩ = some (.int .i64 ap0) ∧ w'.cell? (adr ap1A (Int.toNat ((fullI ap0) - (powI v6L2)))) = some (.int .i64 (gI ap1 ((fullI ap0) - (powI v6L2)))) ∧ True) ⟨(St.cell (i := 2) hS79 rfl rfl _ (Ext.refl _)), (St.cell (i := 2) hS79 rfl rfl _ (Ext.refl _)), (RdS.elt (St.rdR (i := 3) hS79 rfl) (by omega) (by omega) _ (Ext.refl _)), trivial⟩ (y_load (fun _ => by kernel_rfl) rfl (fun _ h => h.2.2.1)) rfl rfl (by kernel_rfl) (by kernel_rfl) (by kernel_rfl) (by kernel_rfl) rfl rfl (fun _ _ _ h => h) ?_; intro a108 hE109; clear hE107
         refine d_only 11 (by kernel_rfl) rfl hE109 rfl (l_call (f := 144) (argv := [.int .i64 (gI ap1 ((fullI ap0) - (powI v6L2))), .int .i64 w4]) hE109 (fun _ => cf_l01Bit _ _) rfl rfl (c_l01Bit (gI ap1 ((fullI ap0) - (powI v6L2))) w4 w77 (by omega) (by omega)) ?_)
         rintro _ _ ⟨rfl, rfl⟩ a112 hE113; clear hE109
         refine ⟨fun h => Bool.noConfusion (h.symm.trans (show exm _ _ _ = true by kernel_rfl)), ?_⟩
         refine d_pure (fun _ h => h) (v := .bool (!(F_l01Bit (gI ap1 ((fullI ap0) - (powI v6L2))) w4))) 12 rfl hE113 (y_not rfl) rfl (by kernel_rfl) (by kernel_rfl) (by kernel_rfl) rfl rfl (fun _ _ _ h => h) ?_; intro a116 hE117; clear hE113
         refine d_done (by kernel_rfl) ?_
         have hE118 := hE117.sub (L' := [(1, .pointer (some ⟨b2, 0, none⟩)), (2, .pointer (some ⟨b8, 0, none⟩)), (3, .slice arrows3A ((arrows3).length) arrows3C), (4, .int .i64 w4), (5, .int .i64 mask5L2), (6, .int .i64 v6L2), (32, .bool (!(F_l01Bit (gI ap1 ((fullI ap0) - (powI v6L2))) w4)))]) ⟨rfl, rfl, rfl, rfl, rfl, rfl, rfl, trivial⟩; clear hE117
         refine p_tn ?_
         refine c_cond hE118 rfl (fun ht119 => ?_) (fun ht119 => ?_)
         ·
          have ht120 := bn_t ht119
          have hE121 := hE118; rw [ht119] at hE121; clear hE118
          refine c_reg ?_
          refine q_step (v := .int .i64 mask5L2) hE121 (y_move rfl) rfl rfl rfl ?_; intro a122 hE123; clear hE121
          refine q_step (v := .int .i64 v6L2) hE123 (y_move rfl) rfl rfl rfl ?_; intro a124 hE125; clear hE123
          refine l_step hE125 rfl (l_call (f := 209) (argv := [.int .i64 v6L2]) hE125 (fun _ => cf_l01One _ _) rfl rfl (d_l01One v6L2 w77 (by omega) (by omega)) ?_)
          rintro _ _ ⟨rfl, rfl⟩ a128 hE129; clear hE125
          refine q_step (v := .int .i64 (orI mask5L2 (powI v6L2))) hE129 (y_or rfl rfl) rfl rfl rfl ?_; intro a132 hE133; clear hE129
          refine q_step (v := .int .i64 (orI mask5L2 (powI v6L2))) hE133 (y_assign rfl) rfl rfl rfl ?_; intro a134 hE135; clear hE133
          refine c_nil ?_
          have hE136 := hE135.sub (L' := [(1, .pointer (some ⟨b2, 0, none⟩)), (2, .pointer (some ⟨b8, 0, none⟩)), (3, .slice arrows3A ((arrows3).length) arrows3C), (4, .int .i64 w4), (5, .int .i64 (orI mask5L2 (powI v6L2))), (6, .int .i64 v6L2)]) ⟨rfl, rfl, rfl, rfl, rfl, rfl, trivial⟩; clear hE135
          refine p_bn ?_
          refine p_tn ?_
          have hE137 := hE136.sub (L' := [(1, .pointer (some ⟨b2, 0, none⟩)), (2, .pointer (some ⟨b8, 0, none⟩)), (3, .slice arrows3A ((arrows3).length) arrows3C), (4, .int .i64 w4), (5, .int .i64 (orI mask5L2 (powI v6L2))), (6, .int .i64 v6L2)]) ⟨rfl, rfl, rfl, rfl, rfl, rfl, trivial⟩
          have hS138 := (St.pick (Γ' := [.own 2 1 arrows3A ((arrows3).length) arrows3C arrows3, .blk b8 #[.int .i64 0, .slice none 0 0] 30, .rd 1 ap1A ap1.length ap1C ap1, .blk b2 #[.int .i64 ap0, .slice ap1A ap1.length ap1C] 79]) hS79 [0, 1, 3, 2] (by decide) rfl)
          exact ⟨(by rw [ht119]; exact hE137), hS138⟩
         ·
          have ht139 := bn_f ht119
          have hE140 := hE118; rw [ht119] at hE140; clear hE118
          refine wp_skip ?_
          refine p_bn ?_
          refine p_tn ?_
          have hE141 := hE140.sub (L' := [(1, .pointer (some ⟨b2, 0, none⟩)), (2, .pointer (some ⟨b8, 0, none⟩)), (3, .slice arrows3A ((arrows3).length) arrows3C), (4, .int .i64 w4), (5, .int .i64 mask5L2), (6, .int .i64 v6L2)]) ⟨rfl, rfl, rfl, rfl, rfl, rfl, trivial⟩
          have hS142 := (St.pick (Γ' := [.own 2 1 arrows3A ((arrows3).length) arrows3C arrows3, .blk b8 #[.int .i64 0, .slice none 0 0] 30, .rd 1 ap1A ap1.length ap1C ap1, .blk b2 #[.int .i64 ap0, .slice ap1A ap1.length ap1C] 79]) hS79 [0, 1, 3, 2] (by decide) rfl)
          exact ⟨(by rw [ht119]; exact hE141), hS142⟩
        ·
         rintro a143 w144 ⟨hE145, hS146⟩; clear hE76 hS60
         refine c_reg ?_
         refine q_step (v := .int .i64 v6L2) hE145 (y_move rfl) rfl rfl rfl ?_; intro a148 hE149; clear hE145
         refine q_step (v := .int .i64 (v6L2 + 1)) hE149 (y_add rfl rfl ⟨(by omega), (by omega)⟩) rfl rfl rfl ?_; intro a150 hE151; clear hE149
         refine q_step (v := .int .i64 (v6L2 + 1)) hE151 (y_assign rfl) rfl rfl rfl ?_; intro a152 hE153; clear hE151
         refine c_nil ?_
         have hE154 := hE153.sub (L' := [(1, .pointer (some ⟨b2, 0, none⟩)), (2, .pointer (some ⟨b8, 0, none⟩)), (3, .slice arrows3A ((arrows3).length) arrows3C), (4, .int .i64 w4), (5, .int .i64 (bif (!(F_l01Bit (gI ap1 ((fullI ap0) - (powI v6L2))) w4)) then orI mask5L2 (powI v6L2) else mask5L2)), (6, .int .i64 (v6L2 + 1))]) ⟨rfl, rfl, rfl, rfl, rfl, rfl, trivial⟩; clear hE153
         refine p_tn ⟨r64, Nat.lt_succ_self _, bif (!(F_l01Bit (gI ap1 ((fullI ap0) - (powI v6L2))) w4)) then orI mask5L2 (powI v6L2) else mask5L2, v6L2 + 1, (hT61.symm.trans (show F_l15Frame_L2b ap0 ap1 w4 (F_l15Frame_L2 ap0 ap1 w4 r64) mask5L2 v6L2 = F_l15Frame_L2 ap0 ap1 w4 r64 (bif (!(F_l01Bit (gI ap1 ((fullI ap0) - (powI v6L2))) w4)) then orI mask5L2 (powI v6L2) else mask5L2) (v6L2 + 1) by unfold F_l15Frame_L2b; rw [ht74]; first | done | rfl)).symm, (by omega), (by first | omega | (simp only [sS_len, sL_len]; omega) | (simp only [List.length_replicate, sI_len]; omega) | (simp only [List.length_append, List.length_cons, List.length_nil, sI_len, cond_true, cond_false]; omega) | (simp only [List.length_append, List.length_cons, List.length_nil, sI_len, cond_eq_ite, apply_ite List.length]; split <;> simp only [List.length_append, List.length_cons, List.length_nil, sI_len] <;> omega) | grind), (hE154.sub (L' := [(1, .pointer (some ⟨b2, 0, none⟩)), (2, .pointer (some ⟨b8, 0, none⟩)), (3, .slice arrows3A ((arrows3).length) arrows3C), (4, .int .i64 w4), (5, .int .i64 (bif (!(F_l01Bit (gI ap1 ((fullI ap0) - (powI v6L2))) w4)) then orI mask5L2 (powI v6L2) else mask5L2)), (6, .int .i64 (v6L2 + 1))]) ⟨rfl, rfl, rfl, rfl, rfl, rfl, trivial⟩), (St.pick (Γ' := [.own 2 1 arrows3A ((arrows3).length) arrows3C arrows3, .blk b8 #[.int .i64 0, .slice none 0 0] 30, .blk b2 #[.int .i64 ap0, .slice ap1A ap1.length ap1C] 79, .rd 1 ap1A ap1.length ap1C ap1]) hS146 [0, 1, 3, 2] (by decide) rfl)⟩
       ·
        have hp155 := of_decide_eq_false ht74
        have hE156 := hE73; rw [ht74] at hE156; clear hE73
        refine wp_exit ?_
        refine p_te ?_
        have hX157 : F_l15Frame_L2 ap0 ap1 w4 (Int.toNat (ap0 - 0) + 1) 0 0 = (mask5L2, v6L2) := hT61.symm.trans (show F_l15Frame_L2b ap0 ap1 w4 (F_l15Frame_L2 ap0 ap1 w4 r64) mask5L2 v6L2 = (mask5L2, v6L2) by unfold F_l15Frame_L2b; rw [ht74]; first | done | rfl)
        refine p_te (p_be (p_tn ?_))
        exact ⟨(by rw [hX157]; exact (show 0 ≤ v6L2 from (by first | omega | (simp only [sS_len, sL_len]; omega) | (simp only [List.length_replicate, sI_len]; omega) | (simp only [List.length_append, List.length_cons, List.length_nil, sI_len, cond_true, cond_false]; omega) | (simp only [List.length_append, List.length_cons, List.length_nil, sI_len, cond_eq_ite, apply_ite List.length]; split <;> simp only [List.length_append, List.length_cons, List.length_nil, sI_len] <;> omega) | grind))), (by rw [hX157]; exact (hE156.sub (L' := [(1, .pointer (some ⟨b2, 0, none⟩)), (2, .pointer (some ⟨b8, 0, none⟩)), (3, .slice arrows3A ((arrows3).length) arrows3C), (4, .int .i64 w4), (5, .int .i64 mask5L2), (6, .int .i64 v6L2)]) ⟨rfl, rfl, rfl, rfl, rfl, rfl, trivial⟩)), (St.pick (Γ' := [.own 2 1 arrows3A ((arrows3).length) arrows3C arrows3, .blk b8 #[.int .i64 0, .slice none 0 0] 30, .blk b2 #[.int .i64 ap0, .slice ap1A ap1.length ap1C] 79, .rd 1 ap1A ap1.length ap1C ap1]) hS60 [0, 1, 2, 3] (by decide) rfl)⟩
     ·
      rintro a158 w159 ⟨hi163, hE160, hS161⟩; clear hE55 hS31
      refine p_tn ?_
      refine c_reg ?_
      refine q_step (v := .slice arrows3A ((arrows3).length) arrows3C) hE160 (y_move rfl) rfl rfl rfl ?_; intro a164 hE165; clear hE160
      refine q_step (v := .int .i64 ((F_l15Frame_L2 ap0 ap1 w4 (Int.toNat (ap0 - 0) + 1) 0 0).1)) hE165 (y_move rfl) rfl rfl rfl ?_; intro a166 hE167; clear hE165
      refine l_step hE167 rfl (l_lit (e := 2) (s := 1) (xs := [(F_l15Frame_L2 ap0 ap1 w4 (Int.toNat (ap0 - 0) + 1) 0 0).1]) (vs := [.int .i64 ((F_l15Frame_L2 ap0 ap1 w4 (Int.toNat (ap0 - 0) + 1) 0 0).1)]) hS161 hE167 rfl (fun _ => by kernel_rfl) rfl rfl rfl ?_)
      intro b168 w169 hS172 he173 a170 hE171; clear hS161 hE167
      obtain ⟨_, hi1, hi2, hi3, hi4⟩ := info_parts (show (Try.prog.info? 2).map (fun i => (i.zero, i.size, i.bytes)) = some (some (.int .i64 0), 1, 8) by kernel_rfl)
      refine l_step hE171 rfl (l_append (k := 1) (n' := (arrows3 ++ ([(F_l15Frame_L2 ap0 ap1 w4 (Int.toNat (ap0 - 0) + 1) 0 0).1])).length) hS172 hE171 (by kernel_rfl) hi1 hi2 hi3 rfl (by decide) (by rw [hi4]; decide) rfl rfl rfl (St.rdO (i := 0) hS172 rfl) (by first | omega | (simp only [List.length_append, List.length_cons, List.length_nil]; omega)) (by have h1 := (St.rdO (i := 1) hS172 rfl).len1; have h2 := (St.rdO (i := 0) hS172 rfl).len1; first | rw [List.length_append, h1, h2] | (simp only [List.length_append])) rfl ?_)
      intro b174 c180 w175 hS178 a176 hE177; clear hS172 hE171 hi1 hi2 hi3 hi4
      refine q_step (v := .slice b174 ((arrows3 ++ ([(F_l15Frame_L2 ap0 ap1 w4 (Int.toNat (ap0 - 0) + 1) 0 0).1])).length) c180) hE177 (y_assign rfl) rfl rfl rfl ?_; intro a181 hE182; clear hE177
      refine c_nil ?_
      have hE183 := hE182.sub (L' := [(1, .pointer (some ⟨b2, 0, none⟩)), (2, .pointer (some ⟨b8, 0, none⟩)), (3, .slice b174 ((arrows3 ++ ([(F_l15Frame_L2 ap0 ap1 w4 (Int.toNat (ap0 - 0) + 1) 0 0).1])).length) c180), (4, .int .i64 w4)]) ⟨rfl, rfl, rfl, rfl, trivial⟩; clear hE182
      refine p_bn ?_
      refine p_tn ?_
      refine c_reg ?_
      refine q_step (v := .int .i64 w4) hE183 (y_move rfl) rfl rfl rfl ?_; intro a184 hE185; clear hE183
      refine q_step (v := .int .i64 (w4 + 1)) hE185 (y_add rfl rfl ⟨(by omega), (by omega)⟩) rfl rfl rfl ?_; intro a186 hE187; clear hE185
      refine q_step (v := .int .i64 (w4 + 1)) hE187 (y_assign rfl) rfl rfl rfl ?_; intro a188 hE189; clear hE187
      refine c_nil ?_
      have hE190 := hE189.sub (L' := [(1, .pointer (some ⟨b2, 0, none⟩)), (2, .pointer (some ⟨b8, 0, none⟩)), (3, .slice b174 ((arrows3 ++ ([(F_l15Frame_L2 ap0 ap1 w4 (Int.toNat (ap0 - 0) + 1) 0 0).1])).length) c180), (4, .int .i64 (w4 + 1))]) ⟨rfl, rfl, rfl, rfl, trivial⟩; clear hE189
      refine p_tn ⟨r37, Nat.lt_succ_self _, arrows3 ++ ([(F_l15Frame_L2 ap0 ap1 w4 (Int.toNat (ap0 - 0) + 1) 0 0).1]), w4 + 1, b174, c180, (hT32.symm.trans (show F_l15Frame_L1b ap0 ap1 (F_l15Frame_L1 ap0 ap1 r37) arrows3 w4 = F_l15Frame_L1 ap0 ap1 r37 (arrows3 ++ ([(F_l15Frame_L2 ap0 ap1 w4 (Int.toNat (ap0 - 0) + 1) 0 0).1])) (w4 + 1) by unfold F_l15Frame_L1b; rw [ht47]; first | done | rfl)).symm, (by omega), (by first | omega | (simp only [sS_len, sL_len]; omega) | (simp only [List.length_replicate, sI_len]; omega) | (simp only [List.length_append, List.length_cons, List.length_nil, sI_len, cond_true, cond_false]; omega) | (simp only [List.length_append, List.length_cons, List.length_nil, sI_len, cond_eq_ite, apply_ite List.length]; split <;> simp only [List.length_append, List.length_cons, List.length_nil, sI_len] <;> omega) | grind), (by first | omega | (simp only [sS_len, sL_len]; omega) | (simp only [List.length_replicate, sI_len]; omega) | (simp only [List.length_append, List.length_cons, List.length_nil, sI_len, cond_true, cond_false]; omega) | (simp only [List.length_append, List.length_cons, List.length_nil, sI_len, cond_eq_ite, apply_ite List.length]; split <;> simp only [List.length_append, List.length_cons, List.length_nil, sI_len] <;> omega) | grind), (by first | omega | (simp only [sS_len, sL_len]; omega) | (simp only [List.length_replicate, sI_len]; omega) | (simp only [List.length_append, List.length_cons, List.length_nil, sI_len, cond_true, cond_false]; omega) | (simp only [List.length_append, List.length_cons, List.length_nil, sI_len, cond_eq_ite, apply_ite List.length]; split <;> simp only [List.length_append, List.length_cons, List.length_nil, sI_len] <;> omega) | grind), (hE190.sub (L' := [(1, .pointer (some ⟨b2, 0, none⟩)), (2, .pointer (some ⟨b8, 0, none⟩)), (3, .slice b174 ((arrows3 ++ ([(F_l15Frame_L2 ap0 ap1 w4 (Int.toNat (ap0 - 0) + 1) 0 0).1])).length) c180), (4, .int .i64 (w4 + 1))]) ⟨rfl, rfl, rfl, rfl, trivial⟩), (St.pick (Γ' := [.own 2 1 b174 ((arrows3 ++ ([(F_l15Frame_L2 ap0 ap1 w4 (Int.toNat (ap0 - 0) + 1) 0 0).1])).length) c180 (arrows3 ++ ([(F_l15Frame_L2 ap0 ap1 w4 (Int.toNat (ap0 - 0) + 1) 0 0).1])), .blk b8 #[.int .i64 0, .slice none 0 0] 30, .blk b2 #[.int .i64 ap0, .slice ap1A ap1.length ap1C] 79, .rd 1 ap1A ap1.length ap1C ap1]) hS178 [1, 2, 3, 4] (by decide) rfl)⟩
    ·
     have hp191 := of_decide_eq_false ht47
     have hE192 := hE46; rw [ht47] at hE192; clear hE46
     refine wp_exit ?_
     refine p_te ?_
     have hX193 : F_l15Frame_L1 ap0 ap1 (Int.toNat (ap0 - 0) + 1) ([]) 0 = (arrows3, w4) := hT32.symm.trans (show F_l15Frame_L1b ap0 ap1 (F_l15Frame_L1 ap0 ap1 r37) arrows3 w4 = (arrows3, w4) by unfold F_l15Frame_L1b; rw [ht47]; first | done | rfl)
     refine p_te (p_be (p_tn ?_))
     exact ⟨arrows3A, arrows3C, (by rw [hX193]; exact (show 0 ≤ w4 from (by first | omega | (simp only [sS_len, sL_len]; omega) | (simp only [List.length_replicate, sI_len]; omega) | (simp only [List.length_append, List.length_cons, List.length_nil, sI_len, cond_true, cond_false]; omega) | (simp only [List.length_append, List.length_cons, List.length_nil, sI_len, cond_eq_ite, apply_ite List.length]; split <;> simp only [List.length_append, List.length_cons, List.length_nil, sI_len] <;> omega) | grind))), (by rw [hX193]; exact (show w4 ≤ ap0 from (by first | omega | (simp only [sS_len, sL_len]; omega) | (simp only [List.length_replicate, sI_len]; omega) | (simp only [List.length_append, List.length_cons, List.length_nil, sI_len, cond_true, cond_false]; omega) | (simp only [List.length_append, List.length_cons, List.length_nil, sI_len, cond_eq_ite, apply_ite List.length]; split <;> simp only [List.length_append, List.length_cons, List.length_nil, sI_len] <;> omega) | grind))), (by rw [hX193]; exact (show (arrows3.length : Int) ≤ w4 from (by first | omega | (simp only [sS_len, sL_len]; omega) | (simp only [List.length_replicate, sI_len]; omega) | (simp only [List.length_append, List.length_cons, List.length_nil, sI_len, cond_true, cond_false]; omega) | (simp only [List.length_append, List.length_cons, List.length_nil, sI_len, cond_eq_ite, apply_ite List.length]; split <;> simp only [List.length_append, List.length_cons, List.length_nil, sI_len] <;> omega) | grind))), (by rw [hX193]; exact (hE192.sub (L' := [(1, .pointer (some ⟨b2, 0, none⟩)), (2, .pointer (some ⟨b8, 0, none⟩)), (3, .slice arrows3A ((arrows3).length) arrows3C), (4, .int .i64 w4)]) ⟨rfl, rfl, rfl, rfl, trivial⟩)), (by rw [hX193]; exact (St.pick (Γ' := [.own 2 1 arrows3A ((arrows3).length) arrows3C arrows3, .blk b8 #[.int .i64 0, .slice none 0 0] 30, .blk b2 #[.int .i64 ap0, .slice ap1A ap1.length ap1C] 79, .rd 1 ap1A ap1.length ap1C ap1]) hS31 [0, 1, 2, 3] (by decide) rfl))⟩
  ·
   rintro a194 w195 ⟨arrows3A_27, arrows3C_27, hi199, hi200, hi201, hE196, hS197⟩; clear hE26 hS19
   refine p_tn ?_
   refine c_seq ?_
   refine c_reg ?_
   refine q_step (v := .slice arrows3A_27 (((F_l15Frame_L1 ap0 ap1 (Int.toNat (ap0 - 0) + 1) ([]) 0).1).length) arrows3C_27) hE196 (y_move rfl) rfl rfl rfl ?_; intro a202 hE203; clear hE196
   refine l_step hE203 rfl (l_call (f := 104) (argv := [.slice arrows3A_27 (((F_l15Frame_L1 ap0 ap1 (Int.toNat (ap0 - 0) + 1) ([]) 0).1).length) arrows3C_27]) hE203 (fun _ => cf_l05Make _ _) rfl rfl (d_l05Make arrows3A_27 (((F_l15Frame_L1 ap0 ap1 (Int.toNat (ap0 - 0) + 1) ([]) 0).1).length) arrows3C_27 ((F_l15Frame_L1 ap0 ap1 (Int.toNat (ap0 - 0) + 1) ([]) 0).1) w195 (St.rdO (i := 0) hS197 rfl) (by omega)) ?_)
   rintro _ w205 ⟨b210, c211, rfl, ho212, he209⟩ a206 hE207; clear hE203
   have hS208 := St.own hS197 he209 ho212; clear hS197
   refine l_step hE207 rfl (l_storeS (k := 2) (cs' := #[.int .i64 (((F_l15Frame_L1 ap0 ap1 (Int.toNat (ap0 - 0) + 1) ([]) 0).1).length : Int), .slice b210 (((F_l15Frame_L1 ap0 ap1 (Int.toNat (ap0 - 0) + 1) ([]) 0).1).length) c211]) hS208 hE207 (by kernel_rfl) rfl rfl (by kernel_rfl) rfl rfl ?_)
   intro w214 hS217 a215 hE216; clear hS208 hE207
   refine c_nil ?_
   have hE219 := hE216.sub (L' := [(2, .pointer (some ⟨b8, 0, none⟩))]) ⟨rfl, trivial⟩; clear hE216
   refine p_tn ?_
   refine wp_ret ?_
   have hF : F_l15Frame ap0 ap1 = ((((F_l15Frame_L1 ap0 ap1 (Int.toNat (ap0 - 0) + 1) ([]) 0).1).length : Int), ((F_l15Frame_L1 ap0 ap1 (Int.toNat (ap0 - 0) + 1) ([]) 0).1)) := by unfold F_l15Frame; rfl
   refine c_retC hE219 rfl rfl Try.underlying30 rfl (by kernel_rfl) (St.row (i := 2) hS217 rfl _ (Ext.refl _)) ?_
   exact ⟨b210, c211, (by rw [hF]; first | done | (dsimp only; done) | rfl), (by rw [hF]; (try dsimp only); exact hS217.ok 0 _ rfl), hS217.ext⟩
def F_s_FrameOfAlgebra (ap0 : Int) (ap1 : List Int) : (Int × List Int) × (Int) :=
  bif (!(F_l15Is ap0 ap1)) then ((0, []), 1) else (((F_l15Frame ap0 ap1).1, (F_l15Frame ap0 ap1).2), 0)
theorem cf_s_FrameOfAlgebra (args : Array Value) (w : World) : (callFunc 69 args).run Try.prog w = .ok (.enter 69 args) w := by kernel_rfl
set_option maxRecDepth 100000 in
theorem c_s_FrameOfAlgebra (ap0 : Int) (ap1A : Option Addr) (ap1N ap1C : Nat) (ap1 : List Int) (w : World) (ap1R : RdS w 1 ap1A ap1N ap1C ap1) :
    Calls Try.prog 69 #[.agg #[.int .i64 ap0, .slice ap1A ap1N ap1C]] w (Ret fun v w' => ∃ b1 : Option Addr, ∃ c1 : Nat, v = .tuple #[.agg #[.int .i64 (((F_s_FrameOfAlgebra ap0 ap1).1).1), .slice b1 (((F_s_FrameOfAlgebra ap0 ap1).1).2).length c1], .int .i64 ((F_s_FrameOfAlgebra ap0 ap1).2)] ∧ OwnS w' w.heap.size 2 1 b1 (((F_s_FrameOfAlgebra ap0 ap1).1).2).length c1 (((F_s_FrameOfAlgebra ap0 ap1).1).2) ∧ Ext w w') := by
  obtain rfl : ap1N = ap1.length := ap1R.len1.symm
  have ap1Le := ap1R.le
  have hS := St.nil w
  have hS1 := St.rd0 hS rfl ap1R; clear hS
  refine enter (args := [.agg #[.int .i64 ap0, .slice ap1A ap1.length ap1C]]) Try.func69 rfl rfl ?_
  rw [Try.ntmps69]; intro a hE
  have hE := hE.sub (L' := [(0, .agg #[.int .i64 ap0, .slice ap1A ap1.length ap1C])]) ⟨rfl, trivial⟩
  refine c_seq ?_
  refine c_reg ?_
  refine l_step hE rfl (l_box (v := .agg #[.int .i64 ap0, .slice ap1A ap1.length ap1C]) (cs := #[.int .i64 ap0, .slice ap1A ap1.length ap1C]) hS1 hE rfl rfl rfl ?_)
  intro b2 w3 hS6 he7 a4 hE5; clear hS1 hE
  refine l_step hE5 rfl (l_alloc (z := .agg #[.int .i64 0, .slice none 0 0]) (cs := #[.int .i64 0, .slice none 0 0]) hS6 hE5 (fun _ => by kernel_rfl) rfl rfl ?_)
  intro b8 w9 hS12 he13 a10 hE11; clear hS6 hE5
  refine q_step (v := .int .i64 0) hE11 (y_assign rfl) rfl rfl rfl ?_; intro a14 hE15; clear hE11
  refine c_nil ?_
  have hE16 := hE15.sub (L' := [(1, .pointer (some ⟨b2, 0, none⟩)), (2, .pointer (some ⟨b8, 0, none⟩))]) ⟨rfl, rfl, trivial⟩; clear hE15
  refine p_tn ?_
  refine c_seq ?_
  refine c_seq ?_
  refine c_reg ?_
  refine q_step (v := .agg #[.int .i64 ap0, .slice ap1A ap1.length ap1C]) hE16 (y_loadS Try.underlying79 rfl (by kernel_rfl) rfl (St.row (i := 1) hS12 rfl)) rfl rfl rfl ?_; intro a17 hE18; clear hE16
  refine l_step hE18 rfl (l_call (f := 131) (argv := [.agg #[.int .i64 ap0, .slice ap1A ap1.length ap1C]]) hE18 (fun _ => cf_l15Is _ _) rfl rfl (c_l15Is ap0 ap1A ap1.length ap1C ap1 w9 (St.rdR (i := 2) hS12 rfl)) ?_)
  rintro _ w20 ⟨rfl, he24⟩ a21 hE22; clear hE18
  have hS23 := St.go hS12 he24; clear hS12
  refine q_step (v := .bool (!(F_l15Is ap0 ap1))) hE22 (y_not rfl) rfl rfl rfl ?_; intro a25 hE26; clear hE22
  refine c_nil ?_
  have hE27 := hE26.sub (L' := [(1, .pointer (some ⟨b2, 0, none⟩)), (2, .pointer (some ⟨b8, 0, none⟩)), (6, .bool (!(F_l15Is ap0 ap1)))]) ⟨rfl, rfl, rfl, trivial⟩; clear hE26
  refine p_tn ?_
  refine c_cond hE27 rfl (fun ht28 => ?_) (fun ht28 => ?_)
  ·
   have ht29 := bn_t ht28
   have hE30 := hE27; rw [ht28] at hE30; clear hE27
   refine c_seq ?_
   refine c_reg ?_
   refine q_step (v := .agg #[.int .i64 0, .slice none 0 0]) hE30 (y_build (vs := #[]) (fun a n hE => by simp) (fun _ => by kernel_rfl)) rfl rfl rfl ?_; intro a31 hE32; clear hE30
   refine l_step hE32 rfl (l_storeS (k := 0) (cs' := #[.int .i64 0, .slice none 0 0]) hS23 hE32 (by kernel_rfl) rfl rfl (by kernel_rfl) rfl rfl ?_)
   intro w34 hS37 a35 hE36; clear hS23 hE32
   refine q_step (v := .int .i64 1) hE36 (y_assign rfl) rfl rfl rfl ?_; intro a39 hE40; clear hE36
   refine c_nil ?_
   have hE41 := hE40.sub (L' := [(2, .pointer (some ⟨b8, 0, none⟩)), (3, .int .i64 1)]) ⟨rfl, rfl, trivial⟩; clear hE40
   refine p_tn ?_
   refine wp_ret ?_
   refine p_tr ?_
   have hF : F_s_FrameOfAlgebra ap0 ap1 = ((0, []), 1) := by unfold F_s_FrameOfAlgebra; rw [ht28]; first | done | rfl
   refine c_retC2 hE41 rfl rfl rfl Try.underlying30 rfl (by kernel_rfl) (St.row (i := 0) hS37 rfl _ (Ext.refl _)) ?_
   exact ⟨none, 0, (by rw [hF]; first | done | (dsimp only; done) | rfl), (by rw [hF]; (try dsimp only); exact OwnS.nilS _ _ _ _), hS37.ext⟩
  ·
   have ht42 := bn_f ht28
   have hp43 := l15Is_t ht42
   have hE44 := hE27; rw [ht28] at hE44; clear hE27
   refine wp_skip ?_
   refine p_tn ?_
   refine c_seq ?_
   refine c_reg ?_
   refine q_step (v := .agg #[.int .i64 ap0, .slice ap1A ap1.length ap1C]) hE44 (y_loadS Try.underlying79 rfl (by kernel_rfl) rfl (St.row (i := 1) hS23 rfl)) rfl rfl rfl ?_; intro a45 hE46; clear hE44
   refine l_step hE46 rfl (l_call (f := 132) (argv := [.agg #[.int .i64 ap0, .slice ap1A ap1.length ap1C]]) hE46 (fun _ => cf_l15Frame _ _) rfl rfl (c_l15Frame ap0 ap1A ap1.length ap1C ap1 w20 (St.rdR (i := 2) hS23 rfl) (by omega) (by omega)) ?_)
   rintro _ w48 ⟨b53, c54, rfl, ho55, he52⟩ a49 hE50; clear hE46
   have hS51 := St.own hS23 he52 ho55; clear hS23
   refine l_step hE50 rfl (l_storeS (k := 1) (cs' := #[.int .i64 ((F_l15Frame ap0 ap1).1), .slice b53 (((F_l15Frame ap0 ap1).2).length) c54]) hS51 hE50 (by kernel_rfl) rfl rfl (by kernel_rfl) rfl rfl ?_)
   intro w57 hS60 a58 hE59; clear hS51 hE50
   refine q_step (v := .int .i64 0) hE59 (y_assign rfl) rfl rfl rfl ?_; intro a62 hE63; clear hE59
   refine c_nil ?_
   have hE64 := hE63.sub (L' := [(2, .pointer (some ⟨b8, 0, none⟩)), (3, .int .i64 0)]) ⟨rfl, rfl, trivial⟩; clear hE63
   refine p_tn ?_
   refine wp_ret ?_
   have hF : F_s_FrameOfAlgebra ap0 ap1 = (((F_l15Frame ap0 ap1).1, (F_l15Frame ap0 ap1).2), 0) := by unfold F_s_FrameOfAlgebra; rw [ht28]; first | done | rfl
   refine c_retC2 hE64 rfl rfl rfl Try.underlying30 rfl (by kernel_rfl) (St.row (i := 1) hS60 rfl _ (Ext.refl _)) ?_
   exact ⟨b53, c54, (by rw [hF]; first | done | (dsimp only; done) | rfl), (by rw [hF]; (try dsimp only); exact hS60.ok 0 _ rfl), hS60.ext⟩
def F_ModalAlgebra_frame_L2b (ap0 : Int) (ap1 : List Int) (t11 : Int) (rec : Int → (List Int) → Int × (List Int)) (t16L2 : Int) (out3L2 : List Int) : Int × (List Int) :=
  bif (decide (t16L2 < ap0)) then (rec (t16L2 + 1) (bif (!(F_has (gI ap1 (anI (fullI ap0) (shlI 1 t11))) t16L2)) then sI out3L2 t16L2 (orI (gI out3L2 t16L2) (shlI 1 t11)) else out3L2)) else (t16L2, out3L2)
def F_ModalAlgebra_frame_L2 (ap0 : Int) (ap1 : List Int) (t11 : Int) : Nat → Int → (List Int) → Int × (List Int)
  | 0, t16L2, out3L2 => (t16L2, out3L2)
  | r + 1, t16L2, out3L2 => F_ModalAlgebra_frame_L2b ap0 ap1 t11 (F_ModalAlgebra_frame_L2 ap0 ap1 t11 r) t16L2 out3L2
def F_ModalAlgebra_frame_L1b (ap0 : Int) (ap1 : List Int) (rec : Int → (List Int) → Int × (List Int)) (t11 : Int) (out3 : List Int) : Int × (List Int) :=
  bif (decide (t11 < ap0)) then (rec (t11 + 1) ((F_ModalAlgebra_frame_L2 ap0 ap1 t11 (Int.toNat (ap0 - 0) + 1) 0 out3).2)) else (t11, out3)
def F_ModalAlgebra_frame_L1 (ap0 : Int) (ap1 : List Int) : Nat → Int → (List Int) → Int × (List Int)
  | 0, t11, out3 => (t11, out3)
  | r + 1, t11, out3 => F_ModalAlgebra_frame_L1b ap0 ap1 (F_ModalAlgebra_frame_L1 ap0 ap1 r) t11 out3
def F_ModalAlgebra_frame (ap0 : Int) (ap1 : List Int) : Int × List Int :=
  ((F_frameOf ((F_ModalAlgebra_frame_L1 ap0 ap1 (Int.toNat (ap0 - 0) + 1) 0 (List.replicate (Int.toNat ap0) 0)).2)).1, (F_ModalAlgebra_frame_L1 ap0 ap1 (Int.toNat (ap0 - 0) + 1) 0 (List.replicate (Int.toNat ap0) 0)).2)
theorem cf_ModalAlgebra_frame (args : Array Value) (w : World) : (callFunc 130 args).run Try.prog w = .ok (.enter 130 args) w := by kernel_rfl
set_option maxRecDepth 100000 in
theorem c_ModalAlgebra_frame (ap0 : Int) (ap1A : Option Addr) (ap1N ap1C : Nat) (ap1 : List Int) (w : World) (ap1R : RdS w 1 ap1A ap1N ap1C ap1) (ha : (0 ≤ ap0 ∧ ap0 ≤ 5) ∧ 0 ≤ fullI ap0 ∧ fullI ap0 ≤ 31) (hla : (ap1.length : Int) = fullI ap0 + 1) :
    Calls Try.prog 130 #[.agg #[.int .i64 ap0, .slice ap1A ap1N ap1C]] w (Ret fun v w' => ∃ b1 : Option Addr, ∃ c1 : Nat, v = .agg #[.int .i64 ((F_ModalAlgebra_frame ap0 ap1).1), .slice b1 ((F_ModalAlgebra_frame ap0 ap1).2).length c1] ∧ OwnS w' w.heap.size 2 1 b1 ((F_ModalAlgebra_frame ap0 ap1).2).length c1 ((F_ModalAlgebra_frame ap0 ap1).2) ∧ Ext w w') := by
  obtain rfl : ap1N = ap1.length := ap1R.len1.symm
  have ap1Le := ap1R.le
  have hS := St.nil w
  have hS1 := St.rd0 hS rfl ap1R; clear hS
  refine enter (args := [.agg #[.int .i64 ap0, .slice ap1A ap1.length ap1C]]) Try.func130 rfl rfl ?_
  rw [Try.ntmps130]; intro a hE
  have hE := hE.sub (L' := [(0, .agg #[.int .i64 ap0, .slice ap1A ap1.length ap1C])]) ⟨rfl, trivial⟩
  refine c_seq ?_
  refine c_reg ?_
  refine l_step hE rfl (l_box (v := .agg #[.int .i64 ap0, .slice ap1A ap1.length ap1C]) (cs := #[.int .i64 ap0, .slice ap1A ap1.length ap1C]) hS1 hE rfl rfl rfl ?_)
  intro b2 w3 hS6 he7 a4 hE5; clear hS1 hE
  refine l_step hE5 rfl (l_alloc (z := .agg #[.int .i64 0, .slice none 0 0]) (cs := #[.int .i64 0, .slice none 0 0]) hS6 hE5 (fun _ => by kernel_rfl) rfl rfl ?_)
  intro b8 w9 hS12 he13 a10 hE11; clear hS6 hE5
  refine c_nil ?_
  have hE14 := hE11.sub (L' := [(1, .pointer (some ⟨b2, 0, none⟩)), (2, .pointer (some ⟨b8, 0, none⟩))]) ⟨rfl, rfl, trivial⟩; clear hE11
  refine p_tn ?_
  refine c_seq ?_
  refine c_reg ?_
  refine q_step (v := .pointer (some ⟨b2, 0, none⟩)) hE14 (y_field rfl (fun _ => by kernel_rfl)) rfl rfl rfl ?_; intro a15 hE16; clear hE14
  refine q_step (v := .int .i64 ap0) hE16 (y_load (fun _ => by kernel_rfl) rfl (St.cell (i := 1) hS12 rfl rfl)) rfl rfl rfl ?_; intro a17 hE18; clear hE16
  refine l_step hE18 rfl (l_make (e := 2) (m := ap0) hS12 hE18 (by kernel_rfl) (by kernel_rfl) rfl rfl (by omega) (by omega) rfl ?_)
  intro b19 w20 hS23 he24 a21 hE22; clear hS12 hE18
  refine q_step (v := .slice b19 (Int.toNat ap0) (Int.toNat ap0)) hE22 (y_assign rfl) rfl rfl rfl ?_; intro a25 hE26; clear hE22
  refine c_nil ?_
  have hE27 := hE26.sub (L' := [(1, .pointer (some ⟨b2, 0, none⟩)), (2, .pointer (some ⟨b8, 0, none⟩)), (3, .slice b19 (Int.toNat ap0) (Int.toNat ap0))]) ⟨rfl, rfl, rfl, trivial⟩; clear hE26
  refine p_tn ?_
  refine c_seq ?_
  refine c_seq ?_
  refine c_reg ?_
  refine q_step (v := .pointer (some ⟨b2, 0, none⟩)) hE27 (y_field rfl (fun _ => by kernel_rfl)) rfl rfl rfl ?_; intro a28 hE29; clear hE27
  refine q_step (v := .int .i64 ap0) hE29 (y_load (fun _ => by kernel_rfl) rfl (St.cell (i := 2) hS23 rfl rfl)) rfl rfl rfl ?_; intro a30 hE31; clear hE29
  refine q_step (v := .int .i64 0) hE31 (y_move rfl) rfl rfl rfl ?_; intro a32 hE33; clear hE31
  refine c_nil ?_
  have hE34 := hE33.sub (L' := [(1, .pointer (some ⟨b2, 0, none⟩)), (2, .pointer (some ⟨b8, 0, none⟩)), (3, .slice b19 (Int.toNat ap0) (Int.toNat ap0)), (10, .int .i64 ap0), (11, .int .i64 0)]) ⟨rfl, rfl, rfl, rfl, rfl, trivial⟩; clear hE33
  refine p_tn ?_
  refine c_cut1 (fun a' w' => (0 ≤ ((F_ModalAlgebra_frame_L1 ap0 ap1 (Int.toNat (ap0 - 0) + 1) 0 (List.replicate (Int.toNat ap0) 0)).1)) ∧ E a' 43 [(1, .pointer (some ⟨b2, 0, none⟩)), (2, .pointer (some ⟨b8, 0, none⟩)), (3, .slice b19 (Int.toNat ap0) (Int.toNat ap0)), (10, .int .i64 ap0), (11, .int .i64 ((F_ModalAlgebra_frame_L1 ap0 ap1 (Int.toNat (ap0 - 0) + 1) 0 (List.replicate (Int.toNat ap0) 0)).1))] ∧ St w w' [.own 2 1 b19 (Int.toNat ap0) (Int.toNat ap0) ((F_ModalAlgebra_frame_L1 ap0 ap1 (Int.toNat (ap0 - 0) + 1) 0 (List.replicate (Int.toNat ap0) 0)).2), .blk b8 #[.int .i64 0, .slice none 0 0] 30, .blk b2 #[.int .i64 ap0, .slice ap1A ap1.length ap1C] 79, .rd 1 ap1A ap1.length ap1C ap1]) ?_ ?_
  ·
   refine wp_block ?_
   refine c_loop (fun r a' w' => ∃ t11 : Int, ∃ out3 : List Int, F_ModalAlgebra_frame_L1 ap0 ap1 r t11 out3 = F_ModalAlgebra_frame_L1 ap0 ap1 (Int.toNat (ap0 - 0) + 1) 0 (List.replicate (Int.toNat ap0) 0) ∧ Int.toNat (ap0 - t11) < r ∧ (0 ≤ t11) ∧ E a' 43 [(1, .pointer (some ⟨b2, 0, none⟩)), (2, .pointer (some ⟨b8, 0, none⟩)), (3, .slice b19 (Int.toNat ap0) (Int.toNat ap0)), (10, .int .i64 ap0), (11, .int .i64 t11)] ∧ St w w' [.own 2 1 b19 (Int.toNat ap0) (Int.toNat ap0) out3, .blk b8 #[.int .i64 0, .slice none 0 0] 30, .blk b2 #[.int .i64 ap0, .slice ap1A ap1.length ap1C] 79, .rd 1 ap1A ap1.length ap1C ap1]) (r := (Int.toNat (ap0 - 0) + 1)) ?_ ?_
   · exact ⟨0, List.replicate (Int.toNat ap0) 0, rfl, Nat.lt_succ_self _, (by first | omega | (simp only [sS_len, sL_len]; omega) | (simp only [List.length_replicate, sI_len]; omega) | (simp only [List.length_append, List.length_cons, List.length_nil, sI_len, cond_true, cond_false]; omega) | (simp only [List.length_append, List.length_cons, List.length_nil, sI_len, cond_eq_ite, apply_ite List.length]; split <;> simp only [List.length_append, List.length_cons, List.length_nil, sI_len] <;> omega) | grind), (hE34.sub (L' := [(1, .pointer (some ⟨b2, 0, none⟩)), (2, .pointer (some ⟨b8, 0, none⟩)), (3, .slice b19 (Int.toNat ap0) (Int.toNat ap0)), (10, .int .i64 ap0), (11, .int .i64 0)]) ⟨rfl, rfl, rfl, rfl, rfl, trivial⟩), (St.pick (Γ' := [.own 2 1 b19 (Int.toNat ap0) (Int.toNat ap0) (List.replicate (Int.toNat ap0) 0), .blk b8 #[.int .i64 0, .slice none 0 0] 30, .blk b2 #[.int .i64 ap0, .slice ap1A ap1.length ap1C] 79, .rd 1 ap1A ap1.length ap1C ap1]) hS23 [0, 1, 2, 3] (by decide) rfl)⟩
   ·
    clear hE34 hS23
    rintro r43 a36 w37 ⟨t11, out3, hT40, hr41, hi42, hE38, hS39⟩
    obtain ⟨r43, rfl⟩ : ∃ r', r43 = r' + 1 := ⟨r43 - 1, by omega⟩
    refine c_seq ?_
    refine c_reg ?_
    refine q_step (v := .bool (decide (t11 < ap0))) hE38 (y_lss rfl rfl) rfl rfl rfl ?_; intro a44 hE45; clear hE38
    refine c_nil ?_
    have hE46 := hE45.sub (L' := [(1, .pointer (some ⟨b2, 0, none⟩)), (2, .pointer (some ⟨b8, 0, none⟩)), (3, .slice b19 (Int.toNat ap0) (Int.toNat ap0)), (10, .int .i64 ap0), (11, .int .i64 t11), (12, .bool (decide (t11 < ap0)))]) ⟨rfl, rfl, rfl, rfl, rfl, rfl, trivial⟩; clear hE45
    refine p_tn ?_
    refine c_seq ?_
    refine c_cond hE46 rfl (fun ht47 => ?_) (fun ht47 => ?_)
    ·
     have hp48 := of_decide_eq_true ht47
     have hE49 := hE46; rw [ht47] at hE49; clear hE46
     have hp1 := pow_full (n := ap0) (v := t11) (by omega) (by omega) (by omega)
     have hs1 := pow_shl (i := t11) (by omega) (by omega)
     have ha1 := anI_le (m := fullI ap0) (k := shlI 1 t11) (by omega) (by omega) (by omega) (by omega)
     refine wp_skip ?_
     refine p_tn ?_
     refine c_seq ?_
     refine wp_block ?_
     refine c_seq ?_
     refine c_reg ?_
     refine q_step (v := .int .i64 t11) hE49 (y_move rfl) rfl rfl rfl ?_; intro a50 hE51; clear hE49
     refine q_step (v := .int .i64 t11) hE51 (y_assign rfl) rfl rfl rfl ?_; intro a52 hE53; clear hE51
     refine c_nil ?_
     have hE54 := hE53.sub (L' := [(1, .pointer (some ⟨b2, 0, none⟩)), (2, .pointer (some ⟨b8, 0, none⟩)), (3, .slice b19 (Int.toNat ap0) (Int.toNat ap0)), (4, .int .i64 t11), (10, .int .i64 ap0), (11, .int .i64 t11)]) ⟨rfl, rfl, rfl, rfl, rfl, rfl, trivial⟩; clear hE53
     refine p_tn ?_
     refine c_seq ?_
     refine c_reg ?_
     refine q_step (v := .pointer (some ⟨b2, 0, none⟩)) hE54 (y_field rfl (fun _ => by kernel_rfl)) rfl rfl rfl ?_; intro a55 hE56; clear hE54
     refine q_step (v := .int .i64 ap0) hE56 (y_load (fun _ => by kernel_rfl) rfl (St.cell (i := 2) hS39 rfl rfl)) rfl rfl rfl ?_; intro a57 hE58; clear hE56
     refine q_step (v := .int .i64 0) hE58 (y_move rfl) rfl rfl rfl ?_; intro a59 hE60; clear hE58
     refine c_nil ?_
     have hE61 := hE60.sub (L' := [(1, .pointer (some ⟨b2, 0, none⟩)), (2, .pointer (some ⟨b8, 0, none⟩)), (3, .slice b19 (Int.toNat ap0) (Int.toNat ap0)), (4, .int .i64 t11), (10, .int .i64 ap0), (11, .int .i64 t11), (15, .int .i64 ap0), (16, .int .i64 0)]) ⟨rfl, rfl, rfl, rfl, rfl, rfl, rfl, rfl, trivial⟩; clear hE60
     refine p_tn ?_
     refine c_cut1 (fun a' w' => (0 ≤ ((F_ModalAlgebra_frame_L2 ap0 ap1 t11 (Int.toNat (ap0 - 0) + 1) 0 out3).1)) ∧ E a' 43 [(1, .pointer (some ⟨b2, 0, none⟩)), (2, .pointer (some ⟨b8, 0, none⟩)), (3, .slice b19 (Int.toNat ap0) (Int.toNat ap0)), (4, .int .i64 t11), (10, .int .i64 ap0), (11, .int .i64 t11), (15, .int .i64 ap0), (16, .int .i64 ((F_ModalAlgebra_frame_L2 ap0 ap1 t11 (Int.toNat (ap0 - 0) + 1) 0 out3).1))] ∧ St w w' [.own 2 1 b19 (Int.toNat ap0) (Int.toNat ap0) ((F_ModalAlgebra_frame_L2 ap0 ap1 t11 (Int.toNat (ap0 - 0) + 1) 0 out3).2), .blk b8 #[.int .i64 0, .slice none 0 0] 30, .blk b2 #[.int .i64 ap0, .slice ap1A ap1.length ap1C] 79, .rd 1 ap1A ap1.length ap1C ap1]) ?_ ?_
     ·
      refine wp_block ?_
      refine c_loop (fun r a' w' => ∃ t16L2 : Int, ∃ out3L2 : List Int, F_ModalAlgebra_frame_L2 ap0 ap1 t11 r t16L2 out3L2 = F_ModalAlgebra_frame_L2 ap0 ap1 t11 (Int.toNat (ap0 - 0) + 1) 0 out3 ∧ Int.toNat (ap0 - t16L2) < r ∧ (0 ≤ t16L2) ∧ E a' 43 [(1, .pointer (some ⟨b2, 0, none⟩)), (2, .pointer (some ⟨b8, 0, none⟩)), (3, .slice b19 (Int.toNat ap0) (Int.toNat ap0)), (4, .int .i64 t11), (10, .int .i64 ap0), (11, .int .i64 t11), (15, .int .i64 ap0), (16, .int .i64 t16L2)] ∧ St w w' [.own 2 1 b19 (Int.toNat ap0) (Int.toNat ap0) out3L2, .blk b8 #[.int .i64 0, .slice none 0 0] 30, .blk b2 #[.int .i64 ap0, .slice ap1A ap1.length ap1C] 79, .rd 1 ap1A ap1.length ap1C ap1]) (r := (Int.toNat (ap0 - 0) + 1)) ?_ ?_
      · exact ⟨0, out3, rfl, Nat.lt_succ_self _, (by first | omega | (simp only [sS_len, sL_len]; omega) | (simp only [List.length_replicate, sI_len]; omega) | (simp only [List.length_append, List.length_cons, List.length_nil, sI_len, cond_true, cond_false]; omega) | (simp only [List.length_append, List.length_cons, List.length_nil, sI_len, cond_eq_ite, apply_ite List.length]; split <;> simp only [List.length_append, List.length_cons, List.length_nil, sI_len] <;> omega) | grind), (hE61.sub (L' := [(1, .pointer (some ⟨b2, 0, none⟩)), (2, .pointer (some ⟨b8, 0, none⟩)), (3, .slice b19 (Int.toNat ap0) (Int.toNat ap0)), (4, .int .i64 t11), (10, .int .i64 ap0), (11, .int .i64 t11), (15, .int .i64 ap0), (16, .int .i64 0)]) ⟨rfl, rfl, rfl, rfl, rfl, rfl, rfl, rfl, trivial⟩), (St.pick (Γ' := [.own 2 1 b19 (Int.toNat ap0) (Int.toNat ap0) out3, .blk b8 #[.int .i64 0, .slice none 0 0] 30, .blk b2 #[.int .i64 ap0, .slice ap1A ap1.length ap1C] 79, .rd 1 ap1A ap1.length ap1C ap1]) hS39 [0, 1, 2, 3] (by decide) rfl)⟩
      ·
       clear hE61 hS39
       rintro r70 a63 w64 ⟨t16L2, out3L2, hT67, hr68, hi69, hE65, hS66⟩
       obtain ⟨r70, rfl⟩ : ∃ r', r70 = r' + 1 := ⟨r70 - 1, by omega⟩
       refine c_seq ?_
       refine c_reg ?_
       refine q_step (v := .bool (decide (t16L2 < ap0))) hE65 (y_lss rfl rfl) rfl rfl rfl ?_; intro a71 hE72; clear hE65
       refine c_nil ?_
       have hE73 := hE72.sub (L' := [(1, .pointer (some ⟨b2, 0, none⟩)), (2, .pointer (some ⟨b8, 0, none⟩)), (3, .slice b19 (Int.toNat ap0) (Int.toNat ap0)), (4, .int .i64 t11), (10, .int .i64 ap0), (11, .int .i64 t11), (15, .int .i64 ap0), (16, .int .i64 t16L2), (17, .bool (decide (t16L2 < ap0)))]) ⟨rfl, rfl, rfl, rfl, rfl, rfl, rfl, rfl, rfl, trivial⟩; clear hE72
       refine p_tn ?_
       refine c_seq ?_
       refine c_cond hE73 rfl (fun ht74 => ?_) (fun ht74 => ?_)
       ·
        have hp75 := of_decide_eq_true ht74
        have hE76 := hE73; rw [ht74] at hE76; clear hE73
        refine wp_skip ?_
        refine p_tn ?_
        refine c_cut (fun a' w' => E a' 43 [(1, .pointer (some ⟨b2, 0, none⟩)), (2, .pointer (some ⟨b8, 0, none⟩)), (3, .slice b19 (Int.toNat ap0) (Int.toNat ap0)), (4, .int .i64 t11), (10, .int .i64 ap0), (11, .int .i64 t11), (15, .int .i64 ap0), (16, .int .i64 t16L2)] ∧ St w w' [.own 2 1 b19 (Int.toNat ap0) (Int.toNat ap0) (bif (!(F_has (gI ap1 (anI (fullI ap0) (shlI 1 t11))) t16L2)) then sI out3L2 t16L2 (orI (gI out3L2 t16L2) (shlI 1 t11)) else out3L2), .blk b8 #[.int .i64 0, .slice none 0 0] 30, .rd 1 ap1A ap1.length ap1C ap1, .blk b2 #[.int .i64 ap0, .slice ap1A ap1.length ap1C] 79]) ?_ ?_
        ·
         refine wp_block ?_
         refine c_seq ?_
         refine c_reg ?_
         refine q_step (v := .int .i64 t16L2) hE76 (y_move rfl) rfl rfl rfl ?_; intro a77 hE78; clear hE76
         refine q_step (v := .int .i64 t16L2) hE78 (y_assign rfl) rfl rfl rfl ?_; intro a79 hE80; clear hE78
         refine c_nil ?_
         have hE81 := hE80.sub (L' := [(1, .pointer (some ⟨b2, 0, none⟩)), (2, .pointer (some ⟨b8, 0, none⟩)), (3, .slice b19 (Int.toNat ap0) (Int.toNat ap0)), (4, .int .i64 t11), (5, .int .i64 t16L2), (10, .int .i64 ap0), (11, .int .i64 t11), (15, .int .i64 ap0), (16, .int .i64 t16L2)]) ⟨rfl, rfl, rfl, rfl, rfl, rfl, rfl, rfl, rfl, trivial⟩; clear hE80
         refine p_tn ?_
         refine c_seq ?_
         refine d_start (fun w w' => (fun w' => w'.cell? ⟨b2, 1, none⟩ = some (.slice ap1A ap1.length ap1C) ∧ w'.heap[b2]? = some (.cells #[.int .i64 ap0, .slice ap1A ap1.length ap1C] 79 (0, 0)) ∧ w'.cell? (adr ap1A (Int.toNat (anI (fullI ap0) (shlI 1 t11)))) = some (.int .i64 (gI ap1 (anI (fullI ap0) (shlI 1 t11)))) ∧ True) w → (fun w' => w'.cell? ⟨b2, 1, none⟩ = some (.slice ap1A ap1.length ap1C) ∧ w'.heap[b2]? = some (.cells #[.int .i64 ap0, .slice ap1A ap1.length ap1C] 79 (0, 0)) ∧ w'.cell? (adr ap1A (Int.toNat (anI (fullI ap0) (shlI 1 t11)))) = some (.int .i64 (gI ap1 (anI (fullI ap0) (shlI 1 t11)))) ∧ True) w') [1, 2, 8] 12 (by kernel_rfl) rfl ?_
         intro w82 he83; have hS84 := St.go hS66 he83; clear hS66
         refine d_pure (fun _ h => h) (v := .pointer (some ⟨b2, 1, none⟩)) 0 rfl hE81 (y_field rfl (fun _ => by kernel_rfl)) rfl (by kernel_rfl) (by kernel_rfl) (by kernel_rfl) rfl rfl (fun _ _ _ h => h) ?_; intro a85 hE86; clear hE81
         refine d_take (fun _ h => h) (fun _ _ h k => h k) (v := .slice ap1A ap1.length ap1C) 1 rfl hE86 (S := fun w' => w'.cell? ⟨b2, 1, none⟩ = some (.slice ap1A ap1.length ap1C) ∧ w'.heap[b2]? = some (.cells #[.int .i64 ap0, .slice ap1A ap1.length ap1C] 79 (0, 0)) ∧ w'.cell? (adr ap1A (Int.toNat (anI (fullI ap0) (shlI 1 t11)))) = some (.int .i64 (gI ap1 (anI (fullI ap0) (shlI 1 t11)))) ∧ True) ⟨(St.cell (i := 2) hS84 rfl rfl _ (Ext.refl _)), (St.row (i := 2) hS84 rfl _ (Ext.refl _)), (RdS.elt (St.rdR (i := 3) hS84 rfl) (by omega) (by omega) _ (Ext.refl _)), trivial⟩ (y_load (fun _ => by kernel_rfl) rfl (fun _ h => h.1)) rfl rfl (by kernel_rfl) (by kernel_rfl) (by kernel_rfl) (by kernel_rfl) rfl rfl (fun _ _ _ h => h) ?_; intro a87 hE88; clear hE86
         refine d_take (fun _ h => h) (fun _ _ h k => h k) (v := .agg #[.int .i64 ap0, .slice ap1A ap1.length ap1C]) 2 rfl hE88 (S := fun w' => w'.cell? ⟨b2, 1, none⟩ = some (.slice ap1A ap1.length ap1C) ∧ w'.heap[b2]? = some (.cells #[.int .i64 ap0, .slice ap1A ap1.length ap1C] 79 (0, 0)) ∧ w'.cell? (adr ap1A (Int.toNat (anI (fullI ap0) (shlI 1 t11)))) = some (.int .i64 (gI ap1 (anI (fullI ap0) (shlI 1 t11)))) ∧ True) ⟨(St.cell (i := 2) hS84 rfl rfl _ (Ext.refl _)), (St.row (i := 2) hS84 rfl _ (Ext.refl _)), (RdS.elt (St.rdR (i := 3) hS84 rfl) (by omega) (by omega) _ (Ext.refl _)), trivial⟩ (y_loadS Try.underlying79 rfl (by kernel_rfl) rfl (fun _ h => h.2.1)) rfl rfl (by kernel_rfl) (by kernel_rfl) (by kernel_rfl) (by kernel_rfl) rfl rfl (fun _ _ _ h => h) ?_; intro a89 hE90; clear hE88
         refine d_pure (fun _ h => h) (v := .int .i64 t11) 4 rfl hE90 (y_move rfl) rfl (by kernel_rfl) (by kernel_rfl) (by kernel_rfl) rfl rfl (fun _ _ _ h => h) ?_; intro a91 hE92; clear hE90
         refine d_pure (fun _ h => h) (v := .int .i64 (shlI 1 t11)) 5 rfl hE92 (y_shl rfl rfl (by omega)) rfl (by kernel_rfl) (by kernel_rfl) (by kernel_rfl) rfl rfl (fun _ _ _ h => h) ?_; intro a93 hE94; clear hE92
         refine d_pure (fun _ h => h) (v := .int .i64 t16L2) 9 rfl hE94 (y_move rfl) rfl (by kernel_rfl) (by kernel_rfl) (by kernel_rfl) rfl rfl (fun _ _ _ h => h) ?_; intro a95 hE96; clear hE94
         refine d_only 3 (by kernel_rfl) rfl hE96 rfl (l_call (f := 206) (argv := [.agg #[.int .i64 ap0, .slice ap1A ap1.length ap1C]]) hE96 (fun _ => cf_ModalAlgebra_full _ _) rfl rfl (d_ModalAlgebra_full ap0 ap1A ap1.length ap1C ap1 w82 (St.rdR (i := 3) hS84 rfl) (by omega) (by omega)) ?_)
         rintro _ w98 ⟨rfl, he102⟩ a99 hE100; clear hE96
         have hf103 := fullI_bd (n := ap0) (by omega) (by omega)
         have hS101 := St.go hS84 he102; clear hS84
         refine ⟨fun _ _ => ⟨(St.cell (i := 2) hS101 rfl rfl _ (Ext.refl _)), (St.row (i := 2) hS101 rfl _ (Ext.refl _)), (RdS.elt (St.rdR (i := 3) hS101 rfl) (by omega) (by omega) _ (Ext.refl _)), trivial⟩, ?_⟩
         refine d_pure (fun _ h => h) (v := .int .i64 (anI (fullI ap0) (shlI 1 t11))) 6 rfl hE100 (y_andNot rfl rfl) rfl (by kernel_rfl) (by kernel_rfl) (by kernel_rfl) rfl rfl (fun _ _ _ h => h) ?_; intro a104 hE105; clear hE100
         refine d_pure (fun _ h => h) (v := .pointer (some (adr ap1A (Int.toNat (anI (fullI ap0) (shlI 1 t11)))))) 7 rfl hE105 (y_idx (by kernel_rfl) (fun _ => by kernel_rfl) rfl rfl (RdS.isS (m := anI (fullI ap0) (shlI 1 t11)) (St.rdR (i := 3) hS101 rfl) (by omega) (by omega)) (by omega) (by omega) (Nat.mul_one _).symm) rfl (by kernel_rfl) (by kernel_rfl) (by kernel_rfl) rfl rfl (fun _ _ _ h => h) ?_; intro a106 hE107; clear hE105
         refine d_take (fun _ h => h) (fun _ _ h k => h k) (v := .int .i64 (gI ap1 (anI (fullI ap0) (shlI 1 t11)))) 8 rfl hE107 (S := fun w' => w'.cell? ⟨b2, 1, none⟩ = some (.slice ap1A ap1.length ap1C) ∧ w'.heap[b2]? = some (.cells #[.int .i64 ap0, .slice ap1A ap1.length ap1C] 79 (0, 0)) ∧ w'.cell? (adr ap1A (Int.toNat (anI (fullI ap0) (shlI 1 t11)))) = some (.int .i64 (gI ap1 (anI (fullI ap0) (shlI 1 t11)))) ∧ True) ⟨(St.cell (i := 2) hS101 rfl rfl _ (Ext.refl _)), (St.row (i := 2) hS101 rfl _ (Ext.refl _)), (RdS.elt (St.rdR (i := 3) hS101 rfl) (by omega) (by omega) _ (Ext.refl _)), trivial⟩ (y_load (fun _ => by kernel_rfl) rfl (fun _ h => h.2.2.1)) rfl rfl (by kernel_rfl) (by kernel_rfl) (by kernel_rfl) (by kernel_rfl) rfl rfl (fun _ _ _ h => h) ?_; intro a108 hE109; clear hE107
         refine d_only 10 (by kernel_rfl) rfl hE109 rfl (l_call (f := 155) (argv := [.int .i64 (gI ap1 (anI (fullI ap0) (shlI 1 t11))), .int .i64 t16L2]) hE109 (fun _ => cf_has _ _) rfl rfl (c_has (gI ap1 (anI (fullI ap0) (shlI 1 t11))) t16L2 w98 (by omega)) ?_)
         rintro _ _ ⟨rfl, rfl⟩ a112 hE113; clear hE109
         refine ⟨fun h => Bool.noConfusion (h.symm.trans (show exm _ _ _ = true by kernel_rfl)), ?_⟩
         refine d_pure (fun _ h => h) (v := .bool (!(F_has (gI ap1 (anI (fullI ap0) (shlI 1 t11))) t16L2))) 11 rfl hE113 (y_not rfl) rfl (by kernel_rfl) (by kernel_rfl) (by kernel_rfl) rfl rfl (fun _ _ _ h => h) ?_; intro a116 hE117; clear hE113
         refine d_done (by kernel_rfl) ?_
         have hE118 := hE117.sub (L' := [(1, .pointer (some ⟨b2, 0, none⟩)), (2, .pointer (some ⟨b8, 0, none⟩)), (3, .slice b19 (Int.toNat ap0) (Int.toNat ap0)), (4, .int .i64 t11), (5, .int .i64 t16L2), (10, .int .i64 ap0), (11, .int .i64 t11), (15, .int .i64 ap0), (16, .int .i64 t16L2), (30, .bool (!(F_has (gI ap1 (anI (fullI ap0) (shlI 1 t11))) t16L2)))]) ⟨rfl, rfl, rfl, rfl, rfl, rfl, rfl, rfl, rfl, rfl, trivial⟩; clear hE117
         refine p_tn ?_
         refine c_cond hE118 rfl (fun ht119 => ?_) (fun ht119 => ?_)
         ·
          have ht120 := bn_t ht119
          have hE121 := hE118; rw [ht119] at hE121; clear hE118
          refine d_start (fun w w' => (fun w' => w'.cell? (adr b19 (Int.toNat t16L2)) = some (.int .i64 (gI out3L2 t16L2)) ∧ True) w → (fun w' => w'.cell? (adr b19 (Int.toNat t16L2)) = some (.int .i64 (gI out3L2 t16L2)) ∧ True) w') [3] 9 (by kernel_rfl) rfl ?_
          intro w122 he123; have hS124 := St.go hS101 he123; clear hS101
          refine d_pure (fun _ h => h) (v := .slice b19 (Int.toNat ap0) (Int.toNat ap0)) 0 rfl hE121 (y_move rfl) rfl (by kernel_rfl) (by kernel_rfl) (by kernel_rfl) rfl rfl (fun _ _ _ h => h) ?_; intro a125 hE126; clear hE121
          refine d_pure (fun _ h => h) (v := .int .i64 t16L2) 1 rfl hE126 (y_move rfl) rfl (by kernel_rfl) (by kernel_rfl) (by kernel_rfl) rfl rfl (fun _ _ _ h => h) ?_; intro a127 hE128; clear hE126
          refine d_pure (fun _ h => h) (v := .pointer (some (adr b19 (Int.toNat t16L2)))) 2 rfl hE128 (y_idx (by kernel_rfl) (fun _ => by kernel_rfl) rfl rfl (RdS.isS (m := t16L2) (St.rdO (i := 0) hS124 rfl) (by omega) (by omega)) (by omega) (by omega) (Nat.mul_one _).symm) rfl (by kernel_rfl) (by kernel_rfl) (by kernel_rfl) rfl rfl (fun _ _ _ h => h) ?_; intro a129 hE130; clear hE128
          refine d_take (fun _ h => h) (fun _ _ h k => h k) (v := .int .i64 (gI out3L2 t16L2)) 3 rfl hE130 (S := fun w' => w'.cell? (adr b19 (Int.toNat t16L2)) = some (.int .i64 (gI out3L2 t16L2)) ∧ True) ⟨(RdS.elt (St.rdO (i := 0) hS124 rfl) (by omega) (by omega) _ (Ext.refl _)), trivial⟩ (y_load (fun _ => by kernel_rfl) rfl (fun _ h => h.1)) rfl rfl (by kernel_rfl) (by kernel_rfl) (by kernel_rfl) (by kernel_rfl) rfl rfl (fun _ _ _ h => h) ?_; intro a131 hE132; clear hE130
          refine d_pure (fun _ h => h) (v := .int .i64 t11) 4 rfl hE132 (y_move rfl) rfl (by kernel_rfl) (by kernel_rfl) (by kernel_rfl) rfl rfl (fun _ _ _ h => h) ?_; intro a133 hE134; clear hE132
          refine d_pure (fun _ h => h) (v := .int .i64 (shlI 1 t11)) 5 rfl hE134 (y_shl rfl rfl (by omega)) rfl (by kernel_rfl) (by kernel_rfl) (by kernel_rfl) rfl rfl (fun _ _ _ h => h) ?_; intro a135 hE136; clear hE134
          refine d_pure (fun _ h => h) (v := .int .i64 (orI (gI out3L2 t16L2) (shlI 1 t11))) 6 rfl hE136 (y_or rfl rfl) rfl (by kernel_rfl) (by kernel_rfl) (by kernel_rfl) rfl rfl (fun _ _ _ h => h) ?_; intro a137 hE138; clear hE136
          refine d_pure (fun _ h => h) (v := .pointer (some (adr b19 (Int.toNat t16L2)))) 7 rfl hE138 (y_idx (by kernel_rfl) (fun _ => by kernel_rfl) rfl rfl (RdS.isS (m := t16L2) (St.rdO (i := 0) hS124 rfl) (by omega) (by omega)) (by omega) (by omega) (Nat.mul_one _).symm) rfl (by kernel_rfl) (by kernel_rfl) (by kernel_rfl) rfl rfl (fun _ _ _ h => h) ?_; intro a139 hE140; clear hE138
          refine d_only 8 (by kernel_rfl) rfl hE140 rfl (l_store (k := 0) hS124 hE140 (fun _ => by kernel_rfl) rfl rfl rfl (by omega) (by omega) ?_)
          intro w142 hS145 a143 hE144; clear hS124 hE140
          refine ⟨fun h => Bool.noConfusion (h.symm.trans (show exm _ _ _ = true by kernel_rfl)), ?_⟩
          refine d_done (by kernel_rfl) ?_
          have hE147 := hE144.sub (L' := [(1, .pointer (some ⟨b2, 0, none⟩)), (2, .pointer (some ⟨b8, 0, none⟩)), (3, .slice b19 (Int.toNat ap0) (Int.toNat ap0)), (4, .int .i64 t11), (10, .int .i64 ap0), (11, .int .i64 t11), (15, .int .i64 ap0), (16, .int .i64 t16L2)]) ⟨rfl, rfl, rfl, rfl, rfl, rfl, rfl, rfl, trivial⟩; clear hE144
          refine p_bn ?_
          refine p_tn ?_
          have hE148 := hE147.sub (L' := [(1, .pointer (some ⟨b2, 0, none⟩)), (2, .pointer (some ⟨b8, 0, none⟩)), (3, .slice b19 (Int.toNat ap0) (Int.toNat ap0)), (4, .int .i64 t11), (10, .int .i64 ap0), (11, .int .i64 t11), (15, .int .i64 ap0), (16, .int .i64 t16L2)]) ⟨rfl, rfl, rfl, rfl, rfl, rfl, rfl, rfl, trivial⟩
          have hS149 := (St.pick (Γ' := [.own 2 1 b19 (Int.toNat ap0) (Int.toNat ap0) (sI out3L2 t16L2 (orI (gI out3L2 t16L2) (shlI 1 t11))), .blk b8 #[.int .i64 0, .slice none 0 0] 30, .rd 1 ap1A ap1.length ap1C ap1, .blk b2 #[.int .i64 ap0, .slice ap1A ap1.length ap1C] 79]) hS145 [0, 1, 3, 2] (by decide) rfl)
          exact ⟨hE148, (by rw [ht119]; exact hS149)⟩
         ·
          have ht150 := bn_f ht119
          have hE151 := hE118; rw [ht119] at hE151; clear hE118
          refine wp_skip ?_
          refine p_bn ?_
          refine p_tn ?_
          have hE152 := hE151.sub (L' := [(1, .pointer (some ⟨b2, 0, none⟩)), (2, .pointer (some ⟨b8, 0, none⟩)), (3, .slice b19 (Int.toNat ap0) (Int.toNat ap0)), (4, .int .i64 t11), (10, .int .i64 ap0), (11, .int .i64 t11), (15, .int .i64 ap0), (16, .int .i64 t16L2)]) ⟨rfl, rfl, rfl, rfl, rfl, rfl, rfl, rfl, trivial⟩
          have hS153 := (St.pick (Γ' := [.own 2 1 b19 (Int.toNat ap0) (Int.toNat ap0) out3L2, .blk b8 #[.int .i64 0, .slice none 0 0] 30, .rd 1 ap1A ap1.length ap1C ap1, .blk b2 #[.int .i64 ap0, .slice ap1A ap1.length ap1C] 79]) hS101 [0, 1, 3, 2] (by decide) rfl)
          exact ⟨hE152, (by rw [ht119]; exact hS153)⟩
        ·
         rintro a154 w155 ⟨hE156, hS157⟩; clear hE76 hS66
         refine c_reg ?_
         refine q_step (v := .int .i64 (t16L2 + 1)) hE156 (y_add rfl rfl ⟨(by omega), (by omega)⟩) rfl rfl rfl ?_; intro a159 hE160; clear hE156
         refine q_step (v := .int .i64 (t16L2 + 1)) hE160 (y_move rfl) rfl rfl rfl ?_; intro a161 hE162; clear hE160
         refine c_nil ?_
         have hE163 := hE162.sub (L' := [(1, .pointer (some ⟨b2, 0, none⟩)), (2, .pointer (some ⟨b8, 0, none⟩)), (3, .slice b19 (Int.toNat ap0) (Int.toNat ap0)), (4, .int .i64 t11), (10, .int .i64 ap0), (11, .int .i64 t11), (15, .int .i64 ap0), (16, .int .i64 (t16L2 + 1))]) ⟨rfl, rfl, rfl, rfl, rfl, rfl, rfl, rfl, trivial⟩; clear hE162
         have hl164 := (St.rdO (i := 0) hS157 rfl).len1
         refine p_tn ⟨r70, Nat.lt_succ_self _, t16L2 + 1, bif (!(F_has (gI ap1 (anI (fullI ap0) (shlI 1 t11))) t16L2)) then sI out3L2 t16L2 (orI (gI out3L2 t16L2) (shlI 1 t11)) else out3L2, (hT67.symm.trans (show F_ModalAlgebra_frame_L2b ap0 ap1 t11 (F_ModalAlgebra_frame_L2 ap0 ap1 t11 r70) t16L2 out3L2 = F_ModalAlgebra_frame_L2 ap0 ap1 t11 r70 (t16L2 + 1) (bif (!(F_has (gI ap1 (anI (fullI ap0) (shlI 1 t11))) t16L2)) then sI out3L2 t16L2 (orI (gI out3L2 t16L2) (shlI 1 t11)) else out3L2) by unfold F_ModalAlgebra_frame_L2b; rw [ht74]; first | done | rfl)).symm, (by omega), (by first | omega | (simp only [sS_len, sL_len]; omega) | (simp only [List.length_replicate, sI_len]; omega) | (simp only [List.length_append, List.length_cons, List.length_nil, sI_len, cond_true, cond_false]; omega) | (simp only [List.length_append, List.length_cons, List.length_nil, sI_len, cond_eq_ite, apply_ite List.length]; split <;> simp only [List.length_append, List.length_cons, List.length_nil, sI_len] <;> omega) | grind), (hE163.sub (L' := [(1, .pointer (some ⟨b2, 0, none⟩)), (2, .pointer (some ⟨b8, 0, none⟩)), (3, .slice b19 (Int.toNat ap0) (Int.toNat ap0)), (4, .int .i64 t11), (10, .int .i64 ap0), (11, .int .i64 t11), (15, .int .i64 ap0), (16, .int .i64 (t16L2 + 1))]) ⟨rfl, rfl, rfl, rfl, rfl, rfl, rfl, rfl, trivial⟩), (St.pick (Γ' := [.own 2 1 b19 (Int.toNat ap0) (Int.toNat ap0) (bif (!(F_has (gI ap1 (anI (fullI ap0) (shlI 1 t11))) t16L2)) then sI out3L2 t16L2 (orI (gI out3L2 t16L2) (shlI 1 t11)) else out3L2), .blk b8 #[.int .i64 0, .slice none 0 0] 30, .blk b2 #[.int .i64 ap0, .slice ap1A ap1.length ap1C] 79, .rd 1 ap1A ap1.length ap1C ap1]) hS157 [0, 1, 3, 2] (by decide) rfl)⟩
       ·
        have hp165 := of_decide_eq_false ht74
        have hE166 := hE73; rw [ht74] at hE166; clear hE73
        refine wp_exit ?_
        refine p_te ?_
        have hX167 : F_ModalAlgebra_frame_L2 ap0 ap1 t11 (Int.toNat (ap0 - 0) + 1) 0 out3 = (t16L2, out3L2) := hT67.symm.trans (show F_ModalAlgebra_frame_L2b ap0 ap1 t11 (F_ModalAlgebra_frame_L2 ap0 ap1 t11 r70) t16L2 out3L2 = (t16L2, out3L2) by unfold F_ModalAlgebra_frame_L2b; rw [ht74]; first | done | rfl)
        refine p_te (p_be (p_tn ?_))
        exact ⟨(by rw [hX167]; exact (show 0 ≤ t16L2 from (by first | omega | (simp only [sS_len, sL_len]; omega) | (simp only [List.length_replicate, sI_len]; omega) | (simp only [List.length_append, List.length_cons, List.length_nil, sI_len, cond_true, cond_false]; omega) | (simp only [List.length_append, List.length_cons, List.length_nil, sI_len, cond_eq_ite, apply_ite List.length]; split <;> simp only [List.length_append, List.length_cons, List.length_nil, sI_len] <;> omega) | grind))), (by rw [hX167]; exact (hE166.sub (L' := [(1, .pointer (some ⟨b2, 0, none⟩)), (2, .pointer (some ⟨b8, 0, none⟩)), (3, .slice b19 (Int.toNat ap0) (Int.toNat ap0)), (4, .int .i64 t11), (10, .int .i64 ap0), (11, .int .i64 t11), (15, .int .i64 ap0), (16, .int .i64 t16L2)]) ⟨rfl, rfl, rfl, rfl, rfl, rfl, rfl, rfl, trivial⟩)), (by rw [hX167]; exact (St.pick (Γ' := [.own 2 1 b19 (Int.toNat ap0) (Int.toNat ap0) out3L2, .blk b8 #[.int .i64 0, .slice none 0 0] 30, .blk b2 #[.int .i64 ap0, .slice ap1A ap1.length ap1C] 79, .rd 1 ap1A ap1.length ap1C ap1]) hS66 [0, 1, 2, 3] (by decide) rfl))⟩
     ·
      rintro a168 w169 ⟨hi173, hE170, hS171⟩; clear hE61 hS39
      refine p_bn ?_
      refine p_tn ?_
      refine c_reg ?_
      refine q_step (v := .int .i64 (t11 + 1)) hE170 (y_add rfl rfl ⟨(by omega), (by omega)⟩) rfl rfl rfl ?_; intro a174 hE175; clear hE170
      refine q_step (v := .int .i64 (t11 + 1)) hE175 (y_move rfl) rfl rfl rfl ?_; intro a176 hE177; clear hE175
      refine c_nil ?_
      have hE178 := hE177.sub (L' := [(1, .pointer (some ⟨b2, 0, none⟩)), (2, .pointer (some ⟨b8, 0, none⟩)), (3, .slice b19 (Int.toNat ap0) (Int.toNat ap0)), (10, .int .i64 ap0), (11, .int .i64 (t11 + 1))]) ⟨rfl, rfl, rfl, rfl, rfl, trivial⟩; clear hE177
      refine p_tn ⟨r43, Nat.lt_succ_self _, t11 + 1, (F_ModalAlgebra_frame_L2 ap0 ap1 t11 (Int.toNat (ap0 - 0) + 1) 0 out3).2, (hT40.symm.trans (show F_ModalAlgebra_frame_L1b ap0 ap1 (F_ModalAlgebra_frame_L1 ap0 ap1 r43) t11 out3 = F_ModalAlgebra_frame_L1 ap0 ap1 r43 (t11 + 1) ((F_ModalAlgebra_frame_L2 ap0 ap1 t11 (Int.toNat (ap0 - 0) + 1) 0 out3).2) by unfold F_ModalAlgebra_frame_L1b; rw [ht47]; first | done | rfl)).symm, (by omega), (by first | omega | (simp only [sS_len, sL_len]; omega) | (simp only [List.length_replicate, sI_len]; omega) | (simp only [List.length_append, List.length_cons, List.length_nil, sI_len, cond_true, cond_false]; omega) | (simp only [List.length_append, List.length_cons, List.length_nil, sI_len, cond_eq_ite, apply_ite List.length]; split <;> simp only [List.length_append, List.length_cons, List.length_nil, sI_len] <;> omega) | grind), (hE178.sub (L' := [(1, .pointer (some ⟨b2, 0, none⟩)), (2, .pointer (some ⟨b8, 0, none⟩)), (3, .slice b19 (Int.toNat ap0) (Int.toNat ap0)), (10, .int .i64 ap0), (11, .int .i64 (t11 + 1))]) ⟨rfl, rfl, rfl, rfl, rfl, trivial⟩), (St.pick (Γ' := [.own 2 1 b19 (Int.toNat ap0) (Int.toNat ap0) ((F_ModalAlgebra_frame_L2 ap0 ap1 t11 (Int.toNat (ap0 - 0) + 1) 0 out3).2), .blk b8 #[.int .i64 0, .slice none 0 0] 30, .blk b2 #[.int .i64 ap0, .slice ap1A ap1.length ap1C] 79, .rd 1 ap1A ap1.length ap1C ap1]) hS171 [0, 1, 2, 3] (by decide) rfl)⟩
    ·
     have hp179 := of_decide_eq_false ht47
     have hE180 := hE46; rw [ht47] at hE180; clear hE46
     refine wp_exit ?_
     refine p_te ?_
     have hX181 : F_ModalAlgebra_frame_L1 ap0 ap1 (Int.toNat (ap0 - 0) + 1) 0 (List.replicate (Int.toNat ap0) 0) = (t11, out3) := hT40.symm.trans (show F_ModalAlgebra_frame_L1b ap0 ap1 (F_ModalAlgebra_frame_L1 ap0 ap1 r43) t11 out3 = (t11, out3) by unfold F_ModalAlgebra_frame_L1b; rw [ht47]; first | done | rfl)
     refine p_te (p_be (p_tn ?_))
     exact ⟨(by rw [hX181]; exact (show 0 ≤ t11 from (by first | omega | (simp only [sS_len, sL_len]; omega) | (simp only [List.length_replicate, sI_len]; omega) | (simp only [List.length_append, List.length_cons, List.length_nil, sI_len, cond_true, cond_false]; omega) | (simp only [List.length_append, List.length_cons, List.length_nil, sI_len, cond_eq_ite, apply_ite List.length]; split <;> simp only [List.length_append, List.length_cons, List.length_nil, sI_len] <;> omega) | grind))), (by rw [hX181]; exact (hE180.sub (L' := [(1, .pointer (some ⟨b2, 0, none⟩)), (2, .pointer (some ⟨b8, 0, none⟩)), (3, .slice b19 (Int.toNat ap0) (Int.toNat ap0)), (10, .int .i64 ap0), (11, .int .i64 t11)]) ⟨rfl, rfl, rfl, rfl, rfl, trivial⟩)), (by rw [hX181]; exact (St.pick (Γ' := [.own 2 1 b19 (Int.toNat ap0) (Int.toNat ap0) out3, .blk b8 #[.int .i64 0, .slice none 0 0] 30, .blk b2 #[.int .i64 ap0, .slice ap1A ap1.length ap1C] 79, .rd 1 ap1A ap1.length ap1C ap1]) hS39 [0, 1, 2, 3] (by decide) rfl))⟩
  ·
   rintro a182 w183 ⟨hi187, hE184, hS185⟩; clear hE34 hS23
   refine p_tn ?_
   refine c_seq ?_
   refine c_reg ?_
   refine q_step (v := .slice b19 (Int.toNat ap0) (Int.toNat ap0)) hE184 (y_move rfl) rfl rfl rfl ?_; intro a188 hE189; clear hE184
   refine l_step hE189 rfl (l_call (f := 106) (argv := [.slice b19 (Int.toNat ap0) (Int.toNat ap0)]) hE189 (fun _ => cf_frameOf _ _) rfl rfl (c_frameOf b19 (Int.toNat ap0) (Int.toNat ap0) ((F_ModalAlgebra_frame_L1 ap0 ap1 (Int.toNat (ap0 - 0) + 1) 0 (List.replicate (Int.toNat ap0) 0)).2) w183 (St.rdO (i := 0) hS185 rfl)) ?_)
   rintro _ w191 ⟨rfl, he195⟩ a192 hE193; clear hE189
   have hS194 := St.go hS185 he195; clear hS185
   refine l_step hE193 rfl (l_storeS (k := 1) (cs' := #[.int .i64 ((F_frameOf ((F_ModalAlgebra_frame_L1 ap0 ap1 (Int.toNat (ap0 - 0) + 1) 0 (List.replicate (Int.toNat ap0) 0)).2)).1), .slice b19 (Int.toNat ap0) (Int.toNat ap0)]) hS194 hE193 (by kernel_rfl) rfl rfl (by kernel_rfl) rfl rfl ?_)
   intro w197 hS200 a198 hE199; clear hS194 hE193
   refine c_nil ?_
   have hE202 := hE199.sub (L' := [(2, .pointer (some ⟨b8, 0, none⟩))]) ⟨rfl, trivial⟩; clear hE199
   refine p_tn ?_
   refine wp_ret ?_
   have hF : F_ModalAlgebra_frame ap0 ap1 = ((F_frameOf ((F_ModalAlgebra_frame_L1 ap0 ap1 (Int.toNat (ap0 - 0) + 1) 0 (List.replicate (Int.toNat ap0) 0)).2)).1, (F_ModalAlgebra_frame_L1 ap0 ap1 (Int.toNat (ap0 - 0) + 1) 0 (List.replicate (Int.toNat ap0) 0)).2) := by unfold F_ModalAlgebra_frame; rfl
   refine c_retC hE202 rfl rfl Try.underlying30 rfl (by kernel_rfl) (St.row (i := 1) hS200 rfl _ (Ext.refl _)) ?_
   exact ⟨b19, Int.toNat ap0, (by rw [hF]; first | rfl | (rw [(St.rdO (i := 0) hS200 rfl).len1])), (by rw [hF, (St.rdO (i := 0) hS200 rfl).len1]; (try dsimp only); exact hS200.ok 0 _ rfl), hS200.ext⟩
def F_FrameOfAlgebra (ap0 : Int) (ap1 : List Int) : (Int × List Int) × (Int) :=
  bif (!(F_isModalAlgebra ap0 ap1)) then ((0, []), 1) else (((F_ModalAlgebra_frame ap0 ap1).1, (F_ModalAlgebra_frame ap0 ap1).2), 0)
theorem cf_FrameOfAlgebra (args : Array Value) (w : World) : (callFunc 68 args).run Try.prog w = .ok (.enter 68 args) w := by kernel_rfl
set_option maxRecDepth 100000 in
theorem c_FrameOfAlgebra (ap0 : Int) (ap1A : Option Addr) (ap1N ap1C : Nat) (ap1 : List Int) (w : World) (ap1R : RdS w 1 ap1A ap1N ap1C ap1) :
    Calls Try.prog 68 #[.agg #[.int .i64 ap0, .slice ap1A ap1N ap1C]] w (Ret fun v w' => ∃ b1 : Option Addr, ∃ c1 : Nat, v = .tuple #[.agg #[.int .i64 (((F_FrameOfAlgebra ap0 ap1).1).1), .slice b1 (((F_FrameOfAlgebra ap0 ap1).1).2).length c1], .int .i64 ((F_FrameOfAlgebra ap0 ap1).2)] ∧ OwnS w' w.heap.size 2 1 b1 (((F_FrameOfAlgebra ap0 ap1).1).2).length c1 (((F_FrameOfAlgebra ap0 ap1).1).2) ∧ Ext w w') := by
  obtain rfl : ap1N = ap1.length := ap1R.len1.symm
  have ap1Le := ap1R.le
  have hS := St.nil w
  have hS1 := St.rd0 hS rfl ap1R; clear hS
  refine enter (args := [.agg #[.int .i64 ap0, .slice ap1A ap1.length ap1C]]) Try.func68 rfl rfl ?_
  rw [Try.ntmps68]; intro a hE
  have hE := hE.sub (L' := [(0, .agg #[.int .i64 ap0, .slice ap1A ap1.length ap1C])]) ⟨rfl, trivial⟩
  refine c_seq ?_
  refine c_reg ?_
  refine l_step hE rfl (l_box (v := .agg #[.int .i64 ap0, .slice ap1A ap1.length ap1C]) (cs := #[.int .i64 ap0, .slice ap1A ap1.length ap1C]) hS1 hE rfl rfl rfl ?_)
  intro b2 w3 hS6 he7 a4 hE5; clear hS1 hE
  refine l_step hE5 rfl (l_alloc (z := .agg #[.int .i64 0, .slice none 0 0]) (cs := #[.int .i64 0, .slice none 0 0]) hS6 hE5 (fun _ => by kernel_rfl) rfl rfl ?_)
  intro b8 w9 hS12 he13 a10 hE11; clear hS6 hE5
  refine q_step (v := .int .i64 0) hE11 (y_assign rfl) rfl rfl rfl ?_; intro a14 hE15; clear hE11
  refine c_nil ?_
  have hE16 := hE15.sub (L' := [(1, .pointer (some ⟨b2, 0, none⟩)), (2, .pointer (some ⟨b8, 0, none⟩))]) ⟨rfl, rfl, trivial⟩; clear hE15
  refine p_tn ?_
  refine c_seq ?_
  refine c_seq ?_
  refine c_reg ?_
  refine q_step (v := .agg #[.int .i64 ap0, .slice ap1A ap1.length ap1C]) hE16 (y_loadS Try.underlying79 rfl (by kernel_rfl) rfl (St.row (i := 1) hS12 rfl)) rfl rfl rfl ?_; intro a17 hE18; clear hE16
  refine l_step hE18 rfl (l_call (f := 129) (argv := [.agg #[.int .i64 ap0, .slice ap1A ap1.length ap1C]]) hE18 (fun _ => cf_isModalAlgebra _ _) rfl rfl (c_isModalAlgebra ap0 ap1A ap1.length ap1C ap1 w9 (St.rdR (i := 2) hS12 rfl)) ?_)
  rintro _ w20 ⟨rfl, he24⟩ a21 hE22; clear hE18
  have hS23 := St.go hS12 he24; clear hS12
  refine q_step (v := .bool (!(F_isModalAlgebra ap0 ap1))) hE22 (y_not rfl) rfl rfl rfl ?_; intro a25 hE26; clear hE22
  refine c_nil ?_
  have hE27 := hE26.sub (L' := [(1, .pointer (some ⟨b2, 0, none⟩)), (2, .pointer (some ⟨b8, 0, none⟩)), (6, .bool (!(F_isModalAlgebra ap0 ap1)))]) ⟨rfl, rfl, rfl, trivial⟩; clear hE26
  refine p_tn ?_
  refine c_cond hE27 rfl (fun ht28 => ?_) (fun ht28 => ?_)
  ·
   have ht29 := bn_t ht28
   have hE30 := hE27; rw [ht28] at hE30; clear hE27
   refine c_seq ?_
   refine c_reg ?_
   refine q_step (v := .agg #[.int .i64 0, .slice none 0 0]) hE30 (y_build (vs := #[]) (fun a n hE => by simp) (fun _ => by kernel_rfl)) rfl rfl rfl ?_; intro a31 hE32; clear hE30
   refine l_step hE32 rfl (l_storeS (k := 0) (cs' := #[.int .i64 0, .slice none 0 0]) hS23 hE32 (by kernel_rfl) rfl rfl (by kernel_rfl) rfl rfl ?_)
   intro w34 hS37 a35 hE36; clear hS23 hE32
   refine q_step (v := .int .i64 1) hE36 (y_assign rfl) rfl rfl rfl ?_; intro a39 hE40; clear hE36
   refine c_nil ?_
   have hE41 := hE40.sub (L' := [(2, .pointer (some ⟨b8, 0, none⟩)), (3, .int .i64 1)]) ⟨rfl, rfl, trivial⟩; clear hE40
   refine p_tn ?_
   refine wp_ret ?_
   refine p_tr ?_
   have hF : F_FrameOfAlgebra ap0 ap1 = ((0, []), 1) := by unfold F_FrameOfAlgebra; rw [ht28]; first | done | rfl
   refine c_retC2 hE41 rfl rfl rfl Try.underlying30 rfl (by kernel_rfl) (St.row (i := 0) hS37 rfl _ (Ext.refl _)) ?_
   exact ⟨none, 0, (by rw [hF]; first | done | (dsimp only; done) | rfl), (by rw [hF]; (try dsimp only); exact OwnS.nilS _ _ _ _), hS37.ext⟩
  ·
   have ht42 := bn_f ht28
   have hp43 := isModal_t ht42
   have hE44 := hE27; rw [ht28] at hE44; clear hE27
   refine wp_skip ?_
   refine p_tn ?_
   refine c_seq ?_
   refine c_reg ?_
   refine q_step (v := .agg #[.int .i64 ap0, .slice ap1A ap1.length ap1C]) hE44 (y_loadS Try.underlying79 rfl (by kernel_rfl) rfl (St.row (i := 1) hS23 rfl)) rfl rfl rfl ?_; intro a45 hE46; clear hE44
   refine l_step hE46 rfl (l_call (f := 130) (argv := [.agg #[.int .i64 ap0, .slice ap1A ap1.length ap1C]]) hE46 (fun _ => cf_ModalAlgebra_frame _ _) rfl rfl (c_ModalAlgebra_frame ap0 ap1A ap1.length ap1C ap1 w20 (St.rdR (i := 2) hS23 rfl) (by omega) (by omega)) ?_)
   rintro _ w48 ⟨b53, c54, rfl, ho55, he52⟩ a49 hE50; clear hE46
   have hS51 := St.own hS23 he52 ho55; clear hS23
   refine l_step hE50 rfl (l_storeS (k := 1) (cs' := #[.int .i64 ((F_ModalAlgebra_frame ap0 ap1).1), .slice b53 (((F_ModalAlgebra_frame ap0 ap1).2).length) c54]) hS51 hE50 (by kernel_rfl) rfl rfl (by kernel_rfl) rfl rfl ?_)
   intro w57 hS60 a58 hE59; clear hS51 hE50
   refine q_step (v := .int .i64 0) hE59 (y_assign rfl) rfl rfl rfl ?_; intro a62 hE63; clear hE59
   refine c_nil ?_
   have hE64 := hE63.sub (L' := [(2, .pointer (some ⟨b8, 0, none⟩)), (3, .int .i64 0)]) ⟨rfl, rfl, trivial⟩; clear hE63
   refine p_tn ?_
   refine wp_ret ?_
   have hF : F_FrameOfAlgebra ap0 ap1 = (((F_ModalAlgebra_frame ap0 ap1).1, (F_ModalAlgebra_frame ap0 ap1).2), 0) := by unfold F_FrameOfAlgebra; rw [ht28]; first | done | rfl
   refine c_retC2 hE64 rfl rfl rfl Try.underlying30 rfl (by kernel_rfl) (St.row (i := 1) hS60 rfl _ (Ext.refl _)) ?_
   exact ⟨b53, c54, (by rw [hF]; first | done | (dsimp only; done) | rfl), (by rw [hF]; (try dsimp only); exact hS60.ok 0 _ rfl), hS60.ext⟩
/-- One step of the frame of an algebra: world w, atom v. -/
def foaS (ap0 : Int) (ap1 : List Int) (w v o : Int) : Int := bif (!(F_l01Bit (gI ap1 ((fullI ap0) - (powI v))) w)) then orI o (powI v) else o
theorem foa_spec {ap0 : Int} {ap1 : List Int} (h0 : 0 ≤ ap0) : (F_l15Frame_L1 ap0 ap1 (Int.toNat (ap0 - 0) + 1) [] 0).1 = (List.range ap0.toNat).map fun (w : Nat) => (List.range ap0.toNat).foldl (fun o (v : Nat) => foaS ap0 ap1 w v o) 0 := by
  rw [rangeLoop0 ap0 h0 (fun o w => o ++ [(F_l15Frame_L2 ap0 ap1 w (Int.toNat (ap0 - 0) + 1) 0 0).1]) (F_l15Frame_L1 ap0 ap1) (fun _ _ _ => rfl), foldl_app, List.nil_append]
  apply List.map_congr_left
  intro w _
  exact rangeLoop0 ap0 h0 (fun o v => foaS ap0 ap1 w v o) (F_l15Frame_L2 ap0 ap1 w) (fun _ _ _ => rfl) 0
theorem foa_row {ap0 : Int} {ap1 : List Int} (h0 : 0 ≤ ap0) (h5 : ap0 ≤ 5) (v : Int) (hv : 0 ≤ v) (hv1 : v < ap0) (xs : List Int) (hl : (xs.length : Int) = ap0) :
    ((F_ModalAlgebra_frame_L2 ap0 ap1 v (Int.toNat (ap0 - 0) + 1) 0 xs).2.length : Int) = ap0 ∧ ∀ j : Nat, (j : Int) < ap0 → gI (F_ModalAlgebra_frame_L2 ap0 ap1 v (Int.toNat (ap0 - 0) + 1) 0 xs).2 j = foaS ap0 ap1 j v (gI xs j) := by
  refine mapLoop ap0 (fun w o => foaS ap0 ap1 w v o) (F_ModalAlgebra_frame_L2 ap0 ap1 v) (fun r t ys ht hly => ?_) xs hl
  show F_ModalAlgebra_frame_L2b ap0 ap1 v _ t ys = _
  unfold F_ModalAlgebra_frame_L2b foaS
  have hp := pow_full hv hv1 (by omega)
  rw [pow_shl hv (by omega), anI_full h0 (by omega) (by omega) hp.2]
  by_cases h : t < ap0
  · rw [decide_eq_true h, cond_true, cond_true]
    show F_ModalAlgebra_frame_L2 ap0 ap1 v r (t + 1) (bif (!(F_l01Bit (gI ap1 (fullI ap0 - powI v)) t)) then _ else _) = _
    cases (!(F_l01Bit (gI ap1 (fullI ap0 - powI v)) t))
    · rw [cond_false, cond_false, sI_self ht (by omega)]
    · rw [cond_true, cond_true]
  · rw [decide_eq_false h, cond_false, cond_false]
theorem foa_key {ap0 : Int} {ap1 : List Int} (h0 : 0 ≤ ap0) (h5 : ap0 ≤ 5) : ∀ (k v : Nat) (xs : List Int), (v : Int) + k = ap0 → (xs.length : Int) = ap0 → (∀ j : Nat, (j : Int) < ap0 → gI xs j = (List.range v).foldl (fun o (v : Nat) => foaS ap0 ap1 j v o) 0) →
    ((F_ModalAlgebra_frame_L1 ap0 ap1 (k + 1) (v : Int) xs).2.length : Int) = ap0 ∧ ∀ j : Nat, (j : Int) < ap0 → gI (F_ModalAlgebra_frame_L1 ap0 ap1 (k + 1) (v : Int) xs).2 j = (List.range ap0.toNat).foldl (fun o (v : Nat) => foaS ap0 ap1 j v o) 0 := by
  intro k
  induction k with
  | zero =>
    intro v xs hv hl hx
    show ((F_ModalAlgebra_frame_L1b ap0 ap1 _ _ xs).2.length : Int) = ap0 ∧ ∀ j : Nat, (j : Int) < ap0 → gI (F_ModalAlgebra_frame_L1b ap0 ap1 _ _ xs).2 j = _
    unfold F_ModalAlgebra_frame_L1b
    rw [decide_eq_false (by omega), cond_false]
    refine ⟨hl, fun j hj => ?_⟩
    rw [show ap0.toNat = v by omega]; exact hx j hj
  | succ k ih =>
    intro v xs hv hl hx
    show ((F_ModalAlgebra_frame_L1b ap0 ap1 _ _ xs).2.length : Int) = ap0 ∧ ∀ j : Nat, (j : Int) < ap0 → gI (F_ModalAlgebra_frame_L1b ap0 ap1 _ _ xs).2 j = _
    unfold F_ModalAlgebra_frame_L1b
    rw [decide_eq_true (by omega), cond_true, show (v : Int) + 1 = ((v + 1 : Nat) : Int) by omega]
    obtain ⟨h1, h2⟩ := foa_row (ap1 := ap1) h0 h5 (v : Int) (by omega) (by omega) xs hl
    refine ih (v + 1) _ (by omega) h1 (fun j hj => ?_)
    rw [h2 j hj, hx j hj, List.range_succ, List.foldl_append]; rfl
theorem foa_eq {ap0 : Int} {ap1 : List Int} (h0 : 0 ≤ ap0) (h5 : ap0 ≤ 5) : F_ModalAlgebra_frame ap0 ap1 = F_l15Frame ap0 ap1 := by
  have e : (F_ModalAlgebra_frame_L1 ap0 ap1 (Int.toNat (ap0 - 0) + 1) 0 (List.replicate (Int.toNat ap0) 0)).2 = (F_l15Frame_L1 ap0 ap1 (Int.toNat (ap0 - 0) + 1) [] 0).1 := by
    rw [foa_spec h0]
    obtain ⟨h1, h2⟩ := foa_key (ap1 := ap1) h0 h5 (Int.toNat (ap0 - 0)) 0 (List.replicate (Int.toNat ap0) 0) (by omega) (by rw [List.length_replicate]; omega) (fun j hj => by
      unfold gI; rw [gi_get (by rw [List.length_replicate]; omega), List.getElem_replicate]; rfl)
    rw [show ((0 : Nat) : Int) = 0 from rfl] at h1 h2
    exact list_map_ext (by omega) fun j hj => h2 j (by omega)
  unfold F_ModalAlgebra_frame F_l15Frame F_frameOf
  rw [e]
theorem FrameOfAlgebra_eq (ap0 : Int) (ap1 : List Int) : F_FrameOfAlgebra ap0 ap1 = F_s_FrameOfAlgebra ap0 ap1 := by
  unfold F_FrameOfAlgebra F_s_FrameOfAlgebra
  rw [isModal_eq]
  cases h : F_l15Is ap0 ap1
  · rw [Bool.not_false, cond_true, cond_true]
  · have := (l15Is_t h).1.1
    rw [foa_eq this.1 this.2]
theorem FrameOfAlgebra_len (ap0 : Int) (ap1 : List Int) : (F_FrameOfAlgebra ap0 ap1).1.2.length ≤ 8 := by
  rw [FrameOfAlgebra_eq]
  unfold F_s_FrameOfAlgebra
  cases h : F_l15Is ap0 ap1
  · simp
  · have := (l15Is_t h).1.1
    rw [Bool.not_true, cond_false]
    unfold F_l15Frame
    rw [foa_spec this.1]
    simp; omega
end Go.Proofs.Ytlbonhloeefnmaa
